/- Layer 4: roots of each field. -/
import Derived.Test.YtamdjonejijndaaF15
namespace Go.Proofs.Ytamdjonejijndaa
open Go.Dbr
set_option maxRecDepth 100000
set_option maxHeartbeats 2000000
set_option linter.unusedVariables false
set_option linter.unusedSimpArgs false

theorem root2_go (w : World) (a : List UInt64) (ha : List.length a = 4) : Calls Try.prog 15 #[.int .i64 2, .agg (List.toArray (u64s a))] w fun e w' => e = .returned (.tuple #[.agg (List.toArray (u64s (nd (rootN 2 (nv a))))), .bool (rootOk 2 (nv a))]) ∧ Ev w [] w' [] := by
 refine d_0 [(0, .int .i64 2), (1, .agg (List.toArray (u64s a)))] 82 Go.Proofs.Try.func15 Go.Proofs.Try.ntmps15 (Heap.nil _) fun act0 En0 Hv0 => ?_
 refine wp_seq ?_
 refine region_from ?_
 refine f_o ?_
 refine m_m 25 (u64s a) En0 Hv0 fun ac2 wo3 bk1 En4 Hv5 => ?_
 refine f_o ?_
 refine m_z 25 (u64s (List.replicate 4 0)) En4 Hv5 fun ac7 wo8 bk6 En9 Hv10 => ?_
 refine d_e [0,3,4,5] [] En9 fun ac11 En12 => ?_
 refine then_normal ?_
 refine wp_seq ?_
 refine region_from ?_
 refine d_k [0,3,4,5,13] [] 1 En12 fun ac13 En14 => ?_
 refine f_o ?_
 refine c_p En14 Hv10 (modulus_go _ 2) fun ac19 wo16 En20 Hv21 => ?_
 refine f_o ?_
 refine m_z 25 (u64s (List.replicate 4 0)) En20 Hv21 fun ac23 wo24 bk22 En25 Hv26 => ?_
 refine f_o ?_
 refine m_g 2 0 4 (u64s (nd (mF 2))) (u64s (nd (mF 2))) [.box bk1 (u64s a) 25, .box bk6 (u64s (List.replicate 4 0)) 25, .box bk22 (u64s (nd (mF 2))) 25] En25 Hv26 rfl (u64s_lenh (nds_len _ _)) (by rw [(u64s_lenh (List.length_replicate))]; decide) (u64s_one _) (store_whole (u64s_lenh (List.length_replicate))) rfl fun ac27 wo28 En29 Hv30 => ?_
 refine f_e ?_
 refine then_normal ?_
 refine wp_seq ?_
 refine region_from ?_
 refine d_k [0,3,4,5,6,15] [] 1 En29 fun ac31 En32 => ?_
 refine f_o ?_
 refine m_a 0 0 4 (u64s a) En32 Hv30 rfl (load_whole (u64s_lenh ha)) (u64s_lenh ha) fun ac33 En34 => ?_
 refine d_k [0,3,4,5,6,15,16,17] [] 3 En34 fun ac35 En36 => ?_
 refine f_o ?_
 refine c_p En36 Hv30 ((mulOk h2f) _ a ([1, 0, 0, 0] : List UInt64) ha (show List.length ([1, 0, 0, 0] : List UInt64) = 4 from rfl)) fun ac41 wo38 En42 Hv43 => ?_
 refine f_o ?_
 refine m_z 25 (u64s (List.replicate 4 0)) En42 Hv43 fun ac45 wo46 bk44 En47 Hv48 => ?_
 refine f_o ?_
 refine m_g 3 0 4 (u64s (nd (mulM 2 (nv a) (nv ([1, 0, 0, 0] : List UInt64))))) (u64s (nd (mulM 2 (nv a) (nv ([1, 0, 0, 0] : List UInt64))))) [.box bk1 (u64s a) 25, .box bk6 (u64s (List.replicate 4 0)) 25, .box bk22 (u64s (nd (mF 2))) 25, .box bk44 (u64s (nd (mulM 2 (nv a) (nv ([1, 0, 0, 0] : List UInt64))))) 25] En47 Hv48 rfl (u64s_lenh (nds_len _ _)) (by rw [(u64s_lenh (List.length_replicate))]; decide) (u64s_one _) (store_whole (u64s_lenh (List.length_replicate))) rfl fun ac49 wo50 En51 Hv52 => ?_
 refine f_e ?_
 refine then_normal ?_
 refine wp_seq ?_
 refine region_from ?_
 refine f_o ?_
 refine m_z 25 (u64s (List.replicate 4 0)) En51 Hv52 fun ac54 wo55 bk53 En56 Hv57 => ?_
 refine f_e ?_
 refine then_normal ?_
 refine wp_seq ?_
 refine wp_seq ?_
 refine d_r [0,3,4,5,6,7,8,19] [] En56 fun ac58 En59 => ?_
 refine then_normal ?_
 refine wp_block ?_
 refine wp_seq ?_
 refine d_r [0,3,4,5,6,7,8,19,21] [] En59 fun ac60 En61 => ?_
 refine then_normal ?_
 refine c_t En61 ?_
 refine wp_seq ?_
 refine region_from ?_
 refine f_o ?_
 refine m_a 2 0 4 (u64s (nd (mF 2))) En61 Hv57 rfl (load_whole (u64s_lenh (nds_len _ _))) (u64s_lenh (nds_len _ _)) fun ac62 En63 => ?_
 refine d_k [0,3,4,5,6,7,8,19,24,25] [] 2 En63 fun ac64 En65 => ?_
 refine f_o ?_
 refine c_p En65 Hv57 (plus_go _ (nd (mF 2)) ([1, 0, 0, 0] : List UInt64) (nds_len _ _) (show List.length ([1, 0, 0, 0] : List UInt64) = 4 from rfl)) fun ac70 wo67 En71 Hv72 => ?_
 refine d_k [0,3,4,5,6,7,8,19,27,28] [] 6 En71 fun ac73 En74 => ?_
 refine f_o ?_
 refine m_z 25 (u64s (List.replicate 4 0)) En74 Hv72 fun ac76 wo77 bk75 En78 Hv79 => ?_
 refine f_o ?_
 refine m_g 5 0 4 (u64s (nd (nv (nd (mF 2)) + nv ([1, 0, 0, 0] : List UInt64)))) (u64s (nd (nv (nd (mF 2)) + nv ([1, 0, 0, 0] : List UInt64)))) [.box bk1 (u64s a) 25, .box bk6 (u64s (List.replicate 4 0)) 25, .box bk22 (u64s (nd (mF 2))) 25, .box bk44 (u64s (nd (mulM 2 (nv a) (nv ([1, 0, 0, 0] : List UInt64))))) 25, .box bk53 (u64s (List.replicate 4 0)) 25, .box bk75 (u64s (nd (nv (nd (mF 2)) + nv ([1, 0, 0, 0] : List UInt64)))) 25] En78 Hv79 rfl (u64s_lenh (nds_len _ _)) (by rw [(u64s_lenh (List.length_replicate))]; decide) (u64s_one _) (store_whole (u64s_lenh (List.length_replicate))) rfl fun ac80 wo81 En82 Hv83 => ?_
 refine d_e [0,3,4,5,6,7,8,9,19] [] En82 fun ac84 En85 => ?_
 refine then_normal ?_
 refine r_c (fun ac wo => Env ac 82 [(0, .int .i64 2), (3, pt bk1), (4, pt bk6), (5, .bool false), (6, pt bk22), (7, pt bk44), (8, pt bk53), (9, pt bk75), (19, .int .i64 2)] ∧ Ev w [] wo [.box bk1 (u64s a) 25, .box bk6 (u64s (List.replicate 4 0)) 25, .box bk22 (u64s (nd (mF 2))) 25, .box bk44 (u64s (nd (mulM 2 (nv a) (nv ([1, 0, 0, 0] : List UInt64))))) 25, .box bk53 (u64s (nd (powM 2 (nv a) (nv (nd (nv (nd (nv (nd (mF 2)) + nv ([1, 0, 0, 0] : List UInt64))) / 4)))))) 25, .box bk75 (u64s (nd (nv (nd (mF 2)) + nv ([1, 0, 0, 0] : List UInt64)))) 25]) ?_ ?_
 ·
  refine h_s (fun wv => Ev w [] wv [.box bk1 (u64s a) 25, .box bk75 (u64s (nd (nv (nd (mF 2)) + nv ([1, 0, 0, 0] : List UInt64)))) 25]) [] 6 ?_
  have wo86 := Hv83.trans (Ev.drew Hv83.heap)
  refine q_s [0] [] 5 En85 (wo86.pk [0, 5]) fun ac177 En178 => ?_
  refine q_r 1 (s := Instr.loadAt 25 (pt bk1)) (v := .agg (List.toArray (u64s a))) En178 (fun w hS => run_loadAgg2 (m := 4) (cs := u64s a) (u64s_lenh ha) (by kernel_rfl) (by kernel_rfl) (hS.heap.cells (k := 0) (off := 0) (m := 4) rfl (load_whole (u64s_lenh ha)))) (wo86.pk [0, 5]) fun ac179 En180 => ?_
  refine q_r 2 (s := Instr.loadAt 25 (pt bk75)) (v := .agg (List.toArray (u64s (nd (nv (nd (mF 2)) + nv ([1, 0, 0, 0] : List UInt64)))))) En180 (fun w hS => run_loadAgg2 (m := 4) (cs := u64s (nd (nv (nd (mF 2)) + nv ([1, 0, 0, 0] : List UInt64)))) (u64s_lenh (nds_len _ _)) (by kernel_rfl) (by kernel_rfl) (hS.heap.cells (k := 1) (off := 0) (m := 4) rfl (load_whole (u64s_lenh (nds_len _ _))))) (wo86.pk [0, 5]) fun ac181 En182 => ?_
  refine q_t 3 ?_
  refine c_p En182 wo86 (shift2_go _ (nd (nv (nd (mF 2)) + nv ([1, 0, 0, 0] : List UInt64))) (nds_len _ _)) fun ac187 wo184 En188 Hv189 => ?_
  refine ⟨fun _ => Hv189.pk [0, 5], ?_⟩
  refine q_t 4 ?_
  refine c_p En188 Hv189 (exp_go _ 2 h2f (mulOk h2f) a (nd (nv (nd (nv (nd (mF 2)) + nv ([1, 0, 0, 0] : List UInt64))) / 4)) ha (nds_len _ _)) fun ac194 wo191 En195 Hv196 => ?_
  refine ⟨fun _ => Hv196.pk [0, 5], ?_⟩
  refine q_t 5 ?_
  refine m_g 4 0 4 (u64s (nd (powM 2 (nv a) (nv (nd (nv (nd (nv (nd (mF 2)) + nv ([1, 0, 0, 0] : List UInt64))) / 4)))))) (u64s (nd (powM 2 (nv a) (nv (nd (nv (nd (nv (nd (mF 2)) + nv ([1, 0, 0, 0] : List UInt64))) / 4)))))) [.box bk1 (u64s a) 25, .box bk6 (u64s (List.replicate 4 0)) 25, .box bk22 (u64s (nd (mF 2))) 25, .box bk44 (u64s (nd (mulM 2 (nv a) (nv ([1, 0, 0, 0] : List UInt64))))) 25, .box bk53 (u64s (nd (powM 2 (nv a) (nv (nd (nv (nd (nv (nd (mF 2)) + nv ([1, 0, 0, 0] : List UInt64))) / 4)))))) 25, .box bk75 (u64s (nd (nv (nd (mF 2)) + nv ([1, 0, 0, 0] : List UInt64)))) 25] En195 Hv196 rfl (u64s_lenh (nds_len _ _)) (by rw [(u64s_lenh (List.length_replicate))]; decide) (u64s_one _) (store_whole (u64s_lenh (List.length_replicate))) rfl fun ac197 wo198 En199 Hv200 => ?_
  refine ⟨fun _ => Hv200.pk [0, 5], ?_⟩
  exact h_e ⟨En199.sb, Hv200.pk [0, 1, 2, 3, 4, 5]⟩
 rintro ac201 wo202 ⟨En203, Hv204⟩
 refine block_normal ?_
 refine then_normal ?_
 refine wp_seq ?_
 refine wp_seq ?_
 rw [show (nd (powM 2 (nv a) (nv (nd (nv (nd (nv (nd (mF 2)) + nv ([1, 0, 0, 0] : List UInt64))) / 4))))) = (nd (rs 2 (nv a))) from ((congrArg (fun e => nd (powM 2 (nv a) e)) (show _ = (mF 2 + 1) / 4 by decide +kernel)).trans (rs2 _))] at Hv204
 refine r_c (fun ac wo => Env ac 82 [(0, .int .i64 2), (3, pt bk1), (4, pt bk6), (5, .bool false), (6, pt bk22), (7, pt bk44), (8, pt bk53), (9, pt bk75), (19, .int .i64 2), (72, .bool (!((nd (mulM 2 (nv (nd (rs 2 (nv a)))) (nv (nd (rs 2 (nv a)))))) == (nd (mulM 2 (nv a) (nv ([1, 0, 0, 0] : List UInt64)))))))] ∧ Ev w [] wo [.box bk1 (u64s a) 25, .box bk6 (u64s (List.replicate 4 0)) 25, .box bk22 (u64s (nd (mF 2))) 25, .box bk44 (u64s (nd (mulM 2 (nv a) (nv ([1, 0, 0, 0] : List UInt64))))) 25, .box bk53 (u64s (nd (rs 2 (nv a)))) 25, .box bk75 (u64s (nd (nv (nd (mF 2)) + nv ([1, 0, 0, 0] : List UInt64)))) 25]) ?_ ?_
 ·
  refine h_s (fun wv => Ev w [] wv [.box bk44 (u64s (nd (mulM 2 (nv a) (nv ([1, 0, 0, 0] : List UInt64))))) 25, .box bk53 (u64s (nd (rs 2 (nv a)))) 25]) [] 6 ?_
  have wo205 := Hv204.trans (Ev.drew Hv204.heap)
  refine q_s [0] [] 5 En203 (wo205.pk [3, 4]) fun ac287 En288 => ?_
  refine q_r 1 (s := Instr.loadAt 25 (pt bk53)) (v := .agg (List.toArray (u64s (nd (rs 2 (nv a)))))) En288 (fun w hS => run_loadAgg2 (m := 4) (cs := u64s (nd (rs 2 (nv a)))) (u64s_lenh (nds_len _ _)) (by kernel_rfl) (by kernel_rfl) (hS.heap.cells (k := 1) (off := 0) (m := 4) rfl (load_whole (u64s_lenh (nds_len _ _))))) (wo205.pk [3, 4]) fun ac289 En290 => ?_
  refine q_r 2 (s := Instr.loadAt 25 (pt bk53)) (v := .agg (List.toArray (u64s (nd (rs 2 (nv a)))))) En290 (fun w hS => run_loadAgg2 (m := 4) (cs := u64s (nd (rs 2 (nv a)))) (u64s_lenh (nds_len _ _)) (by kernel_rfl) (by kernel_rfl) (hS.heap.cells (k := 1) (off := 0) (m := 4) rfl (load_whole (u64s_lenh (nds_len _ _))))) (wo205.pk [3, 4]) fun ac291 En292 => ?_
  refine q_r 4 (s := Instr.loadAt 25 (pt bk44)) (v := .agg (List.toArray (u64s (nd (mulM 2 (nv a) (nv ([1, 0, 0, 0] : List UInt64))))))) En292 (fun w hS => run_loadAgg2 (m := 4) (cs := u64s (nd (mulM 2 (nv a) (nv ([1, 0, 0, 0] : List UInt64))))) (u64s_lenh (nds_len _ _)) (by kernel_rfl) (by kernel_rfl) (hS.heap.cells (k := 0) (off := 0) (m := 4) rfl (load_whole (u64s_lenh (nds_len _ _))))) (wo205.pk [3, 4]) fun ac293 En294 => ?_
  refine q_t 3 ?_
  refine c_p En294 wo205 ((mulOk h2f) _ (nd (rs 2 (nv a))) (nd (rs 2 (nv a))) (nds_len _ _) (nds_len _ _)) fun ac299 wo296 En300 Hv301 => ?_
  refine ⟨fun _ => Hv301.pk [3, 4], ?_⟩
  refine q_f 5 (s := eqOp .neq 25 (.tmp 70) (.tmp 71) (.agg (List.toArray (u64s (nd (mulM 2 (nv (nd (rs 2 (nv a)))) (nv (nd (rs 2 (nv a))))))))) (.agg (List.toArray (u64s (nd (mulM 2 (nv a) (nv ([1, 0, 0, 0] : List UInt64)))))))) (v := .bool (!((nd (mulM 2 (nv (nd (rs 2 (nv a)))) (nv (nd (rs 2 (nv a)))))) == (nd (mulM 2 (nv a) (nv ([1, 0, 0, 0] : List UInt64))))))) En300 (fun _ => Go.Dbr.u64s_neop (a := (.tmp 70)) (b := (.tmp 71)) (e := 23) (m := 4) (by kernel_rfl) (by kernel_rfl) (by kernel_rfl) (by kernel_rfl) (by kernel_rfl) (nds_len _ _) (nds_len _ _) _) (fun _ => Hv301.pk [3, 4]) fun ac302 En303 => ?_
  exact h_e ⟨En303.sb, Hv301.pk [0, 1, 2, 3, 4, 5]⟩
 rintro ac304 wo305 ⟨En306, Hv307⟩
 refine then_normal ?_
 refine cond_at En306 (t := !((nd (mulM 2 (nv (nd (rs 2 (nv a)))) (nv (nd (rs 2 (nv a)))))) == (nd (mulM 2 (nv a) (nv ([1, 0, 0, 0] : List UInt64)))))) (by kernel_rfl) (fun hc308 => ?_) (fun hc308 => ?_)
 ·
  replace hc308 : ¬ ((nd (mulM 2 (nv (nd (rs 2 (nv a)))) (nv (nd (rs 2 (nv a)))))) = (nd (mulM 2 (nv a) (nv ([1, 0, 0, 0] : List UInt64))))) := by simpa using hc308
  refine wp_seq ?_
  refine region_from ?_
  refine d_k [0,3,4,5,6,7,8,9,19,73] [] 1 En306 fun ac309 En310 => ?_
  refine f_o ?_
  refine m_g 1 0 4 (u64s ([0, 0, 0, 0] : List UInt64)) (u64s ([0, 0, 0, 0] : List UInt64)) [.box bk1 (u64s a) 25, .box bk6 (u64s ([0, 0, 0, 0] : List UInt64)) 25, .box bk22 (u64s (nd (mF 2))) 25, .box bk44 (u64s (nd (mulM 2 (nv a) (nv ([1, 0, 0, 0] : List UInt64))))) 25, .box bk53 (u64s (nd (rs 2 (nv a)))) 25, .box bk75 (u64s (nd (nv (nd (mF 2)) + nv ([1, 0, 0, 0] : List UInt64)))) 25] En310 Hv307 rfl (u64s_lenh (show List.length ([0, 0, 0, 0] : List UInt64) = 4 from rfl)) (by rw [(u64s_lenh (List.length_replicate))]; decide) (u64s_one _) (store_whole (u64s_lenh (List.length_replicate))) rfl fun ac311 wo312 En313 Hv314 => ?_
  refine d_e [0,3,4,5,6,7,8,9,19] [] En313 fun ac315 En316 => ?_
  refine then_normal ?_
  refine wp_ret ?_
  refine then_ret ?_
  refine d_cell_tmp (v := .agg (List.toArray (u64s ([0, 0, 0, 0] : List UInt64)))) (x := .bool false) (t := 4) (T := 25) (ad := ⟨bk6, 0, none⟩) (u := 5) En316 (by kernel_rfl) (by kernel_rfl) (Ev.cellAgg (t := 25) (k := 1) (off := 0) (m := 4) (xs := u64s ([0, 0, 0, 0] : List UInt64)) Hv314 rfl (load_whole (u64s_lenh (show List.length ([0, 0, 0, 0] : List UInt64) = 4 from rfl))) (u64s_lenh (show List.length ([0, 0, 0, 0] : List UInt64) = 4 from rfl)) (by kernel_rfl) (by kernel_rfl)) (by kernel_rfl) ?_
  have eb := (root_no (f := 2) h2f (by assumption)).1
  have e : ([0, 0, 0, 0] : List UInt64) = nd (rootN 2 (nv a)) := root_z (root_no (f := 2) h2f (by assumption))
  rw [eb]
  exact ⟨congrArg (fun l : List UInt64 => Ending.returned (.tuple #[Value.agg (u64s l).toArray, .bool false])) e, Hv314.pk []⟩
 ·
  replace hc308 : (nd (mulM 2 (nv (nd (rs 2 (nv a)))) (nv (nd (rs 2 (nv a)))))) = (nd (mulM 2 (nv a) (nv ([1, 0, 0, 0] : List UInt64)))) := by simpa using hc308
  refine wp_skip ?_
  refine then_normal ?_
  refine wp_seq ?_
  refine wp_seq ?_
  refine region_from ?_
  refine d_k [0,3,4,5,6,7,8,9,19,74] [] 1 En306 fun ac317 En318 => ?_
  refine f_o ?_
  have hb319 : 0 < List.length (nd (rs 2 (nv a))) := by rw [(nds_len _ _)]; omega
  refine m_v 4 0 (uv64 (List.getD (nd (rs 2 (nv a))) 0 0)) En318 Hv307 rfl (u64s_getD hb319) fun ac320 En321 => ?_
  refine d_e [0,3,4,5,6,7,8,9,19,77] [(2, g_i .u64 (Go.Dbr.u64_and (x := List.getD (nd (rs 2 (nv a))) 0 0) (y := (1 : UInt64)) rfl rfl))] En321 fun ac322 En323 => ?_
  refine then_normal ?_
  refine c_e ((UInt64.toNat ((List.getD (nd (rs 2 (nv a))) 0 0) &&& (1 : UInt64)) : Nat) : Int) (1 : Int) En323 (fun hc324 => ?_) (fun hc324 => ?_)
  ·
   refine region_from ?_
   refine d_k [0,3,4,5,6,7,8,9,19,78] [] 1 En323 fun ac325 En326 => ?_
   refine f_o ?_
   refine m_a 4 0 4 (u64s (nd (rs 2 (nv a)))) En326 Hv307 rfl (load_whole (u64s_lenh (nds_len _ _))) (u64s_lenh (nds_len _ _)) fun ac327 En328 => ?_
   refine f_o ?_
   refine c_p En328 Hv307 (neg_go _ 2 h2f (nd (rs 2 (nv a))) (nds_len _ _)) fun ac333 wo330 En334 Hv335 => ?_
   refine f_o ?_
   refine m_g 4 0 4 (u64s (nd (subM 2 0 (nv (nd (rs 2 (nv a))))))) (u64s (nd (subM 2 0 (nv (nd (rs 2 (nv a))))))) [.box bk1 (u64s a) 25, .box bk6 (u64s (List.replicate 4 0)) 25, .box bk22 (u64s (nd (mF 2))) 25, .box bk44 (u64s (nd (mulM 2 (nv a) (nv ([1, 0, 0, 0] : List UInt64))))) 25, .box bk53 (u64s (nd (subM 2 0 (nv (nd (rs 2 (nv a))))))) 25, .box bk75 (u64s (nd (nv (nd (mF 2)) + nv ([1, 0, 0, 0] : List UInt64)))) 25] En334 Hv335 rfl (u64s_lenh (nds_len _ _)) (by rw [(u64s_lenh (nds_len _ _))]; decide) (u64s_one _) (store_whole (u64s_lenh (nds_len _ _))) rfl fun ac336 wo337 En338 Hv339 => ?_
   refine f_e ?_
   refine then_normal ?_
   refine wp_seq ?_
   refine region_from ?_
   refine f_o ?_
   refine m_a 4 0 4 (u64s (nd (subM 2 0 (nv (nd (rs 2 (nv a))))))) En338 Hv339 rfl (load_whole (u64s_lenh (nds_len _ _))) (u64s_lenh (nds_len _ _)) fun ac340 En341 => ?_
   refine f_o ?_
   refine m_g 1 0 4 (u64s (nd (subM 2 0 (nv (nd (rs 2 (nv a))))))) (u64s (nd (subM 2 0 (nv (nd (rs 2 (nv a))))))) [.box bk1 (u64s a) 25, .box bk6 (u64s (nd (subM 2 0 (nv (nd (rs 2 (nv a))))))) 25, .box bk22 (u64s (nd (mF 2))) 25, .box bk44 (u64s (nd (mulM 2 (nv a) (nv ([1, 0, 0, 0] : List UInt64))))) 25, .box bk53 (u64s (nd (subM 2 0 (nv (nd (rs 2 (nv a))))))) 25, .box bk75 (u64s (nd (nv (nd (mF 2)) + nv ([1, 0, 0, 0] : List UInt64)))) 25] En341 Hv339 rfl (u64s_lenh (nds_len _ _)) (by rw [(u64s_lenh (List.length_replicate))]; decide) (u64s_one _) (store_whole (u64s_lenh (List.length_replicate))) rfl fun ac342 wo343 En344 Hv345 => ?_
   refine d_e [0,3,4,5,6,7,8,9,19] [] En344 fun ac346 En347 => ?_
   refine then_normal ?_
   refine wp_ret ?_
   refine d_cell_tmp (v := .agg (List.toArray (u64s (nd (subM 2 0 (nv (nd (rs 2 (nv a))))))))) (x := .bool true) (t := 4) (T := 25) (ad := ⟨bk6, 0, none⟩) (u := 5) En347 (by kernel_rfl) (by kernel_rfl) (Ev.cellAgg (t := 25) (k := 1) (off := 0) (m := 4) (xs := u64s (nd (subM 2 0 (nv (nd (rs 2 (nv a))))))) Hv345 rfl (load_whole (u64s_lenh (nds_len _ _))) (u64s_lenh (nds_len _ _)) (by kernel_rfl) (by kernel_rfl)) (by kernel_rfl) ?_
   have eb := root_yes (f := 2) (A := nv a) (by decide) (by assumption)
   have e : nd (subM 2 0 (nv (nd (rs 2 (nv a))))) = nd (rootN 2 (nv a)) := by first | exact root_odd (by decide) (by assumption) (by assumption) | exact root_even (by decide) (by assumption) (by assumption)
   rw [eb]
   exact ⟨congrArg (fun l : List UInt64 => Ending.returned (.tuple #[Value.agg (u64s l).toArray, .bool true])) e, Hv345.pk []⟩
  ·
   refine wp_skip ?_
   refine then_normal ?_
   refine wp_seq ?_
   refine region_from ?_
   refine f_o ?_
   refine m_a 4 0 4 (u64s (nd (rs 2 (nv a)))) En323 Hv307 rfl (load_whole (u64s_lenh (nds_len _ _))) (u64s_lenh (nds_len _ _)) fun ac348 En349 => ?_
   refine f_o ?_
   refine m_g 1 0 4 (u64s (nd (rs 2 (nv a)))) (u64s (nd (rs 2 (nv a)))) [.box bk1 (u64s a) 25, .box bk6 (u64s (nd (rs 2 (nv a)))) 25, .box bk22 (u64s (nd (mF 2))) 25, .box bk44 (u64s (nd (mulM 2 (nv a) (nv ([1, 0, 0, 0] : List UInt64))))) 25, .box bk53 (u64s (nd (rs 2 (nv a)))) 25, .box bk75 (u64s (nd (nv (nd (mF 2)) + nv ([1, 0, 0, 0] : List UInt64)))) 25] En349 Hv307 rfl (u64s_lenh (nds_len _ _)) (by rw [(u64s_lenh (List.length_replicate))]; decide) (u64s_one _) (store_whole (u64s_lenh (List.length_replicate))) rfl fun ac350 wo351 En352 Hv353 => ?_
   refine d_e [0,3,4,5,6,7,8,9,19] [] En352 fun ac354 En355 => ?_
   refine then_normal ?_
   refine wp_ret ?_
   refine d_cell_tmp (v := .agg (List.toArray (u64s (nd (rs 2 (nv a)))))) (x := .bool true) (t := 4) (T := 25) (ad := ⟨bk6, 0, none⟩) (u := 5) En355 (by kernel_rfl) (by kernel_rfl) (Ev.cellAgg (t := 25) (k := 1) (off := 0) (m := 4) (xs := u64s (nd (rs 2 (nv a)))) Hv353 rfl (load_whole (u64s_lenh (nds_len _ _))) (u64s_lenh (nds_len _ _)) (by kernel_rfl) (by kernel_rfl)) (by kernel_rfl) ?_
   have eb := root_yes (f := 2) (A := nv a) (by decide) (by assumption)
   have e : nd (rs 2 (nv a)) = nd (rootN 2 (nv a)) := by first | exact root_odd (by decide) (by assumption) (by assumption) | exact root_even (by decide) (by assumption) (by assumption)
   rw [eb]
   exact ⟨congrArg (fun l : List UInt64 => Ending.returned (.tuple #[Value.agg (u64s l).toArray, .bool true])) e, Hv353.pk []⟩

theorem rroot1_go (w : World) (a : List UInt64) (ha : List.length a = 4) : Calls Try.prog 16 #[.int .i64 1, .agg (List.toArray (u64s a))] w fun e w' => e = .returned (.tuple #[.agg (List.toArray (u64s (nd (rootN 1 (nv a))))), .bool (rootOk 1 (nv a))]) ∧ Ev w [] w' [] := by
 refine d_0 [(0, .int .i64 1), (1, .agg (List.toArray (u64s a)))] 89 Go.Proofs.Try.func16 Go.Proofs.Try.ntmps16 (Heap.nil _) fun act0 En0 Hv0 => ?_
 refine wp_seq ?_
 refine region_from ?_
 refine f_o ?_
 refine m_m 25 (u64s a) En0 Hv0 fun ac2 wo3 bk1 En4 Hv5 => ?_
 refine f_o ?_
 refine m_z 25 (u64s (List.replicate 4 0)) En4 Hv5 fun ac7 wo8 bk6 En9 Hv10 => ?_
 refine d_e [0,3,4,5] [] En9 fun ac11 En12 => ?_
 refine then_normal ?_
 refine wp_seq ?_
 refine region_from ?_
 refine d_k [0,3,4,5,16] [] 1 En12 fun ac13 En14 => ?_
 refine f_o ?_
 refine c_p En14 Hv10 (rmodulus_go _ 1) fun ac19 wo16 En20 Hv21 => ?_
 refine f_o ?_
 refine m_z 25 (u64s (List.replicate 4 0)) En20 Hv21 fun ac23 wo24 bk22 En25 Hv26 => ?_
 refine f_o ?_
 refine m_g 2 0 4 (u64s (nd (mF 1))) (u64s (nd (mF 1))) [.box bk1 (u64s a) 25, .box bk6 (u64s (List.replicate 4 0)) 25, .box bk22 (u64s (nd (mF 1))) 25] En25 Hv26 rfl (u64s_lenh (nds_len _ _)) (by rw [(u64s_lenh (List.length_replicate))]; decide) (u64s_one _) (store_whole (u64s_lenh (List.length_replicate))) rfl fun ac27 wo28 En29 Hv30 => ?_
 refine f_e ?_
 refine then_normal ?_
 refine wp_seq ?_
 refine region_from ?_
 refine d_k [0,3,4,5,6,18] [] 1 En29 fun ac31 En32 => ?_
 refine f_o ?_
 refine m_z 25 (u64s (List.replicate 4 0)) En32 Hv30 fun ac34 wo35 bk33 En36 Hv37 => ?_
 refine f_o ?_
 refine m_g 3 0 4 (u64s ([0, 0, 0, 0] : List UInt64)) (u64s ([0, 0, 0, 0] : List UInt64)) [.box bk1 (u64s a) 25, .box bk6 (u64s (List.replicate 4 0)) 25, .box bk22 (u64s (nd (mF 1))) 25, .box bk33 (u64s ([0, 0, 0, 0] : List UInt64)) 25] En36 Hv37 rfl (u64s_lenh (show List.length ([0, 0, 0, 0] : List UInt64) = 4 from rfl)) (by rw [(u64s_lenh (List.length_replicate))]; decide) (u64s_one _) (store_whole (u64s_lenh (List.length_replicate))) rfl fun ac38 wo39 En40 Hv41 => ?_
 refine f_e ?_
 refine then_normal ?_
 refine wp_seq ?_
 refine region_from ?_
 refine d_k [0,3,4,5,6,7,19] [] 1 En40 fun ac42 En43 => ?_
 refine f_o ?_
 refine m_a 0 0 4 (u64s a) En43 Hv41 rfl (load_whole (u64s_lenh ha)) (u64s_lenh ha) fun ac44 En45 => ?_
 refine d_k [0,3,4,5,6,7,19,20,21] [] 3 En45 fun ac46 En47 => ?_
 refine f_o ?_
 refine c_p En47 Hv41 ((rmulOk h1f (leftOk h1f)) _ a ([1, 0, 0, 0] : List UInt64) ha (show List.length ([1, 0, 0, 0] : List UInt64) = 4 from rfl)) fun ac52 wo49 En53 Hv54 => ?_
 refine f_o ?_
 refine m_z 25 (u64s (List.replicate 4 0)) En53 Hv54 fun ac56 wo57 bk55 En58 Hv59 => ?_
 refine f_o ?_
 refine m_g 4 0 4 (u64s (nd (mulM 1 (nv a) (nv ([1, 0, 0, 0] : List UInt64))))) (u64s (nd (mulM 1 (nv a) (nv ([1, 0, 0, 0] : List UInt64))))) [.box bk1 (u64s a) 25, .box bk6 (u64s (List.replicate 4 0)) 25, .box bk22 (u64s (nd (mF 1))) 25, .box bk33 (u64s ([0, 0, 0, 0] : List UInt64)) 25, .box bk55 (u64s (nd (mulM 1 (nv a) (nv ([1, 0, 0, 0] : List UInt64))))) 25] En58 Hv59 rfl (u64s_lenh (nds_len _ _)) (by rw [(u64s_lenh (List.length_replicate))]; decide) (u64s_one _) (store_whole (u64s_lenh (List.length_replicate))) rfl fun ac60 wo61 En62 Hv63 => ?_
 refine f_e ?_
 refine then_normal ?_
 refine wp_seq ?_
 refine wp_seq ?_
 refine d_r [0,3,4,5,6,7,8,23] [] En62 fun ac64 En65 => ?_
 refine then_normal ?_
 refine wp_block ?_
 refine wp_seq ?_
 refine d_r [0,3,4,5,6,7,8,23,25] [] En65 fun ac66 En67 => ?_
 refine then_normal ?_
 refine c_f En67 ?_
 refine wp_seq ?_
 refine d_r [0,3,4,5,6,7,8,23,39] [] En67 fun ac68 En69 => ?_
 refine then_normal ?_
 refine c_t En69 ?_
 refine wp_seq ?_
 refine region_from ?_
 refine f_o ?_
 refine m_a 2 0 4 (u64s (nd (mF 1))) En69 Hv63 rfl (load_whole (u64s_lenh (nds_len _ _))) (u64s_lenh (nds_len _ _)) fun ac70 En71 => ?_
 refine d_k [0,3,4,5,6,7,8,23,42,43] [] 2 En71 fun ac72 En73 => ?_
 refine f_o ?_
 refine c_p En73 Hv63 (rplus_go _ (nd (mF 1)) ([3, 0, 0, 0] : List UInt64) (nds_len _ _) (show List.length ([3, 0, 0, 0] : List UInt64) = 4 from rfl)) fun ac78 wo75 En79 Hv80 => ?_
 refine d_k [0,3,4,5,6,7,8,23,45,46] [] 6 En79 fun ac81 En82 => ?_
 refine f_o ?_
 refine m_z 25 (u64s (List.replicate 4 0)) En82 Hv80 fun ac84 wo85 bk83 En86 Hv87 => ?_
 refine f_o ?_
 refine m_g 5 0 4 (u64s (nd (nv (nd (mF 1)) + nv ([3, 0, 0, 0] : List UInt64)))) (u64s (nd (nv (nd (mF 1)) + nv ([3, 0, 0, 0] : List UInt64)))) [.box bk1 (u64s a) 25, .box bk6 (u64s (List.replicate 4 0)) 25, .box bk22 (u64s (nd (mF 1))) 25, .box bk33 (u64s ([0, 0, 0, 0] : List UInt64)) 25, .box bk55 (u64s (nd (mulM 1 (nv a) (nv ([1, 0, 0, 0] : List UInt64))))) 25, .box bk83 (u64s (nd (nv (nd (mF 1)) + nv ([3, 0, 0, 0] : List UInt64)))) 25] En86 Hv87 rfl (u64s_lenh (nds_len _ _)) (by rw [(u64s_lenh (List.length_replicate))]; decide) (u64s_one _) (store_whole (u64s_lenh (List.length_replicate))) rfl fun ac88 wo89 En90 Hv91 => ?_
 refine d_e [0,3,4,5,6,7,8,11,23] [] En90 fun ac92 En93 => ?_
 refine then_normal ?_
 refine wp_seq ?_
 refine r_c (fun ac wo => Env ac 89 [(0, .int .i64 1), (3, pt bk1), (4, pt bk6), (5, .bool false), (6, pt bk22), (7, pt bk33), (8, pt bk55), (11, pt bk83), (23, .int .i64 1)] ∧ Ev w [] wo [.box bk1 (u64s a) 25, .box bk6 (u64s (List.replicate 4 0)) 25, .box bk22 (u64s (nd (mF 1))) 25, .box bk33 (u64s (nd (powM 1 (nv a) (nv (nd (nv (nd (nv (nd (nv (nd (nv (nd (mF 1)) + nv ([3, 0, 0, 0] : List UInt64))) / 2)) / 2)) / 2)))))) 25, .box bk55 (u64s (nd (mulM 1 (nv a) (nv ([1, 0, 0, 0] : List UInt64))))) 25, .box bk83 (u64s (nd (nv (nd (mF 1)) + nv ([3, 0, 0, 0] : List UInt64)))) 25]) ?_ ?_
 ·
  refine h_s (fun wv => Ev w [] wv [.box bk1 (u64s a) 25, .box bk83 (u64s (nd (nv (nd (mF 1)) + nv ([3, 0, 0, 0] : List UInt64)))) 25]) [] 8 ?_
  have wo94 := Hv91.trans (Ev.drew Hv91.heap)
  refine q_s [0] [] 7 En93 (wo94.pk [0, 5]) fun ac288 En289 => ?_
  refine q_r 1 (s := Instr.loadAt 25 (pt bk1)) (v := .agg (List.toArray (u64s a))) En289 (fun w hS => run_loadAgg2 (m := 4) (cs := u64s a) (u64s_lenh ha) (by kernel_rfl) (by kernel_rfl) (hS.heap.cells (k := 0) (off := 0) (m := 4) rfl (load_whole (u64s_lenh ha)))) (wo94.pk [0, 5]) fun ac290 En291 => ?_
  refine q_r 2 (s := Instr.loadAt 25 (pt bk83)) (v := .agg (List.toArray (u64s (nd (nv (nd (mF 1)) + nv ([3, 0, 0, 0] : List UInt64)))))) En291 (fun w hS => run_loadAgg2 (m := 4) (cs := u64s (nd (nv (nd (mF 1)) + nv ([3, 0, 0, 0] : List UInt64)))) (u64s_lenh (nds_len _ _)) (by kernel_rfl) (by kernel_rfl) (hS.heap.cells (k := 1) (off := 0) (m := 4) rfl (load_whole (u64s_lenh (nds_len _ _))))) (wo94.pk [0, 5]) fun ac292 En293 => ?_
  refine q_t 3 ?_
  refine c_p En293 wo94 (half_go _ (nd (nv (nd (mF 1)) + nv ([3, 0, 0, 0] : List UInt64))) (nds_len _ _)) fun ac298 wo295 En299 Hv300 => ?_
  refine ⟨fun _ => Hv300.pk [0, 5], ?_⟩
  refine q_t 4 ?_
  refine c_p En299 Hv300 (half_go _ (nd (nv (nd (nv (nd (mF 1)) + nv ([3, 0, 0, 0] : List UInt64))) / 2)) (nds_len _ _)) fun ac305 wo302 En306 Hv307 => ?_
  refine ⟨fun _ => Hv307.pk [0, 5], ?_⟩
  refine q_t 5 ?_
  refine c_p En306 Hv307 (half_go _ (nd (nv (nd (nv (nd (nv (nd (mF 1)) + nv ([3, 0, 0, 0] : List UInt64))) / 2)) / 2)) (nds_len _ _)) fun ac312 wo309 En313 Hv314 => ?_
  refine ⟨fun _ => Hv314.pk [0, 5], ?_⟩
  refine q_t 6 ?_
  refine c_p En313 Hv314 (rexp_go _ 1 h1f (rmulOk h1f (leftOk h1f)) a (nd (nv (nd (nv (nd (nv (nd (nv (nd (mF 1)) + nv ([3, 0, 0, 0] : List UInt64))) / 2)) / 2)) / 2)) ha (nds_len _ _)) fun ac319 wo316 En320 Hv321 => ?_
  refine ⟨fun _ => Hv321.pk [0, 5], ?_⟩
  refine q_t 7 ?_
  refine m_g 3 0 4 (u64s (nd (powM 1 (nv a) (nv (nd (nv (nd (nv (nd (nv (nd (nv (nd (mF 1)) + nv ([3, 0, 0, 0] : List UInt64))) / 2)) / 2)) / 2)))))) (u64s (nd (powM 1 (nv a) (nv (nd (nv (nd (nv (nd (nv (nd (nv (nd (mF 1)) + nv ([3, 0, 0, 0] : List UInt64))) / 2)) / 2)) / 2)))))) [.box bk1 (u64s a) 25, .box bk6 (u64s (List.replicate 4 0)) 25, .box bk22 (u64s (nd (mF 1))) 25, .box bk33 (u64s (nd (powM 1 (nv a) (nv (nd (nv (nd (nv (nd (nv (nd (nv (nd (mF 1)) + nv ([3, 0, 0, 0] : List UInt64))) / 2)) / 2)) / 2)))))) 25, .box bk55 (u64s (nd (mulM 1 (nv a) (nv ([1, 0, 0, 0] : List UInt64))))) 25, .box bk83 (u64s (nd (nv (nd (mF 1)) + nv ([3, 0, 0, 0] : List UInt64)))) 25] En320 Hv321 rfl (u64s_lenh (nds_len _ _)) (by rw [(u64s_lenh (show List.length ([0, 0, 0, 0] : List UInt64) = 4 from rfl))]; decide) (u64s_one _) (store_whole (u64s_lenh (show List.length ([0, 0, 0, 0] : List UInt64) = 4 from rfl))) rfl fun ac322 wo323 En324 Hv325 => ?_
  refine ⟨fun _ => Hv325.pk [0, 5], ?_⟩
  exact h_e ⟨En324.sb, Hv325.pk [0, 1, 2, 3, 4, 5]⟩
 rintro ac326 wo327 ⟨En328, Hv329⟩
 refine then_normal ?_
 refine wp_seq ?_
 rw [show (nd (powM 1 (nv a) (nv (nd (nv (nd (nv (nd (nv (nd (nv (nd (mF 1)) + nv ([3, 0, 0, 0] : List UInt64))) / 2)) / 2)) / 2))))) = (nd (rq 1 (nv a))) from (congrArg (fun e => nd (powM 1 (nv a) e)) (show _ = (mF 1 + 3) / 8 by decide +kernel))] at Hv329
 refine region_from ?_
 refine d_k [0,3,4,5,6,7,8,11,23,54] [] 1 En328 fun ac330 En331 => ?_
 refine f_o ?_
 refine m_a 3 0 4 (u64s (nd (rq 1 (nv a)))) En331 Hv329 rfl (load_whole (u64s_lenh (nds_len _ _))) (u64s_lenh (nds_len _ _)) fun ac332 En333 => ?_
 refine f_o ?_
 refine m_a 3 0 4 (u64s (nd (rq 1 (nv a)))) En333 Hv329 rfl (load_whole (u64s_lenh (nds_len _ _))) (u64s_lenh (nds_len _ _)) fun ac334 En335 => ?_
 refine f_o ?_
 refine c_p En335 Hv329 ((rmulOk h1f (leftOk h1f)) _ (nd (rq 1 (nv a))) (nd (rq 1 (nv a))) (nds_len _ _) (nds_len _ _)) fun ac340 wo337 En341 Hv342 => ?_
 refine f_o ?_
 refine m_z 25 (u64s (List.replicate 4 0)) En341 Hv342 fun ac344 wo345 bk343 En346 Hv347 => ?_
 refine f_o ?_
 refine m_g 6 0 4 (u64s (nd (mulM 1 (nv (nd (rq 1 (nv a)))) (nv (nd (rq 1 (nv a))))))) (u64s (nd (mulM 1 (nv (nd (rq 1 (nv a)))) (nv (nd (rq 1 (nv a))))))) [.box bk1 (u64s a) 25, .box bk6 (u64s (List.replicate 4 0)) 25, .box bk22 (u64s (nd (mF 1))) 25, .box bk33 (u64s (nd (rq 1 (nv a)))) 25, .box bk55 (u64s (nd (mulM 1 (nv a) (nv ([1, 0, 0, 0] : List UInt64))))) 25, .box bk83 (u64s (nd (nv (nd (mF 1)) + nv ([3, 0, 0, 0] : List UInt64)))) 25, .box bk343 (u64s (nd (mulM 1 (nv (nd (rq 1 (nv a)))) (nv (nd (rq 1 (nv a))))))) 25] En346 Hv347 rfl (u64s_lenh (nds_len _ _)) (by rw [(u64s_lenh (List.length_replicate))]; decide) (u64s_one _) (store_whole (u64s_lenh (List.length_replicate))) rfl fun ac348 wo349 En350 Hv351 => ?_
 refine f_e ?_
 refine then_normal ?_
 refine wp_seq ?_
 refine region_from ?_
 refine f_o ?_
 refine m_a 6 0 4 (u64s (nd (mulM 1 (nv (nd (rq 1 (nv a)))) (nv (nd (rq 1 (nv a))))))) En350 Hv351 rfl (load_whole (u64s_lenh (nds_len _ _))) (u64s_lenh (nds_len _ _)) fun ac352 En353 => ?_
 refine f_o ?_
 refine m_a 4 0 4 (u64s (nd (mulM 1 (nv a) (nv ([1, 0, 0, 0] : List UInt64))))) En353 Hv351 rfl (load_whole (u64s_lenh (nds_len _ _))) (u64s_lenh (nds_len _ _)) fun ac354 En355 => ?_
 refine f_o ?_
 refine q_v (x := eqOp .neq 25 (.tmp 58) (.tmp 59) (.agg (List.toArray (u64s (nd (mulM 1 (nv (nd (rq 1 (nv a)))) (nv (nd (rq 1 (nv a))))))))) (.agg (List.toArray (u64s (nd (mulM 1 (nv a) (nv ([1, 0, 0, 0] : List UInt64)))))))) (v := .bool (!((nd (mulM 1 (nv (nd (rq 1 (nv a)))) (nv (nd (rq 1 (nv a)))))) == (nd (mulM 1 (nv a) (nv ([1, 0, 0, 0] : List UInt64))))))) En355 (Go.Dbr.u64s_neop (a := (.tmp 58)) (b := (.tmp 59)) (e := 23) (m := 4) (by kernel_rfl) (by kernel_rfl) (by kernel_rfl) (by kernel_rfl) (by kernel_rfl) (nds_len _ _) (nds_len _ _) _) fun ac356 En357 => ?_
 refine f_e ?_
 refine then_normal ?_
 refine region_cut (F := fun ac wo => Env ac 89 [(0, .int .i64 1), (3, pt bk1), (4, pt bk6), (5, .bool false), (6, pt bk22), (7, pt bk33), (8, pt bk55), (11, pt bk83), (13, pt bk343), (23, .int .i64 1)] ∧ Ev w [] wo [.box bk6 (u64s (List.replicate 4 0)) 25, .box bk55 (u64s (nd (mulM 1 (nv a) (nv ([1, 0, 0, 0] : List UInt64))))) 25, .box bk33 (u64s (nd (rs 1 (nv a)))) 25]) ?_ ?_
 ·
  refine cond_at En357 (t := !((nd (mulM 1 (nv (nd (rq 1 (nv a)))) (nv (nd (rq 1 (nv a)))))) == (nd (mulM 1 (nv a) (nv ([1, 0, 0, 0] : List UInt64)))))) (by kernel_rfl) (fun hc358 => ?_) (fun hc358 => ?_)
  ·
   replace hc358 : ¬ ((nd (mulM 1 (nv (nd (rq 1 (nv a)))) (nv (nd (rq 1 (nv a)))))) = (nd (mulM 1 (nv a) (nv ([1, 0, 0, 0] : List UInt64))))) := by simpa using hc358
   refine wp_seq ?_
   refine region_from ?_
   refine d_k [0,3,4,5,6,7,8,11,13,23,61,62] [] 2 En357 fun ac359 En360 => ?_
   refine f_o ?_
   refine m_a 2 0 4 (u64s (nd (mF 1))) En360 Hv351 rfl (load_whole (u64s_lenh (nds_len _ _))) (u64s_lenh (nds_len _ _)) fun ac361 En362 => ?_
   refine d_k [0,3,4,5,6,7,8,11,13,23,61,62,63,64] [] 4 En362 fun ac363 En364 => ?_
   refine f_o ?_
   refine c_p En364 Hv351 (rminus_go _ (nd (mF 1)) ([1, 0, 0, 0] : List UInt64) (nds_len _ _) (show List.length ([1, 0, 0, 0] : List UInt64) = 4 from rfl)) fun ac369 wo366 En370 Hv371 => ?_
   refine f_o ?_
   refine c_p En370 Hv371 (half_go _ (nd (nv (nd (mF 1)) + W256 - nv ([1, 0, 0, 0] : List UInt64))) (nds_len _ _)) fun ac376 wo373 En377 Hv378 => ?_
   refine f_o ?_
   refine c_p En377 Hv378 (half_go _ (nd (nv (nd (nv (nd (mF 1)) + W256 - nv ([1, 0, 0, 0] : List UInt64))) / 2)) (nds_len _ _)) fun ac383 wo380 En384 Hv385 => ?_
   refine f_o ?_
   refine c_p En384 Hv385 (rexp_go _ 1 h1f (rmulOk h1f (leftOk h1f)) ([2, 0, 0, 0] : List UInt64) (nd (nv (nd (nv (nd (nv (nd (mF 1)) + W256 - nv ([1, 0, 0, 0] : List UInt64))) / 2)) / 2)) (show List.length ([2, 0, 0, 0] : List UInt64) = 4 from rfl) (nds_len _ _)) fun ac390 wo387 En391 Hv392 => ?_
   refine f_o ?_
   refine m_z 25 (u64s (List.replicate 4 0)) En391 Hv392 fun ac394 wo395 bk393 En396 Hv397 => ?_
   refine f_o ?_
   refine m_g 7 0 4 (u64s (nd (powM 1 (nv ([2, 0, 0, 0] : List UInt64)) (nv (nd (nv (nd (nv (nd (nv (nd (mF 1)) + W256 - nv ([1, 0, 0, 0] : List UInt64))) / 2)) / 2)))))) (u64s (nd (powM 1 (nv ([2, 0, 0, 0] : List UInt64)) (nv (nd (nv (nd (nv (nd (nv (nd (mF 1)) + W256 - nv ([1, 0, 0, 0] : List UInt64))) / 2)) / 2)))))) [.box bk1 (u64s a) 25, .box bk6 (u64s (List.replicate 4 0)) 25, .box bk22 (u64s (nd (mF 1))) 25, .box bk33 (u64s (nd (rq 1 (nv a)))) 25, .box bk55 (u64s (nd (mulM 1 (nv a) (nv ([1, 0, 0, 0] : List UInt64))))) 25, .box bk83 (u64s (nd (nv (nd (mF 1)) + nv ([3, 0, 0, 0] : List UInt64)))) 25, .box bk343 (u64s (nd (mulM 1 (nv (nd (rq 1 (nv a)))) (nv (nd (rq 1 (nv a))))))) 25, .box bk393 (u64s (nd (powM 1 (nv ([2, 0, 0, 0] : List UInt64)) (nv (nd (nv (nd (nv (nd (nv (nd (mF 1)) + W256 - nv ([1, 0, 0, 0] : List UInt64))) / 2)) / 2)))))) 25] En396 Hv397 rfl (u64s_lenh (nds_len _ _)) (by rw [(u64s_lenh (List.length_replicate))]; decide) (u64s_one _) (store_whole (u64s_lenh (List.length_replicate))) rfl fun ac398 wo399 En400 Hv401 => ?_
   refine f_e ?_
   refine then_normal ?_
   refine region_from ?_
   refine d_k [0,3,4,5,6,7,8,11,13,14,23,69] [] 1 En400 fun ac402 En403 => ?_
   refine f_o ?_
   refine m_a 3 0 4 (u64s (nd (rq 1 (nv a)))) En403 Hv401 rfl (load_whole (u64s_lenh (nds_len _ _))) (u64s_lenh (nds_len _ _)) fun ac404 En405 => ?_
   refine f_o ?_
   refine m_a 7 0 4 (u64s (nd (powM 1 (nv ([2, 0, 0, 0] : List UInt64)) (nv (nd (nv (nd (nv (nd (nv (nd (mF 1)) + W256 - nv ([1, 0, 0, 0] : List UInt64))) / 2)) / 2)))))) En405 Hv401 rfl (load_whole (u64s_lenh (nds_len _ _))) (u64s_lenh (nds_len _ _)) fun ac406 En407 => ?_
   refine f_o ?_
   refine c_p En407 Hv401 ((rmulOk h1f (leftOk h1f)) _ (nd (rq 1 (nv a))) (nd (powM 1 (nv ([2, 0, 0, 0] : List UInt64)) (nv (nd (nv (nd (nv (nd (nv (nd (mF 1)) + W256 - nv ([1, 0, 0, 0] : List UInt64))) / 2)) / 2))))) (nds_len _ _) (nds_len _ _)) fun ac412 wo409 En413 Hv414 => ?_
   refine f_o ?_
   refine m_g 3 0 4 (u64s (nd (mulM 1 (nv (nd (rq 1 (nv a)))) (nv (nd (powM 1 (nv ([2, 0, 0, 0] : List UInt64)) (nv (nd (nv (nd (nv (nd (nv (nd (mF 1)) + W256 - nv ([1, 0, 0, 0] : List UInt64))) / 2)) / 2))))))))) (u64s (nd (mulM 1 (nv (nd (rq 1 (nv a)))) (nv (nd (powM 1 (nv ([2, 0, 0, 0] : List UInt64)) (nv (nd (nv (nd (nv (nd (nv (nd (mF 1)) + W256 - nv ([1, 0, 0, 0] : List UInt64))) / 2)) / 2))))))))) [.box bk1 (u64s a) 25, .box bk6 (u64s (List.replicate 4 0)) 25, .box bk22 (u64s (nd (mF 1))) 25, .box bk33 (u64s (nd (mulM 1 (nv (nd (rq 1 (nv a)))) (nv (nd (powM 1 (nv ([2, 0, 0, 0] : List UInt64)) (nv (nd (nv (nd (nv (nd (nv (nd (mF 1)) + W256 - nv ([1, 0, 0, 0] : List UInt64))) / 2)) / 2))))))))) 25, .box bk55 (u64s (nd (mulM 1 (nv a) (nv ([1, 0, 0, 0] : List UInt64))))) 25, .box bk83 (u64s (nd (nv (nd (mF 1)) + nv ([3, 0, 0, 0] : List UInt64)))) 25, .box bk343 (u64s (nd (mulM 1 (nv (nd (rq 1 (nv a)))) (nv (nd (rq 1 (nv a))))))) 25, .box bk393 (u64s (nd (powM 1 (nv ([2, 0, 0, 0] : List UInt64)) (nv (nd (nv (nd (nv (nd (nv (nd (mF 1)) + W256 - nv ([1, 0, 0, 0] : List UInt64))) / 2)) / 2)))))) 25] En413 Hv414 rfl (u64s_lenh (nds_len _ _)) (by rw [(u64s_lenh (nds_len _ _))]; decide) (u64s_one _) (store_whole (u64s_lenh (nds_len _ _))) rfl fun ac415 wo416 En417 Hv418 => ?_
   refine f_e ?_
   rw [show (nd (mulM 1 (nv (nd (rq 1 (nv a)))) (nv (nd (powM 1 (nv ([2, 0, 0, 0] : List UInt64)) (nv (nd (nv (nd (nv (nd (nv (nd (mF 1)) + W256 - nv ([1, 0, 0, 0] : List UInt64))) / 2)) / 2)))))))) = (nd (rs 1 (nv a))) from (rs1_b (by assumption) (by decide +kernel))] at Hv418
   exact ⟨rfl, ⟨En417.sb, Hv418.pk [1, 4, 3]⟩⟩
  ·
   replace hc358 : (nd (mulM 1 (nv (nd (rq 1 (nv a)))) (nv (nd (rq 1 (nv a)))))) = (nd (mulM 1 (nv a) (nv ([1, 0, 0, 0] : List UInt64)))) := by simpa using hc358
   refine wp_skip ?_
   rw [show (nd (rq 1 (nv a))) = (nd (rs 1 (nv a))) from (rs1_a (by assumption))] at Hv351
   exact ⟨rfl, ⟨En357.sb, Hv351.pk [1, 4, 3]⟩⟩
 ·
  rintro ac419 wo420 ⟨En421, Hv422⟩
  refine block_normal ?_
  refine then_normal ?_
  refine wp_seq ?_
  refine region_from ?_
  refine d_k [0,3,4,5,6,7,8,11,13,23,73] [] 1 En421 fun ac423 En424 => ?_
  refine f_o ?_
  refine m_a 2 0 4 (u64s (nd (rs 1 (nv a)))) En424 Hv422 rfl (load_whole (u64s_lenh (nds_len _ _))) (u64s_lenh (nds_len _ _)) fun ac425 En426 => ?_
  refine f_o ?_
  refine m_a 2 0 4 (u64s (nd (rs 1 (nv a)))) En426 Hv422 rfl (load_whole (u64s_lenh (nds_len _ _))) (u64s_lenh (nds_len _ _)) fun ac427 En428 => ?_
  refine f_o ?_
  refine c_p En428 Hv422 ((rmulOk h1f (leftOk h1f)) _ (nd (rs 1 (nv a))) (nd (rs 1 (nv a))) (nds_len _ _) (nds_len _ _)) fun ac433 wo430 En434 Hv435 => ?_
  refine f_o ?_
  refine m_z 25 (u64s (List.replicate 4 0)) En434 Hv435 fun ac437 wo438 bk436 En439 Hv440 => ?_
  refine f_o ?_
  refine m_g 3 0 4 (u64s (nd (mulM 1 (nv (nd (rs 1 (nv a)))) (nv (nd (rs 1 (nv a))))))) (u64s (nd (mulM 1 (nv (nd (rs 1 (nv a)))) (nv (nd (rs 1 (nv a))))))) [.box bk6 (u64s (List.replicate 4 0)) 25, .box bk55 (u64s (nd (mulM 1 (nv a) (nv ([1, 0, 0, 0] : List UInt64))))) 25, .box bk33 (u64s (nd (rs 1 (nv a)))) 25, .box bk436 (u64s (nd (mulM 1 (nv (nd (rs 1 (nv a)))) (nv (nd (rs 1 (nv a))))))) 25] En439 Hv440 rfl (u64s_lenh (nds_len _ _)) (by rw [(u64s_lenh (List.length_replicate))]; decide) (u64s_one _) (store_whole (u64s_lenh (List.length_replicate))) rfl fun ac441 wo442 En443 Hv444 => ?_
  refine f_e ?_
  refine then_normal ?_
  refine wp_seq ?_
  refine wp_seq ?_
  refine region_from ?_
  refine f_o ?_
  refine m_a 3 0 4 (u64s (nd (mulM 1 (nv (nd (rs 1 (nv a)))) (nv (nd (rs 1 (nv a))))))) En443 Hv444 rfl (load_whole (u64s_lenh (nds_len _ _))) (u64s_lenh (nds_len _ _)) fun ac445 En446 => ?_
  refine f_o ?_
  refine m_a 1 0 4 (u64s (nd (mulM 1 (nv a) (nv ([1, 0, 0, 0] : List UInt64))))) En446 Hv444 rfl (load_whole (u64s_lenh (nds_len _ _))) (u64s_lenh (nds_len _ _)) fun ac447 En448 => ?_
  refine f_o ?_
  refine q_v (x := eqOp .neq 25 (.tmp 77) (.tmp 78) (.agg (List.toArray (u64s (nd (mulM 1 (nv (nd (rs 1 (nv a)))) (nv (nd (rs 1 (nv a))))))))) (.agg (List.toArray (u64s (nd (mulM 1 (nv a) (nv ([1, 0, 0, 0] : List UInt64)))))))) (v := .bool (!((nd (mulM 1 (nv (nd (rs 1 (nv a)))) (nv (nd (rs 1 (nv a)))))) == (nd (mulM 1 (nv a) (nv ([1, 0, 0, 0] : List UInt64))))))) En448 (Go.Dbr.u64s_neop (a := (.tmp 77)) (b := (.tmp 78)) (e := 23) (m := 4) (by kernel_rfl) (by kernel_rfl) (by kernel_rfl) (by kernel_rfl) (by kernel_rfl) (nds_len _ _) (nds_len _ _) _) fun ac449 En450 => ?_
  refine f_e ?_
  refine then_normal ?_
  refine cond_at En450 (t := !((nd (mulM 1 (nv (nd (rs 1 (nv a)))) (nv (nd (rs 1 (nv a)))))) == (nd (mulM 1 (nv a) (nv ([1, 0, 0, 0] : List UInt64)))))) (by kernel_rfl) (fun hc451 => ?_) (fun hc451 => ?_)
  ·
   replace hc451 : ¬ ((nd (mulM 1 (nv (nd (rs 1 (nv a)))) (nv (nd (rs 1 (nv a)))))) = (nd (mulM 1 (nv a) (nv ([1, 0, 0, 0] : List UInt64))))) := by simpa using hc451
   refine wp_seq ?_
   refine region_from ?_
   refine d_k [0,3,4,5,6,7,8,11,13,15,23,80] [] 1 En450 fun ac452 En453 => ?_
   refine f_o ?_
   refine m_g 0 0 4 (u64s ([0, 0, 0, 0] : List UInt64)) (u64s ([0, 0, 0, 0] : List UInt64)) [.box bk6 (u64s ([0, 0, 0, 0] : List UInt64)) 25, .box bk55 (u64s (nd (mulM 1 (nv a) (nv ([1, 0, 0, 0] : List UInt64))))) 25, .box bk33 (u64s (nd (rs 1 (nv a)))) 25, .box bk436 (u64s (nd (mulM 1 (nv (nd (rs 1 (nv a)))) (nv (nd (rs 1 (nv a))))))) 25] En453 Hv444 rfl (u64s_lenh (show List.length ([0, 0, 0, 0] : List UInt64) = 4 from rfl)) (by rw [(u64s_lenh (List.length_replicate))]; decide) (u64s_one _) (store_whole (u64s_lenh (List.length_replicate))) rfl fun ac454 wo455 En456 Hv457 => ?_
   refine d_e [0,3,4,5,6,7,8,11,13,15,23] [] En456 fun ac458 En459 => ?_
   refine then_normal ?_
   refine wp_ret ?_
   refine then_ret ?_
   refine d_cell_tmp (v := .agg (List.toArray (u64s ([0, 0, 0, 0] : List UInt64)))) (x := .bool false) (t := 4) (T := 25) (ad := ⟨bk6, 0, none⟩) (u := 5) En459 (by kernel_rfl) (by kernel_rfl) (Ev.cellAgg (t := 25) (k := 0) (off := 0) (m := 4) (xs := u64s ([0, 0, 0, 0] : List UInt64)) Hv457 rfl (load_whole (u64s_lenh (show List.length ([0, 0, 0, 0] : List UInt64) = 4 from rfl))) (u64s_lenh (show List.length ([0, 0, 0, 0] : List UInt64) = 4 from rfl)) (by kernel_rfl) (by kernel_rfl)) (by kernel_rfl) ?_
   have eb := (root_no (f := 1) h1f (by assumption)).1
   have e : ([0, 0, 0, 0] : List UInt64) = nd (rootN 1 (nv a)) := root_z (root_no (f := 1) h1f (by assumption))
   rw [eb]
   exact ⟨congrArg (fun l : List UInt64 => Ending.returned (.tuple #[Value.agg (u64s l).toArray, .bool false])) e, Hv457.pk []⟩
  ·
   replace hc451 : (nd (mulM 1 (nv (nd (rs 1 (nv a)))) (nv (nd (rs 1 (nv a)))))) = (nd (mulM 1 (nv a) (nv ([1, 0, 0, 0] : List UInt64)))) := by simpa using hc451
   refine wp_skip ?_
   refine then_normal ?_
   refine wp_seq ?_
   refine wp_seq ?_
   refine region_from ?_
   refine d_k [0,3,4,5,6,7,8,11,13,15,23,81] [] 1 En450 fun ac460 En461 => ?_
   refine f_o ?_
   have hb462 : 0 < List.length (nd (rs 1 (nv a))) := by rw [(nds_len _ _)]; omega
   refine m_v 2 0 (uv64 (List.getD (nd (rs 1 (nv a))) 0 0)) En461 Hv444 rfl (u64s_getD hb462) fun ac463 En464 => ?_
   refine d_e [0,3,4,5,6,7,8,11,13,15,23,84] [(2, g_i .u64 (Go.Dbr.u64_and (x := List.getD (nd (rs 1 (nv a))) 0 0) (y := (1 : UInt64)) rfl rfl))] En464 fun ac465 En466 => ?_
   refine then_normal ?_
   refine c_e ((UInt64.toNat ((List.getD (nd (rs 1 (nv a))) 0 0) &&& (1 : UInt64)) : Nat) : Int) (1 : Int) En466 (fun hc467 => ?_) (fun hc467 => ?_)
   ·
    refine region_from ?_
    refine d_k [0,3,4,5,6,7,8,11,13,15,23,85] [] 1 En466 fun ac468 En469 => ?_
    refine f_o ?_
    refine m_a 2 0 4 (u64s (nd (rs 1 (nv a)))) En469 Hv444 rfl (load_whole (u64s_lenh (nds_len _ _))) (u64s_lenh (nds_len _ _)) fun ac470 En471 => ?_
    refine f_o ?_
    refine c_p En471 Hv444 (rneg_go _ 1 h1f (leftOk h1f) (nd (rs 1 (nv a))) (nds_len _ _)) fun ac476 wo473 En477 Hv478 => ?_
    refine f_o ?_
    refine m_g 2 0 4 (u64s (nd (subM 1 0 (nv (nd (rs 1 (nv a))))))) (u64s (nd (subM 1 0 (nv (nd (rs 1 (nv a))))))) [.box bk6 (u64s (List.replicate 4 0)) 25, .box bk55 (u64s (nd (mulM 1 (nv a) (nv ([1, 0, 0, 0] : List UInt64))))) 25, .box bk33 (u64s (nd (subM 1 0 (nv (nd (rs 1 (nv a))))))) 25, .box bk436 (u64s (nd (mulM 1 (nv (nd (rs 1 (nv a)))) (nv (nd (rs 1 (nv a))))))) 25] En477 Hv478 rfl (u64s_lenh (nds_len _ _)) (by rw [(u64s_lenh (nds_len _ _))]; decide) (u64s_one _) (store_whole (u64s_lenh (nds_len _ _))) rfl fun ac479 wo480 En481 Hv482 => ?_
    refine f_e ?_
    refine then_normal ?_
    refine wp_seq ?_
    refine region_from ?_
    refine f_o ?_
    refine m_a 2 0 4 (u64s (nd (subM 1 0 (nv (nd (rs 1 (nv a))))))) En481 Hv482 rfl (load_whole (u64s_lenh (nds_len _ _))) (u64s_lenh (nds_len _ _)) fun ac483 En484 => ?_
    refine f_o ?_
    refine m_g 0 0 4 (u64s (nd (subM 1 0 (nv (nd (rs 1 (nv a))))))) (u64s (nd (subM 1 0 (nv (nd (rs 1 (nv a))))))) [.box bk6 (u64s (nd (subM 1 0 (nv (nd (rs 1 (nv a))))))) 25, .box bk55 (u64s (nd (mulM 1 (nv a) (nv ([1, 0, 0, 0] : List UInt64))))) 25, .box bk33 (u64s (nd (subM 1 0 (nv (nd (rs 1 (nv a))))))) 25, .box bk436 (u64s (nd (mulM 1 (nv (nd (rs 1 (nv a)))) (nv (nd (rs 1 (nv a))))))) 25] En484 Hv482 rfl (u64s_lenh (nds_len _ _)) (by rw [(u64s_lenh (List.length_replicate))]; decide) (u64s_one _) (store_whole (u64s_lenh (List.length_replicate))) rfl fun ac485 wo486 En487 Hv488 => ?_
    refine d_e [0,3,4,5,6,7,8,11,13,15,23] [] En487 fun ac489 En490 => ?_
    refine then_normal ?_
    refine wp_ret ?_
    refine d_cell_tmp (v := .agg (List.toArray (u64s (nd (subM 1 0 (nv (nd (rs 1 (nv a))))))))) (x := .bool true) (t := 4) (T := 25) (ad := ⟨bk6, 0, none⟩) (u := 5) En490 (by kernel_rfl) (by kernel_rfl) (Ev.cellAgg (t := 25) (k := 0) (off := 0) (m := 4) (xs := u64s (nd (subM 1 0 (nv (nd (rs 1 (nv a))))))) Hv488 rfl (load_whole (u64s_lenh (nds_len _ _))) (u64s_lenh (nds_len _ _)) (by kernel_rfl) (by kernel_rfl)) (by kernel_rfl) ?_
    have eb := root_yes (f := 1) (A := nv a) (by decide) (by assumption)
    have e : nd (subM 1 0 (nv (nd (rs 1 (nv a))))) = nd (rootN 1 (nv a)) := by first | exact root_odd (by decide) (by assumption) (by assumption) | exact root_even (by decide) (by assumption) (by assumption)
    rw [eb]
    exact ⟨congrArg (fun l : List UInt64 => Ending.returned (.tuple #[Value.agg (u64s l).toArray, .bool true])) e, Hv488.pk []⟩
   ·
    refine wp_skip ?_
    refine then_normal ?_
    refine wp_seq ?_
    refine region_from ?_
    refine f_o ?_
    refine m_a 2 0 4 (u64s (nd (rs 1 (nv a)))) En466 Hv444 rfl (load_whole (u64s_lenh (nds_len _ _))) (u64s_lenh (nds_len _ _)) fun ac491 En492 => ?_
    refine f_o ?_
    refine m_g 0 0 4 (u64s (nd (rs 1 (nv a)))) (u64s (nd (rs 1 (nv a)))) [.box bk6 (u64s (nd (rs 1 (nv a)))) 25, .box bk55 (u64s (nd (mulM 1 (nv a) (nv ([1, 0, 0, 0] : List UInt64))))) 25, .box bk33 (u64s (nd (rs 1 (nv a)))) 25, .box bk436 (u64s (nd (mulM 1 (nv (nd (rs 1 (nv a)))) (nv (nd (rs 1 (nv a))))))) 25] En492 Hv444 rfl (u64s_lenh (nds_len _ _)) (by rw [(u64s_lenh (List.length_replicate))]; decide) (u64s_one _) (store_whole (u64s_lenh (List.length_replicate))) rfl fun ac493 wo494 En495 Hv496 => ?_
    refine d_e [0,3,4,5,6,7,8,11,13,15,23] [] En495 fun ac497 En498 => ?_
    refine then_normal ?_
    refine wp_ret ?_
    refine d_cell_tmp (v := .agg (List.toArray (u64s (nd (rs 1 (nv a)))))) (x := .bool true) (t := 4) (T := 25) (ad := ⟨bk6, 0, none⟩) (u := 5) En498 (by kernel_rfl) (by kernel_rfl) (Ev.cellAgg (t := 25) (k := 0) (off := 0) (m := 4) (xs := u64s (nd (rs 1 (nv a)))) Hv496 rfl (load_whole (u64s_lenh (nds_len _ _))) (u64s_lenh (nds_len _ _)) (by kernel_rfl) (by kernel_rfl)) (by kernel_rfl) ?_
    have eb := root_yes (f := 1) (A := nv a) (by decide) (by assumption)
    have e : nd (rs 1 (nv a)) = nd (rootN 1 (nv a)) := by first | exact root_odd (by decide) (by assumption) (by assumption) | exact root_even (by decide) (by assumption) (by assumption)
    rw [eb]
    exact ⟨congrArg (fun l : List UInt64 => Ending.returned (.tuple #[Value.agg (u64s l).toArray, .bool true])) e, Hv496.pk []⟩

theorem rroot2_go (w : World) (a : List UInt64) (ha : List.length a = 4) : Calls Try.prog 16 #[.int .i64 2, .agg (List.toArray (u64s a))] w fun e w' => e = .returned (.tuple #[.agg (List.toArray (u64s (nd (rootN 2 (nv a))))), .bool (rootOk 2 (nv a))]) ∧ Ev w [] w' [] := by
 refine d_0 [(0, .int .i64 2), (1, .agg (List.toArray (u64s a)))] 89 Go.Proofs.Try.func16 Go.Proofs.Try.ntmps16 (Heap.nil _) fun act0 En0 Hv0 => ?_
 refine wp_seq ?_
 refine region_from ?_
 refine f_o ?_
 refine m_m 25 (u64s a) En0 Hv0 fun ac2 wo3 bk1 En4 Hv5 => ?_
 refine f_o ?_
 refine m_z 25 (u64s (List.replicate 4 0)) En4 Hv5 fun ac7 wo8 bk6 En9 Hv10 => ?_
 refine d_e [0,3,4,5] [] En9 fun ac11 En12 => ?_
 refine then_normal ?_
 refine wp_seq ?_
 refine region_from ?_
 refine d_k [0,3,4,5,16] [] 1 En12 fun ac13 En14 => ?_
 refine f_o ?_
 refine c_p En14 Hv10 (rmodulus_go _ 2) fun ac19 wo16 En20 Hv21 => ?_
 refine f_o ?_
 refine m_z 25 (u64s (List.replicate 4 0)) En20 Hv21 fun ac23 wo24 bk22 En25 Hv26 => ?_
 refine f_o ?_
 refine m_g 2 0 4 (u64s (nd (mF 2))) (u64s (nd (mF 2))) [.box bk1 (u64s a) 25, .box bk6 (u64s (List.replicate 4 0)) 25, .box bk22 (u64s (nd (mF 2))) 25] En25 Hv26 rfl (u64s_lenh (nds_len _ _)) (by rw [(u64s_lenh (List.length_replicate))]; decide) (u64s_one _) (store_whole (u64s_lenh (List.length_replicate))) rfl fun ac27 wo28 En29 Hv30 => ?_
 refine f_e ?_
 refine then_normal ?_
 refine wp_seq ?_
 refine region_from ?_
 refine d_k [0,3,4,5,6,18] [] 1 En29 fun ac31 En32 => ?_
 refine f_o ?_
 refine m_z 25 (u64s (List.replicate 4 0)) En32 Hv30 fun ac34 wo35 bk33 En36 Hv37 => ?_
 refine f_o ?_
 refine m_g 3 0 4 (u64s ([0, 0, 0, 0] : List UInt64)) (u64s ([0, 0, 0, 0] : List UInt64)) [.box bk1 (u64s a) 25, .box bk6 (u64s (List.replicate 4 0)) 25, .box bk22 (u64s (nd (mF 2))) 25, .box bk33 (u64s ([0, 0, 0, 0] : List UInt64)) 25] En36 Hv37 rfl (u64s_lenh (show List.length ([0, 0, 0, 0] : List UInt64) = 4 from rfl)) (by rw [(u64s_lenh (List.length_replicate))]; decide) (u64s_one _) (store_whole (u64s_lenh (List.length_replicate))) rfl fun ac38 wo39 En40 Hv41 => ?_
 refine f_e ?_
 refine then_normal ?_
 refine wp_seq ?_
 refine region_from ?_
 refine d_k [0,3,4,5,6,7,19] [] 1 En40 fun ac42 En43 => ?_
 refine f_o ?_
 refine m_a 0 0 4 (u64s a) En43 Hv41 rfl (load_whole (u64s_lenh ha)) (u64s_lenh ha) fun ac44 En45 => ?_
 refine d_k [0,3,4,5,6,7,19,20,21] [] 3 En45 fun ac46 En47 => ?_
 refine f_o ?_
 refine c_p En47 Hv41 ((rmulOk h2f (leftOk h2f)) _ a ([1, 0, 0, 0] : List UInt64) ha (show List.length ([1, 0, 0, 0] : List UInt64) = 4 from rfl)) fun ac52 wo49 En53 Hv54 => ?_
 refine f_o ?_
 refine m_z 25 (u64s (List.replicate 4 0)) En53 Hv54 fun ac56 wo57 bk55 En58 Hv59 => ?_
 refine f_o ?_
 refine m_g 4 0 4 (u64s (nd (mulM 2 (nv a) (nv ([1, 0, 0, 0] : List UInt64))))) (u64s (nd (mulM 2 (nv a) (nv ([1, 0, 0, 0] : List UInt64))))) [.box bk1 (u64s a) 25, .box bk6 (u64s (List.replicate 4 0)) 25, .box bk22 (u64s (nd (mF 2))) 25, .box bk33 (u64s ([0, 0, 0, 0] : List UInt64)) 25, .box bk55 (u64s (nd (mulM 2 (nv a) (nv ([1, 0, 0, 0] : List UInt64))))) 25] En58 Hv59 rfl (u64s_lenh (nds_len _ _)) (by rw [(u64s_lenh (List.length_replicate))]; decide) (u64s_one _) (store_whole (u64s_lenh (List.length_replicate))) rfl fun ac60 wo61 En62 Hv63 => ?_
 refine f_e ?_
 refine then_normal ?_
 refine wp_seq ?_
 refine wp_seq ?_
 refine d_r [0,3,4,5,6,7,8,23] [] En62 fun ac64 En65 => ?_
 refine then_normal ?_
 refine wp_block ?_
 refine wp_seq ?_
 refine d_r [0,3,4,5,6,7,8,23,25] [] En65 fun ac66 En67 => ?_
 refine then_normal ?_
 refine c_t En67 ?_
 refine wp_seq ?_
 refine region_from ?_
 refine f_o ?_
 refine m_a 2 0 4 (u64s (nd (mF 2))) En67 Hv63 rfl (load_whole (u64s_lenh (nds_len _ _))) (u64s_lenh (nds_len _ _)) fun ac68 En69 => ?_
 refine d_k [0,3,4,5,6,7,8,23,28,29] [] 2 En69 fun ac70 En71 => ?_
 refine f_o ?_
 refine c_p En71 Hv63 (rplus_go _ (nd (mF 2)) ([1, 0, 0, 0] : List UInt64) (nds_len _ _) (show List.length ([1, 0, 0, 0] : List UInt64) = 4 from rfl)) fun ac76 wo73 En77 Hv78 => ?_
 refine d_k [0,3,4,5,6,7,8,23,31,32] [] 6 En77 fun ac79 En80 => ?_
 refine f_o ?_
 refine m_z 25 (u64s (List.replicate 4 0)) En80 Hv78 fun ac82 wo83 bk81 En84 Hv85 => ?_
 refine f_o ?_
 refine m_g 5 0 4 (u64s (nd (nv (nd (mF 2)) + nv ([1, 0, 0, 0] : List UInt64)))) (u64s (nd (nv (nd (mF 2)) + nv ([1, 0, 0, 0] : List UInt64)))) [.box bk1 (u64s a) 25, .box bk6 (u64s (List.replicate 4 0)) 25, .box bk22 (u64s (nd (mF 2))) 25, .box bk33 (u64s ([0, 0, 0, 0] : List UInt64)) 25, .box bk55 (u64s (nd (mulM 2 (nv a) (nv ([1, 0, 0, 0] : List UInt64))))) 25, .box bk81 (u64s (nd (nv (nd (mF 2)) + nv ([1, 0, 0, 0] : List UInt64)))) 25] En84 Hv85 rfl (u64s_lenh (nds_len _ _)) (by rw [(u64s_lenh (List.length_replicate))]; decide) (u64s_one _) (store_whole (u64s_lenh (List.length_replicate))) rfl fun ac86 wo87 En88 Hv89 => ?_
 refine d_e [0,3,4,5,6,7,8,9,23] [] En88 fun ac90 En91 => ?_
 refine then_normal ?_
 refine r_c (fun ac wo => Env ac 89 [(0, .int .i64 2), (3, pt bk1), (4, pt bk6), (5, .bool false), (6, pt bk22), (7, pt bk33), (8, pt bk55), (9, pt bk81), (23, .int .i64 2)] ∧ Ev w [] wo [.box bk1 (u64s a) 25, .box bk6 (u64s (List.replicate 4 0)) 25, .box bk22 (u64s (nd (mF 2))) 25, .box bk33 (u64s (nd (powM 2 (nv a) (nv (nd (nv (nd (nv (nd (nv (nd (mF 2)) + nv ([1, 0, 0, 0] : List UInt64))) / 2)) / 2)))))) 25, .box bk55 (u64s (nd (mulM 2 (nv a) (nv ([1, 0, 0, 0] : List UInt64))))) 25, .box bk81 (u64s (nd (nv (nd (mF 2)) + nv ([1, 0, 0, 0] : List UInt64)))) 25]) ?_ ?_
 ·
  refine h_s (fun wv => Ev w [] wv [.box bk1 (u64s a) 25, .box bk81 (u64s (nd (nv (nd (mF 2)) + nv ([1, 0, 0, 0] : List UInt64)))) 25]) [] 7 ?_
  have wo92 := Hv89.trans (Ev.drew Hv89.heap)
  refine q_s [0] [] 6 En91 (wo92.pk [0, 5]) fun ac231 En232 => ?_
  refine q_r 1 (s := Instr.loadAt 25 (pt bk1)) (v := .agg (List.toArray (u64s a))) En232 (fun w hS => run_loadAgg2 (m := 4) (cs := u64s a) (u64s_lenh ha) (by kernel_rfl) (by kernel_rfl) (hS.heap.cells (k := 0) (off := 0) (m := 4) rfl (load_whole (u64s_lenh ha)))) (wo92.pk [0, 5]) fun ac233 En234 => ?_
  refine q_r 2 (s := Instr.loadAt 25 (pt bk81)) (v := .agg (List.toArray (u64s (nd (nv (nd (mF 2)) + nv ([1, 0, 0, 0] : List UInt64)))))) En234 (fun w hS => run_loadAgg2 (m := 4) (cs := u64s (nd (nv (nd (mF 2)) + nv ([1, 0, 0, 0] : List UInt64)))) (u64s_lenh (nds_len _ _)) (by kernel_rfl) (by kernel_rfl) (hS.heap.cells (k := 1) (off := 0) (m := 4) rfl (load_whole (u64s_lenh (nds_len _ _))))) (wo92.pk [0, 5]) fun ac235 En236 => ?_
  refine q_t 3 ?_
  refine c_p En236 wo92 (half_go _ (nd (nv (nd (mF 2)) + nv ([1, 0, 0, 0] : List UInt64))) (nds_len _ _)) fun ac241 wo238 En242 Hv243 => ?_
  refine ⟨fun _ => Hv243.pk [0, 5], ?_⟩
  refine q_t 4 ?_
  refine c_p En242 Hv243 (half_go _ (nd (nv (nd (nv (nd (mF 2)) + nv ([1, 0, 0, 0] : List UInt64))) / 2)) (nds_len _ _)) fun ac248 wo245 En249 Hv250 => ?_
  refine ⟨fun _ => Hv250.pk [0, 5], ?_⟩
  refine q_t 5 ?_
  refine c_p En249 Hv250 (rexp_go _ 2 h2f (rmulOk h2f (leftOk h2f)) a (nd (nv (nd (nv (nd (nv (nd (mF 2)) + nv ([1, 0, 0, 0] : List UInt64))) / 2)) / 2)) ha (nds_len _ _)) fun ac255 wo252 En256 Hv257 => ?_
  refine ⟨fun _ => Hv257.pk [0, 5], ?_⟩
  refine q_t 6 ?_
  refine m_g 3 0 4 (u64s (nd (powM 2 (nv a) (nv (nd (nv (nd (nv (nd (nv (nd (mF 2)) + nv ([1, 0, 0, 0] : List UInt64))) / 2)) / 2)))))) (u64s (nd (powM 2 (nv a) (nv (nd (nv (nd (nv (nd (nv (nd (mF 2)) + nv ([1, 0, 0, 0] : List UInt64))) / 2)) / 2)))))) [.box bk1 (u64s a) 25, .box bk6 (u64s (List.replicate 4 0)) 25, .box bk22 (u64s (nd (mF 2))) 25, .box bk33 (u64s (nd (powM 2 (nv a) (nv (nd (nv (nd (nv (nd (nv (nd (mF 2)) + nv ([1, 0, 0, 0] : List UInt64))) / 2)) / 2)))))) 25, .box bk55 (u64s (nd (mulM 2 (nv a) (nv ([1, 0, 0, 0] : List UInt64))))) 25, .box bk81 (u64s (nd (nv (nd (mF 2)) + nv ([1, 0, 0, 0] : List UInt64)))) 25] En256 Hv257 rfl (u64s_lenh (nds_len _ _)) (by rw [(u64s_lenh (show List.length ([0, 0, 0, 0] : List UInt64) = 4 from rfl))]; decide) (u64s_one _) (store_whole (u64s_lenh (show List.length ([0, 0, 0, 0] : List UInt64) = 4 from rfl))) rfl fun ac258 wo259 En260 Hv261 => ?_
  refine ⟨fun _ => Hv261.pk [0, 5], ?_⟩
  exact h_e ⟨En260.sb, Hv261.pk [0, 1, 2, 3, 4, 5]⟩
 rintro ac262 wo263 ⟨En264, Hv265⟩
 refine block_normal ?_
 refine then_normal ?_
 refine wp_seq ?_
 rw [show (nd (powM 2 (nv a) (nv (nd (nv (nd (nv (nd (nv (nd (mF 2)) + nv ([1, 0, 0, 0] : List UInt64))) / 2)) / 2))))) = (nd (rs 2 (nv a))) from ((congrArg (fun e => nd (powM 2 (nv a) e)) (show _ = (mF 2 + 1) / 4 by decide +kernel)).trans (rs2 _))] at Hv265
 refine region_from ?_
 refine d_k [0,3,4,5,6,7,8,9,23,73] [] 1 En264 fun ac266 En267 => ?_
 refine f_o ?_
 refine m_a 3 0 4 (u64s (nd (rs 2 (nv a)))) En267 Hv265 rfl (load_whole (u64s_lenh (nds_len _ _))) (u64s_lenh (nds_len _ _)) fun ac268 En269 => ?_
 refine f_o ?_
 refine m_a 3 0 4 (u64s (nd (rs 2 (nv a)))) En269 Hv265 rfl (load_whole (u64s_lenh (nds_len _ _))) (u64s_lenh (nds_len _ _)) fun ac270 En271 => ?_
 refine f_o ?_
 refine c_p En271 Hv265 ((rmulOk h2f (leftOk h2f)) _ (nd (rs 2 (nv a))) (nd (rs 2 (nv a))) (nds_len _ _) (nds_len _ _)) fun ac276 wo273 En277 Hv278 => ?_
 refine f_o ?_
 refine m_z 25 (u64s (List.replicate 4 0)) En277 Hv278 fun ac280 wo281 bk279 En282 Hv283 => ?_
 refine f_o ?_
 refine m_g 6 0 4 (u64s (nd (mulM 2 (nv (nd (rs 2 (nv a)))) (nv (nd (rs 2 (nv a))))))) (u64s (nd (mulM 2 (nv (nd (rs 2 (nv a)))) (nv (nd (rs 2 (nv a))))))) [.box bk1 (u64s a) 25, .box bk6 (u64s (List.replicate 4 0)) 25, .box bk22 (u64s (nd (mF 2))) 25, .box bk33 (u64s (nd (rs 2 (nv a)))) 25, .box bk55 (u64s (nd (mulM 2 (nv a) (nv ([1, 0, 0, 0] : List UInt64))))) 25, .box bk81 (u64s (nd (nv (nd (mF 2)) + nv ([1, 0, 0, 0] : List UInt64)))) 25, .box bk279 (u64s (nd (mulM 2 (nv (nd (rs 2 (nv a)))) (nv (nd (rs 2 (nv a))))))) 25] En282 Hv283 rfl (u64s_lenh (nds_len _ _)) (by rw [(u64s_lenh (List.length_replicate))]; decide) (u64s_one _) (store_whole (u64s_lenh (List.length_replicate))) rfl fun ac284 wo285 En286 Hv287 => ?_
 refine f_e ?_
 refine then_normal ?_
 refine wp_seq ?_
 refine wp_seq ?_
 refine region_from ?_
 refine f_o ?_
 refine m_a 6 0 4 (u64s (nd (mulM 2 (nv (nd (rs 2 (nv a)))) (nv (nd (rs 2 (nv a))))))) En286 Hv287 rfl (load_whole (u64s_lenh (nds_len _ _))) (u64s_lenh (nds_len _ _)) fun ac288 En289 => ?_
 refine f_o ?_
 refine m_a 4 0 4 (u64s (nd (mulM 2 (nv a) (nv ([1, 0, 0, 0] : List UInt64))))) En289 Hv287 rfl (load_whole (u64s_lenh (nds_len _ _))) (u64s_lenh (nds_len _ _)) fun ac290 En291 => ?_
 refine f_o ?_
 refine q_v (x := eqOp .neq 25 (.tmp 77) (.tmp 78) (.agg (List.toArray (u64s (nd (mulM 2 (nv (nd (rs 2 (nv a)))) (nv (nd (rs 2 (nv a))))))))) (.agg (List.toArray (u64s (nd (mulM 2 (nv a) (nv ([1, 0, 0, 0] : List UInt64)))))))) (v := .bool (!((nd (mulM 2 (nv (nd (rs 2 (nv a)))) (nv (nd (rs 2 (nv a)))))) == (nd (mulM 2 (nv a) (nv ([1, 0, 0, 0] : List UInt64))))))) En291 (Go.Dbr.u64s_neop (a := (.tmp 77)) (b := (.tmp 78)) (e := 23) (m := 4) (by kernel_rfl) (by kernel_rfl) (by kernel_rfl) (by kernel_rfl) (by kernel_rfl) (nds_len _ _) (nds_len _ _) _) fun ac292 En293 => ?_
 refine f_e ?_
 refine then_normal ?_
 refine cond_at En293 (t := !((nd (mulM 2 (nv (nd (rs 2 (nv a)))) (nv (nd (rs 2 (nv a)))))) == (nd (mulM 2 (nv a) (nv ([1, 0, 0, 0] : List UInt64)))))) (by kernel_rfl) (fun hc294 => ?_) (fun hc294 => ?_)
 ·
  replace hc294 : ¬ ((nd (mulM 2 (nv (nd (rs 2 (nv a)))) (nv (nd (rs 2 (nv a)))))) = (nd (mulM 2 (nv a) (nv ([1, 0, 0, 0] : List UInt64))))) := by simpa using hc294
  refine wp_seq ?_
  refine region_from ?_
  refine d_k [0,3,4,5,6,7,8,9,15,23,80] [] 1 En293 fun ac295 En296 => ?_
  refine f_o ?_
  refine m_g 1 0 4 (u64s ([0, 0, 0, 0] : List UInt64)) (u64s ([0, 0, 0, 0] : List UInt64)) [.box bk1 (u64s a) 25, .box bk6 (u64s ([0, 0, 0, 0] : List UInt64)) 25, .box bk22 (u64s (nd (mF 2))) 25, .box bk33 (u64s (nd (rs 2 (nv a)))) 25, .box bk55 (u64s (nd (mulM 2 (nv a) (nv ([1, 0, 0, 0] : List UInt64))))) 25, .box bk81 (u64s (nd (nv (nd (mF 2)) + nv ([1, 0, 0, 0] : List UInt64)))) 25, .box bk279 (u64s (nd (mulM 2 (nv (nd (rs 2 (nv a)))) (nv (nd (rs 2 (nv a))))))) 25] En296 Hv287 rfl (u64s_lenh (show List.length ([0, 0, 0, 0] : List UInt64) = 4 from rfl)) (by rw [(u64s_lenh (List.length_replicate))]; decide) (u64s_one _) (store_whole (u64s_lenh (List.length_replicate))) rfl fun ac297 wo298 En299 Hv300 => ?_
  refine d_e [0,3,4,5,6,7,8,9,15,23] [] En299 fun ac301 En302 => ?_
  refine then_normal ?_
  refine wp_ret ?_
  refine then_ret ?_
  refine d_cell_tmp (v := .agg (List.toArray (u64s ([0, 0, 0, 0] : List UInt64)))) (x := .bool false) (t := 4) (T := 25) (ad := ⟨bk6, 0, none⟩) (u := 5) En302 (by kernel_rfl) (by kernel_rfl) (Ev.cellAgg (t := 25) (k := 1) (off := 0) (m := 4) (xs := u64s ([0, 0, 0, 0] : List UInt64)) Hv300 rfl (load_whole (u64s_lenh (show List.length ([0, 0, 0, 0] : List UInt64) = 4 from rfl))) (u64s_lenh (show List.length ([0, 0, 0, 0] : List UInt64) = 4 from rfl)) (by kernel_rfl) (by kernel_rfl)) (by kernel_rfl) ?_
  have eb := (root_no (f := 2) h2f (by assumption)).1
  have e : ([0, 0, 0, 0] : List UInt64) = nd (rootN 2 (nv a)) := root_z (root_no (f := 2) h2f (by assumption))
  rw [eb]
  exact ⟨congrArg (fun l : List UInt64 => Ending.returned (.tuple #[Value.agg (u64s l).toArray, .bool false])) e, Hv300.pk []⟩
 ·
  replace hc294 : (nd (mulM 2 (nv (nd (rs 2 (nv a)))) (nv (nd (rs 2 (nv a)))))) = (nd (mulM 2 (nv a) (nv ([1, 0, 0, 0] : List UInt64)))) := by simpa using hc294
  refine wp_skip ?_
  refine then_normal ?_
  refine wp_seq ?_
  refine wp_seq ?_
  refine region_from ?_
  refine d_k [0,3,4,5,6,7,8,9,15,23,81] [] 1 En293 fun ac303 En304 => ?_
  refine f_o ?_
  have hb305 : 0 < List.length (nd (rs 2 (nv a))) := by rw [(nds_len _ _)]; omega
  refine m_v 3 0 (uv64 (List.getD (nd (rs 2 (nv a))) 0 0)) En304 Hv287 rfl (u64s_getD hb305) fun ac306 En307 => ?_
  refine d_e [0,3,4,5,6,7,8,9,15,23,84] [(2, g_i .u64 (Go.Dbr.u64_and (x := List.getD (nd (rs 2 (nv a))) 0 0) (y := (1 : UInt64)) rfl rfl))] En307 fun ac308 En309 => ?_
  refine then_normal ?_
  refine c_e ((UInt64.toNat ((List.getD (nd (rs 2 (nv a))) 0 0) &&& (1 : UInt64)) : Nat) : Int) (1 : Int) En309 (fun hc310 => ?_) (fun hc310 => ?_)
  ·
   refine region_from ?_
   refine d_k [0,3,4,5,6,7,8,9,15,23,85] [] 1 En309 fun ac311 En312 => ?_
   refine f_o ?_
   refine m_a 3 0 4 (u64s (nd (rs 2 (nv a)))) En312 Hv287 rfl (load_whole (u64s_lenh (nds_len _ _))) (u64s_lenh (nds_len _ _)) fun ac313 En314 => ?_
   refine f_o ?_
   refine c_p En314 Hv287 (rneg_go _ 2 h2f (leftOk h2f) (nd (rs 2 (nv a))) (nds_len _ _)) fun ac319 wo316 En320 Hv321 => ?_
   refine f_o ?_
   refine m_g 3 0 4 (u64s (nd (subM 2 0 (nv (nd (rs 2 (nv a))))))) (u64s (nd (subM 2 0 (nv (nd (rs 2 (nv a))))))) [.box bk1 (u64s a) 25, .box bk6 (u64s (List.replicate 4 0)) 25, .box bk22 (u64s (nd (mF 2))) 25, .box bk33 (u64s (nd (subM 2 0 (nv (nd (rs 2 (nv a))))))) 25, .box bk55 (u64s (nd (mulM 2 (nv a) (nv ([1, 0, 0, 0] : List UInt64))))) 25, .box bk81 (u64s (nd (nv (nd (mF 2)) + nv ([1, 0, 0, 0] : List UInt64)))) 25, .box bk279 (u64s (nd (mulM 2 (nv (nd (rs 2 (nv a)))) (nv (nd (rs 2 (nv a))))))) 25] En320 Hv321 rfl (u64s_lenh (nds_len _ _)) (by rw [(u64s_lenh (nds_len _ _))]; decide) (u64s_one _) (store_whole (u64s_lenh (nds_len _ _))) rfl fun ac322 wo323 En324 Hv325 => ?_
   refine f_e ?_
   refine then_normal ?_
   refine wp_seq ?_
   refine region_from ?_
   refine f_o ?_
   refine m_a 3 0 4 (u64s (nd (subM 2 0 (nv (nd (rs 2 (nv a))))))) En324 Hv325 rfl (load_whole (u64s_lenh (nds_len _ _))) (u64s_lenh (nds_len _ _)) fun ac326 En327 => ?_
   refine f_o ?_
   refine m_g 1 0 4 (u64s (nd (subM 2 0 (nv (nd (rs 2 (nv a))))))) (u64s (nd (subM 2 0 (nv (nd (rs 2 (nv a))))))) [.box bk1 (u64s a) 25, .box bk6 (u64s (nd (subM 2 0 (nv (nd (rs 2 (nv a))))))) 25, .box bk22 (u64s (nd (mF 2))) 25, .box bk33 (u64s (nd (subM 2 0 (nv (nd (rs 2 (nv a))))))) 25, .box bk55 (u64s (nd (mulM 2 (nv a) (nv ([1, 0, 0, 0] : List UInt64))))) 25, .box bk81 (u64s (nd (nv (nd (mF 2)) + nv ([1, 0, 0, 0] : List UInt64)))) 25, .box bk279 (u64s (nd (mulM 2 (nv (nd (rs 2 (nv a)))) (nv (nd (rs 2 (nv a))))))) 25] En327 Hv325 rfl (u64s_lenh (nds_len _ _)) (by rw [(u64s_lenh (List.length_replicate))]; decide) (u64s_one _) (store_whole (u64s_lenh (List.length_replicate))) rfl fun ac328 wo329 En330 Hv331 => ?_
   refine d_e [0,3,4,5,6,7,8,9,15,23] [] En330 fun ac332 En333 => ?_
   refine then_normal ?_
   refine wp_ret ?_
   refine d_cell_tmp (v := .agg (List.toArray (u64s (nd (subM 2 0 (nv (nd (rs 2 (nv a))))))))) (x := .bool true) (t := 4) (T := 25) (ad := ⟨bk6, 0, none⟩) (u := 5) En333 (by kernel_rfl) (by kernel_rfl) (Ev.cellAgg (t := 25) (k := 1) (off := 0) (m := 4) (xs := u64s (nd (subM 2 0 (nv (nd (rs 2 (nv a))))))) Hv331 rfl (load_whole (u64s_lenh (nds_len _ _))) (u64s_lenh (nds_len _ _)) (by kernel_rfl) (by kernel_rfl)) (by kernel_rfl) ?_
   have eb := root_yes (f := 2) (A := nv a) (by decide) (by assumption)
   have e : nd (subM 2 0 (nv (nd (rs 2 (nv a))))) = nd (rootN 2 (nv a)) := by first | exact root_odd (by decide) (by assumption) (by assumption) | exact root_even (by decide) (by assumption) (by assumption)
   rw [eb]
   exact ⟨congrArg (fun l : List UInt64 => Ending.returned (.tuple #[Value.agg (u64s l).toArray, .bool true])) e, Hv331.pk []⟩
  ·
   refine wp_skip ?_
   refine then_normal ?_
   refine wp_seq ?_
   refine region_from ?_
   refine f_o ?_
   refine m_a 3 0 4 (u64s (nd (rs 2 (nv a)))) En309 Hv287 rfl (load_whole (u64s_lenh (nds_len _ _))) (u64s_lenh (nds_len _ _)) fun ac334 En335 => ?_
   refine f_o ?_
   refine m_g 1 0 4 (u64s (nd (rs 2 (nv a)))) (u64s (nd (rs 2 (nv a)))) [.box bk1 (u64s a) 25, .box bk6 (u64s (nd (rs 2 (nv a)))) 25, .box bk22 (u64s (nd (mF 2))) 25, .box bk33 (u64s (nd (rs 2 (nv a)))) 25, .box bk55 (u64s (nd (mulM 2 (nv a) (nv ([1, 0, 0, 0] : List UInt64))))) 25, .box bk81 (u64s (nd (nv (nd (mF 2)) + nv ([1, 0, 0, 0] : List UInt64)))) 25, .box bk279 (u64s (nd (mulM 2 (nv (nd (rs 2 (nv a)))) (nv (nd (rs 2 (nv a))))))) 25] En335 Hv287 rfl (u64s_lenh (nds_len _ _)) (by rw [(u64s_lenh (List.length_replicate))]; decide) (u64s_one _) (store_whole (u64s_lenh (List.length_replicate))) rfl fun ac336 wo337 En338 Hv339 => ?_
   refine d_e [0,3,4,5,6,7,8,9,15,23] [] En338 fun ac340 En341 => ?_
   refine then_normal ?_
   refine wp_ret ?_
   refine d_cell_tmp (v := .agg (List.toArray (u64s (nd (rs 2 (nv a)))))) (x := .bool true) (t := 4) (T := 25) (ad := ⟨bk6, 0, none⟩) (u := 5) En341 (by kernel_rfl) (by kernel_rfl) (Ev.cellAgg (t := 25) (k := 1) (off := 0) (m := 4) (xs := u64s (nd (rs 2 (nv a)))) Hv339 rfl (load_whole (u64s_lenh (nds_len _ _))) (u64s_lenh (nds_len _ _)) (by kernel_rfl) (by kernel_rfl)) (by kernel_rfl) ?_
   have eb := root_yes (f := 2) (A := nv a) (by decide) (by assumption)
   have e : nd (rs 2 (nv a)) = nd (rootN 2 (nv a)) := by first | exact root_odd (by decide) (by assumption) (by assumption) | exact root_even (by decide) (by assumption) (by assumption)
   rw [eb]
   exact ⟨congrArg (fun l : List UInt64 => Ending.returned (.tuple #[Value.agg (u64s l).toArray, .bool true])) e, Hv339.pk []⟩

theorem root_xok (w : World) (f : Int) (h12 : ¬ (f = 1 ∨ f = 2)) (hf : (f = 1 ∨ f = 2 ∨ f = 3 ∨ f = 4)) (a : List UInt64) (ha : List.length a = 4) : Calls Try.prog 15 #[.int .i64 f, .agg (List.toArray (u64s a))] w fun e w' => e = .returned (.tuple #[.agg (List.toArray (u64s (nd (rootN f (nv a))))), .bool (rootOk f (nv a))]) ∧ Ev w [] w' [] := by
 refine d_0 [(0, .int .i64 f), (1, .agg (List.toArray (u64s a)))] 82 Go.Proofs.Try.func15 Go.Proofs.Try.ntmps15 (Heap.nil _) fun act0 En0 Hv0 => ?_
 refine wp_seq ?_
 refine region_from ?_
 refine f_o ?_
 refine m_m 25 (u64s a) En0 Hv0 fun ac2 wo3 bk1 En4 Hv5 => ?_
 refine f_o ?_
 refine m_z 25 (u64s (List.replicate 4 0)) En4 Hv5 fun ac7 wo8 bk6 En9 Hv10 => ?_
 refine d_e [0,3,4,5] [] En9 fun ac11 En12 => ?_
 refine then_normal ?_
 refine wp_seq ?_
 refine region_from ?_
 refine d_k [0,3,4,5,13] [] 1 En12 fun ac13 En14 => ?_
 refine f_o ?_
 refine c_p En14 Hv10 (modulus_go _ f) fun ac19 wo16 En20 Hv21 => ?_
 refine f_o ?_
 refine m_z 25 (u64s (List.replicate 4 0)) En20 Hv21 fun ac23 wo24 bk22 En25 Hv26 => ?_
 refine f_o ?_
 refine m_g 2 0 4 (u64s (nd (mF f))) (u64s (nd (mF f))) [.box bk1 (u64s a) 25, .box bk6 (u64s (List.replicate 4 0)) 25, .box bk22 (u64s (nd (mF f))) 25] En25 Hv26 rfl (u64s_lenh (nds_len _ _)) (by rw [(u64s_lenh (List.length_replicate))]; decide) (u64s_one _) (store_whole (u64s_lenh (List.length_replicate))) rfl fun ac27 wo28 En29 Hv30 => ?_
 refine f_e ?_
 refine then_normal ?_
 refine wp_seq ?_
 refine region_from ?_
 refine d_k [0,3,4,5,6,15] [] 1 En29 fun ac31 En32 => ?_
 refine f_o ?_
 refine m_a 0 0 4 (u64s a) En32 Hv30 rfl (load_whole (u64s_lenh ha)) (u64s_lenh ha) fun ac33 En34 => ?_
 refine d_k [0,3,4,5,6,15,16,17] [] 3 En34 fun ac35 En36 => ?_
 refine f_o ?_
 refine c_p En36 Hv30 ((mulOk hf) _ a ([1, 0, 0, 0] : List UInt64) ha (show List.length ([1, 0, 0, 0] : List UInt64) = 4 from rfl)) fun ac41 wo38 En42 Hv43 => ?_
 refine f_o ?_
 refine m_z 25 (u64s (List.replicate 4 0)) En42 Hv43 fun ac45 wo46 bk44 En47 Hv48 => ?_
 refine f_o ?_
 refine m_g 3 0 4 (u64s (nd (mulM f (nv a) (nv ([1, 0, 0, 0] : List UInt64))))) (u64s (nd (mulM f (nv a) (nv ([1, 0, 0, 0] : List UInt64))))) [.box bk1 (u64s a) 25, .box bk6 (u64s (List.replicate 4 0)) 25, .box bk22 (u64s (nd (mF f))) 25, .box bk44 (u64s (nd (mulM f (nv a) (nv ([1, 0, 0, 0] : List UInt64))))) 25] En47 Hv48 rfl (u64s_lenh (nds_len _ _)) (by rw [(u64s_lenh (List.length_replicate))]; decide) (u64s_one _) (store_whole (u64s_lenh (List.length_replicate))) rfl fun ac49 wo50 En51 Hv52 => ?_
 refine f_e ?_
 refine then_normal ?_
 refine wp_seq ?_
 refine region_from ?_
 refine f_o ?_
 refine m_z 25 (u64s (List.replicate 4 0)) En51 Hv52 fun ac54 wo55 bk53 En56 Hv57 => ?_
 refine f_e ?_
 refine then_normal ?_
 refine wp_seq ?_
 refine d_s [0,3,4,5,6,7,8,19] [] En56 fun ac58 En59 => ?_
 refine wp_block ?_
 refine d_s [0,3,4,5,6,7,8,19,21] [] En59 fun ac60 En61 => ?_
 refine c_e f (2 : Int) En61 (fun hc62 => ?_) (fun hc62 => ?_)
 ·
  exact absurd hc62 (by omega)
 ·
  refine d_s [0,3,4,5,6,7,8,19,34] [] En61 fun ac63 En64 => ?_
  refine c_e f (1 : Int) En64 (fun hc65 => ?_) (fun hc65 => ?_)
  ·
   exact absurd hc65 (by omega)
  ·
   refine wp_seq ?_
   refine region_from ?_
   refine d_k [0,3,4,5,6,7,8,19,20] [] 1 En64 fun ac66 En67 => ?_
   refine f_o ?_
   refine m_g 1 0 4 (u64s ([0, 0, 0, 0] : List UInt64)) (u64s ([0, 0, 0, 0] : List UInt64)) [.box bk1 (u64s a) 25, .box bk6 (u64s ([0, 0, 0, 0] : List UInt64)) 25, .box bk22 (u64s (nd (mF f))) 25, .box bk44 (u64s (nd (mulM f (nv a) (nv ([1, 0, 0, 0] : List UInt64))))) 25, .box bk53 (u64s (List.replicate 4 0)) 25] En67 Hv57 rfl (u64s_lenh (show List.length ([0, 0, 0, 0] : List UInt64) = 4 from rfl)) (by rw [(u64s_lenh (List.length_replicate))]; decide) (u64s_one _) (store_whole (u64s_lenh (List.length_replicate))) rfl fun ac68 wo69 En70 Hv71 => ?_
   refine d_e [0,3,4,5,6,7,8,19] [] En70 fun ac72 En73 => ?_
   refine then_normal ?_
   refine wp_ret ?_
   refine block_ret ?_
   refine then_ret ?_
   refine d_cell_tmp (v := .agg (List.toArray (u64s ([0, 0, 0, 0] : List UInt64)))) (x := .bool false) (t := 4) (T := 25) (ad := ⟨bk6, 0, none⟩) (u := 5) En73 (by kernel_rfl) (by kernel_rfl) (Ev.cellAgg (t := 25) (k := 1) (off := 0) (m := 4) (xs := u64s ([0, 0, 0, 0] : List UInt64)) Hv71 rfl (load_whole (u64s_lenh (show List.length ([0, 0, 0, 0] : List UInt64) = 4 from rfl))) (u64s_lenh (show List.length ([0, 0, 0, 0] : List UInt64) = 4 from rfl)) (by kernel_rfl) (by kernel_rfl)) (by kernel_rfl) ?_
   have eb := root_none h12 (nv a)
   rw [eb.1, eb.2]
   exact ⟨by kernel_rfl, Hv71.pk []⟩

theorem root_xno (w : World) (f : Int) (h12 : ¬ (f = 1 ∨ f = 2)) (hf : ¬ (f = 1 ∨ f = 2 ∨ f = 3 ∨ f = 4)) (a : List UInt64) (ha : List.length a = 4) : Calls Try.prog 15 #[.int .i64 f, .agg (List.toArray (u64s a))] w fun e w' => e = .returned (.tuple #[.agg (List.toArray (u64s (nd (rootN f (nv a))))), .bool (rootOk f (nv a))]) ∧ Ev w [] w' [] := by
 refine d_0 [(0, .int .i64 f), (1, .agg (List.toArray (u64s a)))] 82 Go.Proofs.Try.func15 Go.Proofs.Try.ntmps15 (Heap.nil _) fun act0 En0 Hv0 => ?_
 refine wp_seq ?_
 refine region_from ?_
 refine f_o ?_
 refine m_m 25 (u64s a) En0 Hv0 fun ac2 wo3 bk1 En4 Hv5 => ?_
 refine f_o ?_
 refine m_z 25 (u64s (List.replicate 4 0)) En4 Hv5 fun ac7 wo8 bk6 En9 Hv10 => ?_
 refine d_e [0,3,4,5] [] En9 fun ac11 En12 => ?_
 refine then_normal ?_
 refine wp_seq ?_
 refine region_from ?_
 refine d_k [0,3,4,5,13] [] 1 En12 fun ac13 En14 => ?_
 refine f_o ?_
 refine c_p En14 Hv10 (modulus_go _ f) fun ac19 wo16 En20 Hv21 => ?_
 refine f_o ?_
 refine m_z 25 (u64s (List.replicate 4 0)) En20 Hv21 fun ac23 wo24 bk22 En25 Hv26 => ?_
 refine f_o ?_
 refine m_g 2 0 4 (u64s (nd (mF f))) (u64s (nd (mF f))) [.box bk1 (u64s a) 25, .box bk6 (u64s (List.replicate 4 0)) 25, .box bk22 (u64s (nd (mF f))) 25] En25 Hv26 rfl (u64s_lenh (nds_len _ _)) (by rw [(u64s_lenh (List.length_replicate))]; decide) (u64s_one _) (store_whole (u64s_lenh (List.length_replicate))) rfl fun ac27 wo28 En29 Hv30 => ?_
 refine f_e ?_
 refine then_normal ?_
 refine wp_seq ?_
 refine region_from ?_
 refine d_k [0,3,4,5,6,15] [] 1 En29 fun ac31 En32 => ?_
 refine f_o ?_
 refine m_a 0 0 4 (u64s a) En32 Hv30 rfl (load_whole (u64s_lenh ha)) (u64s_lenh ha) fun ac33 En34 => ?_
 refine d_k [0,3,4,5,6,15,16,17] [] 3 En34 fun ac35 En36 => ?_
 refine f_o ?_
 refine c_p En36 Hv30 (mul_no _ f hf a ([1, 0, 0, 0] : List UInt64) ha (show List.length ([1, 0, 0, 0] : List UInt64) = 4 from rfl)) fun ac41 wo38 En42 Hv43 => ?_
 refine f_o ?_
 refine m_z 25 (u64s (List.replicate 4 0)) En42 Hv43 fun ac45 wo46 bk44 En47 Hv48 => ?_
 refine f_o ?_
 refine m_g 3 0 4 (u64s (nd 0)) (u64s (nd 0)) [.box bk1 (u64s a) 25, .box bk6 (u64s (List.replicate 4 0)) 25, .box bk22 (u64s (nd (mF f))) 25, .box bk44 (u64s (nd 0)) 25] En47 Hv48 rfl (u64s_lenh (nds_len _ _)) (by rw [(u64s_lenh (List.length_replicate))]; decide) (u64s_one _) (store_whole (u64s_lenh (List.length_replicate))) rfl fun ac49 wo50 En51 Hv52 => ?_
 refine f_e ?_
 refine then_normal ?_
 refine wp_seq ?_
 refine region_from ?_
 refine f_o ?_
 refine m_z 25 (u64s (List.replicate 4 0)) En51 Hv52 fun ac54 wo55 bk53 En56 Hv57 => ?_
 refine f_e ?_
 refine then_normal ?_
 refine wp_seq ?_
 refine d_s [0,3,4,5,6,7,8,19] [] En56 fun ac58 En59 => ?_
 refine wp_block ?_
 refine d_s [0,3,4,5,6,7,8,19,21] [] En59 fun ac60 En61 => ?_
 refine c_e f (2 : Int) En61 (fun hc62 => ?_) (fun hc62 => ?_)
 ·
  exact absurd hc62 (by omega)
 ·
  refine d_s [0,3,4,5,6,7,8,19,34] [] En61 fun ac63 En64 => ?_
  refine c_e f (1 : Int) En64 (fun hc65 => ?_) (fun hc65 => ?_)
  ·
   exact absurd hc65 (by omega)
  ·
   refine wp_seq ?_
   refine region_from ?_
   refine d_k [0,3,4,5,6,7,8,19,20] [] 1 En64 fun ac66 En67 => ?_
   refine f_o ?_
   refine m_g 1 0 4 (u64s ([0, 0, 0, 0] : List UInt64)) (u64s ([0, 0, 0, 0] : List UInt64)) [.box bk1 (u64s a) 25, .box bk6 (u64s ([0, 0, 0, 0] : List UInt64)) 25, .box bk22 (u64s (nd (mF f))) 25, .box bk44 (u64s (nd 0)) 25, .box bk53 (u64s (List.replicate 4 0)) 25] En67 Hv57 rfl (u64s_lenh (show List.length ([0, 0, 0, 0] : List UInt64) = 4 from rfl)) (by rw [(u64s_lenh (List.length_replicate))]; decide) (u64s_one _) (store_whole (u64s_lenh (List.length_replicate))) rfl fun ac68 wo69 En70 Hv71 => ?_
   refine d_e [0,3,4,5,6,7,8,19] [] En70 fun ac72 En73 => ?_
   refine then_normal ?_
   refine wp_ret ?_
   refine block_ret ?_
   refine then_ret ?_
   refine d_cell_tmp (v := .agg (List.toArray (u64s ([0, 0, 0, 0] : List UInt64)))) (x := .bool false) (t := 4) (T := 25) (ad := ⟨bk6, 0, none⟩) (u := 5) En73 (by kernel_rfl) (by kernel_rfl) (Ev.cellAgg (t := 25) (k := 1) (off := 0) (m := 4) (xs := u64s ([0, 0, 0, 0] : List UInt64)) Hv71 rfl (load_whole (u64s_lenh (show List.length ([0, 0, 0, 0] : List UInt64) = 4 from rfl))) (u64s_lenh (show List.length ([0, 0, 0, 0] : List UInt64) = 4 from rfl)) (by kernel_rfl) (by kernel_rfl)) (by kernel_rfl) ?_
   have eb := root_none h12 (nv a)
   rw [eb.1, eb.2]
   exact ⟨by kernel_rfl, Hv71.pk []⟩

theorem root_go (w : World) (f : Int) (a : List UInt64) (ha : List.length a = 4) : Calls Try.prog 15 #[.int .i64 f, .agg (List.toArray (u64s a))] w fun e w' => e = .returned (.tuple #[.agg (List.toArray (u64s (nd (rootN f (nv a))))), .bool (rootOk f (nv a))]) ∧ Ev w [] w' [] := by
  by_cases h12 : f = 1 ∨ f = 2
  · rcases h12 with rfl | rfl
    · exact root1_go w a ha
    · exact root2_go w a ha
  · by_cases hf : f = 1 ∨ f = 2 ∨ f = 3 ∨ f = 4
    · exact root_xok w f h12 hf a ha
    · exact root_xno w f h12 hf a ha

theorem rroot_xok (w : World) (f : Int) (h12 : ¬ (f = 1 ∨ f = 2)) (hf : (f = 1 ∨ f = 2 ∨ f = 3 ∨ f = 4)) (a : List UInt64) (ha : List.length a = 4) : Calls Try.prog 16 #[.int .i64 f, .agg (List.toArray (u64s a))] w fun e w' => e = .returned (.tuple #[.agg (List.toArray (u64s (nd (rootN f (nv a))))), .bool (rootOk f (nv a))]) ∧ Ev w [] w' [] := by
 refine d_0 [(0, .int .i64 f), (1, .agg (List.toArray (u64s a)))] 89 Go.Proofs.Try.func16 Go.Proofs.Try.ntmps16 (Heap.nil _) fun act0 En0 Hv0 => ?_
 refine wp_seq ?_
 refine region_from ?_
 refine f_o ?_
 refine m_m 25 (u64s a) En0 Hv0 fun ac2 wo3 bk1 En4 Hv5 => ?_
 refine f_o ?_
 refine m_z 25 (u64s (List.replicate 4 0)) En4 Hv5 fun ac7 wo8 bk6 En9 Hv10 => ?_
 refine d_e [0,3,4,5] [] En9 fun ac11 En12 => ?_
 refine then_normal ?_
 refine wp_seq ?_
 refine region_from ?_
 refine d_k [0,3,4,5,16] [] 1 En12 fun ac13 En14 => ?_
 refine f_o ?_
 refine c_p En14 Hv10 (rmodulus_go _ f) fun ac19 wo16 En20 Hv21 => ?_
 refine f_o ?_
 refine m_z 25 (u64s (List.replicate 4 0)) En20 Hv21 fun ac23 wo24 bk22 En25 Hv26 => ?_
 refine f_o ?_
 refine m_g 2 0 4 (u64s (nd (mF f))) (u64s (nd (mF f))) [.box bk1 (u64s a) 25, .box bk6 (u64s (List.replicate 4 0)) 25, .box bk22 (u64s (nd (mF f))) 25] En25 Hv26 rfl (u64s_lenh (nds_len _ _)) (by rw [(u64s_lenh (List.length_replicate))]; decide) (u64s_one _) (store_whole (u64s_lenh (List.length_replicate))) rfl fun ac27 wo28 En29 Hv30 => ?_
 refine f_e ?_
 refine then_normal ?_
 refine wp_seq ?_
 refine region_from ?_
 refine d_k [0,3,4,5,6,18] [] 1 En29 fun ac31 En32 => ?_
 refine f_o ?_
 refine m_z 25 (u64s (List.replicate 4 0)) En32 Hv30 fun ac34 wo35 bk33 En36 Hv37 => ?_
 refine f_o ?_
 refine m_g 3 0 4 (u64s ([0, 0, 0, 0] : List UInt64)) (u64s ([0, 0, 0, 0] : List UInt64)) [.box bk1 (u64s a) 25, .box bk6 (u64s (List.replicate 4 0)) 25, .box bk22 (u64s (nd (mF f))) 25, .box bk33 (u64s ([0, 0, 0, 0] : List UInt64)) 25] En36 Hv37 rfl (u64s_lenh (show List.length ([0, 0, 0, 0] : List UInt64) = 4 from rfl)) (by rw [(u64s_lenh (List.length_replicate))]; decide) (u64s_one _) (store_whole (u64s_lenh (List.length_replicate))) rfl fun ac38 wo39 En40 Hv41 => ?_
 refine f_e ?_
 refine then_normal ?_
 refine wp_seq ?_
 refine region_from ?_
 refine d_k [0,3,4,5,6,7,19] [] 1 En40 fun ac42 En43 => ?_
 refine f_o ?_
 refine m_a 0 0 4 (u64s a) En43 Hv41 rfl (load_whole (u64s_lenh ha)) (u64s_lenh ha) fun ac44 En45 => ?_
 refine d_k [0,3,4,5,6,7,19,20,21] [] 3 En45 fun ac46 En47 => ?_
 refine f_o ?_
 refine c_p En47 Hv41 ((rmulOk hf (leftOk hf)) _ a ([1, 0, 0, 0] : List UInt64) ha (show List.length ([1, 0, 0, 0] : List UInt64) = 4 from rfl)) fun ac52 wo49 En53 Hv54 => ?_
 refine f_o ?_
 refine m_z 25 (u64s (List.replicate 4 0)) En53 Hv54 fun ac56 wo57 bk55 En58 Hv59 => ?_
 refine f_o ?_
 refine m_g 4 0 4 (u64s (nd (mulM f (nv a) (nv ([1, 0, 0, 0] : List UInt64))))) (u64s (nd (mulM f (nv a) (nv ([1, 0, 0, 0] : List UInt64))))) [.box bk1 (u64s a) 25, .box bk6 (u64s (List.replicate 4 0)) 25, .box bk22 (u64s (nd (mF f))) 25, .box bk33 (u64s ([0, 0, 0, 0] : List UInt64)) 25, .box bk55 (u64s (nd (mulM f (nv a) (nv ([1, 0, 0, 0] : List UInt64))))) 25] En58 Hv59 rfl (u64s_lenh (nds_len _ _)) (by rw [(u64s_lenh (List.length_replicate))]; decide) (u64s_one _) (store_whole (u64s_lenh (List.length_replicate))) rfl fun ac60 wo61 En62 Hv63 => ?_
 refine f_e ?_
 refine then_normal ?_
 refine wp_seq ?_
 refine d_s [0,3,4,5,6,7,8,23] [] En62 fun ac64 En65 => ?_
 refine wp_block ?_
 refine d_s [0,3,4,5,6,7,8,23,25] [] En65 fun ac66 En67 => ?_
 refine c_e f (2 : Int) En67 (fun hc68 => ?_) (fun hc68 => ?_)
 ·
  exact absurd hc68 (by omega)
 ·
  refine d_s [0,3,4,5,6,7,8,23,39] [] En67 fun ac69 En70 => ?_
  refine c_e f (1 : Int) En70 (fun hc71 => ?_) (fun hc71 => ?_)
  ·
   exact absurd hc71 (by omega)
  ·
   refine wp_seq ?_
   refine region_from ?_
   refine d_k [0,3,4,5,6,7,8,23,24] [] 1 En70 fun ac72 En73 => ?_
   refine f_o ?_
   refine m_g 1 0 4 (u64s ([0, 0, 0, 0] : List UInt64)) (u64s ([0, 0, 0, 0] : List UInt64)) [.box bk1 (u64s a) 25, .box bk6 (u64s ([0, 0, 0, 0] : List UInt64)) 25, .box bk22 (u64s (nd (mF f))) 25, .box bk33 (u64s ([0, 0, 0, 0] : List UInt64)) 25, .box bk55 (u64s (nd (mulM f (nv a) (nv ([1, 0, 0, 0] : List UInt64))))) 25] En73 Hv63 rfl (u64s_lenh (show List.length ([0, 0, 0, 0] : List UInt64) = 4 from rfl)) (by rw [(u64s_lenh (List.length_replicate))]; decide) (u64s_one _) (store_whole (u64s_lenh (List.length_replicate))) rfl fun ac74 wo75 En76 Hv77 => ?_
   refine d_e [0,3,4,5,6,7,8,23] [] En76 fun ac78 En79 => ?_
   refine then_normal ?_
   refine wp_ret ?_
   refine block_ret ?_
   refine then_ret ?_
   refine d_cell_tmp (v := .agg (List.toArray (u64s ([0, 0, 0, 0] : List UInt64)))) (x := .bool false) (t := 4) (T := 25) (ad := ⟨bk6, 0, none⟩) (u := 5) En79 (by kernel_rfl) (by kernel_rfl) (Ev.cellAgg (t := 25) (k := 1) (off := 0) (m := 4) (xs := u64s ([0, 0, 0, 0] : List UInt64)) Hv77 rfl (load_whole (u64s_lenh (show List.length ([0, 0, 0, 0] : List UInt64) = 4 from rfl))) (u64s_lenh (show List.length ([0, 0, 0, 0] : List UInt64) = 4 from rfl)) (by kernel_rfl) (by kernel_rfl)) (by kernel_rfl) ?_
   have eb := root_none h12 (nv a)
   rw [eb.1, eb.2]
   exact ⟨by kernel_rfl, Hv77.pk []⟩

theorem rroot_xno (w : World) (f : Int) (h12 : ¬ (f = 1 ∨ f = 2)) (hf : ¬ (f = 1 ∨ f = 2 ∨ f = 3 ∨ f = 4)) (a : List UInt64) (ha : List.length a = 4) : Calls Try.prog 16 #[.int .i64 f, .agg (List.toArray (u64s a))] w fun e w' => e = .returned (.tuple #[.agg (List.toArray (u64s (nd (rootN f (nv a))))), .bool (rootOk f (nv a))]) ∧ Ev w [] w' [] := by
 refine d_0 [(0, .int .i64 f), (1, .agg (List.toArray (u64s a)))] 89 Go.Proofs.Try.func16 Go.Proofs.Try.ntmps16 (Heap.nil _) fun act0 En0 Hv0 => ?_
 refine wp_seq ?_
 refine region_from ?_
 refine f_o ?_
 refine m_m 25 (u64s a) En0 Hv0 fun ac2 wo3 bk1 En4 Hv5 => ?_
 refine f_o ?_
 refine m_z 25 (u64s (List.replicate 4 0)) En4 Hv5 fun ac7 wo8 bk6 En9 Hv10 => ?_
 refine d_e [0,3,4,5] [] En9 fun ac11 En12 => ?_
 refine then_normal ?_
 refine wp_seq ?_
 refine region_from ?_
 refine d_k [0,3,4,5,16] [] 1 En12 fun ac13 En14 => ?_
 refine f_o ?_
 refine c_p En14 Hv10 (rmodulus_go _ f) fun ac19 wo16 En20 Hv21 => ?_
 refine f_o ?_
 refine m_z 25 (u64s (List.replicate 4 0)) En20 Hv21 fun ac23 wo24 bk22 En25 Hv26 => ?_
 refine f_o ?_
 refine m_g 2 0 4 (u64s (nd (mF f))) (u64s (nd (mF f))) [.box bk1 (u64s a) 25, .box bk6 (u64s (List.replicate 4 0)) 25, .box bk22 (u64s (nd (mF f))) 25] En25 Hv26 rfl (u64s_lenh (nds_len _ _)) (by rw [(u64s_lenh (List.length_replicate))]; decide) (u64s_one _) (store_whole (u64s_lenh (List.length_replicate))) rfl fun ac27 wo28 En29 Hv30 => ?_
 refine f_e ?_
 refine then_normal ?_
 refine wp_seq ?_
 refine region_from ?_
 refine d_k [0,3,4,5,6,18] [] 1 En29 fun ac31 En32 => ?_
 refine f_o ?_
 refine m_z 25 (u64s (List.replicate 4 0)) En32 Hv30 fun ac34 wo35 bk33 En36 Hv37 => ?_
 refine f_o ?_
 refine m_g 3 0 4 (u64s ([0, 0, 0, 0] : List UInt64)) (u64s ([0, 0, 0, 0] : List UInt64)) [.box bk1 (u64s a) 25, .box bk6 (u64s (List.replicate 4 0)) 25, .box bk22 (u64s (nd (mF f))) 25, .box bk33 (u64s ([0, 0, 0, 0] : List UInt64)) 25] En36 Hv37 rfl (u64s_lenh (show List.length ([0, 0, 0, 0] : List UInt64) = 4 from rfl)) (by rw [(u64s_lenh (List.length_replicate))]; decide) (u64s_one _) (store_whole (u64s_lenh (List.length_replicate))) rfl fun ac38 wo39 En40 Hv41 => ?_
 refine f_e ?_
 refine then_normal ?_
 refine wp_seq ?_
 refine region_from ?_
 refine d_k [0,3,4,5,6,7,19] [] 1 En40 fun ac42 En43 => ?_
 refine f_o ?_
 refine m_a 0 0 4 (u64s a) En43 Hv41 rfl (load_whole (u64s_lenh ha)) (u64s_lenh ha) fun ac44 En45 => ?_
 refine d_k [0,3,4,5,6,7,19,20,21] [] 3 En45 fun ac46 En47 => ?_
 refine f_o ?_
 refine c_p En47 Hv41 (rmul_no _ f hf a ([1, 0, 0, 0] : List UInt64) ha (show List.length ([1, 0, 0, 0] : List UInt64) = 4 from rfl)) fun ac52 wo49 En53 Hv54 => ?_
 refine f_o ?_
 refine m_z 25 (u64s (List.replicate 4 0)) En53 Hv54 fun ac56 wo57 bk55 En58 Hv59 => ?_
 refine f_o ?_
 refine m_g 4 0 4 (u64s (nd 0)) (u64s (nd 0)) [.box bk1 (u64s a) 25, .box bk6 (u64s (List.replicate 4 0)) 25, .box bk22 (u64s (nd (mF f))) 25, .box bk33 (u64s ([0, 0, 0, 0] : List UInt64)) 25, .box bk55 (u64s (nd 0)) 25] En58 Hv59 rfl (u64s_lenh (nds_len _ _)) (by rw [(u64s_lenh (List.length_replicate))]; decide) (u64s_one _) (store_whole (u64s_lenh (List.length_replicate))) rfl fun ac60 wo61 En62 Hv63 => ?_
 refine f_e ?_
 refine then_normal ?_
 refine wp_seq ?_
 refine d_s [0,3,4,5,6,7,8,23] [] En62 fun ac64 En65 => ?_
 refine wp_block ?_
 refine d_s [0,3,4,5,6,7,8,23,25] [] En65 fun ac66 En67 => ?_
 refine c_e f (2 : Int) En67 (fun hc68 => ?_) (fun hc68 => ?_)
 ·
  exact absurd hc68 (by omega)
 ·
  refine d_s [0,3,4,5,6,7,8,23,39] [] En67 fun ac69 En70 => ?_
  refine c_e f (1 : Int) En70 (fun hc71 => ?_) (fun hc71 => ?_)
  ·
   exact absurd hc71 (by omega)
  ·
   refine wp_seq ?_
   refine region_from ?_
   refine d_k [0,3,4,5,6,7,8,23,24] [] 1 En70 fun ac72 En73 => ?_
   refine f_o ?_
   refine m_g 1 0 4 (u64s ([0, 0, 0, 0] : List UInt64)) (u64s ([0, 0, 0, 0] : List UInt64)) [.box bk1 (u64s a) 25, .box bk6 (u64s ([0, 0, 0, 0] : List UInt64)) 25, .box bk22 (u64s (nd (mF f))) 25, .box bk33 (u64s ([0, 0, 0, 0] : List UInt64)) 25, .box bk55 (u64s (nd 0)) 25] En73 Hv63 rfl (u64s_lenh (show List.length ([0, 0, 0, 0] : List UInt64) = 4 from rfl)) (by rw [(u64s_lenh (List.length_replicate))]; decide) (u64s_one _) (store_whole (u64s_lenh (List.length_replicate))) rfl fun ac74 wo75 En76 Hv77 => ?_
   refine d_e [0,3,4,5,6,7,8,23] [] En76 fun ac78 En79 => ?_
   refine then_normal ?_
   refine wp_ret ?_
   refine block_ret ?_
   refine then_ret ?_
   refine d_cell_tmp (v := .agg (List.toArray (u64s ([0, 0, 0, 0] : List UInt64)))) (x := .bool false) (t := 4) (T := 25) (ad := ⟨bk6, 0, none⟩) (u := 5) En79 (by kernel_rfl) (by kernel_rfl) (Ev.cellAgg (t := 25) (k := 1) (off := 0) (m := 4) (xs := u64s ([0, 0, 0, 0] : List UInt64)) Hv77 rfl (load_whole (u64s_lenh (show List.length ([0, 0, 0, 0] : List UInt64) = 4 from rfl))) (u64s_lenh (show List.length ([0, 0, 0, 0] : List UInt64) = 4 from rfl)) (by kernel_rfl) (by kernel_rfl)) (by kernel_rfl) ?_
   have eb := root_none h12 (nv a)
   rw [eb.1, eb.2]
   exact ⟨by kernel_rfl, Hv77.pk []⟩

theorem rroot_go (w : World) (f : Int) (a : List UInt64) (ha : List.length a = 4) : Calls Try.prog 16 #[.int .i64 f, .agg (List.toArray (u64s a))] w fun e w' => e = .returned (.tuple #[.agg (List.toArray (u64s (nd (rootN f (nv a))))), .bool (rootOk f (nv a))]) ∧ Ev w [] w' [] := by
  by_cases h12 : f = 1 ∨ f = 2
  · rcases h12 with rfl | rfl
    · exact rroot1_go w a ha
    · exact rroot2_go w a ha
  · by_cases hf : f = 1 ∨ f = 2 ∨ f = 3 ∨ f = 4
    · exact rroot_xok w f h12 hf a ha
    · exact rroot_xno w f h12 hf a ha

end Go.Proofs.Ytamdjonejijndaa
