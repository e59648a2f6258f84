/- FieldPowers, walked. -/
import Derived.Test.YtamdjonejijndaaF18
namespace Go.Proofs.Ytamdjonejijndaa
open Go.Dbr
set_option maxRecDepth 100000
set_option maxHeartbeats 2000000
set_option linter.unusedVariables false
set_option linter.unusedSimpArgs false

theorem powers_ok (f : Int) (a : List UInt64) (e : List UInt64) (w : World) (b_f : (-9223372036854775808 ≤ f ∧ f ≤ 9223372036854775807)) (n_a : (List.length a = 4)) (n_e : (List.length e = 4)) (hf : (f = 1 ∨ f = 2 ∨ f = 3 ∨ f = 4)) : Calls Try.prog 3 #[.int .i64 f, .agg (List.toArray (u64s a)), .agg (List.toArray (u64s e))] w fun e w' => e = .returned (.bool true) ∧ Ev w [] w' [] := by
 refine d_0 [(0, .int .i64 f), (1, .agg (List.toArray (u64s a))), (2, .agg (List.toArray (u64s e)))] 37 Go.Proofs.Try.func3 Go.Proofs.Try.ntmps3 (Heap.nil _) fun act0 En0 Hv0 => ?_
 refine wp_seq ?_
 refine region_from ?_
 refine f_o ?_
 refine m_m 25 (u64s a) En0 Hv0 fun ac2 wo3 bk1 En4 Hv5 => ?_
 refine f_o ?_
 refine m_m 25 (u64s e) En4 Hv5 fun ac7 wo8 bk6 En9 Hv10 => ?_
 refine d_e [0,4,5,6] [] En9 fun ac11 En12 => ?_
 refine then_normal ?_
 refine wp_seq ?_
 refine region_from ?_
 refine f_o ?_
 refine c_p En12 Hv10 (head_ok _) fun ac17 wo14 En18 Hv19 => ?_
 refine d_e [0,4,5,6,7] [] En18 fun ac20 En21 => ?_
 refine then_normal ?_
 refine wp_seq ?_
 refine r_c (fun ac wo => Env ac 37 [(0, .int .i64 f), (4, pt bk1), (6, .bool false), (7, .bool true), (8, .bool true)] ∧ Ev w [] wo [.box bk1 (u64s a) 25]) ?_ ?_
 ·
  refine h_s (fun wv => Ev w [] wv [.box bk1 (u64s a) 25, .box bk6 (u64s e) 25]) [] 10 ?_
  have wo22 := Hv19.trans (Ev.drew Hv19.heap)
  refine q_s [0] [] 9 En21 (wo22.pk [0, 1]) fun ac224 En225 => ?_
  refine q_r 1 (s := Instr.loadAt 25 (pt bk1)) (v := .agg (List.toArray (u64s a))) En225 (fun w hS => run_loadAgg2 (m := 4) (cs := u64s a) (u64s_lenh n_a) (by kernel_rfl) (by kernel_rfl) (hS.heap.cells (k := 0) (off := 0) (m := 4) rfl (load_whole (u64s_lenh n_a)))) (wo22.pk [0, 1]) fun ac226 En227 => ?_
  refine q_r 2 (s := Instr.loadAt 25 (pt bk6)) (v := .agg (List.toArray (u64s e))) En227 (fun w hS => run_loadAgg2 (m := 4) (cs := u64s e) (u64s_lenh n_e) (by kernel_rfl) (by kernel_rfl) (hS.heap.cells (k := 1) (off := 0) (m := 4) rfl (load_whole (u64s_lenh n_e)))) (wo22.pk [0, 1]) fun ac228 En229 => ?_
  refine q_s [4] [] 6 En229 (wo22.pk [0, 1]) fun ac230 En231 => ?_
  refine q_r 5 (s := Instr.loadAt 25 (pt bk1)) (v := .agg (List.toArray (u64s a))) En231 (fun w hS => run_loadAgg2 (m := 4) (cs := u64s a) (u64s_lenh n_a) (by kernel_rfl) (by kernel_rfl) (hS.heap.cells (k := 0) (off := 0) (m := 4) rfl (load_whole (u64s_lenh n_a)))) (wo22.pk [0, 1]) fun ac232 En233 => ?_
  refine q_r 6 (s := Instr.loadAt 25 (pt bk6)) (v := .agg (List.toArray (u64s e))) En233 (fun w hS => run_loadAgg2 (m := 4) (cs := u64s e) (u64s_lenh n_e) (by kernel_rfl) (by kernel_rfl) (hS.heap.cells (k := 1) (off := 0) (m := 4) rfl (load_whole (u64s_lenh n_e)))) (wo22.pk [0, 1]) fun ac234 En235 => ?_
  refine q_t 3 ?_
  refine c_p En235 wo22 (exp_go _ f hf (mulOk hf) a e n_a n_e) fun ac240 wo237 En241 Hv242 => ?_
  refine ⟨fun _ => Hv242.pk [0, 1], ?_⟩
  refine q_t 7 ?_
  refine c_p En241 Hv242 (rexp_go _ f hf (rmulOk hf (leftOk hf)) a e n_a n_e) fun ac247 wo244 En248 Hv249 => ?_
  refine ⟨fun _ => Hv249.pk [0, 1], ?_⟩
  refine q_f 8 (s := eqOp .eql 25 (.tmp 14) (.tmp 18) (.agg (List.toArray (u64s (nd (powM f (nv a) (nv e)))))) (.agg (List.toArray (u64s (nd (powM f (nv a) (nv e))))))) (v := .bool true) En248 (fun _ => Go.Dbr.run_is (fun w => Go.Dbr.u64s_eqop (a := (.tmp 14)) (b := (.tmp 18)) (e := 23) (m := 4) (by kernel_rfl) (by kernel_rfl) (by kernel_rfl) (by kernel_rfl) (by kernel_rfl) (nds_len _ _) (nds_len _ _) w) (by first | exact beq_self_eq_true _ | rfl) _) (fun _ => Hv249.pk [0, 1]) fun ac250 En251 => ?_
  refine q_s [9] [] 0 En251 (Hv249.pk [0, 1]) fun ac252 En253 => ?_
  exact h_e ⟨En253.sb, Hv249.pk [0]⟩
 rintro ac254 wo255 ⟨En256, Hv257⟩
 refine then_normal ?_
 refine wp_seq ?_
 refine region_from ?_
 refine d_k [0,4,6,7,8,20] [] 1 En256 fun ac258 En259 => ?_
 refine f_o ?_
 refine m_z 25 (u64s (List.replicate 4 0)) En259 Hv257 fun ac261 wo262 bk260 En263 Hv264 => ?_
 refine f_o ?_
 refine m_g 1 0 4 (u64s ([0, 0, 0, 0] : List UInt64)) (u64s ([0, 0, 0, 0] : List UInt64)) [.box bk1 (u64s a) 25, .box bk260 (u64s ([0, 0, 0, 0] : List UInt64)) 25] En263 Hv264 rfl (u64s_lenh (show List.length ([0, 0, 0, 0] : List UInt64) = 4 from rfl)) (by rw [(u64s_lenh (List.length_replicate))]; decide) (u64s_one _) (store_whole (u64s_lenh (List.length_replicate))) rfl fun ac265 wo266 En267 Hv268 => ?_
 refine f_e ?_
 refine then_normal ?_
 refine wp_seq ?_
 refine wp_seq ?_
 refine region_from ?_
 refine d_k [0,4,6,7,8,9,21] [] 1 En267 fun ac269 En270 => ?_
 refine f_o ?_
 refine c_p En270 Hv268 (ris_go_yes _ f hf) fun ac275 wo272 En276 Hv277 => ?_
 refine f_e ?_
 refine then_normal ?_
 refine c_t En276 ?_
 refine region_from ?_
 refine d_k [0,4,6,7,8,9,23] [] 1 En276 fun ac278 En279 => ?_
 refine f_o ?_
 refine m_a 0 0 4 (u64s a) En279 Hv277 rfl (load_whole (u64s_lenh n_a)) (u64s_lenh n_a) fun ac280 En281 => ?_
 refine f_o ?_
 refine c_p En281 Hv277 (rinv_go _ f hf (rmulOk hf (leftOk hf)) a n_a) fun ac286 wo283 En287 Hv288 => ?_
 refine f_o ?_
 refine m_g 1 0 4 (u64s (nd (powM f (nv a) (mF f - 2)))) (u64s (nd (powM f (nv a) (mF f - 2)))) [.box bk1 (u64s a) 25, .box bk260 (u64s (nd (powM f (nv a) (mF f - 2)))) 25] En287 Hv288 rfl (u64s_lenh (nds_len _ _)) (by rw [(u64s_lenh (show List.length ([0, 0, 0, 0] : List UInt64) = 4 from rfl))]; decide) (u64s_one _) (store_whole (u64s_lenh (show List.length ([0, 0, 0, 0] : List UInt64) = 4 from rfl))) rfl fun ac289 wo290 En291 Hv292 => ?_
 refine f_e ?_
 refine then_normal ?_
 refine wp_seq ?_
 refine r_c (fun ac wo => Env ac 37 [(0, .int .i64 f), (4, pt bk1), (6, .bool true), (9, pt bk260)] ∧ Ev w [] wo [.box bk1 (u64s a) 25, .box bk260 (u64s (nd (powM f (nv a) (mF f - 2)))) 25]) ?_ ?_
 ·
  refine h_s (fun wv => Ev w [] wv [.box bk1 (u64s a) 25, .box bk260 (u64s (nd (powM f (nv a) (mF f - 2)))) 25]) [] 12 ?_
  have wo293 := Hv292.trans (Ev.drew Hv292.heap)
  refine q_s [0,1,2,3,4,5] [] 6 En291 (wo293.pk [0, 1]) fun ac356 En357 => ?_
  refine q_r 6 (s := Instr.loadAt 25 (pt bk1)) (v := .agg (List.toArray (u64s a))) En357 (fun w hS => run_loadAgg2 (m := 4) (cs := u64s a) (u64s_lenh n_a) (by kernel_rfl) (by kernel_rfl) (hS.heap.cells (k := 0) (off := 0) (m := 4) rfl (load_whole (u64s_lenh n_a)))) (wo293.pk [0, 1]) fun ac358 En359 => ?_
  refine q_r 8 (s := Instr.loadAt 25 (pt bk260)) (v := .agg (List.toArray (u64s (nd (powM f (nv a) (mF f - 2)))))) En359 (fun w hS => run_loadAgg2 (m := 4) (cs := u64s (nd (powM f (nv a) (mF f - 2)))) (u64s_lenh (nds_len _ _)) (by kernel_rfl) (by kernel_rfl) (hS.heap.cells (k := 1) (off := 0) (m := 4) rfl (load_whole (u64s_lenh (nds_len _ _))))) (wo293.pk [0, 1]) fun ac360 En361 => ?_
  refine q_t 7 ?_
  refine c_p En361 wo293 (inv_go _ f hf (mulOk hf) a n_a) fun ac366 wo363 En367 Hv368 => ?_
  refine ⟨fun _ => Hv368.pk [0, 1], ?_⟩
  refine q_f 9 (s := eqOp .eql 25 (.tmp 33) (.tmp 34) (.agg (List.toArray (u64s (nd (powM f (nv a) (mF f - 2)))))) (.agg (List.toArray (u64s (nd (powM f (nv a) (mF f - 2))))))) (v := .bool true) En367 (fun _ => Go.Dbr.run_is (fun w => Go.Dbr.u64s_eqop (a := (.tmp 33)) (b := (.tmp 34)) (e := 23) (m := 4) (by kernel_rfl) (by kernel_rfl) (by kernel_rfl) (by kernel_rfl) (by kernel_rfl) (nds_len _ _) (nds_len _ _) w) (by first | exact beq_self_eq_true _ | rfl) _) (fun _ => Hv368.pk [0, 1]) fun ac369 En370 => ?_
  refine q_s [10,11] [] 0 En370 (Hv368.pk [0, 1]) fun ac371 En372 => ?_
  exact h_e ⟨En372.sb, Hv368.pk [0, 1]⟩
 rintro ac373 wo374 ⟨En375, Hv376⟩
 refine then_normal ?_
 refine wp_ret ?_
 refine d_ret1 (t := 6) (v := .bool true) En375 (by kernel_rfl) (by kernel_rfl) ?_
 exact ⟨rfl, Hv376.pk []⟩

theorem powers_no (f : Int) (a : List UInt64) (e : List UInt64) (w : World) (b_f : (-9223372036854775808 ≤ f ∧ f ≤ 9223372036854775807)) (n_a : (List.length a = 4)) (n_e : (List.length e = 4)) (hf : ¬ (f = 1 ∨ f = 2 ∨ f = 3 ∨ f = 4)) : Calls Try.prog 3 #[.int .i64 f, .agg (List.toArray (u64s a)), .agg (List.toArray (u64s e))] w fun e w' => e = .returned (.bool true) ∧ Ev w [] w' [] := by
 refine d_0 [(0, .int .i64 f), (1, .agg (List.toArray (u64s a))), (2, .agg (List.toArray (u64s e)))] 37 Go.Proofs.Try.func3 Go.Proofs.Try.ntmps3 (Heap.nil _) fun act0 En0 Hv0 => ?_
 refine wp_seq ?_
 refine region_from ?_
 refine f_o ?_
 refine m_m 25 (u64s a) En0 Hv0 fun ac2 wo3 bk1 En4 Hv5 => ?_
 refine f_o ?_
 refine m_m 25 (u64s e) En4 Hv5 fun ac7 wo8 bk6 En9 Hv10 => ?_
 refine d_e [0,4,5,6] [] En9 fun ac11 En12 => ?_
 refine then_normal ?_
 refine wp_seq ?_
 refine region_from ?_
 refine f_o ?_
 refine c_p En12 Hv10 (head_ok _) fun ac17 wo14 En18 Hv19 => ?_
 refine d_e [0,4,5,6,7] [] En18 fun ac20 En21 => ?_
 refine then_normal ?_
 refine wp_seq ?_
 refine r_c (fun ac wo => Env ac 37 [(0, .int .i64 f), (4, pt bk1), (6, .bool false), (7, .bool true), (8, .bool true)] ∧ Ev w [] wo [.box bk1 (u64s a) 25]) ?_ ?_
 ·
  refine h_s (fun wv => Ev w [] wv [.box bk1 (u64s a) 25, .box bk6 (u64s e) 25]) [] 10 ?_
  have wo22 := Hv19.trans (Ev.drew Hv19.heap)
  refine q_s [0] [] 9 En21 (wo22.pk [0, 1]) fun ac224 En225 => ?_
  refine q_r 1 (s := Instr.loadAt 25 (pt bk1)) (v := .agg (List.toArray (u64s a))) En225 (fun w hS => run_loadAgg2 (m := 4) (cs := u64s a) (u64s_lenh n_a) (by kernel_rfl) (by kernel_rfl) (hS.heap.cells (k := 0) (off := 0) (m := 4) rfl (load_whole (u64s_lenh n_a)))) (wo22.pk [0, 1]) fun ac226 En227 => ?_
  refine q_r 2 (s := Instr.loadAt 25 (pt bk6)) (v := .agg (List.toArray (u64s e))) En227 (fun w hS => run_loadAgg2 (m := 4) (cs := u64s e) (u64s_lenh n_e) (by kernel_rfl) (by kernel_rfl) (hS.heap.cells (k := 1) (off := 0) (m := 4) rfl (load_whole (u64s_lenh n_e)))) (wo22.pk [0, 1]) fun ac228 En229 => ?_
  refine q_s [4] [] 6 En229 (wo22.pk [0, 1]) fun ac230 En231 => ?_
  refine q_r 5 (s := Instr.loadAt 25 (pt bk1)) (v := .agg (List.toArray (u64s a))) En231 (fun w hS => run_loadAgg2 (m := 4) (cs := u64s a) (u64s_lenh n_a) (by kernel_rfl) (by kernel_rfl) (hS.heap.cells (k := 0) (off := 0) (m := 4) rfl (load_whole (u64s_lenh n_a)))) (wo22.pk [0, 1]) fun ac232 En233 => ?_
  refine q_r 6 (s := Instr.loadAt 25 (pt bk6)) (v := .agg (List.toArray (u64s e))) En233 (fun w hS => run_loadAgg2 (m := 4) (cs := u64s e) (u64s_lenh n_e) (by kernel_rfl) (by kernel_rfl) (hS.heap.cells (k := 1) (off := 0) (m := 4) rfl (load_whole (u64s_lenh n_e)))) (wo22.pk [0, 1]) fun ac234 En235 => ?_
  refine q_t 3 ?_
  refine c_p En235 wo22 (exp_no _ f hf a e n_a n_e) fun ac240 wo237 En241 Hv242 => ?_
  refine ⟨fun _ => Hv242.pk [0, 1], ?_⟩
  refine q_t 7 ?_
  refine c_p En241 Hv242 (rexp_no _ f hf a e n_a n_e) fun ac247 wo244 En248 Hv249 => ?_
  refine ⟨fun _ => Hv249.pk [0, 1], ?_⟩
  refine q_f 8 (s := eqOp .eql 25 (.tmp 14) (.tmp 18) (.agg (List.toArray (u64s (nd 0)))) (.agg (List.toArray (u64s (nd 0))))) (v := .bool true) En248 (fun _ => Go.Dbr.run_is (fun w => Go.Dbr.u64s_eqop (a := (.tmp 14)) (b := (.tmp 18)) (e := 23) (m := 4) (by kernel_rfl) (by kernel_rfl) (by kernel_rfl) (by kernel_rfl) (by kernel_rfl) (nds_len _ _) (nds_len _ _) w) (by first | exact beq_self_eq_true _ | rfl) _) (fun _ => Hv249.pk [0, 1]) fun ac250 En251 => ?_
  refine q_s [9] [] 0 En251 (Hv249.pk [0, 1]) fun ac252 En253 => ?_
  exact h_e ⟨En253.sb, Hv249.pk [0]⟩
 rintro ac254 wo255 ⟨En256, Hv257⟩
 refine then_normal ?_
 refine wp_seq ?_
 refine region_from ?_
 refine d_k [0,4,6,7,8,20] [] 1 En256 fun ac258 En259 => ?_
 refine f_o ?_
 refine m_z 25 (u64s (List.replicate 4 0)) En259 Hv257 fun ac261 wo262 bk260 En263 Hv264 => ?_
 refine f_o ?_
 refine m_g 1 0 4 (u64s ([0, 0, 0, 0] : List UInt64)) (u64s ([0, 0, 0, 0] : List UInt64)) [.box bk1 (u64s a) 25, .box bk260 (u64s ([0, 0, 0, 0] : List UInt64)) 25] En263 Hv264 rfl (u64s_lenh (show List.length ([0, 0, 0, 0] : List UInt64) = 4 from rfl)) (by rw [(u64s_lenh (List.length_replicate))]; decide) (u64s_one _) (store_whole (u64s_lenh (List.length_replicate))) rfl fun ac265 wo266 En267 Hv268 => ?_
 refine f_e ?_
 refine then_normal ?_
 refine wp_seq ?_
 refine wp_seq ?_
 refine region_from ?_
 refine d_k [0,4,6,7,8,9,21] [] 1 En267 fun ac269 En270 => ?_
 refine f_o ?_
 refine c_p En270 Hv268 (ris_go_no _ f hf) fun ac275 wo272 En276 Hv277 => ?_
 refine f_e ?_
 refine then_normal ?_
 refine c_f En276 ?_
 refine wp_skip ?_
 refine then_normal ?_
 refine wp_seq ?_
 refine r_c (fun ac wo => Env ac 37 [(0, .int .i64 f), (4, pt bk1), (6, .bool true), (9, pt bk260)] ∧ Ev w [] wo [.box bk1 (u64s a) 25, .box bk260 (u64s ([0, 0, 0, 0] : List UInt64)) 25]) ?_ ?_
 ·
  refine h_s (fun wv => Ev w [] wv [.box bk1 (u64s a) 25, .box bk260 (u64s ([0, 0, 0, 0] : List UInt64)) 25]) [] 12 ?_
  have wo278 := Hv277.trans (Ev.drew Hv277.heap)
  refine q_s [0,1,2,3,4,5] [] 6 En276 (wo278.pk [0, 1]) fun ac341 En342 => ?_
  refine q_r 6 (s := Instr.loadAt 25 (pt bk1)) (v := .agg (List.toArray (u64s a))) En342 (fun w hS => run_loadAgg2 (m := 4) (cs := u64s a) (u64s_lenh n_a) (by kernel_rfl) (by kernel_rfl) (hS.heap.cells (k := 0) (off := 0) (m := 4) rfl (load_whole (u64s_lenh n_a)))) (wo278.pk [0, 1]) fun ac343 En344 => ?_
  refine q_r 8 (s := Instr.loadAt 25 (pt bk260)) (v := .agg (List.toArray (u64s ([0, 0, 0, 0] : List UInt64)))) En344 (fun w hS => run_loadAgg2 (m := 4) (cs := u64s ([0, 0, 0, 0] : List UInt64)) (u64s_lenh (show List.length ([0, 0, 0, 0] : List UInt64) = 4 from rfl)) (by kernel_rfl) (by kernel_rfl) (hS.heap.cells (k := 1) (off := 0) (m := 4) rfl (load_whole (u64s_lenh (show List.length ([0, 0, 0, 0] : List UInt64) = 4 from rfl))))) (wo278.pk [0, 1]) fun ac345 En346 => ?_
  refine q_t 7 ?_
  refine c_p En346 wo278 (inv_no _ f hf a n_a) fun ac351 wo348 En352 Hv353 => ?_
  refine ⟨fun _ => Hv353.pk [0, 1], ?_⟩
  refine q_f 9 (s := eqOp .eql 25 (.tmp 33) (.tmp 34) (.agg (List.toArray (u64s (nd 0)))) (.agg (List.toArray (u64s ([0, 0, 0, 0] : List UInt64))))) (v := .bool true) En352 (fun _ => Go.Dbr.run_is (fun w => Go.Dbr.u64s_eqop (a := (.tmp 33)) (b := (.tmp 34)) (e := 23) (m := 4) (by kernel_rfl) (by kernel_rfl) (by kernel_rfl) (by kernel_rfl) (by kernel_rfl) (nds_len _ _) (show List.length ([0, 0, 0, 0] : List UInt64) = 4 from rfl) w) (by first | exact beq_self_eq_true _ | rfl) _) (fun _ => Hv353.pk [0, 1]) fun ac354 En355 => ?_
  refine q_s [10,11] [] 0 En355 (Hv353.pk [0, 1]) fun ac356 En357 => ?_
  exact h_e ⟨En357.sb, Hv353.pk [0, 1]⟩
 rintro ac358 wo359 ⟨En360, Hv361⟩
 refine then_normal ?_
 refine wp_ret ?_
 refine d_ret1 (t := 6) (v := .bool true) En360 (by kernel_rfl) (by kernel_rfl) ?_
 exact ⟨rfl, Hv361.pk []⟩

theorem powers_walk (f : Int) (a : List UInt64) (e : List UInt64) (w : World) (b_f : (-9223372036854775808 ≤ f ∧ f ≤ 9223372036854775807)) (n_a : (List.length a = 4)) (n_e : (List.length e = 4)) : Calls Try.prog 3 #[.int .i64 f, .agg (List.toArray (u64s a)), .agg (List.toArray (u64s e))] w fun e w' => e = .returned (.bool true) ∧ Ev w [] w' [] := by
  by_cases hf : f = 1 ∨ f = 2 ∨ f = 3 ∨ f = 4
  · exact powers_ok f a e w b_f n_a n_e hf
  · exact powers_no f a e w b_f n_a n_e hf

end Go.Proofs.Ytamdjonejijndaa
