/- Layer 13: bytes of points, walked. -/
import Derived.Test.YtpfhmbbiadpbeaaE3
namespace Go.Proofs.Ytpfhmbbiadpbeaa
open Go.Dbr
set_option maxRecDepth 100000
set_option maxHeartbeats 2000000
set_option linter.unusedVariables false
set_option linter.unusedSimpArgs false

theorem pzeq {a b : PZ} (h : a = b) : ((a.1 == b.1) && ((a.2.1 == b.2.1) && (a.2.2 == b.2.2))) = true := by
  subst h
  rw [beq_self_eq_true, beq_self_eq_true, beq_self_eq_true]
  rfl
theorem dec_X {a b : List UInt8} {k : UInt8} (ha : a.length = 32) : List.take 32 (List.drop 1 (k :: (a ++ b))) = a := by
  rw [List.drop_succ_cons, List.drop_zero, List.take_left' ha]
theorem dec_Y {a b : List UInt8} {k : UInt8} (ha : a.length = 32) (hb : b.length = 32) : List.take 32 (List.drop 33 (k :: (a ++ b))) = b := by
  rw [List.drop_succ_cons, List.drop_left' ha, List.take_of_length_le (by omega)]
theorem lv_of {x : L4} (hx : x.length = 4) : nd (lv (List.reverse (List.reverse (lb 32 (nv x))))) = x := by
  rw [List.reverse_reverse, lb_val, Nat.mod_eq_of_lt (show nv x < 256 ^ 32 from nv_lt hx), ← nd_of hx rfl]
theorem lawBack {p : PZ} (hx : p.2.1.length = 4) (hy : p.2.2.length = 4) (ho : onP p = true) (hz : p.1 = false) : decN (encL p.1 p.2.1 p.2.2) = (p, 0) := by
  obtain ⟨z, x, y⟩ := p
  simp only at *
  subst hz
  have ha : (List.reverse (lb 32 (nv x))).length = 32 := rev_len (lb_len _ _)
  have hb : (List.reverse (lb 32 (nv y))).length = 32 := rev_len (lb_len _ _)
  have e1 : decX (4 :: (List.reverse (lb 32 (nv x)) ++ List.reverse (lb 32 (nv y)))) 1 = x := by rw [decX, dec_X ha, lv_of hx]
  have e2 : decX (4 :: (List.reverse (lb 32 (nv x)) ++ List.reverse (lb 32 (nv y)))) 33 = y := by rw [decX, dec_Y ha hb, lv_of hy]
  rw [enc_yes ho (fun g => by cases g), decN, if_pos ⟨by rw [List.length_cons, List.length_append, ha, hb], rfl⟩, e1, e2, if_pos ho]
theorem lawB1 {k : Nat} (hz : (mulP k Gp).1 = true) : encL (mulP k Gp).1 (mulP k Gp).2.1 (mulP k Gp).2.2 = [] := enc_no1 hz
theorem lawB2 {k : Nat} (hz : (mulP k Gp).1 = true) : (decN (encL (mulP k Gp).1 (mulP k Gp).2.1 (mulP k Gp).2.2)).2 = 131 := by rw [lawB1 hz]; rfl
theorem lawB3 {k : Nat} (hz : ¬ (mulP k Gp).1 = true) : decN (encL (mulP k Gp).1 (mulP k Gp).2.1 (mulP k Gp).2.2) = (mulP k Gp, 0) := lawBack (mulP_len _ _).1 (mulP_len _ _).2 (on_mul k) (Bool.eq_false_iff.2 hz)
theorem not_b {b : Bool} (h : ¬ b = true) : (!b) = true := by rw [Bool.eq_false_iff.2 h]; rfl
theorem int_b {a b : Int} (h : a = b) : (a == b) = true := by rw [h]; exact beq_self_eq_true _
theorem len_b {l : List UInt8} (h : l = []) : (((List.length l : Nat) : Int) == (0 : Int)) = true := by rw [h]; rfl

theorem bytes_walk (a_b : Option Addr) (c_b : Nat) (b : List UInt8) (pa : Bool) (pb : List UInt64) (pc : List UInt64) (k : List UInt64) (w : World) (i_b : InB w [] a_b c_b b) (n_pb : (List.length pb = 4)) (n_pc : (List.length pc = 4)) (n_k : (List.length k = 4)) : Calls Try.prog 8 #[.slice a_b (List.length b) c_b, .agg (List.toArray (([.bool pa] : List Value) ++ ((u64s pb) ++ (u64s pc)))), .agg (List.toArray (u64s k))] w fun e w' => e = .returned (.bool true) ∧ Ev w [] w' [] := by
 refine d_0 [(0, .slice a_b (List.length b) c_b), (1, .agg (List.toArray (([.bool pa] : List Value) ++ ((u64s pb) ++ (u64s pc))))), (2, .agg (List.toArray (u64s k)))] 87 Go.Proofs.Try.func8 Go.Proofs.Try.ntmps8 (Heap.nil _) fun act0 En0 Hv0 => ?_
 refine wp_seq ?_
 refine region_from ?_
 refine f_o ?_
 refine m_m 26 (([.bool pa] : List Value) ++ ((u64s pb) ++ (u64s pc))) En0 Hv0 fun ac2 wo3 bk1 En4 Hv5 => ?_
 refine f_o ?_
 refine m_m 24 (u64s k) En4 Hv5 fun ac7 wo8 bk6 En9 Hv10 => ?_
 refine d_e [0,4,5,6] [] En9 fun ac11 En12 => ?_
 refine then_normal ?_
 refine wp_seq ?_
 refine region_from ?_
 refine f_o ?_
 refine c_p En12 Hv10 (head_ok _) fun ac17 wo14 En18 Hv19 => ?_
 refine d_e [0,4,5,6,7] [] En18 fun ac20 En21 => ?_
 refine then_normal ?_
 refine wp_seq ?_
 refine region_from ?_
 refine d_k [0,4,5,6,7,20] [] 1 En21 fun ac22 En23 => ?_
 refine f_o ?_
 refine c_p En23 Hv19 (dec_go _ a_b (List.length b) c_b b (by first | rfl | (simp; done) | (simp; omega) | omega) ((i_b.ev Hv19).pick [] (by kernel_rfl))) fun ac28 wo25 En29 Hv30 => ?_
 refine d_k [0,4,5,6,7,22,23] [] 5 En29 fun ac31 En32 => ?_
 refine f_o ?_
 refine m_z 26 (([.bool false] : List Value) ++ ((u64s (List.replicate 4 0)) ++ (u64s (List.replicate 4 0)))) En32 Hv30 fun ac34 wo35 bk33 En36 Hv37 => ?_
 refine f_o ?_
 refine m_g 2 0 9 (([.bool (((decN b).1).1)] : List Value) ++ ((u64s (((decN b).1).2.1)) ++ (u64s (((decN b).1).2.2)))) (([.bool (((decN b).1).1)] : List Value) ++ ((u64s (((decN b).1).2.1)) ++ (u64s (((decN b).1).2.2)))) [.box bk1 (([.bool pa] : List Value) ++ ((u64s pb) ++ (u64s pc))) 26, .box bk6 (u64s k) 24, .box bk33 (([.bool (((decN b).1).1)] : List Value) ++ ((u64s (((decN b).1).2.1)) ++ (u64s (((decN b).1).2.2)))) 26] En36 Hv37 rfl (len_app rfl (len_app (u64s_lenh (decN_len b).1) (u64s_lenh (decN_len b).2))) (by rw [(len_app rfl (len_app (u64s_lenh (List.length_replicate)) (u64s_lenh (List.length_replicate))))]; first | decide | (simp; done)) (one_app (one_all (by kernel_rfl)) (one_app (u64s_one _) (u64s_one _))) (store_whole (len_app rfl (len_app (u64s_lenh (List.length_replicate)) (u64s_lenh (List.length_replicate))))) rfl fun ac38 wo39 En40 Hv41 => ?_
 refine d_e [0,4,5,6,7,8,9] [] En40 fun ac42 En43 => ?_
 refine then_normal ?_
 refine wp_seq ?_
 refine region_from ?_
 refine d_k [0,4,5,6,7,8,9,25] [] 1 En43 fun ac44 En45 => ?_
 refine f_o ?_
 refine c_p En45 Hv41 (ddec_go _ a_b (List.length b) c_b b (by first | rfl | (simp; done) | (simp; omega) | omega) ((i_b.ev Hv41).pick [] (by kernel_rfl))) fun ac50 wo47 En51 Hv52 => ?_
 refine d_k [0,4,5,6,7,8,9,27,28] [] 5 En51 fun ac53 En54 => ?_
 refine f_o ?_
 refine m_z 26 (([.bool false] : List Value) ++ ((u64s (List.replicate 4 0)) ++ (u64s (List.replicate 4 0)))) En54 Hv52 fun ac56 wo57 bk55 En58 Hv59 => ?_
 refine f_o ?_
 refine m_g 3 0 9 (([.bool (((decN b).1).1)] : List Value) ++ ((u64s (((decN b).1).2.1)) ++ (u64s (((decN b).1).2.2)))) (([.bool (((decN b).1).1)] : List Value) ++ ((u64s (((decN b).1).2.1)) ++ (u64s (((decN b).1).2.2)))) [.box bk1 (([.bool pa] : List Value) ++ ((u64s pb) ++ (u64s pc))) 26, .box bk6 (u64s k) 24, .box bk33 (([.bool (((decN b).1).1)] : List Value) ++ ((u64s (((decN b).1).2.1)) ++ (u64s (((decN b).1).2.2)))) 26, .box bk55 (([.bool (((decN b).1).1)] : List Value) ++ ((u64s (((decN b).1).2.1)) ++ (u64s (((decN b).1).2.2)))) 26] En58 Hv59 rfl (len_app rfl (len_app (u64s_lenh (decN_len b).1) (u64s_lenh (decN_len b).2))) (by rw [(len_app rfl (len_app (u64s_lenh (List.length_replicate)) (u64s_lenh (List.length_replicate))))]; first | decide | (simp; done)) (one_app (one_all (by kernel_rfl)) (one_app (u64s_one _) (u64s_one _))) (store_whole (len_app rfl (len_app (u64s_lenh (List.length_replicate)) (u64s_lenh (List.length_replicate))))) rfl fun ac60 wo61 En62 Hv63 => ?_
 refine d_e [0,4,5,6,7,8,9,10,11] [] En62 fun ac64 En65 => ?_
 refine then_normal ?_
 refine wp_seq ?_
 refine r_c (fun ac wo => Env ac 87 [(0, .slice a_b (List.length b) c_b), (5, pt bk6), (6, .bool false), (7, .bool true), (8, pt bk33), (9, .int .i64 ((decN b).2)), (10, pt bk55), (11, .int .i64 ((decN b).2)), (12, .bool true)] ∧ Ev w [] wo [.box bk6 (u64s k) 24, .box bk33 (([.bool (((decN b).1).1)] : List Value) ++ ((u64s (((decN b).1).2.1)) ++ (u64s (((decN b).1).2.2)))) 26, .box bk55 (([.bool (((decN b).1).1)] : List Value) ++ ((u64s (((decN b).1).2.1)) ++ (u64s (((decN b).1).2.2)))) 26]) ?_ ?_
 ·
  refine h_s (fun wv => Ev w [] wv [.box bk1 (([.bool pa] : List Value) ++ ((u64s pb) ++ (u64s pc))) 26]) [] 8 ?_
  have wo66 := Hv63.trans (Ev.drew Hv63.heap)
  refine h_name fun G hG => ?_
  have nd228 : ∀ (ac : Act) (wo : World) (ao207 : _) (cp208 : _), Env ac 87 [(0, .slice a_b (List.length b) c_b), (5, pt bk6), (6, .bool false), (7, .bool true), (8, pt bk33), (9, .int .i64 ((decN b).2)), (10, pt bk55), (11, .int .i64 ((decN b).2)), (31, .string (bstr (encL pa pb pc))), (33, .slice ao207 (List.length (encL pa pb pc)) cp208)] → Ev w [] wo [.vec ao207 cp208 1 (bys (encL pa pb pc)) 5, .box bk1 (([.bool pa] : List Value) ++ ((u64s pb) ++ (u64s pc))) 26, .box bk6 (u64s k) 24, .box bk33 (([.bool (((decN b).1).1)] : List Value) ++ ((u64s (((decN b).1).2.1)) ++ (u64s (((decN b).1).2.2)))) 26, .box bk55 (([.bool (((decN b).1).1)] : List Value) ++ ((u64s (((decN b).1).2.1)) ++ (u64s (((decN b).1).2.2)))) 26] → G 3 #[true, true, true, true, true, false, false, false] ac wo := by
   intro ac229 wo230 ao207 cp208 En231 Hv232
   refine h_from hG ?_
   refine q_t 5 ?_
   refine op_str (d := some 34) (src := 46) (dst := 9) (e := 5) (ao := ao207) (cap := cp208) (p := List.length (encL pa pb pc)) (bs := encL pa pb pc) En231 (by kernel_rfl) rfl (by kernel_rfl) (by kernel_rfl) (by kernel_rfl) (Hv232.heap.reads (k := 0) rfl) (bys_vnz Hv232.heap (k := 0) rfl) ?_
   intro ac233 En234
   refine ⟨fun _ => Hv232.pk [1], ?_⟩
   refine q_s [6,7] [(6, g_v (show (.bool (ByteArray.toList (bstr (encL pa pb pc)) == ByteArray.toList (bstr (encL pa pb pc))) : Value) = .bool true by rw [Go.Dbr.bstr_eq (encL pa pb pc) (encL pa pb pc), show ((encL pa pb pc) == (encL pa pb pc)) = true from (beq_self_eq_true _)] <;> rfl))] 0 En234 (Hv232.pk [1]) fun ac235 En236 => ?_
   exact h_e ⟨En236.sb, Hv232.pk [2, 3, 4]⟩
  have nd237 : ∀ (ac : Act) (wo : World) (ao183 : _) (cp184 : _), Env ac 87 [(0, .slice a_b (List.length b) c_b), (5, pt bk6), (6, .bool false), (7, .bool true), (8, pt bk33), (9, .int .i64 ((decN b).2)), (10, pt bk55), (11, .int .i64 ((decN b).2)), (30, .slice ao183 (List.length (encL pa pb pc)) cp184), (34, .string (bstr (encL pa pb pc)))] → Ev w [] wo [.vec ao183 cp184 1 (bys (encL pa pb pc)) 5, .box bk1 (([.bool pa] : List Value) ++ ((u64s pb) ++ (u64s pc))) 26, .box bk6 (u64s k) 24, .box bk33 (([.bool (((decN b).1).1)] : List Value) ++ ((u64s (((decN b).1).2.1)) ++ (u64s (((decN b).1).2.2)))) 26, .box bk55 (([.bool (((decN b).1).1)] : List Value) ++ ((u64s (((decN b).1).2.1)) ++ (u64s (((decN b).1).2.2)))) 26] → G 3 #[true, true, false, true, true, true, false, false] ac wo := by
   intro ac238 wo239 ao183 cp184 En240 Hv241
   refine h_from hG ?_
   refine q_t 2 ?_
   refine op_str (d := some 31) (src := 46) (dst := 9) (e := 5) (ao := ao183) (cap := cp184) (p := List.length (encL pa pb pc)) (bs := encL pa pb pc) En240 (by kernel_rfl) rfl (by kernel_rfl) (by kernel_rfl) (by kernel_rfl) (Hv241.heap.reads (k := 0) rfl) (bys_vnz Hv241.heap (k := 0) rfl) ?_
   intro ac242 En243
   refine ⟨fun _ => Hv241.pk [1], ?_⟩
   refine q_s [6,7] [(6, g_v (show (.bool (ByteArray.toList (bstr (encL pa pb pc)) == ByteArray.toList (bstr (encL pa pb pc))) : Value) = .bool true by rw [Go.Dbr.bstr_eq (encL pa pb pc) (encL pa pb pc), show ((encL pa pb pc) == (encL pa pb pc)) = true from (beq_self_eq_true _)] <;> rfl))] 0 En243 (Hv241.pk [1]) fun ac244 En245 => ?_
   exact h_e ⟨En245.sb, Hv241.pk [2, 3, 4]⟩
  have nd246 : ∀ (ac : Act) (wo : World), Env ac 87 [(0, .slice a_b (List.length b) c_b), (5, pt bk6), (6, .bool false), (7, .bool true), (8, pt bk33), (9, .int .i64 ((decN b).2)), (10, pt bk55), (11, .int .i64 ((decN b).2)), (31, .string (bstr (encL pa pb pc))), (32, .agg (List.toArray (([.bool pa] : List Value) ++ ((u64s pb) ++ (u64s pc)))))] → Ev w [] wo [.box bk1 (([.bool pa] : List Value) ++ ((u64s pb) ++ (u64s pc))) 26, .box bk6 (u64s k) 24, .box bk33 (([.bool (((decN b).1).1)] : List Value) ++ ((u64s (((decN b).1).2.1)) ++ (u64s (((decN b).1).2.2)))) 26, .box bk55 (([.bool (((decN b).1).1)] : List Value) ++ ((u64s (((decN b).1).2.1)) ++ (u64s (((decN b).1).2.2)))) 26] → G 4 #[true, true, true, true, false, false, false, false] ac wo := by
   intro ac247 wo248 En249 Hv250
   refine h_from hG ?_
   refine q_t 4 ?_
   refine c_0 En249 Hv250 (denc_go _ pa pb pc n_pb n_pc) ?_
   rintro _ wo254 ⟨ao251, cp252, rfl, he255⟩
   refine ⟨_, _, _, rfl, he255, rfl, fun ac257 En258 Hv259 => ?_⟩
   refine ⟨fun _ => Hv259.pk [1], ?_⟩
   refine q_t 5 ?_
   refine op_str (d := some 34) (src := 46) (dst := 9) (e := 5) (ao := ao251) (cap := cp252) (p := List.length (encL pa pb pc)) (bs := encL pa pb pc) En258 (by kernel_rfl) rfl (by kernel_rfl) (by kernel_rfl) (by kernel_rfl) (Hv259.heap.reads (k := 0) rfl) (bys_vnz Hv259.heap (k := 0) rfl) ?_
   intro ac260 En261
   refine ⟨fun _ => Hv259.pk [1], ?_⟩
   refine q_s [6,7] [(6, g_v (show (.bool (ByteArray.toList (bstr (encL pa pb pc)) == ByteArray.toList (bstr (encL pa pb pc))) : Value) = .bool true by rw [Go.Dbr.bstr_eq (encL pa pb pc) (encL pa pb pc), show ((encL pa pb pc) == (encL pa pb pc)) = true from (beq_self_eq_true _)] <;> rfl))] 0 En261 (Hv259.pk [1]) fun ac262 En263 => ?_
   exact h_e ⟨En263.sb, Hv259.pk [2, 3, 4]⟩
  have nd264 : ∀ (ac : Act) (wo : World) (ao183 : _) (cp184 : _) (ao207 : _) (cp208 : _), Env ac 87 [(0, .slice a_b (List.length b) c_b), (5, pt bk6), (6, .bool false), (7, .bool true), (8, pt bk33), (9, .int .i64 ((decN b).2)), (10, pt bk55), (11, .int .i64 ((decN b).2)), (30, .slice ao183 (List.length (encL pa pb pc)) cp184), (33, .slice ao207 (List.length (encL pa pb pc)) cp208)] → Ev w [] wo [.vec ao207 cp208 1 (bys (encL pa pb pc)) 5, .vec ao183 cp184 1 (bys (encL pa pb pc)) 5, .box bk1 (([.bool pa] : List Value) ++ ((u64s pb) ++ (u64s pc))) 26, .box bk6 (u64s k) 24, .box bk33 (([.bool (((decN b).1).1)] : List Value) ++ ((u64s (((decN b).1).2.1)) ++ (u64s (((decN b).1).2.2)))) 26, .box bk55 (([.bool (((decN b).1).1)] : List Value) ++ ((u64s (((decN b).1).2.1)) ++ (u64s (((decN b).1).2.2)))) 26] → G 4 #[true, true, false, true, true, false, false, false] ac wo := by
   intro ac265 wo266 ao183 cp184 ao207 cp208 En267 Hv268
   refine h_from hG ?_
   refine h_ways [2, 5] (by kernel_rfl) rfl ?_
   refine ⟨?_, ?_, trivial⟩
   ·
    rintro _ rfl
    refine op_str (d := some 31) (src := 46) (dst := 9) (e := 5) (ao := ao183) (cap := cp184) (p := List.length (encL pa pb pc)) (bs := encL pa pb pc) En267 (by kernel_rfl) rfl (by kernel_rfl) (by kernel_rfl) (by kernel_rfl) (Hv268.heap.reads (k := 1) rfl) (bys_vnz Hv268.heap (k := 1) rfl) ?_
    intro ac269 En270
    refine ⟨fun _ => Hv268.pk [2], ?_⟩
    exact h_to hG (by kernel_rfl) (nd228 _ _ ao207 cp208 (En270.sb) (Hv268.pk [0, 2, 3, 4, 5]))
   ·
    rintro _ rfl
    refine op_str (d := some 34) (src := 46) (dst := 9) (e := 5) (ao := ao207) (cap := cp208) (p := List.length (encL pa pb pc)) (bs := encL pa pb pc) En267 (by kernel_rfl) rfl (by kernel_rfl) (by kernel_rfl) (by kernel_rfl) (Hv268.heap.reads (k := 0) rfl) (bys_vnz Hv268.heap (k := 0) rfl) ?_
    intro ac271 En272
    refine ⟨fun _ => Hv268.pk [2], ?_⟩
    exact h_to hG (by kernel_rfl) (nd237 _ _ ao183 cp184 (En272.sb) (Hv268.pk [1, 2, 3, 4, 5]))
  refine h_from hG ?_
  refine q_r 0 (s := Instr.loadAt 26 (pt bk1)) (v := .agg (List.toArray (([.bool pa] : List Value) ++ ((u64s pb) ++ (u64s pc))))) En65 (fun w hS => run_loadAgg2 (m := 9) (cs := ([.bool pa] : List Value) ++ ((u64s pb) ++ (u64s pc))) (len_app rfl (len_app (u64s_lenh n_pb) (u64s_lenh n_pc))) (by kernel_rfl) (by kernel_rfl) (hS.heap.cells (k := 0) (off := 0) (m := 9) rfl (load_whole (len_app rfl (len_app (u64s_lenh n_pb) (u64s_lenh n_pc)))))) (wo66.pk [0]) fun ac273 En274 => ?_
  refine q_r 3 (s := Instr.loadAt 26 (pt bk1)) (v := .agg (List.toArray (([.bool pa] : List Value) ++ ((u64s pb) ++ (u64s pc))))) En274 (fun w hS => run_loadAgg2 (m := 9) (cs := ([.bool pa] : List Value) ++ ((u64s pb) ++ (u64s pc))) (len_app rfl (len_app (u64s_lenh n_pb) (u64s_lenh n_pc))) (by kernel_rfl) (by kernel_rfl) (hS.heap.cells (k := 0) (off := 0) (m := 9) rfl (load_whole (len_app rfl (len_app (u64s_lenh n_pb) (u64s_lenh n_pc)))))) (wo66.pk [0]) fun ac275 En276 => ?_
  refine q_t 1 ?_
  refine c_0 En276 wo66 (enc_go _ pa pb pc n_pb n_pc) ?_
  rintro _ wo280 ⟨ao277, cp278, rfl, he281⟩
  refine ⟨_, _, _, rfl, he281, rfl, fun ac283 En284 Hv285 => ?_⟩
  refine ⟨fun _ => Hv285.pk [1], ?_⟩
  refine h_ways [2, 4] (by kernel_rfl) rfl ?_
  refine ⟨?_, ?_, trivial⟩
  ·
   rintro _ rfl
   refine op_str (d := some 31) (src := 46) (dst := 9) (e := 5) (ao := ao277) (cap := cp278) (p := List.length (encL pa pb pc)) (bs := encL pa pb pc) En284 (by kernel_rfl) rfl (by kernel_rfl) (by kernel_rfl) (by kernel_rfl) (Hv285.heap.reads (k := 0) rfl) (bys_vnz Hv285.heap (k := 0) rfl) ?_
   intro ac286 En287
   refine ⟨fun _ => Hv285.pk [1], ?_⟩
   exact h_to hG (by kernel_rfl) (nd246 _ _ (En287.sb) (Hv285.pk [1, 2, 3, 4]))
  ·
   rintro _ rfl
   refine c_0 En284 Hv285 (denc_go _ pa pb pc n_pb n_pc) ?_
   rintro _ wo291 ⟨ao288, cp289, rfl, he292⟩
   refine ⟨_, _, _, rfl, he292, rfl, fun ac294 En295 Hv296 => ?_⟩
   refine ⟨fun _ => Hv296.pk [2], ?_⟩
   exact h_to hG (by kernel_rfl) (nd264 _ _ ao277 cp278 ao288 cp289 (En295.sb) (Hv296.pk [0, 1, 2, 3, 4, 5]))
 rintro ac297 wo298 ⟨En299, Hv300⟩
 refine then_normal ?_
 refine wp_seq ?_
 refine region_from ?_
 refine f_o ?_
 refine m_a 0 0 4 (u64s k) En299 Hv300 rfl (load_whole (u64s_lenh n_k)) (u64s_lenh n_k) fun ac301 En302 => ?_
 refine f_o ?_
 refine c_p En302 Hv300 (point_go _ k n_k) fun ac307 wo304 En308 Hv309 => ?_
 refine f_o ?_
 refine m_z 26 (([.bool false] : List Value) ++ ((u64s (List.replicate 4 0)) ++ (u64s (List.replicate 4 0)))) En308 Hv309 fun ac311 wo312 bk310 En313 Hv314 => ?_
 refine f_o ?_
 refine m_g 3 0 9 (([.bool ((mulP (nv k) Gp).1)] : List Value) ++ ((u64s ((mulP (nv k) Gp).2.1)) ++ (u64s ((mulP (nv k) Gp).2.2)))) (([.bool ((mulP (nv k) Gp).1)] : List Value) ++ ((u64s ((mulP (nv k) Gp).2.1)) ++ (u64s ((mulP (nv k) Gp).2.2)))) [.box bk6 (u64s k) 24, .box bk33 (([.bool (((decN b).1).1)] : List Value) ++ ((u64s (((decN b).1).2.1)) ++ (u64s (((decN b).1).2.2)))) 26, .box bk55 (([.bool (((decN b).1).1)] : List Value) ++ ((u64s (((decN b).1).2.1)) ++ (u64s (((decN b).1).2.2)))) 26, .box bk310 (([.bool ((mulP (nv k) Gp).1)] : List Value) ++ ((u64s ((mulP (nv k) Gp).2.1)) ++ (u64s ((mulP (nv k) Gp).2.2)))) 26] En313 Hv314 rfl (len_app rfl (len_app (u64s_lenh (mulP_len _ _).1) (u64s_lenh (mulP_len _ _).2))) (by rw [(len_app rfl (len_app (u64s_lenh (List.length_replicate)) (u64s_lenh (List.length_replicate))))]; first | decide | (simp; done)) (one_app (one_all (by kernel_rfl)) (one_app (u64s_one _) (u64s_one _))) (store_whole (len_app rfl (len_app (u64s_lenh (List.length_replicate)) (u64s_lenh (List.length_replicate))))) rfl fun ac315 wo316 En317 Hv318 => ?_
 refine f_e ?_
 refine then_normal ?_
 refine wp_seq ?_
 refine region_from ?_
 refine f_o ?_
 refine m_a 3 0 9 (([.bool ((mulP (nv k) Gp).1)] : List Value) ++ ((u64s ((mulP (nv k) Gp).2.1)) ++ (u64s ((mulP (nv k) Gp).2.2)))) En317 Hv318 rfl (load_whole (len_app rfl (len_app (u64s_lenh (mulP_len _ _).1) (u64s_lenh (mulP_len _ _).2)))) (len_app rfl (len_app (u64s_lenh (mulP_len _ _).1) (u64s_lenh (mulP_len _ _).2))) fun ac319 En320 => ?_
 refine f_o ?_
 refine c_0 En320 Hv318 (enc_go _ ((mulP (nv k) Gp).1) ((mulP (nv k) Gp).2.1) ((mulP (nv k) Gp).2.2) ((mulP_len _ _).1) ((mulP_len _ _).2)) ?_
 rintro _ wo324 ⟨ao321, cp322, rfl, he325⟩
 refine ⟨_, _, _, rfl, he325, rfl, fun ac327 En328 Hv329 => ?_⟩
 refine d_e [0,6,7,8,9,10,11,12,13,14] [] En328 fun ac330 En331 => ?_
 have hel := encL_len (mulP (nv k) Gp).1 (mulP (nv k) Gp).2.1 (mulP (nv k) Gp).2.2
 refine then_normal ?_
 refine wp_seq ?_
 refine region_from ?_
 refine d_k [0,6,7,8,9,10,11,12,13,14,41] [] 1 En331 fun ac332 En333 => ?_
 refine f_o ?_
 refine c_p En333 Hv329 (dec_go _ ao321 (List.length (encL ((mulP (nv k) Gp).1) ((mulP (nv k) Gp).2.1) ((mulP (nv k) Gp).2.2))) cp322 (encL ((mulP (nv k) Gp).1) ((mulP (nv k) Gp).2.1) ((mulP (nv k) Gp).2.2)) (by first | rfl | (simp; done) | (simp; omega) | omega) (bys_in Hv329.heap (k := 0) rfl [] (by kernel_rfl) rfl (by first | omega | (simp; done) | (simp; omega)))) fun ac338 wo335 En339 Hv340 => ?_
 refine d_k [0,6,7,8,9,10,11,12,13,14,43,44] [] 5 En339 fun ac341 En342 => ?_
 refine f_o ?_
 refine m_z 26 (([.bool false] : List Value) ++ ((u64s (List.replicate 4 0)) ++ (u64s (List.replicate 4 0)))) En342 Hv340 fun ac344 wo345 bk343 En346 Hv347 => ?_
 refine f_o ?_
 refine m_g 5 0 9 (([.bool (((decN (encL ((mulP (nv k) Gp).1) ((mulP (nv k) Gp).2.1) ((mulP (nv k) Gp).2.2))).1).1)] : List Value) ++ ((u64s (((decN (encL ((mulP (nv k) Gp).1) ((mulP (nv k) Gp).2.1) ((mulP (nv k) Gp).2.2))).1).2.1)) ++ (u64s (((decN (encL ((mulP (nv k) Gp).1) ((mulP (nv k) Gp).2.1) ((mulP (nv k) Gp).2.2))).1).2.2)))) (([.bool (((decN (encL ((mulP (nv k) Gp).1) ((mulP (nv k) Gp).2.1) ((mulP (nv k) Gp).2.2))).1).1)] : List Value) ++ ((u64s (((decN (encL ((mulP (nv k) Gp).1) ((mulP (nv k) Gp).2.1) ((mulP (nv k) Gp).2.2))).1).2.1)) ++ (u64s (((decN (encL ((mulP (nv k) Gp).1) ((mulP (nv k) Gp).2.1) ((mulP (nv k) Gp).2.2))).1).2.2)))) [.vec ao321 cp322 1 (bys (encL ((mulP (nv k) Gp).1) ((mulP (nv k) Gp).2.1) ((mulP (nv k) Gp).2.2))) 5, .box bk6 (u64s k) 24, .box bk33 (([.bool (((decN b).1).1)] : List Value) ++ ((u64s (((decN b).1).2.1)) ++ (u64s (((decN b).1).2.2)))) 26, .box bk55 (([.bool (((decN b).1).1)] : List Value) ++ ((u64s (((decN b).1).2.1)) ++ (u64s (((decN b).1).2.2)))) 26, .box bk310 (([.bool ((mulP (nv k) Gp).1)] : List Value) ++ ((u64s ((mulP (nv k) Gp).2.1)) ++ (u64s ((mulP (nv k) Gp).2.2)))) 26, .box bk343 (([.bool (((decN (encL ((mulP (nv k) Gp).1) ((mulP (nv k) Gp).2.1) ((mulP (nv k) Gp).2.2))).1).1)] : List Value) ++ ((u64s (((decN (encL ((mulP (nv k) Gp).1) ((mulP (nv k) Gp).2.1) ((mulP (nv k) Gp).2.2))).1).2.1)) ++ (u64s (((decN (encL ((mulP (nv k) Gp).1) ((mulP (nv k) Gp).2.1) ((mulP (nv k) Gp).2.2))).1).2.2)))) 26] En346 Hv347 rfl (len_app rfl (len_app (u64s_lenh (decN_len (encL ((mulP (nv k) Gp).1) ((mulP (nv k) Gp).2.1) ((mulP (nv k) Gp).2.2))).1) (u64s_lenh (decN_len (encL ((mulP (nv k) Gp).1) ((mulP (nv k) Gp).2.1) ((mulP (nv k) Gp).2.2))).2))) (by rw [(len_app rfl (len_app (u64s_lenh (List.length_replicate)) (u64s_lenh (List.length_replicate))))]; first | decide | (simp; done)) (one_app (one_all (by kernel_rfl)) (one_app (u64s_one _) (u64s_one _))) (store_whole (len_app rfl (len_app (u64s_lenh (List.length_replicate)) (u64s_lenh (List.length_replicate))))) rfl fun ac348 wo349 En350 Hv351 => ?_
 refine d_e [0,6,7,8,9,10,11,12,13,14,15,16] [] En350 fun ac352 En353 => ?_
 refine then_normal ?_
 refine wp_seq ?_
 refine region_from ?_
 refine d_k [0,6,7,8,9,10,11,12,13,14,15,16,45] [] 1 En353 fun ac354 En355 => ?_
 refine f_o ?_
 refine m_v 4 0 (.bool ((mulP (nv k) Gp).1)) En355 Hv351 rfl (seg_in rfl) fun ac356 En357 => ?_
 refine d_k [0,6,7,8,9,10,11,12,13,14,15,16,47] [] 3 En357 fun ac358 En359 => ?_
 rcases Bool.eq_false_or_eq_true ((mulP (nv k) Gp).1) with hb360 | hb360
 ·
  have En361 := En359.fx (t := 47) (congrArg Value.bool hb360)
  have hp362 : (mulP (nv k) Gp).1 = true := hb360
  refine d_e [0,6,7,8,9,10,11,12,13,14,15,17] [(5, g_b (show (((List.length (encL ((mulP (nv k) Gp).1) ((mulP (nv k) Gp).2.1) ((mulP (nv k) Gp).2.2)) : Nat) : Int) == (0 : Int)) = true from (len_b (lawB1 hp362)))), (9, g_b (show ((decN (encL ((mulP (nv k) Gp).1) ((mulP (nv k) Gp).2.1) ((mulP (nv k) Gp).2.2))).2 == (131 : Int)) = true from (int_b (lawB2 hp362))))] En361 fun ac363 En364 => ?_
  refine then_normal ?_
  refine wp_seq ?_
  refine region_from ?_
  refine d_k [0,6,8,9,10,11,12,13,14,15,17,71] [] 2 En364 fun ac365 En366 => ?_
  refine f_o ?_
  refine m_a 2 0 9 (([.bool (((decN b).1).1)] : List Value) ++ ((u64s (((decN b).1).2.1)) ++ (u64s (((decN b).1).2.2)))) En366 Hv351 rfl (load_whole (len_app rfl (len_app (u64s_lenh (decN_len b).1) (u64s_lenh (decN_len b).2)))) (len_app rfl (len_app (u64s_lenh (decN_len b).1) (u64s_lenh (decN_len b).2))) fun ac367 En368 => ?_
  refine f_o ?_
  refine m_a 3 0 9 (([.bool (((decN b).1).1)] : List Value) ++ ((u64s (((decN b).1).2.1)) ++ (u64s (((decN b).1).2.2)))) En368 Hv351 rfl (load_whole (len_app rfl (len_app (u64s_lenh (decN_len b).1) (u64s_lenh (decN_len b).2)))) (len_app rfl (len_app (u64s_lenh (decN_len b).1) (u64s_lenh (decN_len b).2))) fun ac369 En370 => ?_
  refine f_o ?_
  refine q_v (x := eqOp .eql 26 (.tmp 72) (.tmp 73) (.agg (List.toArray (([.bool (((decN b).1).1)] : List Value) ++ ((u64s (((decN b).1).2.1)) ++ (u64s (((decN b).1).2.2)))))) (.agg (List.toArray (([.bool (((decN b).1).1)] : List Value) ++ ((u64s (((decN b).1).2.1)) ++ (u64s (((decN b).1).2.2))))))) (v := .bool true) En370 (Go.Dbr.run_is (fun w => Go.Dbr.pnt_eqop (a := (.tmp 72)) (b := (.tmp 73)) isP (decN_len b).1 (decN_len b).2 (decN_len b).1 (decN_len b).2 w) (pzeq rfl) _) fun ac371 En372 => ?_
  refine d_e [0,6,8,10,13,14,15] [(9, g_b (show ((decN b).2 == (decN b).2) = true from (beq_self_eq_true _)))] En372 fun ac373 En374 => ?_
  refine then_normal ?_
  refine wp_ret ?_
  refine d_ret1 (t := 6) (v := .bool true) En374 (by kernel_rfl) (by kernel_rfl) ?_
  exact ⟨by first | rfl | kernel_rfl, Hv351.pk []⟩
 ·
  have En375 := En359.fx (t := 47) (congrArg Value.bool hb360)
  have hp376 : ¬ ((mulP (nv k) Gp).1 = true) := Bool.eq_false_iff.1 hb360
  refine d_k [0,6,7,8,9,10,11,12,13,14,15,16,56,57] [] 13 En375 fun ac377 En378 => ?_
  refine f_o ?_
  refine m_v 4 0 (.bool ((mulP (nv k) Gp).1)) En378 Hv351 rfl (seg_in rfl) fun ac379 En380 => ?_
  refine d_k [0,6,7,8,9,10,11,12,13,14,15,56,64] [(14, g_b (show (!((mulP (nv k) Gp).1)) = true from (not_b hp376))), (17, g_b (show ((decN (encL ((mulP (nv k) Gp).1) ((mulP (nv k) Gp).2.1) ((mulP (nv k) Gp).2.2))).2 == (0 : Int)) = true from (int_b (congrArg Prod.snd (lawB3 hp376)))))] 20 En380 fun ac381 En382 => ?_
  refine f_o ?_
  refine m_a 5 0 9 (([.bool (((decN (encL ((mulP (nv k) Gp).1) ((mulP (nv k) Gp).2.1) ((mulP (nv k) Gp).2.2))).1).1)] : List Value) ++ ((u64s (((decN (encL ((mulP (nv k) Gp).1) ((mulP (nv k) Gp).2.1) ((mulP (nv k) Gp).2.2))).1).2.1)) ++ (u64s (((decN (encL ((mulP (nv k) Gp).1) ((mulP (nv k) Gp).2.1) ((mulP (nv k) Gp).2.2))).1).2.2)))) En382 Hv351 rfl (load_whole (len_app rfl (len_app (u64s_lenh (decN_len (encL ((mulP (nv k) Gp).1) ((mulP (nv k) Gp).2.1) ((mulP (nv k) Gp).2.2))).1) (u64s_lenh (decN_len (encL ((mulP (nv k) Gp).1) ((mulP (nv k) Gp).2.1) ((mulP (nv k) Gp).2.2))).2)))) (len_app rfl (len_app (u64s_lenh (decN_len (encL ((mulP (nv k) Gp).1) ((mulP (nv k) Gp).2.1) ((mulP (nv k) Gp).2.2))).1) (u64s_lenh (decN_len (encL ((mulP (nv k) Gp).1) ((mulP (nv k) Gp).2.1) ((mulP (nv k) Gp).2.2))).2))) fun ac383 En384 => ?_
  refine f_o ?_
  refine m_a 4 0 9 (([.bool ((mulP (nv k) Gp).1)] : List Value) ++ ((u64s ((mulP (nv k) Gp).2.1)) ++ (u64s ((mulP (nv k) Gp).2.2)))) En384 Hv351 rfl (load_whole (len_app rfl (len_app (u64s_lenh (mulP_len _ _).1) (u64s_lenh (mulP_len _ _).2)))) (len_app rfl (len_app (u64s_lenh (mulP_len _ _).1) (u64s_lenh (mulP_len _ _).2))) fun ac385 En386 => ?_
  refine f_o ?_
  refine q_v (x := eqOp .eql 26 (.tmp 65) (.tmp 66) (.agg (List.toArray (([.bool (((decN (encL ((mulP (nv k) Gp).1) ((mulP (nv k) Gp).2.1) ((mulP (nv k) Gp).2.2))).1).1)] : List Value) ++ ((u64s (((decN (encL ((mulP (nv k) Gp).1) ((mulP (nv k) Gp).2.1) ((mulP (nv k) Gp).2.2))).1).2.1)) ++ (u64s (((decN (encL ((mulP (nv k) Gp).1) ((mulP (nv k) Gp).2.1) ((mulP (nv k) Gp).2.2))).1).2.2)))))) (.agg (List.toArray (([.bool ((mulP (nv k) Gp).1)] : List Value) ++ ((u64s ((mulP (nv k) Gp).2.1)) ++ (u64s ((mulP (nv k) Gp).2.2))))))) (v := .bool true) En386 (Go.Dbr.run_is (fun w => Go.Dbr.pnt_eqop (a := (.tmp 65)) (b := (.tmp 66)) isP (decN_len (encL ((mulP (nv k) Gp).1) ((mulP (nv k) Gp).2.1) ((mulP (nv k) Gp).2.2))).1 (decN_len (encL ((mulP (nv k) Gp).1) ((mulP (nv k) Gp).2.1) ((mulP (nv k) Gp).2.2))).2 (mulP_len _ _).1 (mulP_len _ _).2 w) (pzeq (congrArg Prod.fst (lawB3 hp376))) _) fun ac387 En388 => ?_
  refine d_e [0,6,7,8,9,10,11,12,13,14,15,17] [] En388 fun ac389 En390 => ?_
  refine then_normal ?_
  refine wp_seq ?_
  refine region_from ?_
  refine d_k [0,6,8,9,10,11,12,13,14,15,17,71] [] 2 En390 fun ac391 En392 => ?_
  refine f_o ?_
  refine m_a 2 0 9 (([.bool (((decN b).1).1)] : List Value) ++ ((u64s (((decN b).1).2.1)) ++ (u64s (((decN b).1).2.2)))) En392 Hv351 rfl (load_whole (len_app rfl (len_app (u64s_lenh (decN_len b).1) (u64s_lenh (decN_len b).2)))) (len_app rfl (len_app (u64s_lenh (decN_len b).1) (u64s_lenh (decN_len b).2))) fun ac393 En394 => ?_
  refine f_o ?_
  refine m_a 3 0 9 (([.bool (((decN b).1).1)] : List Value) ++ ((u64s (((decN b).1).2.1)) ++ (u64s (((decN b).1).2.2)))) En394 Hv351 rfl (load_whole (len_app rfl (len_app (u64s_lenh (decN_len b).1) (u64s_lenh (decN_len b).2)))) (len_app rfl (len_app (u64s_lenh (decN_len b).1) (u64s_lenh (decN_len b).2))) fun ac395 En396 => ?_
  refine f_o ?_
  refine q_v (x := eqOp .eql 26 (.tmp 72) (.tmp 73) (.agg (List.toArray (([.bool (((decN b).1).1)] : List Value) ++ ((u64s (((decN b).1).2.1)) ++ (u64s (((decN b).1).2.2)))))) (.agg (List.toArray (([.bool (((decN b).1).1)] : List Value) ++ ((u64s (((decN b).1).2.1)) ++ (u64s (((decN b).1).2.2))))))) (v := .bool true) En396 (Go.Dbr.run_is (fun w => Go.Dbr.pnt_eqop (a := (.tmp 72)) (b := (.tmp 73)) isP (decN_len b).1 (decN_len b).2 (decN_len b).1 (decN_len b).2 w) (pzeq rfl) _) fun ac397 En398 => ?_
  refine d_e [0,6,8,10,13,14,15] [(9, g_b (show ((decN b).2 == (decN b).2) = true from (beq_self_eq_true _)))] En398 fun ac399 En400 => ?_
  refine then_normal ?_
  refine wp_ret ?_
  refine d_ret1 (t := 6) (v := .bool true) En400 (by kernel_rfl) (by kernel_rfl) ?_
  exact ⟨by first | rfl | kernel_rfl, Hv351.pk []⟩

end Go.Proofs.Ytpfhmbbiadpbeaa
