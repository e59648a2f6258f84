/- FieldBytes, walked. -/
import Derived.Test.YtamdjonejijndaaF18
import Derived.Test.YtamdjonejijndaaF16
namespace Go.Proofs.Ytamdjonejijndaa
open Go.Dbr
set_option maxRecDepth 100000
set_option maxHeartbeats 2000000
set_option linter.unusedVariables false
set_option linter.unusedSimpArgs false

theorem from_to {a : List UInt64} (ha : a.length = 4) : nd (lv (lb 32 (nv a))) = a := by
  rw [lb_val, show 256 ^ 32 = W256 by decide, Nat.mod_eq_of_lt (nv_lt ha), nd_nv ha]
theorem to_from {x : List UInt8} (hx : x.length = 32) : List.reverse (lb 32 (nv (nd (lv (List.reverse x))))) = x := by
  have hl : (List.reverse x).length = 32 := rev_len hx
  have h := lv_lt (List.reverse x)
  rw [hl, show 256 ^ 32 = W256 by decide] at h
  rw [nv_nd h, ← hl, lb_lv, List.reverse_reverse]

theorem bytes_ok (f : Int) (a_b : Option Addr) (c_b : Nat) (b : List UInt8) (a : List UInt64) (w : World) (b_f : (-9223372036854775808 ≤ f ∧ f ≤ 9223372036854775807)) (i_b : InB w [] a_b c_b b) (n_a : (List.length a = 4)) (hf : (f = 1 ∨ f = 2 ∨ f = 3 ∨ f = 4)) : Calls Try.prog 8 #[.int .i64 f, .slice a_b (List.length b) c_b, .agg (List.toArray (u64s a))] w fun e w' => e = .returned (.bool true) ∧ Ev w [] w' [] := by
 refine d_0 [(0, .int .i64 f), (1, .slice a_b (List.length b) c_b), (2, .agg (List.toArray (u64s a)))] 96 Go.Proofs.Try.func8 Go.Proofs.Try.ntmps8 (Heap.nil _) fun act0 En0 Hv0 => ?_
 refine wp_seq ?_
 refine region_from ?_
 refine f_o ?_
 refine m_m 25 (u64s a) En0 Hv0 fun ac2 wo3 bk1 En4 Hv5 => ?_
 refine d_e [0,1,5,6] [] En4 fun ac6 En7 => ?_
 refine then_normal ?_
 refine wp_seq ?_
 refine region_from ?_
 refine f_o ?_
 refine c_p En7 Hv5 (head_ok _) fun ac12 wo9 En13 Hv14 => ?_
 refine d_e [0,1,5,6,7] [] En13 fun ac15 En16 => ?_
 refine then_normal ?_
 refine wp_seq ?_
 refine region_from ?_
 refine f_o ?_
 refine m_z 41 (bys (List.replicate 32 0)) En16 Hv14 fun ac18 wo19 bk17 En20 Hv21 => ?_
 refine f_e ?_
 refine then_normal ?_
 refine wp_seq ?_
 refine d_s [0,1,5,6,7,8,9] [] En20 fun ac22 En23 => ?_
 refine wp_block ?_
 refine loop_m (fun ms24 ac wo => ∃ (i : Nat) (x : List UInt8), ms24 = (33 - i : Nat) ∧ Env ac 96 [(0, .int .i64 f), (1, .slice a_b (List.length b) c_b), (5, pt bk1), (6, .bool false), (7, .bool true), (8, pt bk17), (9, ni i)] ∧ Ev w [] wo [.box bk17 (bys x) 41, .box bk1 (u64s a) 25] ∧ (i ≤ List.length b ∧ i ≤ 32) ∧ (List.length x = 32)) ⟨_, 0, List.replicate 32 0, rfl, En23.sb, Hv21.pk [1, 0], by omega, List.length_replicate⟩ ?_
 rintro mm30 ac26 wo27 ⟨i, x, rfl, En28, Hv29, hi, hx⟩
 refine wp_seq ?_
 refine wp_seq ?_
 refine region_from ?_
 refine d_k [0,1,5,6,7,8,9,19] [] 5 En28 fun ac31 En32 => ?_
 rcases Bool.eq_false_or_eq_true (decide (((i : Nat) : Int) < ((List.length b : Nat) : Int))) with hb33 | hb33
 ·
  have En34 := En32.fx (t := 19) (congrArg Value.bool hb33)
  have hp35 : ((i : Nat) : Int) < ((List.length b : Nat) : Int) := of_decide_eq_true hb33
  refine d_e [0,1,5,6,7,8,9,22] [] En34 fun ac36 En37 => ?_
  refine then_normal ?_
  refine c_d (((i : Nat) : Int) < (32 : Int)) En37 (fun hc38 => ?_) (fun hc38 => ?_)
  ·
   refine wp_skip ?_
   refine then_normal ?_
   refine wp_seq ?_
   refine wp_block ?_
   have hb41 : i < List.length b := (by omega)
   obtain ⟨adr39, had40⟩ := some_of i_b.nz hb41
   refine region_from ?_
   refine d_k [0,1,5,6,7,8,9,25,26,27] [] 3 En37 fun ac42 En43 => ?_
   refine f_o ?_
   refine q_v (x := Instr.indexAt 40 (.slice a_b (List.length b) c_b) (ni i)) (v := .pointer (some (Addr.add adr39 i))) En43 (Go.Dbr.run_indexsl (e := 5) (sz := 1) (j := i) (jo := i) had40 (by kernel_rfl) (by kernel_rfl) (by omega) hb41 (Nat.mul_one _) _) fun ac44 En45 => ?_
   refine f_o ?_
   have hb46 : i < List.length b := by omega
   refine op_loadel (d := some 29) (t := 5) (ad := adr39) (ao := a_b) (xs := bys b) (j := i) (v := bv (List.getD b i 0)) En45 (by kernel_rfl) (i_b.ev Hv29).reads had40 (bys_getD hb46) (by kernel_rfl) ?_
   intro ac47 En48
   refine f_o ?_
   refine q_v (x := Instr.indexAt 41 (pt bk17) (ni i)) (v := .pointer (some ⟨bk17, i, none⟩)) En48 (Go.Dbr.run_indexarr (e := 5) (sz := 1) (m := 32) (j := i) (o := i) (by kernel_rfl) (by kernel_rfl) (by omega) (by omega) (by omega) _) fun ac49 En50 => ?_
   refine f_o ?_
   have hb51 : i < List.length x := by rw [hx]; omega
   refine m_t 0 i (bv (List.getD b i 0)) [.box bk17 (bys (List.set x i (List.getD b i 0))) 41, .box bk1 (u64s a) 25] En50 Hv29 rfl (bys_getD hb51) (bys_set _ _ _) rfl fun ac52 wo53 En54 Hv55 => ?_
   refine f_e ?_
   refine block_normal ?_
   refine then_normal ?_
   refine d_r [0,1,5,6,7,8,9] [(1, g_n (w_a i 1))] En54 fun ac56 En57 => ?_
   refine then_normal ?_
   refine ⟨_, ⟨i + 1, (List.set x i (List.getD b i 0)), rfl, En57.sb, Hv55.pk [0, 1], by omega, (List.length_set.trans hx)⟩, ?_⟩
   omega
  ·
   refine wp_exit ?_
   refine then_exit ?_
   refine then_exit ?_
   refine block_exit ?_
   refine then_normal ?_
   refine wp_seq ?_
   refine region_from ?_
   refine f_o ?_
   refine op_lit (d := some 31) (t := 40) (T := 5) (m := 0) (parts := #[]) (xs := bys []) (sz := 1) En37 (by kernel_rfl) (by kernel_rfl) rfl (by decide) Hv29 ?_
   intro ac59 wo60 bk58 En61 Hv62
   refine d_k [0,1,5,6,7,8,9,31,32] [] 2 En61 fun ac63 En64 => ?_
   refine f_o ?_
   have hsm65 := i_b.small
   refine op_append (d := some 33) (t := 40) (tx := 40) (ty := 40) (k := 2) (p := 0) (m := List.length b) (x := .slice a_b (List.length b) c_b) (bytes := 1) En64 (by kernel_rfl) Hv62 rfl rfl (Reads.src (size := 1) (tx := 40) (e' := 5) (by kernel_rfl) (i_b.ev Hv62).reads (bys_len _) i_b.nz (bys_one _)) (by kernel_rfl) (z := .int .u8 0) (by kernel_rfl) rfl (by decide) (by omega) (by unfold maxLen; omega) ?_
   intro ac70 wo71 ao66 cp67 En72 Hv73 hnz _
   clear hnz
   rw [bys_nil_append] at Hv73
   have ehz68 : 0 + (List.length b) = List.length b := (by first | (simp; done) | (simp; omega) | omega)
   rw [ehz68] at En72
   refine d_e [0,1,5,6,7,8,9,10] [] En72 fun ac74 En75 => ?_
   refine then_normal ?_
   refine wp_seq ?_
   refine region_from ?_
   refine d_k [0,1,5,6,7,8,9,10,34,35] [] 2 En75 fun ac76 En77 => ?_
   refine f_o ?_
   refine c_p En77 Hv73 (wide_go _ f hf ao66 (List.length b) cp67 b (by first | rfl | (simp; done) | (simp; omega) | omega) (bys_in Hv73.heap (k := 2) rfl [] (by kernel_rfl) rfl (by first | omega | (simp; done) | (simp; omega)))) fun ac82 wo79 En83 Hv84 => ?_
   refine d_k [1,5,6,7,8,9,10,36,37,38] [] 5 En83 fun ac85 En86 => ?_
   refine f_o ?_
   refine c_p En86 Hv84 (rwide_go _ f hf (leftOk hf) a_b (List.length b) c_b b (by first | rfl | (simp; done) | (simp; omega) | omega) ((i_b.ev Hv84).pick [] (by kernel_rfl))) fun ac91 wo88 En92 Hv93 => ?_
   refine f_o ?_
   refine q_v (x := eqOp .eql 25 (.tmp 36) (.tmp 39) (.agg (List.toArray (u64s (nd (lv b % mF f))))) (.agg (List.toArray (u64s (nd (lv b % mF f)))))) (v := .bool true) En92 (Go.Dbr.run_is (fun w => Go.Dbr.u64s_eqop (a := (.tmp 36)) (b := (.tmp 39)) (e := 23) (m := 4) (by kernel_rfl) (by kernel_rfl) (by kernel_rfl) (by kernel_rfl) (by kernel_rfl) (nds_len _ _) (nds_len _ _) w) (by first | exact beq_self_eq_true _ | rfl) _) fun ac94 En95 => ?_
   refine d_e [1,5,6,7,8,9,10,11] [] En95 fun ac96 En97 => ?_
   refine then_normal ?_
   refine wp_seq ?_
   refine r_c (fun ac wo => Env ac 96 [(1, .slice a_b (List.length b) c_b), (5, pt bk1), (6, .bool false), (7, .bool true), (8, pt bk17), (9, ni i), (10, .slice ao66 (List.length b) cp67), (11, .bool true), (12, .bool true)] ∧ Ev w [] wo [.box bk17 (bys x) 41, .box bk1 (u64s a) 25, .vec ao66 cp67 1 (bys b) 5]) ?_ ?_
   ·
    refine h_s (fun wv => Ev w [] wv [.box bk17 (bys x) 41, .box bk1 (u64s a) 25]) [] 20 ?_
    have wo98 := Hv93.trans (Ev.drew Hv93.heap)
    refine q_r 0 (s := Instr.loadAt 25 (pt bk1)) (v := .agg (List.toArray (u64s a))) En97 (fun w hS => run_loadAgg2 (m := 4) (cs := u64s a) (u64s_lenh n_a) (by kernel_rfl) (by kernel_rfl) (hS.heap.cells (k := 1) (off := 0) (m := 4) rfl (load_whole (u64s_lenh n_a)))) (wo98.pk [0, 1]) fun ac386 En387 => ?_
    refine q_r 2 (s := Instr.loadAt 25 (pt bk1)) (v := .agg (List.toArray (u64s a))) En387 (fun w hS => run_loadAgg2 (m := 4) (cs := u64s a) (u64s_lenh n_a) (by kernel_rfl) (by kernel_rfl) (hS.heap.cells (k := 1) (off := 0) (m := 4) rfl (load_whole (u64s_lenh n_a)))) (wo98.pk [0, 1]) fun ac388 En389 => ?_
    refine q_t 1 ?_
    refine c_p En389 wo98 (tole_go _ a n_a) fun ac394 wo391 En395 Hv396 => ?_
    refine ⟨fun _ => Hv396.pk [0, 1], ?_⟩
    refine q_t 3 ?_
    refine c_p En395 Hv396 (rtole_go _ a n_a) fun ac401 wo398 En402 Hv403 => ?_
    refine ⟨fun _ => Hv403.pk [0, 1], ?_⟩
    refine q_f 4 (s := eqOp .eql 41 (.tmp 42) (.tmp 44) (.agg (List.toArray (bys (lb 32 (nv a))))) (.agg (List.toArray (bys (lb 32 (nv a)))))) (v := .bool true) En402 (fun _ => Go.Dbr.run_is (fun w => Go.Dbr.bys_eqop (a := (.tmp 42)) (b := (.tmp 44)) (e := 5) (m := 32) (by kernel_rfl) (by kernel_rfl) (by kernel_rfl) (by kernel_rfl) (by kernel_rfl) (lb_len _ _) (lb_len _ _) w) (by first | exact beq_self_eq_true _ | rfl) _) (fun _ => Hv403.pk [0, 1]) fun ac404 En405 => ?_
    refine q_s [5] [] 14 En405 (Hv403.pk [0, 1]) fun ac406 En407 => ?_
    refine q_r 6 (s := Instr.loadAt 41 (pt bk17)) (v := .agg (List.toArray (bys x))) En407 (fun w hS => run_loadAgg2 (m := 32) (cs := bys x) (bys_lenh hx) (by kernel_rfl) (by kernel_rfl) (hS.heap.cells (k := 0) (off := 0) (m := 32) rfl (load_whole (bys_lenh hx)))) (Hv403.pk [0, 1]) fun ac408 En409 => ?_
    refine q_r 8 (s := Instr.loadAt 41 (pt bk17)) (v := .agg (List.toArray (bys x))) En409 (fun w hS => run_loadAgg2 (m := 32) (cs := bys x) (bys_lenh hx) (by kernel_rfl) (by kernel_rfl) (hS.heap.cells (k := 0) (off := 0) (m := 32) rfl (load_whole (bys_lenh hx)))) (Hv403.pk [0, 1]) fun ac410 En411 => ?_
    refine q_t 7 ?_
    refine c_p En411 Hv403 (fromle_go _ x hx) fun ac416 wo413 En417 Hv418 => ?_
    refine ⟨fun _ => Hv418.pk [0, 1], ?_⟩
    refine q_t 9 ?_
    refine c_p En417 Hv418 (rfromle_go _ x hx) fun ac423 wo420 En424 Hv425 => ?_
    refine ⟨fun _ => Hv425.pk [0, 1], ?_⟩
    refine q_f 10 (s := eqOp .eql 25 (.tmp 48) (.tmp 50) (.agg (List.toArray (u64s (nd (lv x))))) (.agg (List.toArray (u64s (nd (lv x)))))) (v := .bool true) En424 (fun _ => Go.Dbr.run_is (fun w => Go.Dbr.u64s_eqop (a := (.tmp 48)) (b := (.tmp 50)) (e := 23) (m := 4) (by kernel_rfl) (by kernel_rfl) (by kernel_rfl) (by kernel_rfl) (by kernel_rfl) (nds_len _ _) (nds_len _ _) w) (by first | exact beq_self_eq_true _ | rfl) _) (fun _ => Hv425.pk [0, 1]) fun ac426 En427 => ?_
    refine q_s [11,12] [] 7 En427 (Hv425.pk [0, 1]) fun ac428 En429 => ?_
    refine q_r 13 (s := Instr.loadAt 25 (pt bk1)) (v := .agg (List.toArray (u64s a))) En429 (fun w hS => run_loadAgg2 (m := 4) (cs := u64s a) (u64s_lenh n_a) (by kernel_rfl) (by kernel_rfl) (hS.heap.cells (k := 1) (off := 0) (m := 4) rfl (load_whole (u64s_lenh n_a)))) (Hv425.pk [0, 1]) fun ac430 En431 => ?_
    refine q_r 16 (s := Instr.loadAt 25 (pt bk1)) (v := .agg (List.toArray (u64s a))) En431 (fun w hS => run_loadAgg2 (m := 4) (cs := u64s a) (u64s_lenh n_a) (by kernel_rfl) (by kernel_rfl) (hS.heap.cells (k := 1) (off := 0) (m := 4) rfl (load_whole (u64s_lenh n_a)))) (Hv425.pk [0, 1]) fun ac432 En433 => ?_
    refine q_t 14 ?_
    refine c_p En433 Hv425 (tole_go _ a n_a) fun ac438 wo435 En439 Hv440 => ?_
    refine ⟨fun _ => Hv440.pk [0, 1], ?_⟩
    refine q_t 15 ?_
    refine c_p En439 Hv440 (fromle_go _ (lb 32 (nv a)) (lb_len _ _)) fun ac445 wo442 En446 Hv447 => ?_
    refine ⟨fun _ => Hv447.pk [0, 1], ?_⟩
    refine q_f 17 (s := eqOp .eql 25 (.tmp 56) (.tmp 57) (.agg (List.toArray (u64s (nd (lv (lb 32 (nv a))))))) (.agg (List.toArray (u64s a)))) (v := .bool true) En446 (fun _ => Go.Dbr.run_is (fun w => Go.Dbr.u64s_eqop (a := (.tmp 56)) (b := (.tmp 57)) (e := 23) (m := 4) (by kernel_rfl) (by kernel_rfl) (by kernel_rfl) (by kernel_rfl) (by kernel_rfl) (nds_len _ _) n_a w) (beq_l (from_to n_a)) _) (fun _ => Hv447.pk [0, 1]) fun ac448 En449 => ?_
    refine q_s [18,19] [] 0 En449 (Hv447.pk [0, 1]) fun ac450 En451 => ?_
    exact h_e ⟨En451.sb, Hv447.pk [0, 1, 2]⟩
   rintro ac452 wo453 ⟨En454, Hv455⟩
   refine then_normal ?_
   refine wp_seq ?_
   refine r_c (fun ac wo => Env ac 96 [(1, .slice a_b (List.length b) c_b), (5, pt bk1), (6, .bool false), (7, .bool true), (8, pt bk17), (9, ni i), (10, .slice ao66 (List.length b) cp67), (11, .bool true), (12, .bool true), (13, .bool true)] ∧ Ev w [] wo [.box bk17 (bys x) 41, .box bk1 (u64s a) 25, .vec ao66 cp67 1 (bys b) 5]) ?_ ?_
   ·
    refine h_s (fun wv => Ev w [] wv [.box bk17 (bys x) 41, .box bk1 (u64s a) 25]) [] 20 ?_
    have wo456 := Hv455.trans (Ev.drew Hv455.heap)
    refine q_r 0 (s := Instr.loadAt 25 (pt bk1)) (v := .agg (List.toArray (u64s a))) En454 (fun w hS => run_loadAgg2 (m := 4) (cs := u64s a) (u64s_lenh n_a) (by kernel_rfl) (by kernel_rfl) (hS.heap.cells (k := 1) (off := 0) (m := 4) rfl (load_whole (u64s_lenh n_a)))) (wo456.pk [0, 1]) fun ac744 En745 => ?_
    refine q_r 2 (s := Instr.loadAt 25 (pt bk1)) (v := .agg (List.toArray (u64s a))) En745 (fun w hS => run_loadAgg2 (m := 4) (cs := u64s a) (u64s_lenh n_a) (by kernel_rfl) (by kernel_rfl) (hS.heap.cells (k := 1) (off := 0) (m := 4) rfl (load_whole (u64s_lenh n_a)))) (wo456.pk [0, 1]) fun ac746 En747 => ?_
    refine q_t 1 ?_
    refine c_p En747 wo456 (tobe_go _ a n_a) fun ac752 wo749 En753 Hv754 => ?_
    refine ⟨fun _ => Hv754.pk [0, 1], ?_⟩
    refine q_t 3 ?_
    refine c_p En753 Hv754 (rtobe_go _ a n_a) fun ac759 wo756 En760 Hv761 => ?_
    refine ⟨fun _ => Hv761.pk [0, 1], ?_⟩
    refine q_f 4 (s := eqOp .eql 41 (.tmp 61) (.tmp 63) (.agg (List.toArray (bys (List.reverse (lb 32 (nv a)))))) (.agg (List.toArray (bys (List.reverse (lb 32 (nv a))))))) (v := .bool true) En760 (fun _ => Go.Dbr.run_is (fun w => Go.Dbr.bys_eqop (a := (.tmp 61)) (b := (.tmp 63)) (e := 5) (m := 32) (by kernel_rfl) (by kernel_rfl) (by kernel_rfl) (by kernel_rfl) (by kernel_rfl) (rev_len (lb_len _ _)) (rev_len (lb_len _ _)) w) (by first | exact beq_self_eq_true _ | rfl) _) (fun _ => Hv761.pk [0, 1]) fun ac762 En763 => ?_
    refine q_s [5] [] 14 En763 (Hv761.pk [0, 1]) fun ac764 En765 => ?_
    refine q_r 6 (s := Instr.loadAt 41 (pt bk17)) (v := .agg (List.toArray (bys x))) En765 (fun w hS => run_loadAgg2 (m := 32) (cs := bys x) (bys_lenh hx) (by kernel_rfl) (by kernel_rfl) (hS.heap.cells (k := 0) (off := 0) (m := 32) rfl (load_whole (bys_lenh hx)))) (Hv761.pk [0, 1]) fun ac766 En767 => ?_
    refine q_r 8 (s := Instr.loadAt 41 (pt bk17)) (v := .agg (List.toArray (bys x))) En767 (fun w hS => run_loadAgg2 (m := 32) (cs := bys x) (bys_lenh hx) (by kernel_rfl) (by kernel_rfl) (hS.heap.cells (k := 0) (off := 0) (m := 32) rfl (load_whole (bys_lenh hx)))) (Hv761.pk [0, 1]) fun ac768 En769 => ?_
    refine q_t 7 ?_
    refine c_p En769 Hv761 (frombe_go _ x hx) fun ac774 wo771 En775 Hv776 => ?_
    refine ⟨fun _ => Hv776.pk [0, 1], ?_⟩
    refine q_t 9 ?_
    refine c_p En775 Hv776 (rfrombe_go _ x hx) fun ac781 wo778 En782 Hv783 => ?_
    refine ⟨fun _ => Hv783.pk [0, 1], ?_⟩
    refine q_f 10 (s := eqOp .eql 25 (.tmp 67) (.tmp 69) (.agg (List.toArray (u64s (nd (lv (List.reverse x)))))) (.agg (List.toArray (u64s (nd (lv (List.reverse x))))))) (v := .bool true) En782 (fun _ => Go.Dbr.run_is (fun w => Go.Dbr.u64s_eqop (a := (.tmp 67)) (b := (.tmp 69)) (e := 23) (m := 4) (by kernel_rfl) (by kernel_rfl) (by kernel_rfl) (by kernel_rfl) (by kernel_rfl) (nds_len _ _) (nds_len _ _) w) (by first | exact beq_self_eq_true _ | rfl) _) (fun _ => Hv783.pk [0, 1]) fun ac784 En785 => ?_
    refine q_s [11,12] [] 7 En785 (Hv783.pk [0, 1]) fun ac786 En787 => ?_
    refine q_r 13 (s := Instr.loadAt 41 (pt bk17)) (v := .agg (List.toArray (bys x))) En787 (fun w hS => run_loadAgg2 (m := 32) (cs := bys x) (bys_lenh hx) (by kernel_rfl) (by kernel_rfl) (hS.heap.cells (k := 0) (off := 0) (m := 32) rfl (load_whole (bys_lenh hx)))) (Hv783.pk [0, 1]) fun ac788 En789 => ?_
    refine q_r 16 (s := Instr.loadAt 41 (pt bk17)) (v := .agg (List.toArray (bys x))) En789 (fun w hS => run_loadAgg2 (m := 32) (cs := bys x) (bys_lenh hx) (by kernel_rfl) (by kernel_rfl) (hS.heap.cells (k := 0) (off := 0) (m := 32) rfl (load_whole (bys_lenh hx)))) (Hv783.pk [0, 1]) fun ac790 En791 => ?_
    refine q_t 14 ?_
    refine c_p En791 Hv783 (frombe_go _ x hx) fun ac796 wo793 En797 Hv798 => ?_
    refine ⟨fun _ => Hv798.pk [0, 1], ?_⟩
    refine q_t 15 ?_
    refine c_p En797 Hv798 (tobe_go _ (nd (lv (List.reverse x))) (nds_len _ _)) fun ac803 wo800 En804 Hv805 => ?_
    refine ⟨fun _ => Hv805.pk [0, 1], ?_⟩
    refine q_f 17 (s := eqOp .eql 41 (.tmp 75) (.tmp 76) (.agg (List.toArray (bys (List.reverse (lb 32 (nv (nd (lv (List.reverse x))))))))) (.agg (List.toArray (bys x)))) (v := .bool true) En804 (fun _ => Go.Dbr.run_is (fun w => Go.Dbr.bys_eqop (a := (.tmp 75)) (b := (.tmp 76)) (e := 5) (m := 32) (by kernel_rfl) (by kernel_rfl) (by kernel_rfl) (by kernel_rfl) (by kernel_rfl) (rev_len (lb_len _ _)) hx w) (beq_b (to_from hx)) _) (fun _ => Hv805.pk [0, 1]) fun ac806 En807 => ?_
    refine q_s [18,19] [] 0 En807 (Hv805.pk [0, 1]) fun ac808 En809 => ?_
    exact h_e ⟨En809.sb, Hv805.pk [0, 1, 2]⟩
   rintro ac810 wo811 ⟨En812, Hv813⟩
   refine then_normal ?_
   refine wp_seq ?_
   refine region_from ?_
   refine d_k [1,5,6,8,9,10,89,90] [] 12 En812 fun ac814 En815 => ?_
   refine f_o ?_
   refine op_str (d := some 91) (src := 40) (dst := 9) (e := 5) (ao := ao66) (cap := cp67) (p := List.length b) (bs := b) En815 (by kernel_rfl) rfl (by kernel_rfl) (by kernel_rfl) (by kernel_rfl) (Hv813.heap.reads (k := 2) rfl) (bys_vnz Hv813.heap (k := 2) rfl) ?_
   intro ac816 En817
   refine d_k [1,5,6,8,9,10,89,91,92] [] 14 En817 fun ac818 En819 => ?_
   refine f_o ?_
   refine op_str (d := some 93) (src := 40) (dst := 9) (e := 5) (ao := a_b) (cap := c_b) (p := List.length b) (bs := b) En819 (by kernel_rfl) rfl (by kernel_rfl) (by kernel_rfl) (by kernel_rfl) (i_b.ev Hv813).reads i_b.nz ?_
   intro ac820 En821
   refine d_e [1,5,6,8,9,10] [(15, g_v (show (.bool (ByteArray.toList (bstr b) == ByteArray.toList (bstr b)) : Value) = .bool true by rw [Go.Dbr.bstr_eq b b, show (b == b) = true from (by simp)] <;> rfl))] En821 fun ac822 En823 => ?_
   refine then_normal ?_
   refine wp_ret ?_
   refine d_ret1 (t := 6) (v := .bool true) En823 (by kernel_rfl) (by kernel_rfl) ?_
   exact ⟨rfl, Hv813.pk []⟩
 ·
  have En824 := En32.fx (t := 19) (congrArg Value.bool hb33)
  have hp825 : ¬ (((i : Nat) : Int) < ((List.length b : Nat) : Int)) := of_decide_eq_false hb33
  refine d_e [0,1,5,6,7,8,9,22] [] En824 fun ac826 En827 => ?_
  refine then_normal ?_
  refine c_f En827 ?_
  refine wp_exit ?_
  refine then_exit ?_
  refine then_exit ?_
  refine block_exit ?_
  refine then_normal ?_
  refine wp_seq ?_
  refine region_from ?_
  refine f_o ?_
  refine op_lit (d := some 31) (t := 40) (T := 5) (m := 0) (parts := #[]) (xs := bys []) (sz := 1) En827 (by kernel_rfl) (by kernel_rfl) rfl (by decide) Hv29 ?_
  intro ac829 wo830 bk828 En831 Hv832
  refine d_k [0,1,5,6,7,8,9,31,32] [] 2 En831 fun ac833 En834 => ?_
  refine f_o ?_
  have hsm835 := i_b.small
  refine op_append (d := some 33) (t := 40) (tx := 40) (ty := 40) (k := 2) (p := 0) (m := List.length b) (x := .slice a_b (List.length b) c_b) (bytes := 1) En834 (by kernel_rfl) Hv832 rfl rfl (Reads.src (size := 1) (tx := 40) (e' := 5) (by kernel_rfl) (i_b.ev Hv832).reads (bys_len _) i_b.nz (bys_one _)) (by kernel_rfl) (z := .int .u8 0) (by kernel_rfl) rfl (by decide) (by omega) (by unfold maxLen; omega) ?_
  intro ac840 wo841 ao836 cp837 En842 Hv843 hnz _
  clear hnz
  rw [bys_nil_append] at Hv843
  have ehz838 : 0 + (List.length b) = List.length b := (by first | (simp; done) | (simp; omega) | omega)
  rw [ehz838] at En842
  refine d_e [0,1,5,6,7,8,9,10] [] En842 fun ac844 En845 => ?_
  refine then_normal ?_
  refine wp_seq ?_
  refine region_from ?_
  refine d_k [0,1,5,6,7,8,9,10,34,35] [] 2 En845 fun ac846 En847 => ?_
  refine f_o ?_
  refine c_p En847 Hv843 (wide_go _ f hf ao836 (List.length b) cp837 b (by first | rfl | (simp; done) | (simp; omega) | omega) (bys_in Hv843.heap (k := 2) rfl [] (by kernel_rfl) rfl (by first | omega | (simp; done) | (simp; omega)))) fun ac852 wo849 En853 Hv854 => ?_
  refine d_k [1,5,6,7,8,9,10,36,37,38] [] 5 En853 fun ac855 En856 => ?_
  refine f_o ?_
  refine c_p En856 Hv854 (rwide_go _ f hf (leftOk hf) a_b (List.length b) c_b b (by first | rfl | (simp; done) | (simp; omega) | omega) ((i_b.ev Hv854).pick [] (by kernel_rfl))) fun ac861 wo858 En862 Hv863 => ?_
  refine f_o ?_
  refine q_v (x := eqOp .eql 25 (.tmp 36) (.tmp 39) (.agg (List.toArray (u64s (nd (lv b % mF f))))) (.agg (List.toArray (u64s (nd (lv b % mF f)))))) (v := .bool true) En862 (Go.Dbr.run_is (fun w => Go.Dbr.u64s_eqop (a := (.tmp 36)) (b := (.tmp 39)) (e := 23) (m := 4) (by kernel_rfl) (by kernel_rfl) (by kernel_rfl) (by kernel_rfl) (by kernel_rfl) (nds_len _ _) (nds_len _ _) w) (by first | exact beq_self_eq_true _ | rfl) _) fun ac864 En865 => ?_
  refine d_e [1,5,6,7,8,9,10,11] [] En865 fun ac866 En867 => ?_
  refine then_normal ?_
  refine wp_seq ?_
  refine r_c (fun ac wo => Env ac 96 [(1, .slice a_b (List.length b) c_b), (5, pt bk1), (6, .bool false), (7, .bool true), (8, pt bk17), (9, ni i), (10, .slice ao836 (List.length b) cp837), (11, .bool true), (12, .bool true)] ∧ Ev w [] wo [.box bk17 (bys x) 41, .box bk1 (u64s a) 25, .vec ao836 cp837 1 (bys b) 5]) ?_ ?_
  ·
   refine h_s (fun wv => Ev w [] wv [.box bk17 (bys x) 41, .box bk1 (u64s a) 25]) [] 20 ?_
   have wo868 := Hv863.trans (Ev.drew Hv863.heap)
   refine q_r 0 (s := Instr.loadAt 25 (pt bk1)) (v := .agg (List.toArray (u64s a))) En867 (fun w hS => run_loadAgg2 (m := 4) (cs := u64s a) (u64s_lenh n_a) (by kernel_rfl) (by kernel_rfl) (hS.heap.cells (k := 1) (off := 0) (m := 4) rfl (load_whole (u64s_lenh n_a)))) (wo868.pk [0, 1]) fun ac1156 En1157 => ?_
   refine q_r 2 (s := Instr.loadAt 25 (pt bk1)) (v := .agg (List.toArray (u64s a))) En1157 (fun w hS => run_loadAgg2 (m := 4) (cs := u64s a) (u64s_lenh n_a) (by kernel_rfl) (by kernel_rfl) (hS.heap.cells (k := 1) (off := 0) (m := 4) rfl (load_whole (u64s_lenh n_a)))) (wo868.pk [0, 1]) fun ac1158 En1159 => ?_
   refine q_t 1 ?_
   refine c_p En1159 wo868 (tole_go _ a n_a) fun ac1164 wo1161 En1165 Hv1166 => ?_
   refine ⟨fun _ => Hv1166.pk [0, 1], ?_⟩
   refine q_t 3 ?_
   refine c_p En1165 Hv1166 (rtole_go _ a n_a) fun ac1171 wo1168 En1172 Hv1173 => ?_
   refine ⟨fun _ => Hv1173.pk [0, 1], ?_⟩
   refine q_f 4 (s := eqOp .eql 41 (.tmp 42) (.tmp 44) (.agg (List.toArray (bys (lb 32 (nv a))))) (.agg (List.toArray (bys (lb 32 (nv a)))))) (v := .bool true) En1172 (fun _ => Go.Dbr.run_is (fun w => Go.Dbr.bys_eqop (a := (.tmp 42)) (b := (.tmp 44)) (e := 5) (m := 32) (by kernel_rfl) (by kernel_rfl) (by kernel_rfl) (by kernel_rfl) (by kernel_rfl) (lb_len _ _) (lb_len _ _) w) (by first | exact beq_self_eq_true _ | rfl) _) (fun _ => Hv1173.pk [0, 1]) fun ac1174 En1175 => ?_
   refine q_s [5] [] 14 En1175 (Hv1173.pk [0, 1]) fun ac1176 En1177 => ?_
   refine q_r 6 (s := Instr.loadAt 41 (pt bk17)) (v := .agg (List.toArray (bys x))) En1177 (fun w hS => run_loadAgg2 (m := 32) (cs := bys x) (bys_lenh hx) (by kernel_rfl) (by kernel_rfl) (hS.heap.cells (k := 0) (off := 0) (m := 32) rfl (load_whole (bys_lenh hx)))) (Hv1173.pk [0, 1]) fun ac1178 En1179 => ?_
   refine q_r 8 (s := Instr.loadAt 41 (pt bk17)) (v := .agg (List.toArray (bys x))) En1179 (fun w hS => run_loadAgg2 (m := 32) (cs := bys x) (bys_lenh hx) (by kernel_rfl) (by kernel_rfl) (hS.heap.cells (k := 0) (off := 0) (m := 32) rfl (load_whole (bys_lenh hx)))) (Hv1173.pk [0, 1]) fun ac1180 En1181 => ?_
   refine q_t 7 ?_
   refine c_p En1181 Hv1173 (fromle_go _ x hx) fun ac1186 wo1183 En1187 Hv1188 => ?_
   refine ⟨fun _ => Hv1188.pk [0, 1], ?_⟩
   refine q_t 9 ?_
   refine c_p En1187 Hv1188 (rfromle_go _ x hx) fun ac1193 wo1190 En1194 Hv1195 => ?_
   refine ⟨fun _ => Hv1195.pk [0, 1], ?_⟩
   refine q_f 10 (s := eqOp .eql 25 (.tmp 48) (.tmp 50) (.agg (List.toArray (u64s (nd (lv x))))) (.agg (List.toArray (u64s (nd (lv x)))))) (v := .bool true) En1194 (fun _ => Go.Dbr.run_is (fun w => Go.Dbr.u64s_eqop (a := (.tmp 48)) (b := (.tmp 50)) (e := 23) (m := 4) (by kernel_rfl) (by kernel_rfl) (by kernel_rfl) (by kernel_rfl) (by kernel_rfl) (nds_len _ _) (nds_len _ _) w) (by first | exact beq_self_eq_true _ | rfl) _) (fun _ => Hv1195.pk [0, 1]) fun ac1196 En1197 => ?_
   refine q_s [11,12] [] 7 En1197 (Hv1195.pk [0, 1]) fun ac1198 En1199 => ?_
   refine q_r 13 (s := Instr.loadAt 25 (pt bk1)) (v := .agg (List.toArray (u64s a))) En1199 (fun w hS => run_loadAgg2 (m := 4) (cs := u64s a) (u64s_lenh n_a) (by kernel_rfl) (by kernel_rfl) (hS.heap.cells (k := 1) (off := 0) (m := 4) rfl (load_whole (u64s_lenh n_a)))) (Hv1195.pk [0, 1]) fun ac1200 En1201 => ?_
   refine q_r 16 (s := Instr.loadAt 25 (pt bk1)) (v := .agg (List.toArray (u64s a))) En1201 (fun w hS => run_loadAgg2 (m := 4) (cs := u64s a) (u64s_lenh n_a) (by kernel_rfl) (by kernel_rfl) (hS.heap.cells (k := 1) (off := 0) (m := 4) rfl (load_whole (u64s_lenh n_a)))) (Hv1195.pk [0, 1]) fun ac1202 En1203 => ?_
   refine q_t 14 ?_
   refine c_p En1203 Hv1195 (tole_go _ a n_a) fun ac1208 wo1205 En1209 Hv1210 => ?_
   refine ⟨fun _ => Hv1210.pk [0, 1], ?_⟩
   refine q_t 15 ?_
   refine c_p En1209 Hv1210 (fromle_go _ (lb 32 (nv a)) (lb_len _ _)) fun ac1215 wo1212 En1216 Hv1217 => ?_
   refine ⟨fun _ => Hv1217.pk [0, 1], ?_⟩
   refine q_f 17 (s := eqOp .eql 25 (.tmp 56) (.tmp 57) (.agg (List.toArray (u64s (nd (lv (lb 32 (nv a))))))) (.agg (List.toArray (u64s a)))) (v := .bool true) En1216 (fun _ => Go.Dbr.run_is (fun w => Go.Dbr.u64s_eqop (a := (.tmp 56)) (b := (.tmp 57)) (e := 23) (m := 4) (by kernel_rfl) (by kernel_rfl) (by kernel_rfl) (by kernel_rfl) (by kernel_rfl) (nds_len _ _) n_a w) (beq_l (from_to n_a)) _) (fun _ => Hv1217.pk [0, 1]) fun ac1218 En1219 => ?_
   refine q_s [18,19] [] 0 En1219 (Hv1217.pk [0, 1]) fun ac1220 En1221 => ?_
   exact h_e ⟨En1221.sb, Hv1217.pk [0, 1, 2]⟩
  rintro ac1222 wo1223 ⟨En1224, Hv1225⟩
  refine then_normal ?_
  refine wp_seq ?_
  refine r_c (fun ac wo => Env ac 96 [(1, .slice a_b (List.length b) c_b), (5, pt bk1), (6, .bool false), (7, .bool true), (8, pt bk17), (9, ni i), (10, .slice ao836 (List.length b) cp837), (11, .bool true), (12, .bool true), (13, .bool true)] ∧ Ev w [] wo [.box bk17 (bys x) 41, .box bk1 (u64s a) 25, .vec ao836 cp837 1 (bys b) 5]) ?_ ?_
  ·
   refine h_s (fun wv => Ev w [] wv [.box bk17 (bys x) 41, .box bk1 (u64s a) 25]) [] 20 ?_
   have wo1226 := Hv1225.trans (Ev.drew Hv1225.heap)
   refine q_r 0 (s := Instr.loadAt 25 (pt bk1)) (v := .agg (List.toArray (u64s a))) En1224 (fun w hS => run_loadAgg2 (m := 4) (cs := u64s a) (u64s_lenh n_a) (by kernel_rfl) (by kernel_rfl) (hS.heap.cells (k := 1) (off := 0) (m := 4) rfl (load_whole (u64s_lenh n_a)))) (wo1226.pk [0, 1]) fun ac1514 En1515 => ?_
   refine q_r 2 (s := Instr.loadAt 25 (pt bk1)) (v := .agg (List.toArray (u64s a))) En1515 (fun w hS => run_loadAgg2 (m := 4) (cs := u64s a) (u64s_lenh n_a) (by kernel_rfl) (by kernel_rfl) (hS.heap.cells (k := 1) (off := 0) (m := 4) rfl (load_whole (u64s_lenh n_a)))) (wo1226.pk [0, 1]) fun ac1516 En1517 => ?_
   refine q_t 1 ?_
   refine c_p En1517 wo1226 (tobe_go _ a n_a) fun ac1522 wo1519 En1523 Hv1524 => ?_
   refine ⟨fun _ => Hv1524.pk [0, 1], ?_⟩
   refine q_t 3 ?_
   refine c_p En1523 Hv1524 (rtobe_go _ a n_a) fun ac1529 wo1526 En1530 Hv1531 => ?_
   refine ⟨fun _ => Hv1531.pk [0, 1], ?_⟩
   refine q_f 4 (s := eqOp .eql 41 (.tmp 61) (.tmp 63) (.agg (List.toArray (bys (List.reverse (lb 32 (nv a)))))) (.agg (List.toArray (bys (List.reverse (lb 32 (nv a))))))) (v := .bool true) En1530 (fun _ => Go.Dbr.run_is (fun w => Go.Dbr.bys_eqop (a := (.tmp 61)) (b := (.tmp 63)) (e := 5) (m := 32) (by kernel_rfl) (by kernel_rfl) (by kernel_rfl) (by kernel_rfl) (by kernel_rfl) (rev_len (lb_len _ _)) (rev_len (lb_len _ _)) w) (by first | exact beq_self_eq_true _ | rfl) _) (fun _ => Hv1531.pk [0, 1]) fun ac1532 En1533 => ?_
   refine q_s [5] [] 14 En1533 (Hv1531.pk [0, 1]) fun ac1534 En1535 => ?_
   refine q_r 6 (s := Instr.loadAt 41 (pt bk17)) (v := .agg (List.toArray (bys x))) En1535 (fun w hS => run_loadAgg2 (m := 32) (cs := bys x) (bys_lenh hx) (by kernel_rfl) (by kernel_rfl) (hS.heap.cells (k := 0) (off := 0) (m := 32) rfl (load_whole (bys_lenh hx)))) (Hv1531.pk [0, 1]) fun ac1536 En1537 => ?_
   refine q_r 8 (s := Instr.loadAt 41 (pt bk17)) (v := .agg (List.toArray (bys x))) En1537 (fun w hS => run_loadAgg2 (m := 32) (cs := bys x) (bys_lenh hx) (by kernel_rfl) (by kernel_rfl) (hS.heap.cells (k := 0) (off := 0) (m := 32) rfl (load_whole (bys_lenh hx)))) (Hv1531.pk [0, 1]) fun ac1538 En1539 => ?_
   refine q_t 7 ?_
   refine c_p En1539 Hv1531 (frombe_go _ x hx) fun ac1544 wo1541 En1545 Hv1546 => ?_
   refine ⟨fun _ => Hv1546.pk [0, 1], ?_⟩
   refine q_t 9 ?_
   refine c_p En1545 Hv1546 (rfrombe_go _ x hx) fun ac1551 wo1548 En1552 Hv1553 => ?_
   refine ⟨fun _ => Hv1553.pk [0, 1], ?_⟩
   refine q_f 10 (s := eqOp .eql 25 (.tmp 67) (.tmp 69) (.agg (List.toArray (u64s (nd (lv (List.reverse x)))))) (.agg (List.toArray (u64s (nd (lv (List.reverse x))))))) (v := .bool true) En1552 (fun _ => Go.Dbr.run_is (fun w => Go.Dbr.u64s_eqop (a := (.tmp 67)) (b := (.tmp 69)) (e := 23) (m := 4) (by kernel_rfl) (by kernel_rfl) (by kernel_rfl) (by kernel_rfl) (by kernel_rfl) (nds_len _ _) (nds_len _ _) w) (by first | exact beq_self_eq_true _ | rfl) _) (fun _ => Hv1553.pk [0, 1]) fun ac1554 En1555 => ?_
   refine q_s [11,12] [] 7 En1555 (Hv1553.pk [0, 1]) fun ac1556 En1557 => ?_
   refine q_r 13 (s := Instr.loadAt 41 (pt bk17)) (v := .agg (List.toArray (bys x))) En1557 (fun w hS => run_loadAgg2 (m := 32) (cs := bys x) (bys_lenh hx) (by kernel_rfl) (by kernel_rfl) (hS.heap.cells (k := 0) (off := 0) (m := 32) rfl (load_whole (bys_lenh hx)))) (Hv1553.pk [0, 1]) fun ac1558 En1559 => ?_
   refine q_r 16 (s := Instr.loadAt 41 (pt bk17)) (v := .agg (List.toArray (bys x))) En1559 (fun w hS => run_loadAgg2 (m := 32) (cs := bys x) (bys_lenh hx) (by kernel_rfl) (by kernel_rfl) (hS.heap.cells (k := 0) (off := 0) (m := 32) rfl (load_whole (bys_lenh hx)))) (Hv1553.pk [0, 1]) fun ac1560 En1561 => ?_
   refine q_t 14 ?_
   refine c_p En1561 Hv1553 (frombe_go _ x hx) fun ac1566 wo1563 En1567 Hv1568 => ?_
   refine ⟨fun _ => Hv1568.pk [0, 1], ?_⟩
   refine q_t 15 ?_
   refine c_p En1567 Hv1568 (tobe_go _ (nd (lv (List.reverse x))) (nds_len _ _)) fun ac1573 wo1570 En1574 Hv1575 => ?_
   refine ⟨fun _ => Hv1575.pk [0, 1], ?_⟩
   refine q_f 17 (s := eqOp .eql 41 (.tmp 75) (.tmp 76) (.agg (List.toArray (bys (List.reverse (lb 32 (nv (nd (lv (List.reverse x))))))))) (.agg (List.toArray (bys x)))) (v := .bool true) En1574 (fun _ => Go.Dbr.run_is (fun w => Go.Dbr.bys_eqop (a := (.tmp 75)) (b := (.tmp 76)) (e := 5) (m := 32) (by kernel_rfl) (by kernel_rfl) (by kernel_rfl) (by kernel_rfl) (by kernel_rfl) (rev_len (lb_len _ _)) hx w) (beq_b (to_from hx)) _) (fun _ => Hv1575.pk [0, 1]) fun ac1576 En1577 => ?_
   refine q_s [18,19] [] 0 En1577 (Hv1575.pk [0, 1]) fun ac1578 En1579 => ?_
   exact h_e ⟨En1579.sb, Hv1575.pk [0, 1, 2]⟩
  rintro ac1580 wo1581 ⟨En1582, Hv1583⟩
  refine then_normal ?_
  refine wp_seq ?_
  refine region_from ?_
  refine d_k [1,5,6,8,9,10,89,90] [] 12 En1582 fun ac1584 En1585 => ?_
  refine f_o ?_
  refine op_str (d := some 91) (src := 40) (dst := 9) (e := 5) (ao := ao836) (cap := cp837) (p := List.length b) (bs := b) En1585 (by kernel_rfl) rfl (by kernel_rfl) (by kernel_rfl) (by kernel_rfl) (Hv1583.heap.reads (k := 2) rfl) (bys_vnz Hv1583.heap (k := 2) rfl) ?_
  intro ac1586 En1587
  refine d_k [1,5,6,8,9,10,89,91,92] [] 14 En1587 fun ac1588 En1589 => ?_
  refine f_o ?_
  refine op_str (d := some 93) (src := 40) (dst := 9) (e := 5) (ao := a_b) (cap := c_b) (p := List.length b) (bs := b) En1589 (by kernel_rfl) rfl (by kernel_rfl) (by kernel_rfl) (by kernel_rfl) (i_b.ev Hv1583).reads i_b.nz ?_
  intro ac1590 En1591
  refine d_e [1,5,6,8,9,10] [(15, g_v (show (.bool (ByteArray.toList (bstr b) == ByteArray.toList (bstr b)) : Value) = .bool true by rw [Go.Dbr.bstr_eq b b, show (b == b) = true from (by simp)] <;> rfl))] En1591 fun ac1592 En1593 => ?_
  refine then_normal ?_
  refine wp_ret ?_
  refine d_ret1 (t := 6) (v := .bool true) En1593 (by kernel_rfl) (by kernel_rfl) ?_
  exact ⟨rfl, Hv1583.pk []⟩

theorem bytes_no (f : Int) (a_b : Option Addr) (c_b : Nat) (b : List UInt8) (a : List UInt64) (w : World) (b_f : (-9223372036854775808 ≤ f ∧ f ≤ 9223372036854775807)) (i_b : InB w [] a_b c_b b) (n_a : (List.length a = 4)) (hf : ¬ (f = 1 ∨ f = 2 ∨ f = 3 ∨ f = 4)) : Calls Try.prog 8 #[.int .i64 f, .slice a_b (List.length b) c_b, .agg (List.toArray (u64s a))] w fun e w' => e = .returned (.bool true) ∧ Ev w [] w' [] := by
 refine d_0 [(0, .int .i64 f), (1, .slice a_b (List.length b) c_b), (2, .agg (List.toArray (u64s a)))] 96 Go.Proofs.Try.func8 Go.Proofs.Try.ntmps8 (Heap.nil _) fun act0 En0 Hv0 => ?_
 refine wp_seq ?_
 refine region_from ?_
 refine f_o ?_
 refine m_m 25 (u64s a) En0 Hv0 fun ac2 wo3 bk1 En4 Hv5 => ?_
 refine d_e [0,1,5,6] [] En4 fun ac6 En7 => ?_
 refine then_normal ?_
 refine wp_seq ?_
 refine region_from ?_
 refine f_o ?_
 refine c_p En7 Hv5 (head_ok _) fun ac12 wo9 En13 Hv14 => ?_
 refine d_e [0,1,5,6,7] [] En13 fun ac15 En16 => ?_
 refine then_normal ?_
 refine wp_seq ?_
 refine region_from ?_
 refine f_o ?_
 refine m_z 41 (bys (List.replicate 32 0)) En16 Hv14 fun ac18 wo19 bk17 En20 Hv21 => ?_
 refine f_e ?_
 refine then_normal ?_
 refine wp_seq ?_
 refine d_s [0,1,5,6,7,8,9] [] En20 fun ac22 En23 => ?_
 refine wp_block ?_
 refine loop_m (fun ms24 ac wo => ∃ (i : Nat) (x : List UInt8), ms24 = (33 - i : Nat) ∧ Env ac 96 [(0, .int .i64 f), (1, .slice a_b (List.length b) c_b), (5, pt bk1), (6, .bool false), (7, .bool true), (8, pt bk17), (9, ni i)] ∧ Ev w [] wo [.box bk17 (bys x) 41, .box bk1 (u64s a) 25] ∧ (i ≤ List.length b ∧ i ≤ 32) ∧ (List.length x = 32)) ⟨_, 0, List.replicate 32 0, rfl, En23.sb, Hv21.pk [1, 0], by omega, List.length_replicate⟩ ?_
 rintro mm30 ac26 wo27 ⟨i, x, rfl, En28, Hv29, hi, hx⟩
 refine wp_seq ?_
 refine wp_seq ?_
 refine region_from ?_
 refine d_k [0,1,5,6,7,8,9,19] [] 5 En28 fun ac31 En32 => ?_
 rcases Bool.eq_false_or_eq_true (decide (((i : Nat) : Int) < ((List.length b : Nat) : Int))) with hb33 | hb33
 ·
  have En34 := En32.fx (t := 19) (congrArg Value.bool hb33)
  have hp35 : ((i : Nat) : Int) < ((List.length b : Nat) : Int) := of_decide_eq_true hb33
  refine d_e [0,1,5,6,7,8,9,22] [] En34 fun ac36 En37 => ?_
  refine then_normal ?_
  refine c_d (((i : Nat) : Int) < (32 : Int)) En37 (fun hc38 => ?_) (fun hc38 => ?_)
  ·
   refine wp_skip ?_
   refine then_normal ?_
   refine wp_seq ?_
   refine wp_block ?_
   have hb41 : i < List.length b := (by omega)
   obtain ⟨adr39, had40⟩ := some_of i_b.nz hb41
   refine region_from ?_
   refine d_k [0,1,5,6,7,8,9,25,26,27] [] 3 En37 fun ac42 En43 => ?_
   refine f_o ?_
   refine q_v (x := Instr.indexAt 40 (.slice a_b (List.length b) c_b) (ni i)) (v := .pointer (some (Addr.add adr39 i))) En43 (Go.Dbr.run_indexsl (e := 5) (sz := 1) (j := i) (jo := i) had40 (by kernel_rfl) (by kernel_rfl) (by omega) hb41 (Nat.mul_one _) _) fun ac44 En45 => ?_
   refine f_o ?_
   have hb46 : i < List.length b := by omega
   refine op_loadel (d := some 29) (t := 5) (ad := adr39) (ao := a_b) (xs := bys b) (j := i) (v := bv (List.getD b i 0)) En45 (by kernel_rfl) (i_b.ev Hv29).reads had40 (bys_getD hb46) (by kernel_rfl) ?_
   intro ac47 En48
   refine f_o ?_
   refine q_v (x := Instr.indexAt 41 (pt bk17) (ni i)) (v := .pointer (some ⟨bk17, i, none⟩)) En48 (Go.Dbr.run_indexarr (e := 5) (sz := 1) (m := 32) (j := i) (o := i) (by kernel_rfl) (by kernel_rfl) (by omega) (by omega) (by omega) _) fun ac49 En50 => ?_
   refine f_o ?_
   have hb51 : i < List.length x := by rw [hx]; omega
   refine m_t 0 i (bv (List.getD b i 0)) [.box bk17 (bys (List.set x i (List.getD b i 0))) 41, .box bk1 (u64s a) 25] En50 Hv29 rfl (bys_getD hb51) (bys_set _ _ _) rfl fun ac52 wo53 En54 Hv55 => ?_
   refine f_e ?_
   refine block_normal ?_
   refine then_normal ?_
   refine d_r [0,1,5,6,7,8,9] [(1, g_n (w_a i 1))] En54 fun ac56 En57 => ?_
   refine then_normal ?_
   refine ⟨_, ⟨i + 1, (List.set x i (List.getD b i 0)), rfl, En57.sb, Hv55.pk [0, 1], by omega, (List.length_set.trans hx)⟩, ?_⟩
   omega
  ·
   refine wp_exit ?_
   refine then_exit ?_
   refine then_exit ?_
   refine block_exit ?_
   refine then_normal ?_
   refine wp_seq ?_
   refine region_from ?_
   refine f_o ?_
   refine op_lit (d := some 31) (t := 40) (T := 5) (m := 0) (parts := #[]) (xs := bys []) (sz := 1) En37 (by kernel_rfl) (by kernel_rfl) rfl (by decide) Hv29 ?_
   intro ac59 wo60 bk58 En61 Hv62
   refine d_k [0,1,5,6,7,8,9,31,32] [] 2 En61 fun ac63 En64 => ?_
   refine f_o ?_
   have hsm65 := i_b.small
   refine op_append (d := some 33) (t := 40) (tx := 40) (ty := 40) (k := 2) (p := 0) (m := List.length b) (x := .slice a_b (List.length b) c_b) (bytes := 1) En64 (by kernel_rfl) Hv62 rfl rfl (Reads.src (size := 1) (tx := 40) (e' := 5) (by kernel_rfl) (i_b.ev Hv62).reads (bys_len _) i_b.nz (bys_one _)) (by kernel_rfl) (z := .int .u8 0) (by kernel_rfl) rfl (by decide) (by omega) (by unfold maxLen; omega) ?_
   intro ac70 wo71 ao66 cp67 En72 Hv73 hnz _
   clear hnz
   rw [bys_nil_append] at Hv73
   have ehz68 : 0 + (List.length b) = List.length b := (by first | (simp; done) | (simp; omega) | omega)
   rw [ehz68] at En72
   refine d_e [0,1,5,6,7,8,9,10] [] En72 fun ac74 En75 => ?_
   refine then_normal ?_
   refine wp_seq ?_
   refine region_from ?_
   refine d_k [0,1,5,6,7,8,9,10,34,35] [] 2 En75 fun ac76 En77 => ?_
   refine f_o ?_
   refine c_p En77 Hv73 (wide_no _ f hf ao66 (List.length b) cp67 b (by first | rfl | (simp; done) | (simp; omega) | omega) (bys_in Hv73.heap (k := 2) rfl [] (by kernel_rfl) rfl (by first | omega | (simp; done) | (simp; omega)))) fun ac82 wo79 En83 Hv84 => ?_
   refine d_k [1,5,6,7,8,9,10,36,37,38] [] 5 En83 fun ac85 En86 => ?_
   refine f_o ?_
   refine c_p En86 Hv84 (rwide_no _ f hf a_b (List.length b) c_b b (by first | rfl | (simp; done) | (simp; omega) | omega) ((i_b.ev Hv84).pick [] (by kernel_rfl))) fun ac91 wo88 En92 Hv93 => ?_
   refine f_o ?_
   refine q_v (x := eqOp .eql 25 (.tmp 36) (.tmp 39) (.agg (List.toArray (u64s (nd 0)))) (.agg (List.toArray (u64s (nd 0))))) (v := .bool true) En92 (Go.Dbr.run_is (fun w => Go.Dbr.u64s_eqop (a := (.tmp 36)) (b := (.tmp 39)) (e := 23) (m := 4) (by kernel_rfl) (by kernel_rfl) (by kernel_rfl) (by kernel_rfl) (by kernel_rfl) (nds_len _ _) (nds_len _ _) w) (by first | exact beq_self_eq_true _ | rfl) _) fun ac94 En95 => ?_
   refine d_e [1,5,6,7,8,9,10,11] [] En95 fun ac96 En97 => ?_
   refine then_normal ?_
   refine wp_seq ?_
   refine r_c (fun ac wo => Env ac 96 [(1, .slice a_b (List.length b) c_b), (5, pt bk1), (6, .bool false), (7, .bool true), (8, pt bk17), (9, ni i), (10, .slice ao66 (List.length b) cp67), (11, .bool true), (12, .bool true)] ∧ Ev w [] wo [.box bk17 (bys x) 41, .box bk1 (u64s a) 25, .vec ao66 cp67 1 (bys b) 5]) ?_ ?_
   ·
    refine h_s (fun wv => Ev w [] wv [.box bk17 (bys x) 41, .box bk1 (u64s a) 25]) [] 20 ?_
    have wo98 := Hv93.trans (Ev.drew Hv93.heap)
    refine q_r 0 (s := Instr.loadAt 25 (pt bk1)) (v := .agg (List.toArray (u64s a))) En97 (fun w hS => run_loadAgg2 (m := 4) (cs := u64s a) (u64s_lenh n_a) (by kernel_rfl) (by kernel_rfl) (hS.heap.cells (k := 1) (off := 0) (m := 4) rfl (load_whole (u64s_lenh n_a)))) (wo98.pk [0, 1]) fun ac386 En387 => ?_
    refine q_r 2 (s := Instr.loadAt 25 (pt bk1)) (v := .agg (List.toArray (u64s a))) En387 (fun w hS => run_loadAgg2 (m := 4) (cs := u64s a) (u64s_lenh n_a) (by kernel_rfl) (by kernel_rfl) (hS.heap.cells (k := 1) (off := 0) (m := 4) rfl (load_whole (u64s_lenh n_a)))) (wo98.pk [0, 1]) fun ac388 En389 => ?_
    refine q_t 1 ?_
    refine c_p En389 wo98 (tole_go _ a n_a) fun ac394 wo391 En395 Hv396 => ?_
    refine ⟨fun _ => Hv396.pk [0, 1], ?_⟩
    refine q_t 3 ?_
    refine c_p En395 Hv396 (rtole_go _ a n_a) fun ac401 wo398 En402 Hv403 => ?_
    refine ⟨fun _ => Hv403.pk [0, 1], ?_⟩
    refine q_f 4 (s := eqOp .eql 41 (.tmp 42) (.tmp 44) (.agg (List.toArray (bys (lb 32 (nv a))))) (.agg (List.toArray (bys (lb 32 (nv a)))))) (v := .bool true) En402 (fun _ => Go.Dbr.run_is (fun w => Go.Dbr.bys_eqop (a := (.tmp 42)) (b := (.tmp 44)) (e := 5) (m := 32) (by kernel_rfl) (by kernel_rfl) (by kernel_rfl) (by kernel_rfl) (by kernel_rfl) (lb_len _ _) (lb_len _ _) w) (by first | exact beq_self_eq_true _ | rfl) _) (fun _ => Hv403.pk [0, 1]) fun ac404 En405 => ?_
    refine q_s [5] [] 14 En405 (Hv403.pk [0, 1]) fun ac406 En407 => ?_
    refine q_r 6 (s := Instr.loadAt 41 (pt bk17)) (v := .agg (List.toArray (bys x))) En407 (fun w hS => run_loadAgg2 (m := 32) (cs := bys x) (bys_lenh hx) (by kernel_rfl) (by kernel_rfl) (hS.heap.cells (k := 0) (off := 0) (m := 32) rfl (load_whole (bys_lenh hx)))) (Hv403.pk [0, 1]) fun ac408 En409 => ?_
    refine q_r 8 (s := Instr.loadAt 41 (pt bk17)) (v := .agg (List.toArray (bys x))) En409 (fun w hS => run_loadAgg2 (m := 32) (cs := bys x) (bys_lenh hx) (by kernel_rfl) (by kernel_rfl) (hS.heap.cells (k := 0) (off := 0) (m := 32) rfl (load_whole (bys_lenh hx)))) (Hv403.pk [0, 1]) fun ac410 En411 => ?_
    refine q_t 7 ?_
    refine c_p En411 Hv403 (fromle_go _ x hx) fun ac416 wo413 En417 Hv418 => ?_
    refine ⟨fun _ => Hv418.pk [0, 1], ?_⟩
    refine q_t 9 ?_
    refine c_p En417 Hv418 (rfromle_go _ x hx) fun ac423 wo420 En424 Hv425 => ?_
    refine ⟨fun _ => Hv425.pk [0, 1], ?_⟩
    refine q_f 10 (s := eqOp .eql 25 (.tmp 48) (.tmp 50) (.agg (List.toArray (u64s (nd (lv x))))) (.agg (List.toArray (u64s (nd (lv x)))))) (v := .bool true) En424 (fun _ => Go.Dbr.run_is (fun w => Go.Dbr.u64s_eqop (a := (.tmp 48)) (b := (.tmp 50)) (e := 23) (m := 4) (by kernel_rfl) (by kernel_rfl) (by kernel_rfl) (by kernel_rfl) (by kernel_rfl) (nds_len _ _) (nds_len _ _) w) (by first | exact beq_self_eq_true _ | rfl) _) (fun _ => Hv425.pk [0, 1]) fun ac426 En427 => ?_
    refine q_s [11,12] [] 7 En427 (Hv425.pk [0, 1]) fun ac428 En429 => ?_
    refine q_r 13 (s := Instr.loadAt 25 (pt bk1)) (v := .agg (List.toArray (u64s a))) En429 (fun w hS => run_loadAgg2 (m := 4) (cs := u64s a) (u64s_lenh n_a) (by kernel_rfl) (by kernel_rfl) (hS.heap.cells (k := 1) (off := 0) (m := 4) rfl (load_whole (u64s_lenh n_a)))) (Hv425.pk [0, 1]) fun ac430 En431 => ?_
    refine q_r 16 (s := Instr.loadAt 25 (pt bk1)) (v := .agg (List.toArray (u64s a))) En431 (fun w hS => run_loadAgg2 (m := 4) (cs := u64s a) (u64s_lenh n_a) (by kernel_rfl) (by kernel_rfl) (hS.heap.cells (k := 1) (off := 0) (m := 4) rfl (load_whole (u64s_lenh n_a)))) (Hv425.pk [0, 1]) fun ac432 En433 => ?_
    refine q_t 14 ?_
    refine c_p En433 Hv425 (tole_go _ a n_a) fun ac438 wo435 En439 Hv440 => ?_
    refine ⟨fun _ => Hv440.pk [0, 1], ?_⟩
    refine q_t 15 ?_
    refine c_p En439 Hv440 (fromle_go _ (lb 32 (nv a)) (lb_len _ _)) fun ac445 wo442 En446 Hv447 => ?_
    refine ⟨fun _ => Hv447.pk [0, 1], ?_⟩
    refine q_f 17 (s := eqOp .eql 25 (.tmp 56) (.tmp 57) (.agg (List.toArray (u64s (nd (lv (lb 32 (nv a))))))) (.agg (List.toArray (u64s a)))) (v := .bool true) En446 (fun _ => Go.Dbr.run_is (fun w => Go.Dbr.u64s_eqop (a := (.tmp 56)) (b := (.tmp 57)) (e := 23) (m := 4) (by kernel_rfl) (by kernel_rfl) (by kernel_rfl) (by kernel_rfl) (by kernel_rfl) (nds_len _ _) n_a w) (beq_l (from_to n_a)) _) (fun _ => Hv447.pk [0, 1]) fun ac448 En449 => ?_
    refine q_s [18,19] [] 0 En449 (Hv447.pk [0, 1]) fun ac450 En451 => ?_
    exact h_e ⟨En451.sb, Hv447.pk [0, 1, 2]⟩
   rintro ac452 wo453 ⟨En454, Hv455⟩
   refine then_normal ?_
   refine wp_seq ?_
   refine r_c (fun ac wo => Env ac 96 [(1, .slice a_b (List.length b) c_b), (5, pt bk1), (6, .bool false), (7, .bool true), (8, pt bk17), (9, ni i), (10, .slice ao66 (List.length b) cp67), (11, .bool true), (12, .bool true), (13, .bool true)] ∧ Ev w [] wo [.box bk17 (bys x) 41, .box bk1 (u64s a) 25, .vec ao66 cp67 1 (bys b) 5]) ?_ ?_
   ·
    refine h_s (fun wv => Ev w [] wv [.box bk17 (bys x) 41, .box bk1 (u64s a) 25]) [] 20 ?_
    have wo456 := Hv455.trans (Ev.drew Hv455.heap)
    refine q_r 0 (s := Instr.loadAt 25 (pt bk1)) (v := .agg (List.toArray (u64s a))) En454 (fun w hS => run_loadAgg2 (m := 4) (cs := u64s a) (u64s_lenh n_a) (by kernel_rfl) (by kernel_rfl) (hS.heap.cells (k := 1) (off := 0) (m := 4) rfl (load_whole (u64s_lenh n_a)))) (wo456.pk [0, 1]) fun ac744 En745 => ?_
    refine q_r 2 (s := Instr.loadAt 25 (pt bk1)) (v := .agg (List.toArray (u64s a))) En745 (fun w hS => run_loadAgg2 (m := 4) (cs := u64s a) (u64s_lenh n_a) (by kernel_rfl) (by kernel_rfl) (hS.heap.cells (k := 1) (off := 0) (m := 4) rfl (load_whole (u64s_lenh n_a)))) (wo456.pk [0, 1]) fun ac746 En747 => ?_
    refine q_t 1 ?_
    refine c_p En747 wo456 (tobe_go _ a n_a) fun ac752 wo749 En753 Hv754 => ?_
    refine ⟨fun _ => Hv754.pk [0, 1], ?_⟩
    refine q_t 3 ?_
    refine c_p En753 Hv754 (rtobe_go _ a n_a) fun ac759 wo756 En760 Hv761 => ?_
    refine ⟨fun _ => Hv761.pk [0, 1], ?_⟩
    refine q_f 4 (s := eqOp .eql 41 (.tmp 61) (.tmp 63) (.agg (List.toArray (bys (List.reverse (lb 32 (nv a)))))) (.agg (List.toArray (bys (List.reverse (lb 32 (nv a))))))) (v := .bool true) En760 (fun _ => Go.Dbr.run_is (fun w => Go.Dbr.bys_eqop (a := (.tmp 61)) (b := (.tmp 63)) (e := 5) (m := 32) (by kernel_rfl) (by kernel_rfl) (by kernel_rfl) (by kernel_rfl) (by kernel_rfl) (rev_len (lb_len _ _)) (rev_len (lb_len _ _)) w) (by first | exact beq_self_eq_true _ | rfl) _) (fun _ => Hv761.pk [0, 1]) fun ac762 En763 => ?_
    refine q_s [5] [] 14 En763 (Hv761.pk [0, 1]) fun ac764 En765 => ?_
    refine q_r 6 (s := Instr.loadAt 41 (pt bk17)) (v := .agg (List.toArray (bys x))) En765 (fun w hS => run_loadAgg2 (m := 32) (cs := bys x) (bys_lenh hx) (by kernel_rfl) (by kernel_rfl) (hS.heap.cells (k := 0) (off := 0) (m := 32) rfl (load_whole (bys_lenh hx)))) (Hv761.pk [0, 1]) fun ac766 En767 => ?_
    refine q_r 8 (s := Instr.loadAt 41 (pt bk17)) (v := .agg (List.toArray (bys x))) En767 (fun w hS => run_loadAgg2 (m := 32) (cs := bys x) (bys_lenh hx) (by kernel_rfl) (by kernel_rfl) (hS.heap.cells (k := 0) (off := 0) (m := 32) rfl (load_whole (bys_lenh hx)))) (Hv761.pk [0, 1]) fun ac768 En769 => ?_
    refine q_t 7 ?_
    refine c_p En769 Hv761 (frombe_go _ x hx) fun ac774 wo771 En775 Hv776 => ?_
    refine ⟨fun _ => Hv776.pk [0, 1], ?_⟩
    refine q_t 9 ?_
    refine c_p En775 Hv776 (rfrombe_go _ x hx) fun ac781 wo778 En782 Hv783 => ?_
    refine ⟨fun _ => Hv783.pk [0, 1], ?_⟩
    refine q_f 10 (s := eqOp .eql 25 (.tmp 67) (.tmp 69) (.agg (List.toArray (u64s (nd (lv (List.reverse x)))))) (.agg (List.toArray (u64s (nd (lv (List.reverse x))))))) (v := .bool true) En782 (fun _ => Go.Dbr.run_is (fun w => Go.Dbr.u64s_eqop (a := (.tmp 67)) (b := (.tmp 69)) (e := 23) (m := 4) (by kernel_rfl) (by kernel_rfl) (by kernel_rfl) (by kernel_rfl) (by kernel_rfl) (nds_len _ _) (nds_len _ _) w) (by first | exact beq_self_eq_true _ | rfl) _) (fun _ => Hv783.pk [0, 1]) fun ac784 En785 => ?_
    refine q_s [11,12] [] 7 En785 (Hv783.pk [0, 1]) fun ac786 En787 => ?_
    refine q_r 13 (s := Instr.loadAt 41 (pt bk17)) (v := .agg (List.toArray (bys x))) En787 (fun w hS => run_loadAgg2 (m := 32) (cs := bys x) (bys_lenh hx) (by kernel_rfl) (by kernel_rfl) (hS.heap.cells (k := 0) (off := 0) (m := 32) rfl (load_whole (bys_lenh hx)))) (Hv783.pk [0, 1]) fun ac788 En789 => ?_
    refine q_r 16 (s := Instr.loadAt 41 (pt bk17)) (v := .agg (List.toArray (bys x))) En789 (fun w hS => run_loadAgg2 (m := 32) (cs := bys x) (bys_lenh hx) (by kernel_rfl) (by kernel_rfl) (hS.heap.cells (k := 0) (off := 0) (m := 32) rfl (load_whole (bys_lenh hx)))) (Hv783.pk [0, 1]) fun ac790 En791 => ?_
    refine q_t 14 ?_
    refine c_p En791 Hv783 (frombe_go _ x hx) fun ac796 wo793 En797 Hv798 => ?_
    refine ⟨fun _ => Hv798.pk [0, 1], ?_⟩
    refine q_t 15 ?_
    refine c_p En797 Hv798 (tobe_go _ (nd (lv (List.reverse x))) (nds_len _ _)) fun ac803 wo800 En804 Hv805 => ?_
    refine ⟨fun _ => Hv805.pk [0, 1], ?_⟩
    refine q_f 17 (s := eqOp .eql 41 (.tmp 75) (.tmp 76) (.agg (List.toArray (bys (List.reverse (lb 32 (nv (nd (lv (List.reverse x))))))))) (.agg (List.toArray (bys x)))) (v := .bool true) En804 (fun _ => Go.Dbr.run_is (fun w => Go.Dbr.bys_eqop (a := (.tmp 75)) (b := (.tmp 76)) (e := 5) (m := 32) (by kernel_rfl) (by kernel_rfl) (by kernel_rfl) (by kernel_rfl) (by kernel_rfl) (rev_len (lb_len _ _)) hx w) (beq_b (to_from hx)) _) (fun _ => Hv805.pk [0, 1]) fun ac806 En807 => ?_
    refine q_s [18,19] [] 0 En807 (Hv805.pk [0, 1]) fun ac808 En809 => ?_
    exact h_e ⟨En809.sb, Hv805.pk [0, 1, 2]⟩
   rintro ac810 wo811 ⟨En812, Hv813⟩
   refine then_normal ?_
   refine wp_seq ?_
   refine region_from ?_
   refine d_k [1,5,6,8,9,10,89,90] [] 12 En812 fun ac814 En815 => ?_
   refine f_o ?_
   refine op_str (d := some 91) (src := 40) (dst := 9) (e := 5) (ao := ao66) (cap := cp67) (p := List.length b) (bs := b) En815 (by kernel_rfl) rfl (by kernel_rfl) (by kernel_rfl) (by kernel_rfl) (Hv813.heap.reads (k := 2) rfl) (bys_vnz Hv813.heap (k := 2) rfl) ?_
   intro ac816 En817
   refine d_k [1,5,6,8,9,10,89,91,92] [] 14 En817 fun ac818 En819 => ?_
   refine f_o ?_
   refine op_str (d := some 93) (src := 40) (dst := 9) (e := 5) (ao := a_b) (cap := c_b) (p := List.length b) (bs := b) En819 (by kernel_rfl) rfl (by kernel_rfl) (by kernel_rfl) (by kernel_rfl) (i_b.ev Hv813).reads i_b.nz ?_
   intro ac820 En821
   refine d_e [1,5,6,8,9,10] [(15, g_v (show (.bool (ByteArray.toList (bstr b) == ByteArray.toList (bstr b)) : Value) = .bool true by rw [Go.Dbr.bstr_eq b b, show (b == b) = true from (by simp)] <;> rfl))] En821 fun ac822 En823 => ?_
   refine then_normal ?_
   refine wp_ret ?_
   refine d_ret1 (t := 6) (v := .bool true) En823 (by kernel_rfl) (by kernel_rfl) ?_
   exact ⟨rfl, Hv813.pk []⟩
 ·
  have En824 := En32.fx (t := 19) (congrArg Value.bool hb33)
  have hp825 : ¬ (((i : Nat) : Int) < ((List.length b : Nat) : Int)) := of_decide_eq_false hb33
  refine d_e [0,1,5,6,7,8,9,22] [] En824 fun ac826 En827 => ?_
  refine then_normal ?_
  refine c_f En827 ?_
  refine wp_exit ?_
  refine then_exit ?_
  refine then_exit ?_
  refine block_exit ?_
  refine then_normal ?_
  refine wp_seq ?_
  refine region_from ?_
  refine f_o ?_
  refine op_lit (d := some 31) (t := 40) (T := 5) (m := 0) (parts := #[]) (xs := bys []) (sz := 1) En827 (by kernel_rfl) (by kernel_rfl) rfl (by decide) Hv29 ?_
  intro ac829 wo830 bk828 En831 Hv832
  refine d_k [0,1,5,6,7,8,9,31,32] [] 2 En831 fun ac833 En834 => ?_
  refine f_o ?_
  have hsm835 := i_b.small
  refine op_append (d := some 33) (t := 40) (tx := 40) (ty := 40) (k := 2) (p := 0) (m := List.length b) (x := .slice a_b (List.length b) c_b) (bytes := 1) En834 (by kernel_rfl) Hv832 rfl rfl (Reads.src (size := 1) (tx := 40) (e' := 5) (by kernel_rfl) (i_b.ev Hv832).reads (bys_len _) i_b.nz (bys_one _)) (by kernel_rfl) (z := .int .u8 0) (by kernel_rfl) rfl (by decide) (by omega) (by unfold maxLen; omega) ?_
  intro ac840 wo841 ao836 cp837 En842 Hv843 hnz _
  clear hnz
  rw [bys_nil_append] at Hv843
  have ehz838 : 0 + (List.length b) = List.length b := (by first | (simp; done) | (simp; omega) | omega)
  rw [ehz838] at En842
  refine d_e [0,1,5,6,7,8,9,10] [] En842 fun ac844 En845 => ?_
  refine then_normal ?_
  refine wp_seq ?_
  refine region_from ?_
  refine d_k [0,1,5,6,7,8,9,10,34,35] [] 2 En845 fun ac846 En847 => ?_
  refine f_o ?_
  refine c_p En847 Hv843 (wide_no _ f hf ao836 (List.length b) cp837 b (by first | rfl | (simp; done) | (simp; omega) | omega) (bys_in Hv843.heap (k := 2) rfl [] (by kernel_rfl) rfl (by first | omega | (simp; done) | (simp; omega)))) fun ac852 wo849 En853 Hv854 => ?_
  refine d_k [1,5,6,7,8,9,10,36,37,38] [] 5 En853 fun ac855 En856 => ?_
  refine f_o ?_
  refine c_p En856 Hv854 (rwide_no _ f hf a_b (List.length b) c_b b (by first | rfl | (simp; done) | (simp; omega) | omega) ((i_b.ev Hv854).pick [] (by kernel_rfl))) fun ac861 wo858 En862 Hv863 => ?_
  refine f_o ?_
  refine q_v (x := eqOp .eql 25 (.tmp 36) (.tmp 39) (.agg (List.toArray (u64s (nd 0)))) (.agg (List.toArray (u64s (nd 0))))) (v := .bool true) En862 (Go.Dbr.run_is (fun w => Go.Dbr.u64s_eqop (a := (.tmp 36)) (b := (.tmp 39)) (e := 23) (m := 4) (by kernel_rfl) (by kernel_rfl) (by kernel_rfl) (by kernel_rfl) (by kernel_rfl) (nds_len _ _) (nds_len _ _) w) (by first | exact beq_self_eq_true _ | rfl) _) fun ac864 En865 => ?_
  refine d_e [1,5,6,7,8,9,10,11] [] En865 fun ac866 En867 => ?_
  refine then_normal ?_
  refine wp_seq ?_
  refine r_c (fun ac wo => Env ac 96 [(1, .slice a_b (List.length b) c_b), (5, pt bk1), (6, .bool false), (7, .bool true), (8, pt bk17), (9, ni i), (10, .slice ao836 (List.length b) cp837), (11, .bool true), (12, .bool true)] ∧ Ev w [] wo [.box bk17 (bys x) 41, .box bk1 (u64s a) 25, .vec ao836 cp837 1 (bys b) 5]) ?_ ?_
  ·
   refine h_s (fun wv => Ev w [] wv [.box bk17 (bys x) 41, .box bk1 (u64s a) 25]) [] 20 ?_
   have wo868 := Hv863.trans (Ev.drew Hv863.heap)
   refine q_r 0 (s := Instr.loadAt 25 (pt bk1)) (v := .agg (List.toArray (u64s a))) En867 (fun w hS => run_loadAgg2 (m := 4) (cs := u64s a) (u64s_lenh n_a) (by kernel_rfl) (by kernel_rfl) (hS.heap.cells (k := 1) (off := 0) (m := 4) rfl (load_whole (u64s_lenh n_a)))) (wo868.pk [0, 1]) fun ac1156 En1157 => ?_
   refine q_r 2 (s := Instr.loadAt 25 (pt bk1)) (v := .agg (List.toArray (u64s a))) En1157 (fun w hS => run_loadAgg2 (m := 4) (cs := u64s a) (u64s_lenh n_a) (by kernel_rfl) (by kernel_rfl) (hS.heap.cells (k := 1) (off := 0) (m := 4) rfl (load_whole (u64s_lenh n_a)))) (wo868.pk [0, 1]) fun ac1158 En1159 => ?_
   refine q_t 1 ?_
   refine c_p En1159 wo868 (tole_go _ a n_a) fun ac1164 wo1161 En1165 Hv1166 => ?_
   refine ⟨fun _ => Hv1166.pk [0, 1], ?_⟩
   refine q_t 3 ?_
   refine c_p En1165 Hv1166 (rtole_go _ a n_a) fun ac1171 wo1168 En1172 Hv1173 => ?_
   refine ⟨fun _ => Hv1173.pk [0, 1], ?_⟩
   refine q_f 4 (s := eqOp .eql 41 (.tmp 42) (.tmp 44) (.agg (List.toArray (bys (lb 32 (nv a))))) (.agg (List.toArray (bys (lb 32 (nv a)))))) (v := .bool true) En1172 (fun _ => Go.Dbr.run_is (fun w => Go.Dbr.bys_eqop (a := (.tmp 42)) (b := (.tmp 44)) (e := 5) (m := 32) (by kernel_rfl) (by kernel_rfl) (by kernel_rfl) (by kernel_rfl) (by kernel_rfl) (lb_len _ _) (lb_len _ _) w) (by first | exact beq_self_eq_true _ | rfl) _) (fun _ => Hv1173.pk [0, 1]) fun ac1174 En1175 => ?_
   refine q_s [5] [] 14 En1175 (Hv1173.pk [0, 1]) fun ac1176 En1177 => ?_
   refine q_r 6 (s := Instr.loadAt 41 (pt bk17)) (v := .agg (List.toArray (bys x))) En1177 (fun w hS => run_loadAgg2 (m := 32) (cs := bys x) (bys_lenh hx) (by kernel_rfl) (by kernel_rfl) (hS.heap.cells (k := 0) (off := 0) (m := 32) rfl (load_whole (bys_lenh hx)))) (Hv1173.pk [0, 1]) fun ac1178 En1179 => ?_
   refine q_r 8 (s := Instr.loadAt 41 (pt bk17)) (v := .agg (List.toArray (bys x))) En1179 (fun w hS => run_loadAgg2 (m := 32) (cs := bys x) (bys_lenh hx) (by kernel_rfl) (by kernel_rfl) (hS.heap.cells (k := 0) (off := 0) (m := 32) rfl (load_whole (bys_lenh hx)))) (Hv1173.pk [0, 1]) fun ac1180 En1181 => ?_
   refine q_t 7 ?_
   refine c_p En1181 Hv1173 (fromle_go _ x hx) fun ac1186 wo1183 En1187 Hv1188 => ?_
   refine ⟨fun _ => Hv1188.pk [0, 1], ?_⟩
   refine q_t 9 ?_
   refine c_p En1187 Hv1188 (rfromle_go _ x hx) fun ac1193 wo1190 En1194 Hv1195 => ?_
   refine ⟨fun _ => Hv1195.pk [0, 1], ?_⟩
   refine q_f 10 (s := eqOp .eql 25 (.tmp 48) (.tmp 50) (.agg (List.toArray (u64s (nd (lv x))))) (.agg (List.toArray (u64s (nd (lv x)))))) (v := .bool true) En1194 (fun _ => Go.Dbr.run_is (fun w => Go.Dbr.u64s_eqop (a := (.tmp 48)) (b := (.tmp 50)) (e := 23) (m := 4) (by kernel_rfl) (by kernel_rfl) (by kernel_rfl) (by kernel_rfl) (by kernel_rfl) (nds_len _ _) (nds_len _ _) w) (by first | exact beq_self_eq_true _ | rfl) _) (fun _ => Hv1195.pk [0, 1]) fun ac1196 En1197 => ?_
   refine q_s [11,12] [] 7 En1197 (Hv1195.pk [0, 1]) fun ac1198 En1199 => ?_
   refine q_r 13 (s := Instr.loadAt 25 (pt bk1)) (v := .agg (List.toArray (u64s a))) En1199 (fun w hS => run_loadAgg2 (m := 4) (cs := u64s a) (u64s_lenh n_a) (by kernel_rfl) (by kernel_rfl) (hS.heap.cells (k := 1) (off := 0) (m := 4) rfl (load_whole (u64s_lenh n_a)))) (Hv1195.pk [0, 1]) fun ac1200 En1201 => ?_
   refine q_r 16 (s := Instr.loadAt 25 (pt bk1)) (v := .agg (List.toArray (u64s a))) En1201 (fun w hS => run_loadAgg2 (m := 4) (cs := u64s a) (u64s_lenh n_a) (by kernel_rfl) (by kernel_rfl) (hS.heap.cells (k := 1) (off := 0) (m := 4) rfl (load_whole (u64s_lenh n_a)))) (Hv1195.pk [0, 1]) fun ac1202 En1203 => ?_
   refine q_t 14 ?_
   refine c_p En1203 Hv1195 (tole_go _ a n_a) fun ac1208 wo1205 En1209 Hv1210 => ?_
   refine ⟨fun _ => Hv1210.pk [0, 1], ?_⟩
   refine q_t 15 ?_
   refine c_p En1209 Hv1210 (fromle_go _ (lb 32 (nv a)) (lb_len _ _)) fun ac1215 wo1212 En1216 Hv1217 => ?_
   refine ⟨fun _ => Hv1217.pk [0, 1], ?_⟩
   refine q_f 17 (s := eqOp .eql 25 (.tmp 56) (.tmp 57) (.agg (List.toArray (u64s (nd (lv (lb 32 (nv a))))))) (.agg (List.toArray (u64s a)))) (v := .bool true) En1216 (fun _ => Go.Dbr.run_is (fun w => Go.Dbr.u64s_eqop (a := (.tmp 56)) (b := (.tmp 57)) (e := 23) (m := 4) (by kernel_rfl) (by kernel_rfl) (by kernel_rfl) (by kernel_rfl) (by kernel_rfl) (nds_len _ _) n_a w) (beq_l (from_to n_a)) _) (fun _ => Hv1217.pk [0, 1]) fun ac1218 En1219 => ?_
   refine q_s [18,19] [] 0 En1219 (Hv1217.pk [0, 1]) fun ac1220 En1221 => ?_
   exact h_e ⟨En1221.sb, Hv1217.pk [0, 1, 2]⟩
  rintro ac1222 wo1223 ⟨En1224, Hv1225⟩
  refine then_normal ?_
  refine wp_seq ?_
  refine r_c (fun ac wo => Env ac 96 [(1, .slice a_b (List.length b) c_b), (5, pt bk1), (6, .bool false), (7, .bool true), (8, pt bk17), (9, ni i), (10, .slice ao836 (List.length b) cp837), (11, .bool true), (12, .bool true), (13, .bool true)] ∧ Ev w [] wo [.box bk17 (bys x) 41, .box bk1 (u64s a) 25, .vec ao836 cp837 1 (bys b) 5]) ?_ ?_
  ·
   refine h_s (fun wv => Ev w [] wv [.box bk17 (bys x) 41, .box bk1 (u64s a) 25]) [] 20 ?_
   have wo1226 := Hv1225.trans (Ev.drew Hv1225.heap)
   refine q_r 0 (s := Instr.loadAt 25 (pt bk1)) (v := .agg (List.toArray (u64s a))) En1224 (fun w hS => run_loadAgg2 (m := 4) (cs := u64s a) (u64s_lenh n_a) (by kernel_rfl) (by kernel_rfl) (hS.heap.cells (k := 1) (off := 0) (m := 4) rfl (load_whole (u64s_lenh n_a)))) (wo1226.pk [0, 1]) fun ac1514 En1515 => ?_
   refine q_r 2 (s := Instr.loadAt 25 (pt bk1)) (v := .agg (List.toArray (u64s a))) En1515 (fun w hS => run_loadAgg2 (m := 4) (cs := u64s a) (u64s_lenh n_a) (by kernel_rfl) (by kernel_rfl) (hS.heap.cells (k := 1) (off := 0) (m := 4) rfl (load_whole (u64s_lenh n_a)))) (wo1226.pk [0, 1]) fun ac1516 En1517 => ?_
   refine q_t 1 ?_
   refine c_p En1517 wo1226 (tobe_go _ a n_a) fun ac1522 wo1519 En1523 Hv1524 => ?_
   refine ⟨fun _ => Hv1524.pk [0, 1], ?_⟩
   refine q_t 3 ?_
   refine c_p En1523 Hv1524 (rtobe_go _ a n_a) fun ac1529 wo1526 En1530 Hv1531 => ?_
   refine ⟨fun _ => Hv1531.pk [0, 1], ?_⟩
   refine q_f 4 (s := eqOp .eql 41 (.tmp 61) (.tmp 63) (.agg (List.toArray (bys (List.reverse (lb 32 (nv a)))))) (.agg (List.toArray (bys (List.reverse (lb 32 (nv a))))))) (v := .bool true) En1530 (fun _ => Go.Dbr.run_is (fun w => Go.Dbr.bys_eqop (a := (.tmp 61)) (b := (.tmp 63)) (e := 5) (m := 32) (by kernel_rfl) (by kernel_rfl) (by kernel_rfl) (by kernel_rfl) (by kernel_rfl) (rev_len (lb_len _ _)) (rev_len (lb_len _ _)) w) (by first | exact beq_self_eq_true _ | rfl) _) (fun _ => Hv1531.pk [0, 1]) fun ac1532 En1533 => ?_
   refine q_s [5] [] 14 En1533 (Hv1531.pk [0, 1]) fun ac1534 En1535 => ?_
   refine q_r 6 (s := Instr.loadAt 41 (pt bk17)) (v := .agg (List.toArray (bys x))) En1535 (fun w hS => run_loadAgg2 (m := 32) (cs := bys x) (bys_lenh hx) (by kernel_rfl) (by kernel_rfl) (hS.heap.cells (k := 0) (off := 0) (m := 32) rfl (load_whole (bys_lenh hx)))) (Hv1531.pk [0, 1]) fun ac1536 En1537 => ?_
   refine q_r 8 (s := Instr.loadAt 41 (pt bk17)) (v := .agg (List.toArray (bys x))) En1537 (fun w hS => run_loadAgg2 (m := 32) (cs := bys x) (bys_lenh hx) (by kernel_rfl) (by kernel_rfl) (hS.heap.cells (k := 0) (off := 0) (m := 32) rfl (load_whole (bys_lenh hx)))) (Hv1531.pk [0, 1]) fun ac1538 En1539 => ?_
   refine q_t 7 ?_
   refine c_p En1539 Hv1531 (frombe_go _ x hx) fun ac1544 wo1541 En1545 Hv1546 => ?_
   refine ⟨fun _ => Hv1546.pk [0, 1], ?_⟩
   refine q_t 9 ?_
   refine c_p En1545 Hv1546 (rfrombe_go _ x hx) fun ac1551 wo1548 En1552 Hv1553 => ?_
   refine ⟨fun _ => Hv1553.pk [0, 1], ?_⟩
   refine q_f 10 (s := eqOp .eql 25 (.tmp 67) (.tmp 69) (.agg (List.toArray (u64s (nd (lv (List.reverse x)))))) (.agg (List.toArray (u64s (nd (lv (List.reverse x))))))) (v := .bool true) En1552 (fun _ => Go.Dbr.run_is (fun w => Go.Dbr.u64s_eqop (a := (.tmp 67)) (b := (.tmp 69)) (e := 23) (m := 4) (by kernel_rfl) (by kernel_rfl) (by kernel_rfl) (by kernel_rfl) (by kernel_rfl) (nds_len _ _) (nds_len _ _) w) (by first | exact beq_self_eq_true _ | rfl) _) (fun _ => Hv1553.pk [0, 1]) fun ac1554 En1555 => ?_
   refine q_s [11,12] [] 7 En1555 (Hv1553.pk [0, 1]) fun ac1556 En1557 => ?_
   refine q_r 13 (s := Instr.loadAt 41 (pt bk17)) (v := .agg (List.toArray (bys x))) En1557 (fun w hS => run_loadAgg2 (m := 32) (cs := bys x) (bys_lenh hx) (by kernel_rfl) (by kernel_rfl) (hS.heap.cells (k := 0) (off := 0) (m := 32) rfl (load_whole (bys_lenh hx)))) (Hv1553.pk [0, 1]) fun ac1558 En1559 => ?_
   refine q_r 16 (s := Instr.loadAt 41 (pt bk17)) (v := .agg (List.toArray (bys x))) En1559 (fun w hS => run_loadAgg2 (m := 32) (cs := bys x) (bys_lenh hx) (by kernel_rfl) (by kernel_rfl) (hS.heap.cells (k := 0) (off := 0) (m := 32) rfl (load_whole (bys_lenh hx)))) (Hv1553.pk [0, 1]) fun ac1560 En1561 => ?_
   refine q_t 14 ?_
   refine c_p En1561 Hv1553 (frombe_go _ x hx) fun ac1566 wo1563 En1567 Hv1568 => ?_
   refine ⟨fun _ => Hv1568.pk [0, 1], ?_⟩
   refine q_t 15 ?_
   refine c_p En1567 Hv1568 (tobe_go _ (nd (lv (List.reverse x))) (nds_len _ _)) fun ac1573 wo1570 En1574 Hv1575 => ?_
   refine ⟨fun _ => Hv1575.pk [0, 1], ?_⟩
   refine q_f 17 (s := eqOp .eql 41 (.tmp 75) (.tmp 76) (.agg (List.toArray (bys (List.reverse (lb 32 (nv (nd (lv (List.reverse x))))))))) (.agg (List.toArray (bys x)))) (v := .bool true) En1574 (fun _ => Go.Dbr.run_is (fun w => Go.Dbr.bys_eqop (a := (.tmp 75)) (b := (.tmp 76)) (e := 5) (m := 32) (by kernel_rfl) (by kernel_rfl) (by kernel_rfl) (by kernel_rfl) (by kernel_rfl) (rev_len (lb_len _ _)) hx w) (beq_b (to_from hx)) _) (fun _ => Hv1575.pk [0, 1]) fun ac1576 En1577 => ?_
   refine q_s [18,19] [] 0 En1577 (Hv1575.pk [0, 1]) fun ac1578 En1579 => ?_
   exact h_e ⟨En1579.sb, Hv1575.pk [0, 1, 2]⟩
  rintro ac1580 wo1581 ⟨En1582, Hv1583⟩
  refine then_normal ?_
  refine wp_seq ?_
  refine region_from ?_
  refine d_k [1,5,6,8,9,10,89,90] [] 12 En1582 fun ac1584 En1585 => ?_
  refine f_o ?_
  refine op_str (d := some 91) (src := 40) (dst := 9) (e := 5) (ao := ao836) (cap := cp837) (p := List.length b) (bs := b) En1585 (by kernel_rfl) rfl (by kernel_rfl) (by kernel_rfl) (by kernel_rfl) (Hv1583.heap.reads (k := 2) rfl) (bys_vnz Hv1583.heap (k := 2) rfl) ?_
  intro ac1586 En1587
  refine d_k [1,5,6,8,9,10,89,91,92] [] 14 En1587 fun ac1588 En1589 => ?_
  refine f_o ?_
  refine op_str (d := some 93) (src := 40) (dst := 9) (e := 5) (ao := a_b) (cap := c_b) (p := List.length b) (bs := b) En1589 (by kernel_rfl) rfl (by kernel_rfl) (by kernel_rfl) (by kernel_rfl) (i_b.ev Hv1583).reads i_b.nz ?_
  intro ac1590 En1591
  refine d_e [1,5,6,8,9,10] [(15, g_v (show (.bool (ByteArray.toList (bstr b) == ByteArray.toList (bstr b)) : Value) = .bool true by rw [Go.Dbr.bstr_eq b b, show (b == b) = true from (by simp)] <;> rfl))] En1591 fun ac1592 En1593 => ?_
  refine then_normal ?_
  refine wp_ret ?_
  refine d_ret1 (t := 6) (v := .bool true) En1593 (by kernel_rfl) (by kernel_rfl) ?_
  exact ⟨rfl, Hv1583.pk []⟩

theorem bytes_walk (f : Int) (a_b : Option Addr) (c_b : Nat) (b : List UInt8) (a : List UInt64) (w : World) (b_f : (-9223372036854775808 ≤ f ∧ f ≤ 9223372036854775807)) (i_b : InB w [] a_b c_b b) (n_a : (List.length a = 4)) : Calls Try.prog 8 #[.int .i64 f, .slice a_b (List.length b) c_b, .agg (List.toArray (u64s a))] w fun e w' => e = .returned (.bool true) ∧ Ev w [] w' [] := by
  by_cases hf : f = 1 ∨ f = 2 ∨ f = 3 ∨ f = 4
  · exact bytes_ok f a_b c_b b a w b_f i_b n_a hf
  · exact bytes_no f a_b c_b b a w b_f i_b n_a hf

end Go.Proofs.Ytamdjonejijndaa
