/- ShaEnds: its walk. -/
import Derived.Test.YtbpihljkkkeijaaDoorS17
import Derived.Test.YtbpihljkkkeijaaDoorGlob
namespace Go.Proofs.YtbpihljkkkeijaaDoor
open Go.Dbr
set_option maxRecDepth 100000
set_option maxHeartbeats 2000000
set_option linter.unusedVariables false
set_option linter.unusedSimpArgs false

theorem fill_next {f : UInt8} {N i : Nat} (h : i < N) : List.set (List.replicate i f ++ List.replicate (N - i) 0) i f = List.replicate (i + 1) f ++ List.replicate (N - (i + 1)) 0 := by
  rw [List.set_append_right _ _ (by simp), List.length_replicate, Nat.sub_self, show N - i = (N - (i + 1)) + 1 by omega, List.replicate_succ, List.set_cons_zero, List.replicate_succ' (n := i), List.append_assoc]
  rfl

theorem ends_ok (h : Int) (f : UInt8) (y : UInt8) (w : World) (b_h : (-9223372036854775808 ≤ h ∧ h ≤ 9223372036854775807)) (hh : (h = 1 ∨ h = 2 ∨ h = 3)) (gk32 : InU32 w [] (some ⟨0, 0, none⟩) 64 K32) (gk64 : InU64 w [] (some ⟨1, 0, none⟩) 80 K64) : Calls Tryd.prog 4 #[.int .i64 h, bv f, bv y] w fun e w' => e = .returned (.bool true) ∧ Ev w [] w' [] := by
 have hy := UInt8.toNat_lt y
 refine d_0 [(0, .int .i64 h), (1, bv f), (2, bv y)] 47 Go.Proofs.Tryd.func4 Go.Proofs.Tryd.ntmps4 (Heap.nil _) fun act0 En0 Hv0 => ?_
 refine wp_seq ?_
 refine d_r [0,1,2,6] [] En0 fun ac1 En2 => ?_
 refine then_normal ?_
 refine wp_seq ?_
 refine region_from ?_
 refine f_o ?_
 refine c_p En2 Hv0 (head5_ok _ ((gk32.ev Hv0).pick [] (by kernel_rfl)) ((gk64.ev Hv0).pick [] (by kernel_rfl))) fun ac7 wo4 En8 Hv9 => ?_
 refine d_e [0,1,2,6,7] [] En8 fun ac10 En11 => ?_
 refine then_normal ?_
 refine wp_seq ?_
 refine region_from ?_
 refine d_k [0,1,6,7,14] [(1, g_i .i64 (Go.Dbr.u8_to_i64 (x := y) rfl)), (2, g_n (w_a 100 (UInt8.toNat y)))] 3 En11 fun ac12 En13 => ?_
 refine f_o ?_
 refine op_makeslice (d := some 15) (t := 23) (T := 5) (m := 100 + (UInt8.toNat y)) (kl := .i64) (kc := .i64) (z := .int .u8 0) (bytes := 1) En13 (by kernel_rfl) Hv9 (by kernel_rfl) (by kernel_rfl) (by kernel_rfl) (by omega) (by unfold maxLen; omega) ?_
 intro ac15 wo16 bk14 En17 Hv18
 rw [show List.replicate (100 + (UInt8.toNat y)) (Value.int .u8 0) = bys (List.replicate (100 + (UInt8.toNat y)) 0) from (bys_replicate _).symm] at Hv18
 refine d_e [0,1,6,7,8] [] En17 fun ac19 En20 => ?_
 refine then_normal ?_
 refine wp_seq ?_
 refine wp_seq ?_
 refine d_r [0,1,6,7,8,9] [] En20 fun ac21 En22 => ?_
 refine then_normal ?_
 refine wp_block ?_
 refine loop_m (fun ms23 ac wo => ∃ (i : Nat), ms23 = ((100 + UInt8.toNat y) - i : Nat) ∧ Env ac 47 [(0, .int .i64 h), (1, bv f), (6, .bool false), (7, .bool true), (8, .slice (some ⟨bk14, 0, none⟩) (100 + (UInt8.toNat y)) (100 + (UInt8.toNat y))), (9, ni i)] ∧ Ev w [] wo [.vec (some ⟨bk14, 0, none⟩) (100 + (UInt8.toNat y)) 1 (bys (List.replicate i f ++ List.replicate ((100 + UInt8.toNat y) - i) 0)) 5] ∧ (i ≤ (100 + UInt8.toNat y))) ⟨_, 0, rfl, En22.sb, Hv18.pk [0], by omega⟩ ?_
 rintro mm29 ac25 wo26 ⟨i, rfl, En27, Hv28, hi⟩
 refine wp_seq ?_
 refine wp_seq ?_
 have hfl : List.length (List.replicate i f ++ List.replicate ((100 + UInt8.toNat y) - i) 0) = (100 + UInt8.toNat y) := by rw [List.length_append, List.length_replicate, List.length_replicate]; omega
 refine d_r [0,1,6,7,8,9,19] [] En27 fun ac30 En31 => ?_
 refine then_normal ?_
 refine c_d (((i : Nat) : Int) < ((100 + (UInt8.toNat y) : Nat) : Int)) En31 (fun hc32 => ?_) (fun hc32 => ?_)
 ·
  refine wp_skip ?_
  refine then_normal ?_
  refine wp_seq ?_
  refine wp_block ?_
  have hfl : List.length (List.replicate i f ++ List.replicate ((100 + UInt8.toNat y) - i) 0) = (100 + UInt8.toNat y) := by rw [List.length_append, List.length_replicate, List.length_replicate]; omega
  have hb35 : i < 100 + (UInt8.toNat y) := (by omega)
  refine region_from ?_
  refine d_k [0,1,6,7,8,9,22,23,24] [] 3 En31 fun ac36 En37 => ?_
  refine f_o ?_
  refine q_v (x := Instr.indexAt 23 (.slice (some ⟨bk14, 0, none⟩) (100 + (UInt8.toNat y)) (100 + (UInt8.toNat y))) (ni i)) (v := .pointer (some (Addr.add ⟨bk14, 0, none⟩ i))) En37 (Go.Dbr.run_indexsl (e := 5) (sz := 1) (j := i) (jo := i) rfl (by kernel_rfl) (by kernel_rfl) (by omega) hb35 (Nat.mul_one _) _) fun ac38 En39 => ?_
  refine f_o ?_
  refine op_storeel (d := none) (t := 5) (ad := ⟨bk14, 0, none⟩) (ao := some ⟨bk14, 0, none⟩) (k := 0) (cap := 100 + (UInt8.toNat y)) (sz := 1) (j := i) (xs := bys (List.replicate i f ++ List.replicate ((100 + UInt8.toNat y) - i) 0)) (v := bv f) En39 (by kernel_rfl) Hv28 rfl rfl (by rw [bys_length]; first | omega | (simp; done) | (simp; omega)) (by kernel_rfl) rfl ?_
  intro ac40 wo41  En42 Hv43
  rw [bys_set] at Hv43
  refine f_e ?_
  have hfn : List.set (List.replicate i f ++ List.replicate ((100 + UInt8.toNat y) - i) 0) i f = List.replicate (i + 1) f ++ List.replicate ((100 + UInt8.toNat y) - (i + 1)) 0 := fill_next (by omega)
  rw [hfn] at Hv43
  refine block_normal ?_
  refine then_normal ?_
  refine d_r [0,1,6,7,8,9] [(1, g_n (w_a i 1))] En42 fun ac44 En45 => ?_
  refine then_normal ?_
  refine ⟨_, ⟨i + 1, rfl, En45.sb, Hv43.pk [0], by omega⟩, ?_⟩
  omega
 ·
  refine wp_exit ?_
  refine then_exit ?_
  refine then_exit ?_
  refine block_exit ?_
  refine then_normal ?_
  refine wp_seq ?_
  refine wp_seq ?_
  refine d_r [0,1,6,7,8,9,10] [] En31 fun ac46 En47 => ?_
  refine then_normal ?_
  refine wp_block ?_
  refine loop_m (fun ms48 ac wo => ∃ (q : Nat), ms48 = (1000 - q : Nat) ∧ Env ac 47 [(0, .int .i64 h), (1, bv f), (7, .bool true), (8, .slice (some ⟨bk14, 0, none⟩) (100 + (UInt8.toNat y)) (100 + (UInt8.toNat y))), (9, ni i), (10, ni q)] ∧ Ev w [] wo [.vec (some ⟨bk14, 0, none⟩) (100 + (UInt8.toNat y)) 1 (bys (List.replicate i f ++ List.replicate ((100 + UInt8.toNat y) - i) 0)) 5] ∧ (q ≤ 1000)) ⟨_, 40, rfl, En47.sb, Hv28.pk [0], by omega⟩ ?_
  rintro mm54 ac50 wo51 ⟨q, rfl, En52, Hv53, hq⟩
  refine wp_seq ?_
  refine wp_seq ?_
  have hfl2 : List.length (List.replicate i f ++ List.replicate ((100 + UInt8.toNat y) - i) 0) = (100 + UInt8.toNat y) := by rw [List.length_append, List.length_replicate, List.length_replicate]; omega
  refine d_r [0,1,7,8,9,10,29] [] En52 fun ac55 En56 => ?_
  refine then_normal ?_
  refine c_d (((q : Nat) : Int) < ((100 + (UInt8.toNat y) : Nat) : Int)) En56 (fun hc57 => ?_) (fun hc57 => ?_)
  ·
   refine wp_skip ?_
   refine then_normal ?_
   refine wp_seq ?_
   refine wp_block ?_
   refine wp_seq ?_
   have hfl2 : List.length (List.replicate i f ++ List.replicate ((100 + UInt8.toNat y) - i) 0) = (100 + UInt8.toNat y) := by rw [List.length_append, List.length_replicate, List.length_replicate]; omega
   refine r_c (fun ac wo => Env ac 47 [(0, .int .i64 h), (1, bv f), (7, .bool true), (8, .slice (some ⟨bk14, 0, none⟩) (100 + (UInt8.toNat y)) (100 + (UInt8.toNat y))), (9, ni i), (10, ni q), (45, .bool false)] ∧ Ev w [] wo [.vec (some ⟨bk14, 0, none⟩) (100 + (UInt8.toNat y)) 1 (bys (List.replicate i f ++ List.replicate ((100 + UInt8.toNat y) - i) 0)) 5]) ?_ ?_
   ·
    refine h_s (fun wv => Ev w [] wv [.vec (some ⟨bk14, 0, none⟩) (100 + (UInt8.toNat y)) 1 (bys (List.replicate i f ++ List.replicate ((100 + UInt8.toNat y) - i) 0)) 5]) [] 14 ?_
    have wo58 := Hv53.trans (Ev.drew Hv53.heap)
    refine h_name fun G hG => ?_
    have nd369 : ∀ (ac : Act) (wo : World) (aoq269 : _) (coq269 : _), Env ac 47 [(0, .int .i64 h), (1, bv f), (7, .bool true), (8, .slice (some ⟨bk14, 0, none⟩) (100 + (UInt8.toNat y)) (100 + (UInt8.toNat y))), (9, ni i), (10, ni q), (38, .string (bstr (sumF h (List.flatMap (fun s : Sl UInt8 => s.l) ([⟨some ⟨bk14, 0, none⟩, 100 + (UInt8.toNat y), List.take q (List.replicate i f ++ List.replicate ((100 + UInt8.toNat y) - i) 0)⟩] : List (Sl UInt8)))))), (43, .slice aoq269 (List.length (sumF h (List.take q (List.replicate i f ++ List.replicate ((100 + UInt8.toNat y) - i) 0)))) coq269)] → Ev w [] wo [.vec aoq269 coq269 1 (bys (sumF h (List.take q (List.replicate i f ++ List.replicate ((100 + UInt8.toNat y) - i) 0)))) 5, .vec (some ⟨bk14, 0, none⟩) (100 + (UInt8.toNat y)) 1 (bys (List.replicate i f ++ List.replicate ((100 + UInt8.toNat y) - i) 0)) 5] → G 2 #[true, true, true, true, true, true, true, true, true, true, true, true, false, false] ac wo := by
     intro ac370 wo371 aoq269 coq269 En372 Hv373
     refine h_from hG ?_
     refine q_t 12 ?_
     refine op_str (d := some 44) (src := 23) (dst := 9) (e := 5) (ao := aoq269) (cap := coq269) (p := List.length (sumF h (List.take q (List.replicate i f ++ List.replicate ((100 + UInt8.toNat y) - i) 0)))) (bs := sumF h (List.take q (List.replicate i f ++ List.replicate ((100 + UInt8.toNat y) - i) 0))) En372 (by kernel_rfl) rfl (by kernel_rfl) (by kernel_rfl) (by kernel_rfl) (Hv373.heap.reads (k := 0) rfl) (bys_vnz Hv373.heap (k := 0) rfl) ?_
     intro ac374 En375
     refine ⟨fun _ => Hv373.pk [1], ?_⟩
     refine q_s [13] [(13, g_v (show (.bool (!(ByteArray.toList (bstr (sumF h (List.flatMap (fun s : Sl UInt8 => s.l) ([⟨some ⟨bk14, 0, none⟩, 100 + (UInt8.toNat y), List.take q (List.replicate i f ++ List.replicate ((100 + UInt8.toNat y) - i) 0)⟩] : List (Sl UInt8))))) == ByteArray.toList (bstr (sumF h (List.take q (List.replicate i f ++ List.replicate ((100 + UInt8.toNat y) - i) 0)))))) : Value) = .bool false by rw [Go.Dbr.bstr_eq (sumF h (List.flatMap (fun s : Sl UInt8 => s.l) ([⟨some ⟨bk14, 0, none⟩, 100 + (UInt8.toNat y), List.take q (List.replicate i f ++ List.replicate ((100 + UInt8.toNat y) - i) 0)⟩] : List (Sl UInt8)))) (sumF h (List.take q (List.replicate i f ++ List.replicate ((100 + UInt8.toNat y) - i) 0))), show (!((sumF h (List.flatMap (fun s : Sl UInt8 => s.l) ([⟨some ⟨bk14, 0, none⟩, 100 + (UInt8.toNat y), List.take q (List.replicate i f ++ List.replicate ((100 + UInt8.toNat y) - i) 0)⟩] : List (Sl UInt8)))) == (sumF h (List.take q (List.replicate i f ++ List.replicate ((100 + UInt8.toNat y) - i) 0))))) = false from (by simp)] <;> rfl))] 0 En375 (Hv373.pk [1]) fun ac376 En377 => ?_
     exact h_e ⟨En377.sb, Hv373.pk [1]⟩
    have nd378 : ∀ (ac : Act) (wo : World) (aoq225 : _) (coq225 : _), Env ac 47 [(0, .int .i64 h), (1, bv f), (7, .bool true), (8, .slice (some ⟨bk14, 0, none⟩) (100 + (UInt8.toNat y)) (100 + (UInt8.toNat y))), (9, ni i), (10, ni q), (37, .slice aoq225 (List.length (sumF h (List.flatMap (fun s : Sl UInt8 => s.l) ([⟨some ⟨bk14, 0, none⟩, 100 + (UInt8.toNat y), List.take q (List.replicate i f ++ List.replicate ((100 + UInt8.toNat y) - i) 0)⟩] : List (Sl UInt8))))) coq225), (44, .string (bstr (sumF h (List.take q (List.replicate i f ++ List.replicate ((100 + UInt8.toNat y) - i) 0)))))] → Ev w [] wo [.vec aoq225 coq225 1 (bys (sumF h (List.flatMap (fun s : Sl UInt8 => s.l) ([⟨some ⟨bk14, 0, none⟩, 100 + (UInt8.toNat y), List.take q (List.replicate i f ++ List.replicate ((100 + UInt8.toNat y) - i) 0)⟩] : List (Sl UInt8))))) 5, .vec (some ⟨bk14, 0, none⟩) (100 + (UInt8.toNat y)) 1 (bys (List.replicate i f ++ List.replicate ((100 + UInt8.toNat y) - i) 0)) 5] → G 2 #[true, true, true, true, true, true, false, true, true, true, true, true, true, false] ac wo := by
     intro ac379 wo380 aoq225 coq225 En381 Hv382
     refine h_from hG ?_
     refine q_t 6 ?_
     refine op_str (d := some 38) (src := 23) (dst := 9) (e := 5) (ao := aoq225) (cap := coq225) (p := List.length (sumF h (List.flatMap (fun s : Sl UInt8 => s.l) ([⟨some ⟨bk14, 0, none⟩, 100 + (UInt8.toNat y), List.take q (List.replicate i f ++ List.replicate ((100 + UInt8.toNat y) - i) 0)⟩] : List (Sl UInt8))))) (bs := sumF h (List.flatMap (fun s : Sl UInt8 => s.l) ([⟨some ⟨bk14, 0, none⟩, 100 + (UInt8.toNat y), List.take q (List.replicate i f ++ List.replicate ((100 + UInt8.toNat y) - i) 0)⟩] : List (Sl UInt8)))) En381 (by kernel_rfl) rfl (by kernel_rfl) (by kernel_rfl) (by kernel_rfl) (Hv382.heap.reads (k := 0) rfl) (bys_vnz Hv382.heap (k := 0) rfl) ?_
     intro ac383 En384
     refine ⟨fun _ => Hv382.pk [1], ?_⟩
     refine q_s [13] [(13, g_v (show (.bool (!(ByteArray.toList (bstr (sumF h (List.flatMap (fun s : Sl UInt8 => s.l) ([⟨some ⟨bk14, 0, none⟩, 100 + (UInt8.toNat y), List.take q (List.replicate i f ++ List.replicate ((100 + UInt8.toNat y) - i) 0)⟩] : List (Sl UInt8))))) == ByteArray.toList (bstr (sumF h (List.take q (List.replicate i f ++ List.replicate ((100 + UInt8.toNat y) - i) 0)))))) : Value) = .bool false by rw [Go.Dbr.bstr_eq (sumF h (List.flatMap (fun s : Sl UInt8 => s.l) ([⟨some ⟨bk14, 0, none⟩, 100 + (UInt8.toNat y), List.take q (List.replicate i f ++ List.replicate ((100 + UInt8.toNat y) - i) 0)⟩] : List (Sl UInt8)))) (sumF h (List.take q (List.replicate i f ++ List.replicate ((100 + UInt8.toNat y) - i) 0))), show (!((sumF h (List.flatMap (fun s : Sl UInt8 => s.l) ([⟨some ⟨bk14, 0, none⟩, 100 + (UInt8.toNat y), List.take q (List.replicate i f ++ List.replicate ((100 + UInt8.toNat y) - i) 0)⟩] : List (Sl UInt8)))) == (sumF h (List.take q (List.replicate i f ++ List.replicate ((100 + UInt8.toNat y) - i) 0))))) = false from (by simp)] <;> rfl))] 0 En384 (Hv382.pk [1]) fun ac385 En386 => ?_
     exact h_e ⟨En386.sb, Hv382.pk [1]⟩
    have nd387 : ∀ (ac : Act) (wo : World), Env ac 47 [(0, .int .i64 h), (1, bv f), (7, .bool true), (8, .slice (some ⟨bk14, 0, none⟩) (100 + (UInt8.toNat y)) (100 + (UInt8.toNat y))), (9, ni i), (10, ni q), (38, .string (bstr (sumF h (List.flatMap (fun s : Sl UInt8 => s.l) ([⟨some ⟨bk14, 0, none⟩, 100 + (UInt8.toNat y), List.take q (List.replicate i f ++ List.replicate ((100 + UInt8.toNat y) - i) 0)⟩] : List (Sl UInt8)))))), (39, .int .i64 h), (42, .slice (some ⟨bk14, 0, none⟩) (List.length (List.take q (List.replicate i f ++ List.replicate ((100 + UInt8.toNat y) - i) 0))) (100 + (UInt8.toNat y)))] → Ev w [] wo [.vec (some ⟨bk14, 0, none⟩) (100 + (UInt8.toNat y)) 1 (bys (List.replicate i f ++ List.replicate ((100 + UInt8.toNat y) - i) 0)) 5] → G 3 #[true, true, true, true, true, true, true, true, true, true, true, false, false, false] ac wo := by
     intro ac388 wo389 En390 Hv391
     refine h_from hG ?_
     refine q_t 11 ?_
     refine c_0 En390 Hv391 (docof_go _ h hh (some ⟨bk14, 0, none⟩) (List.length (List.take q (List.replicate i f ++ List.replicate ((100 + UInt8.toNat y) - i) 0))) (100 + (UInt8.toNat y)) (List.take q (List.replicate i f ++ List.replicate ((100 + UInt8.toNat y) - i) 0)) (by first | rfl | (simp; done) | (simp; omega) | omega) (bys_in_take Hv391.heap (k := 0) rfl [] (by kernel_rfl) rfl q (by first | decide | omega))) ?_
     rintro _ wo394 ⟨aoq392, coq392, rfl, he395⟩
     refine ⟨_, _, _, rfl, he395, rfl, fun ac397 En398 Hv399 => ?_⟩
     refine ⟨fun _ => Hv399.pk [1], ?_⟩
     refine q_t 12 ?_
     refine op_str (d := some 44) (src := 23) (dst := 9) (e := 5) (ao := aoq392) (cap := coq392) (p := List.length (sumF h (List.take q (List.replicate i f ++ List.replicate ((100 + UInt8.toNat y) - i) 0)))) (bs := sumF h (List.take q (List.replicate i f ++ List.replicate ((100 + UInt8.toNat y) - i) 0))) En398 (by kernel_rfl) rfl (by kernel_rfl) (by kernel_rfl) (by kernel_rfl) (Hv399.heap.reads (k := 0) rfl) (bys_vnz Hv399.heap (k := 0) rfl) ?_
     intro ac400 En401
     refine ⟨fun _ => Hv399.pk [1], ?_⟩
     refine q_s [13] [(13, g_v (show (.bool (!(ByteArray.toList (bstr (sumF h (List.flatMap (fun s : Sl UInt8 => s.l) ([⟨some ⟨bk14, 0, none⟩, 100 + (UInt8.toNat y), List.take q (List.replicate i f ++ List.replicate ((100 + UInt8.toNat y) - i) 0)⟩] : List (Sl UInt8))))) == ByteArray.toList (bstr (sumF h (List.take q (List.replicate i f ++ List.replicate ((100 + UInt8.toNat y) - i) 0)))))) : Value) = .bool false by rw [Go.Dbr.bstr_eq (sumF h (List.flatMap (fun s : Sl UInt8 => s.l) ([⟨some ⟨bk14, 0, none⟩, 100 + (UInt8.toNat y), List.take q (List.replicate i f ++ List.replicate ((100 + UInt8.toNat y) - i) 0)⟩] : List (Sl UInt8)))) (sumF h (List.take q (List.replicate i f ++ List.replicate ((100 + UInt8.toNat y) - i) 0))), show (!((sumF h (List.flatMap (fun s : Sl UInt8 => s.l) ([⟨some ⟨bk14, 0, none⟩, 100 + (UInt8.toNat y), List.take q (List.replicate i f ++ List.replicate ((100 + UInt8.toNat y) - i) 0)⟩] : List (Sl UInt8)))) == (sumF h (List.take q (List.replicate i f ++ List.replicate ((100 + UInt8.toNat y) - i) 0))))) = false from (by simp)] <;> rfl))] 0 En401 (Hv399.pk [1]) fun ac402 En403 => ?_
     exact h_e ⟨En403.sb, Hv399.pk [1]⟩
    have nd404 : ∀ (ac : Act) (wo : World) (aoq225 : _) (coq225 : _) (aoq269 : _) (coq269 : _), Env ac 47 [(0, .int .i64 h), (1, bv f), (7, .bool true), (8, .slice (some ⟨bk14, 0, none⟩) (100 + (UInt8.toNat y)) (100 + (UInt8.toNat y))), (9, ni i), (10, ni q), (37, .slice aoq225 (List.length (sumF h (List.flatMap (fun s : Sl UInt8 => s.l) ([⟨some ⟨bk14, 0, none⟩, 100 + (UInt8.toNat y), List.take q (List.replicate i f ++ List.replicate ((100 + UInt8.toNat y) - i) 0)⟩] : List (Sl UInt8))))) coq225), (43, .slice aoq269 (List.length (sumF h (List.take q (List.replicate i f ++ List.replicate ((100 + UInt8.toNat y) - i) 0)))) coq269)] → Ev w [] wo [.vec aoq269 coq269 1 (bys (sumF h (List.take q (List.replicate i f ++ List.replicate ((100 + UInt8.toNat y) - i) 0)))) 5, .vec aoq225 coq225 1 (bys (sumF h (List.flatMap (fun s : Sl UInt8 => s.l) ([⟨some ⟨bk14, 0, none⟩, 100 + (UInt8.toNat y), List.take q (List.replicate i f ++ List.replicate ((100 + UInt8.toNat y) - i) 0)⟩] : List (Sl UInt8))))) 5, .vec (some ⟨bk14, 0, none⟩) (100 + (UInt8.toNat y)) 1 (bys (List.replicate i f ++ List.replicate ((100 + UInt8.toNat y) - i) 0)) 5] → G 3 #[true, true, true, true, true, true, false, true, true, true, true, true, false, false] ac wo := by
     intro ac405 wo406 aoq225 coq225 aoq269 coq269 En407 Hv408
     refine h_from hG ?_
     refine h_ways [6, 12] (by kernel_rfl) rfl ?_
     refine ⟨?_, ?_, trivial⟩
     ·
      rintro _ rfl
      refine op_str (d := some 38) (src := 23) (dst := 9) (e := 5) (ao := aoq225) (cap := coq225) (p := List.length (sumF h (List.flatMap (fun s : Sl UInt8 => s.l) ([⟨some ⟨bk14, 0, none⟩, 100 + (UInt8.toNat y), List.take q (List.replicate i f ++ List.replicate ((100 + UInt8.toNat y) - i) 0)⟩] : List (Sl UInt8))))) (bs := sumF h (List.flatMap (fun s : Sl UInt8 => s.l) ([⟨some ⟨bk14, 0, none⟩, 100 + (UInt8.toNat y), List.take q (List.replicate i f ++ List.replicate ((100 + UInt8.toNat y) - i) 0)⟩] : List (Sl UInt8)))) En407 (by kernel_rfl) rfl (by kernel_rfl) (by kernel_rfl) (by kernel_rfl) (Hv408.heap.reads (k := 1) rfl) (bys_vnz Hv408.heap (k := 1) rfl) ?_
      intro ac409 En410
      refine ⟨fun _ => Hv408.pk [2], ?_⟩
      exact h_to hG (by kernel_rfl) (nd369 _ _ aoq269 coq269 (En410.sb) (Hv408.pk [0, 2]))
     ·
      rintro _ rfl
      refine op_str (d := some 44) (src := 23) (dst := 9) (e := 5) (ao := aoq269) (cap := coq269) (p := List.length (sumF h (List.take q (List.replicate i f ++ List.replicate ((100 + UInt8.toNat y) - i) 0)))) (bs := sumF h (List.take q (List.replicate i f ++ List.replicate ((100 + UInt8.toNat y) - i) 0))) En407 (by kernel_rfl) rfl (by kernel_rfl) (by kernel_rfl) (by kernel_rfl) (Hv408.heap.reads (k := 0) rfl) (bys_vnz Hv408.heap (k := 0) rfl) ?_
      intro ac411 En412
      refine ⟨fun _ => Hv408.pk [2], ?_⟩
      exact h_to hG (by kernel_rfl) (nd378 _ _ aoq225 coq225 (En412.sb) (Hv408.pk [1, 2]))
    have nd413 : ∀ (ac : Act) (wo : World), Env ac 47 [(0, .int .i64 h), (1, bv f), (7, .bool true), (8, .slice (some ⟨bk14, 0, none⟩) (100 + (UInt8.toNat y)) (100 + (UInt8.toNat y))), (9, ni i), (10, ni q), (38, .string (bstr (sumF h (List.flatMap (fun s : Sl UInt8 => s.l) ([⟨some ⟨bk14, 0, none⟩, 100 + (UInt8.toNat y), List.take q (List.replicate i f ++ List.replicate ((100 + UInt8.toNat y) - i) 0)⟩] : List (Sl UInt8)))))), (39, .int .i64 h), (40, .slice (some ⟨bk14, 0, none⟩) (100 + (UInt8.toNat y)) (100 + (UInt8.toNat y))), (41, ni q)] → Ev w [] wo [.vec (some ⟨bk14, 0, none⟩) (100 + (UInt8.toNat y)) 1 (bys (List.replicate i f ++ List.replicate ((100 + UInt8.toNat y) - i) 0)) 5] → G 4 #[true, true, true, true, true, true, true, true, true, true, false, false, false, false] ac wo := by
     intro ac414 wo415 En416 Hv417
     refine h_from hG ?_
     refine q_t 10 ?_
     refine op_slice0 (d := some 42) (t := 23) (e := 5) (sz := 1) (len := 100 + (UInt8.toNat y)) (cap := 100 + (UInt8.toNat y)) (hi := q) (ao := some ⟨bk14, 0, none⟩) (lov := none) (hiv := (some (ni q))) En416 (by kernel_rfl) (by kernel_rfl) (by kernel_rfl) (by omega) (.inl ⟨rfl, rfl⟩) (.inr ⟨.i64, rfl⟩) ?_
     intro ac418 En419
     have hsl420 : q = List.length (List.take q (List.replicate i f ++ List.replicate ((100 + UInt8.toNat y) - i) 0)) := by rw [List.length_take]; omega
     have En421 := Env.fx (t := 42) (v := .slice (some ⟨bk14, 0, none⟩) q (100 + (UInt8.toNat y))) (u := .slice (some ⟨bk14, 0, none⟩) (List.length (List.take q (List.replicate i f ++ List.replicate ((100 + UInt8.toNat y) - i) 0))) (100 + (UInt8.toNat y))) En419 (congrArg (fun n : Nat => Value.slice (some ⟨bk14, 0, none⟩) n (100 + (UInt8.toNat y))) hsl420)
     refine ⟨fun _ => Hv417.pk [0], ?_⟩
     refine q_t 11 ?_
     refine c_0 En421 Hv417 (docof_go _ h hh (some ⟨bk14, 0, none⟩) (List.length (List.take q (List.replicate i f ++ List.replicate ((100 + UInt8.toNat y) - i) 0))) (100 + (UInt8.toNat y)) (List.take q (List.replicate i f ++ List.replicate ((100 + UInt8.toNat y) - i) 0)) (by first | rfl | (simp; done) | (simp; omega) | omega) (bys_in_take Hv417.heap (k := 0) rfl [] (by kernel_rfl) rfl q (by first | decide | omega))) ?_
     rintro _ wo424 ⟨aoq422, coq422, rfl, he425⟩
     refine ⟨_, _, _, rfl, he425, rfl, fun ac427 En428 Hv429 => ?_⟩
     refine ⟨fun _ => Hv429.pk [1], ?_⟩
     refine q_t 12 ?_
     refine op_str (d := some 44) (src := 23) (dst := 9) (e := 5) (ao := aoq422) (cap := coq422) (p := List.length (sumF h (List.take q (List.replicate i f ++ List.replicate ((100 + UInt8.toNat y) - i) 0)))) (bs := sumF h (List.take q (List.replicate i f ++ List.replicate ((100 + UInt8.toNat y) - i) 0))) En428 (by kernel_rfl) rfl (by kernel_rfl) (by kernel_rfl) (by kernel_rfl) (Hv429.heap.reads (k := 0) rfl) (bys_vnz Hv429.heap (k := 0) rfl) ?_
     intro ac430 En431
     refine ⟨fun _ => Hv429.pk [1], ?_⟩
     refine q_s [13] [(13, g_v (show (.bool (!(ByteArray.toList (bstr (sumF h (List.flatMap (fun s : Sl UInt8 => s.l) ([⟨some ⟨bk14, 0, none⟩, 100 + (UInt8.toNat y), List.take q (List.replicate i f ++ List.replicate ((100 + UInt8.toNat y) - i) 0)⟩] : List (Sl UInt8))))) == ByteArray.toList (bstr (sumF h (List.take q (List.replicate i f ++ List.replicate ((100 + UInt8.toNat y) - i) 0)))))) : Value) = .bool false by rw [Go.Dbr.bstr_eq (sumF h (List.flatMap (fun s : Sl UInt8 => s.l) ([⟨some ⟨bk14, 0, none⟩, 100 + (UInt8.toNat y), List.take q (List.replicate i f ++ List.replicate ((100 + UInt8.toNat y) - i) 0)⟩] : List (Sl UInt8)))) (sumF h (List.take q (List.replicate i f ++ List.replicate ((100 + UInt8.toNat y) - i) 0))), show (!((sumF h (List.flatMap (fun s : Sl UInt8 => s.l) ([⟨some ⟨bk14, 0, none⟩, 100 + (UInt8.toNat y), List.take q (List.replicate i f ++ List.replicate ((100 + UInt8.toNat y) - i) 0)⟩] : List (Sl UInt8)))) == (sumF h (List.take q (List.replicate i f ++ List.replicate ((100 + UInt8.toNat y) - i) 0))))) = false from (by simp)] <;> rfl))] 0 En431 (Hv429.pk [1]) fun ac432 En433 => ?_
     exact h_e ⟨En433.sb, Hv429.pk [1]⟩
    have nd434 : ∀ (ac : Act) (wo : World) (aoq225 : _) (coq225 : _), Env ac 47 [(0, .int .i64 h), (1, bv f), (7, .bool true), (8, .slice (some ⟨bk14, 0, none⟩) (100 + (UInt8.toNat y)) (100 + (UInt8.toNat y))), (9, ni i), (10, ni q), (37, .slice aoq225 (List.length (sumF h (List.flatMap (fun s : Sl UInt8 => s.l) ([⟨some ⟨bk14, 0, none⟩, 100 + (UInt8.toNat y), List.take q (List.replicate i f ++ List.replicate ((100 + UInt8.toNat y) - i) 0)⟩] : List (Sl UInt8))))) coq225), (39, .int .i64 h), (42, .slice (some ⟨bk14, 0, none⟩) (List.length (List.take q (List.replicate i f ++ List.replicate ((100 + UInt8.toNat y) - i) 0))) (100 + (UInt8.toNat y)))] → Ev w [] wo [.vec aoq225 coq225 1 (bys (sumF h (List.flatMap (fun s : Sl UInt8 => s.l) ([⟨some ⟨bk14, 0, none⟩, 100 + (UInt8.toNat y), List.take q (List.replicate i f ++ List.replicate ((100 + UInt8.toNat y) - i) 0)⟩] : List (Sl UInt8))))) 5, .vec (some ⟨bk14, 0, none⟩) (100 + (UInt8.toNat y)) 1 (bys (List.replicate i f ++ List.replicate ((100 + UInt8.toNat y) - i) 0)) 5] → G 4 #[true, true, true, true, true, true, false, true, true, true, true, false, false, false] ac wo := by
     intro ac435 wo436 aoq225 coq225 En437 Hv438
     refine h_from hG ?_
     refine h_ways [6, 11] (by kernel_rfl) rfl ?_
     refine ⟨?_, ?_, trivial⟩
     ·
      rintro _ rfl
      refine op_str (d := some 38) (src := 23) (dst := 9) (e := 5) (ao := aoq225) (cap := coq225) (p := List.length (sumF h (List.flatMap (fun s : Sl UInt8 => s.l) ([⟨some ⟨bk14, 0, none⟩, 100 + (UInt8.toNat y), List.take q (List.replicate i f ++ List.replicate ((100 + UInt8.toNat y) - i) 0)⟩] : List (Sl UInt8))))) (bs := sumF h (List.flatMap (fun s : Sl UInt8 => s.l) ([⟨some ⟨bk14, 0, none⟩, 100 + (UInt8.toNat y), List.take q (List.replicate i f ++ List.replicate ((100 + UInt8.toNat y) - i) 0)⟩] : List (Sl UInt8)))) En437 (by kernel_rfl) rfl (by kernel_rfl) (by kernel_rfl) (by kernel_rfl) (Hv438.heap.reads (k := 0) rfl) (bys_vnz Hv438.heap (k := 0) rfl) ?_
      intro ac439 En440
      refine ⟨fun _ => Hv438.pk [1], ?_⟩
      exact h_to hG (by kernel_rfl) (nd387 _ _ (En440.sb) (Hv438.pk [1]))
     ·
      rintro _ rfl
      refine c_0 En437 Hv438 (docof_go _ h hh (some ⟨bk14, 0, none⟩) (List.length (List.take q (List.replicate i f ++ List.replicate ((100 + UInt8.toNat y) - i) 0))) (100 + (UInt8.toNat y)) (List.take q (List.replicate i f ++ List.replicate ((100 + UInt8.toNat y) - i) 0)) (by first | rfl | (simp; done) | (simp; omega) | omega) (bys_in_take Hv438.heap (k := 1) rfl [] (by kernel_rfl) rfl q (by first | decide | omega))) ?_
      rintro _ wo443 ⟨aoq441, coq441, rfl, he444⟩
      refine ⟨_, _, _, rfl, he444, rfl, fun ac446 En447 Hv448 => ?_⟩
      refine ⟨fun _ => Hv448.pk [2], ?_⟩
      exact h_to hG (by kernel_rfl) (nd404 _ _ aoq225 coq225 aoq441 coq441 (En447.sb) (Hv448.pk [0, 1, 2]))
    have nd449 : ∀ (ac : Act) (wo : World) (aoq225 : _) (coq225 : _), Env ac 47 [(0, .int .i64 h), (1, bv f), (7, .bool true), (8, .slice (some ⟨bk14, 0, none⟩) (100 + (UInt8.toNat y)) (100 + (UInt8.toNat y))), (9, ni i), (10, ni q), (37, .slice aoq225 (List.length (sumF h (List.flatMap (fun s : Sl UInt8 => s.l) ([⟨some ⟨bk14, 0, none⟩, 100 + (UInt8.toNat y), List.take q (List.replicate i f ++ List.replicate ((100 + UInt8.toNat y) - i) 0)⟩] : List (Sl UInt8))))) coq225), (39, .int .i64 h), (40, .slice (some ⟨bk14, 0, none⟩) (100 + (UInt8.toNat y)) (100 + (UInt8.toNat y))), (41, ni q)] → Ev w [] wo [.vec aoq225 coq225 1 (bys (sumF h (List.flatMap (fun s : Sl UInt8 => s.l) ([⟨some ⟨bk14, 0, none⟩, 100 + (UInt8.toNat y), List.take q (List.replicate i f ++ List.replicate ((100 + UInt8.toNat y) - i) 0)⟩] : List (Sl UInt8))))) 5, .vec (some ⟨bk14, 0, none⟩) (100 + (UInt8.toNat y)) 1 (bys (List.replicate i f ++ List.replicate ((100 + UInt8.toNat y) - i) 0)) 5] → G 5 #[true, true, true, true, true, true, false, true, true, true, false, false, false, false] ac wo := by
     intro ac450 wo451 aoq225 coq225 En452 Hv453
     refine h_from hG ?_
     refine h_ways [6, 10] (by kernel_rfl) rfl ?_
     refine ⟨?_, ?_, trivial⟩
     ·
      rintro _ rfl
      refine op_str (d := some 38) (src := 23) (dst := 9) (e := 5) (ao := aoq225) (cap := coq225) (p := List.length (sumF h (List.flatMap (fun s : Sl UInt8 => s.l) ([⟨some ⟨bk14, 0, none⟩, 100 + (UInt8.toNat y), List.take q (List.replicate i f ++ List.replicate ((100 + UInt8.toNat y) - i) 0)⟩] : List (Sl UInt8))))) (bs := sumF h (List.flatMap (fun s : Sl UInt8 => s.l) ([⟨some ⟨bk14, 0, none⟩, 100 + (UInt8.toNat y), List.take q (List.replicate i f ++ List.replicate ((100 + UInt8.toNat y) - i) 0)⟩] : List (Sl UInt8)))) En452 (by kernel_rfl) rfl (by kernel_rfl) (by kernel_rfl) (by kernel_rfl) (Hv453.heap.reads (k := 0) rfl) (bys_vnz Hv453.heap (k := 0) rfl) ?_
      intro ac454 En455
      refine ⟨fun _ => Hv453.pk [1], ?_⟩
      exact h_to hG (by kernel_rfl) (nd413 _ _ (En455.sb) (Hv453.pk [1]))
     ·
      rintro _ rfl
      refine op_slice0 (d := some 42) (t := 23) (e := 5) (sz := 1) (len := 100 + (UInt8.toNat y)) (cap := 100 + (UInt8.toNat y)) (hi := q) (ao := some ⟨bk14, 0, none⟩) (lov := none) (hiv := (some (ni q))) En452 (by kernel_rfl) (by kernel_rfl) (by kernel_rfl) (by omega) (.inl ⟨rfl, rfl⟩) (.inr ⟨.i64, rfl⟩) ?_
      intro ac456 En457
      have hsl458 : q = List.length (List.take q (List.replicate i f ++ List.replicate ((100 + UInt8.toNat y) - i) 0)) := by rw [List.length_take]; omega
      have En459 := Env.fx (t := 42) (v := .slice (some ⟨bk14, 0, none⟩) q (100 + (UInt8.toNat y))) (u := .slice (some ⟨bk14, 0, none⟩) (List.length (List.take q (List.replicate i f ++ List.replicate ((100 + UInt8.toNat y) - i) 0))) (100 + (UInt8.toNat y))) En457 (congrArg (fun n : Nat => Value.slice (some ⟨bk14, 0, none⟩) n (100 + (UInt8.toNat y))) hsl458)
      refine ⟨fun _ => Hv453.pk [1], ?_⟩
      exact h_to hG (by kernel_rfl) (nd434 _ _ aoq225 coq225 (En459.sb) (Hv453.pk [0, 1]))
    have nd460 : ∀ (ac : Act) (wo : World) (bk220 : Nat), Env ac 47 [(0, .int .i64 h), (1, bv f), (7, .bool true), (8, .slice (some ⟨bk14, 0, none⟩) (100 + (UInt8.toNat y)) (100 + (UInt8.toNat y))), (9, ni i), (10, ni q), (32, .int .i64 h), (36, .slice (some ⟨bk220, 0, none⟩) 1 1), (39, .int .i64 h), (42, .slice (some ⟨bk14, 0, none⟩) (List.length (List.take q (List.replicate i f ++ List.replicate ((100 + UInt8.toNat y) - i) 0))) (100 + (UInt8.toNat y)))] → Ev w [] wo [.vec (some ⟨bk14, 0, none⟩) (100 + (UInt8.toNat y)) 1 (bys (List.replicate i f ++ List.replicate ((100 + UInt8.toNat y) - i) 0)) 5, .vec (some ⟨bk220, 0, none⟩) 1 1 [.slice (some ⟨bk14, 0, none⟩) (List.length (List.take q (List.replicate i f ++ List.replicate ((100 + UInt8.toNat y) - i) 0))) (100 + (UInt8.toNat y))] 23] → G 5 #[true, true, true, true, true, false, false, true, true, true, true, false, false, false] ac wo := by
     intro ac461 wo462 bk220 En463 Hv464
     refine h_from hG ?_
     refine q_t 5 ?_
     refine c_0 En463 Hv464 (of_all _ h hh (some ⟨bk220, 0, none⟩) 1 1 ([⟨some ⟨bk14, 0, none⟩, 100 + (UInt8.toNat y), List.take q (List.replicate i f ++ List.replicate ((100 + UInt8.toNat y) - i) 0)⟩] : List (Sl UInt8)) (by first | rfl | (simp; done) | (simp; omega) | omega) ⟨Hv464.heap.ro (k := 1) rfl [] (by kernel_rfl) rfl, (fun e => by cases e), (by simp), (by simp), (List.forall_mem_cons.2 ⟨(bys_in_take Hv464.heap (k := 0) rfl [] (by kernel_rfl) rfl q (by first | decide | omega)), (fun x h => absurd h List.not_mem_nil)⟩)⟩ ((gk32.ev Hv464).pick [] (by kernel_rfl)) ((gk64.ev Hv464).pick [] (by kernel_rfl))) ?_
     rintro _ wo467 ⟨aoq465, coq465, rfl, he468⟩
     refine ⟨_, _, _, rfl, he468, rfl, fun ac470 En471 Hv472 => ?_⟩
     refine ⟨fun _ => Hv472.pk [1], ?_⟩
     refine h_ways [6, 11] (by kernel_rfl) rfl ?_
     refine ⟨?_, ?_, trivial⟩
     ·
      rintro _ rfl
      refine op_str (d := some 38) (src := 23) (dst := 9) (e := 5) (ao := aoq465) (cap := coq465) (p := List.length (sumF h (List.flatMap (fun s : Sl UInt8 => s.l) ([⟨some ⟨bk14, 0, none⟩, 100 + (UInt8.toNat y), List.take q (List.replicate i f ++ List.replicate ((100 + UInt8.toNat y) - i) 0)⟩] : List (Sl UInt8))))) (bs := sumF h (List.flatMap (fun s : Sl UInt8 => s.l) ([⟨some ⟨bk14, 0, none⟩, 100 + (UInt8.toNat y), List.take q (List.replicate i f ++ List.replicate ((100 + UInt8.toNat y) - i) 0)⟩] : List (Sl UInt8)))) En471 (by kernel_rfl) rfl (by kernel_rfl) (by kernel_rfl) (by kernel_rfl) (Hv472.heap.reads (k := 0) rfl) (bys_vnz Hv472.heap (k := 0) rfl) ?_
      intro ac473 En474
      refine ⟨fun _ => Hv472.pk [1], ?_⟩
      exact h_to hG (by kernel_rfl) (nd387 _ _ (En474.sb) (Hv472.pk [1]))
     ·
      rintro _ rfl
      refine c_0 En471 Hv472 (docof_go _ h hh (some ⟨bk14, 0, none⟩) (List.length (List.take q (List.replicate i f ++ List.replicate ((100 + UInt8.toNat y) - i) 0))) (100 + (UInt8.toNat y)) (List.take q (List.replicate i f ++ List.replicate ((100 + UInt8.toNat y) - i) 0)) (by first | rfl | (simp; done) | (simp; omega) | omega) (bys_in_take Hv472.heap (k := 1) rfl [] (by kernel_rfl) rfl q (by first | decide | omega))) ?_
      rintro _ wo477 ⟨aoq475, coq475, rfl, he478⟩
      refine ⟨_, _, _, rfl, he478, rfl, fun ac480 En481 Hv482 => ?_⟩
      refine ⟨fun _ => Hv482.pk [2], ?_⟩
      exact h_to hG (by kernel_rfl) (nd404 _ _ aoq465 coq465 aoq475 coq475 (En481.sb) (Hv482.pk [0, 1, 2]))
    have nd483 : ∀ (ac : Act) (wo : World) (bk220 : Nat), Env ac 47 [(0, .int .i64 h), (1, bv f), (7, .bool true), (8, .slice (some ⟨bk14, 0, none⟩) (100 + (UInt8.toNat y)) (100 + (UInt8.toNat y))), (9, ni i), (10, ni q), (32, .int .i64 h), (36, .slice (some ⟨bk220, 0, none⟩) 1 1), (39, .int .i64 h), (40, .slice (some ⟨bk14, 0, none⟩) (100 + (UInt8.toNat y)) (100 + (UInt8.toNat y))), (41, ni q)] → Ev w [] wo [.vec (some ⟨bk14, 0, none⟩) (100 + (UInt8.toNat y)) 1 (bys (List.replicate i f ++ List.replicate ((100 + UInt8.toNat y) - i) 0)) 5, .vec (some ⟨bk220, 0, none⟩) 1 1 [.slice (some ⟨bk14, 0, none⟩) (List.length (List.take q (List.replicate i f ++ List.replicate ((100 + UInt8.toNat y) - i) 0))) (100 + (UInt8.toNat y))] 23] → G 6 #[true, true, true, true, true, false, false, true, true, true, false, false, false, false] ac wo := by
     intro ac484 wo485 bk220 En486 Hv487
     refine h_from hG ?_
     refine h_ways [5, 10] (by kernel_rfl) rfl ?_
     refine ⟨?_, ?_, trivial⟩
     ·
      rintro _ rfl
      refine c_0 En486 Hv487 (of_all _ h hh (some ⟨bk220, 0, none⟩) 1 1 ([⟨some ⟨bk14, 0, none⟩, 100 + (UInt8.toNat y), List.take q (List.replicate i f ++ List.replicate ((100 + UInt8.toNat y) - i) 0)⟩] : List (Sl UInt8)) (by first | rfl | (simp; done) | (simp; omega) | omega) ⟨Hv487.heap.ro (k := 1) rfl [] (by kernel_rfl) rfl, (fun e => by cases e), (by simp), (by simp), (List.forall_mem_cons.2 ⟨(bys_in_take Hv487.heap (k := 0) rfl [] (by kernel_rfl) rfl q (by first | decide | omega)), (fun x h => absurd h List.not_mem_nil)⟩)⟩ ((gk32.ev Hv487).pick [] (by kernel_rfl)) ((gk64.ev Hv487).pick [] (by kernel_rfl))) ?_
      rintro _ wo490 ⟨aoq488, coq488, rfl, he491⟩
      refine ⟨_, _, _, rfl, he491, rfl, fun ac493 En494 Hv495 => ?_⟩
      refine ⟨fun _ => Hv495.pk [1], ?_⟩
      exact h_to hG (by kernel_rfl) (nd449 _ _ aoq488 coq488 (En494.sb) (Hv495.pk [0, 1]))
     ·
      rintro _ rfl
      refine op_slice0 (d := some 42) (t := 23) (e := 5) (sz := 1) (len := 100 + (UInt8.toNat y)) (cap := 100 + (UInt8.toNat y)) (hi := q) (ao := some ⟨bk14, 0, none⟩) (lov := none) (hiv := (some (ni q))) En486 (by kernel_rfl) (by kernel_rfl) (by kernel_rfl) (by omega) (.inl ⟨rfl, rfl⟩) (.inr ⟨.i64, rfl⟩) ?_
      intro ac496 En497
      have hsl498 : q = List.length (List.take q (List.replicate i f ++ List.replicate ((100 + UInt8.toNat y) - i) 0)) := by rw [List.length_take]; omega
      have En499 := Env.fx (t := 42) (v := .slice (some ⟨bk14, 0, none⟩) q (100 + (UInt8.toNat y))) (u := .slice (some ⟨bk14, 0, none⟩) (List.length (List.take q (List.replicate i f ++ List.replicate ((100 + UInt8.toNat y) - i) 0))) (100 + (UInt8.toNat y))) En497 (congrArg (fun n : Nat => Value.slice (some ⟨bk14, 0, none⟩) n (100 + (UInt8.toNat y))) hsl498)
      refine ⟨fun _ => Hv487.pk [0], ?_⟩
      exact h_to hG (by kernel_rfl) (nd460 _ _ bk220 (En499.sb) (Hv487.pk [0, 1]))
    have nd500 : ∀ (ac : Act) (wo : World), Env ac 47 [(0, .int .i64 h), (1, bv f), (7, .bool true), (8, .slice (some ⟨bk14, 0, none⟩) (100 + (UInt8.toNat y)) (100 + (UInt8.toNat y))), (9, ni i), (10, ni q), (32, .int .i64 h), (35, .slice (some ⟨bk14, 0, none⟩) (List.length (List.take q (List.replicate i f ++ List.replicate ((100 + UInt8.toNat y) - i) 0))) (100 + (UInt8.toNat y))), (39, .int .i64 h), (42, .slice (some ⟨bk14, 0, none⟩) (List.length (List.take q (List.replicate i f ++ List.replicate ((100 + UInt8.toNat y) - i) 0))) (100 + (UInt8.toNat y)))] → Ev w [] wo [.vec (some ⟨bk14, 0, none⟩) (100 + (UInt8.toNat y)) 1 (bys (List.replicate i f ++ List.replicate ((100 + UInt8.toNat y) - i) 0)) 5] → G 6 #[true, true, true, true, false, false, false, true, true, true, true, false, false, false] ac wo := by
     intro ac501 wo502 En503 Hv504
     refine h_from hG ?_
     refine q_t 4 ?_
     refine op_lit (d := some 36) (t := 30) (T := 23) (m := 1) (parts := #[(0, .slice (some ⟨bk14, 0, none⟩) (List.length (List.take q (List.replicate i f ++ List.replicate ((100 + UInt8.toNat y) - i) 0))) (100 + (UInt8.toNat y)))]) (xs := [.slice (some ⟨bk14, 0, none⟩) (List.length (List.take q (List.replicate i f ++ List.replicate ((100 + UInt8.toNat y) - i) 0))) (100 + (UInt8.toNat y))]) (sz := 1) En503 (by kernel_rfl) (by kernel_rfl) rfl (by decide) Hv504 ?_
     intro ac506 wo507 bk505 En508 Hv509
     refine ⟨fun _ => Hv509.pk [0], ?_⟩
     refine q_t 5 ?_
     refine c_0 En508 Hv509 (of_all _ h hh (some ⟨bk505, 0, none⟩) 1 1 ([⟨some ⟨bk14, 0, none⟩, 100 + (UInt8.toNat y), List.take q (List.replicate i f ++ List.replicate ((100 + UInt8.toNat y) - i) 0)⟩] : List (Sl UInt8)) (by first | rfl | (simp; done) | (simp; omega) | omega) ⟨Hv509.heap.ro (k := 1) rfl [] (by kernel_rfl) rfl, (fun e => by cases e), (by simp), (by simp), (List.forall_mem_cons.2 ⟨(bys_in_take Hv509.heap (k := 0) rfl [] (by kernel_rfl) rfl q (by first | decide | omega)), (fun x h => absurd h List.not_mem_nil)⟩)⟩ ((gk32.ev Hv509).pick [] (by kernel_rfl)) ((gk64.ev Hv509).pick [] (by kernel_rfl))) ?_
     rintro _ wo512 ⟨aoq510, coq510, rfl, he513⟩
     refine ⟨_, _, _, rfl, he513, rfl, fun ac515 En516 Hv517 => ?_⟩
     refine ⟨fun _ => Hv517.pk [1], ?_⟩
     refine h_ways [6, 11] (by kernel_rfl) rfl ?_
     refine ⟨?_, ?_, trivial⟩
     ·
      rintro _ rfl
      refine op_str (d := some 38) (src := 23) (dst := 9) (e := 5) (ao := aoq510) (cap := coq510) (p := List.length (sumF h (List.flatMap (fun s : Sl UInt8 => s.l) ([⟨some ⟨bk14, 0, none⟩, 100 + (UInt8.toNat y), List.take q (List.replicate i f ++ List.replicate ((100 + UInt8.toNat y) - i) 0)⟩] : List (Sl UInt8))))) (bs := sumF h (List.flatMap (fun s : Sl UInt8 => s.l) ([⟨some ⟨bk14, 0, none⟩, 100 + (UInt8.toNat y), List.take q (List.replicate i f ++ List.replicate ((100 + UInt8.toNat y) - i) 0)⟩] : List (Sl UInt8)))) En516 (by kernel_rfl) rfl (by kernel_rfl) (by kernel_rfl) (by kernel_rfl) (Hv517.heap.reads (k := 0) rfl) (bys_vnz Hv517.heap (k := 0) rfl) ?_
      intro ac518 En519
      refine ⟨fun _ => Hv517.pk [1], ?_⟩
      exact h_to hG (by kernel_rfl) (nd387 _ _ (En519.sb) (Hv517.pk [1]))
     ·
      rintro _ rfl
      refine c_0 En516 Hv517 (docof_go _ h hh (some ⟨bk14, 0, none⟩) (List.length (List.take q (List.replicate i f ++ List.replicate ((100 + UInt8.toNat y) - i) 0))) (100 + (UInt8.toNat y)) (List.take q (List.replicate i f ++ List.replicate ((100 + UInt8.toNat y) - i) 0)) (by first | rfl | (simp; done) | (simp; omega) | omega) (bys_in_take Hv517.heap (k := 1) rfl [] (by kernel_rfl) rfl q (by first | decide | omega))) ?_
      rintro _ wo522 ⟨aoq520, coq520, rfl, he523⟩
      refine ⟨_, _, _, rfl, he523, rfl, fun ac525 En526 Hv527 => ?_⟩
      refine ⟨fun _ => Hv527.pk [2], ?_⟩
      exact h_to hG (by kernel_rfl) (nd404 _ _ aoq510 coq510 aoq520 coq520 (En526.sb) (Hv527.pk [0, 1, 2]))
    have nd528 : ∀ (ac : Act) (wo : World), Env ac 47 [(0, .int .i64 h), (1, bv f), (7, .bool true), (8, .slice (some ⟨bk14, 0, none⟩) (100 + (UInt8.toNat y)) (100 + (UInt8.toNat y))), (9, ni i), (10, ni q), (32, .int .i64 h), (35, .slice (some ⟨bk14, 0, none⟩) (List.length (List.take q (List.replicate i f ++ List.replicate ((100 + UInt8.toNat y) - i) 0))) (100 + (UInt8.toNat y))), (39, .int .i64 h), (40, .slice (some ⟨bk14, 0, none⟩) (100 + (UInt8.toNat y)) (100 + (UInt8.toNat y))), (41, ni q)] → Ev w [] wo [.vec (some ⟨bk14, 0, none⟩) (100 + (UInt8.toNat y)) 1 (bys (List.replicate i f ++ List.replicate ((100 + UInt8.toNat y) - i) 0)) 5] → G 7 #[true, true, true, true, false, false, false, true, true, true, false, false, false, false] ac wo := by
     intro ac529 wo530 En531 Hv532
     refine h_from hG ?_
     refine h_ways [4, 10] (by kernel_rfl) rfl ?_
     refine ⟨?_, ?_, trivial⟩
     ·
      rintro _ rfl
      refine op_lit (d := some 36) (t := 30) (T := 23) (m := 1) (parts := #[(0, .slice (some ⟨bk14, 0, none⟩) (List.length (List.take q (List.replicate i f ++ List.replicate ((100 + UInt8.toNat y) - i) 0))) (100 + (UInt8.toNat y)))]) (xs := [.slice (some ⟨bk14, 0, none⟩) (List.length (List.take q (List.replicate i f ++ List.replicate ((100 + UInt8.toNat y) - i) 0))) (100 + (UInt8.toNat y))]) (sz := 1) En531 (by kernel_rfl) (by kernel_rfl) rfl (by decide) Hv532 ?_
      intro ac534 wo535 bk533 En536 Hv537
      refine ⟨fun _ => Hv537.pk [0], ?_⟩
      exact h_to hG (by kernel_rfl) (nd483 _ _ bk533 (En536.sb) (Hv537.pk [0, 1]))
     ·
      rintro _ rfl
      refine op_slice0 (d := some 42) (t := 23) (e := 5) (sz := 1) (len := 100 + (UInt8.toNat y)) (cap := 100 + (UInt8.toNat y)) (hi := q) (ao := some ⟨bk14, 0, none⟩) (lov := none) (hiv := (some (ni q))) En531 (by kernel_rfl) (by kernel_rfl) (by kernel_rfl) (by omega) (.inl ⟨rfl, rfl⟩) (.inr ⟨.i64, rfl⟩) ?_
      intro ac538 En539
      have hsl540 : q = List.length (List.take q (List.replicate i f ++ List.replicate ((100 + UInt8.toNat y) - i) 0)) := by rw [List.length_take]; omega
      have En541 := Env.fx (t := 42) (v := .slice (some ⟨bk14, 0, none⟩) q (100 + (UInt8.toNat y))) (u := .slice (some ⟨bk14, 0, none⟩) (List.length (List.take q (List.replicate i f ++ List.replicate ((100 + UInt8.toNat y) - i) 0))) (100 + (UInt8.toNat y))) En539 (congrArg (fun n : Nat => Value.slice (some ⟨bk14, 0, none⟩) n (100 + (UInt8.toNat y))) hsl540)
      refine ⟨fun _ => Hv532.pk [0], ?_⟩
      exact h_to hG (by kernel_rfl) (nd500 _ _ (En541.sb) (Hv532.pk [0]))
    have nd542 : ∀ (ac : Act) (wo : World), Env ac 47 [(0, .int .i64 h), (1, bv f), (7, .bool true), (8, .slice (some ⟨bk14, 0, none⟩) (100 + (UInt8.toNat y)) (100 + (UInt8.toNat y))), (9, ni i), (10, ni q), (32, .int .i64 h), (33, .slice (some ⟨bk14, 0, none⟩) (100 + (UInt8.toNat y)) (100 + (UInt8.toNat y))), (34, ni q), (39, .int .i64 h), (42, .slice (some ⟨bk14, 0, none⟩) (List.length (List.take q (List.replicate i f ++ List.replicate ((100 + UInt8.toNat y) - i) 0))) (100 + (UInt8.toNat y)))] → Ev w [] wo [.vec (some ⟨bk14, 0, none⟩) (100 + (UInt8.toNat y)) 1 (bys (List.replicate i f ++ List.replicate ((100 + UInt8.toNat y) - i) 0)) 5] → G 7 #[true, true, true, false, false, false, false, true, true, true, true, false, false, false] ac wo := by
     intro ac543 wo544 En545 Hv546
     refine h_from hG ?_
     refine q_t 3 ?_
     refine op_slice0 (d := some 35) (t := 23) (e := 5) (sz := 1) (len := 100 + (UInt8.toNat y)) (cap := 100 + (UInt8.toNat y)) (hi := q) (ao := some ⟨bk14, 0, none⟩) (lov := none) (hiv := (some (ni q))) En545 (by kernel_rfl) (by kernel_rfl) (by kernel_rfl) (by omega) (.inl ⟨rfl, rfl⟩) (.inr ⟨.i64, rfl⟩) ?_
     intro ac547 En548
     have hsl549 : q = List.length (List.take q (List.replicate i f ++ List.replicate ((100 + UInt8.toNat y) - i) 0)) := by rw [List.length_take]; omega
     have En550 := Env.fx (t := 35) (v := .slice (some ⟨bk14, 0, none⟩) q (100 + (UInt8.toNat y))) (u := .slice (some ⟨bk14, 0, none⟩) (List.length (List.take q (List.replicate i f ++ List.replicate ((100 + UInt8.toNat y) - i) 0))) (100 + (UInt8.toNat y))) En548 (congrArg (fun n : Nat => Value.slice (some ⟨bk14, 0, none⟩) n (100 + (UInt8.toNat y))) hsl549)
     refine ⟨fun _ => Hv546.pk [0], ?_⟩
     refine q_t 4 ?_
     refine op_lit (d := some 36) (t := 30) (T := 23) (m := 1) (parts := #[(0, .slice (some ⟨bk14, 0, none⟩) (List.length (List.take q (List.replicate i f ++ List.replicate ((100 + UInt8.toNat y) - i) 0))) (100 + (UInt8.toNat y)))]) (xs := [.slice (some ⟨bk14, 0, none⟩) (List.length (List.take q (List.replicate i f ++ List.replicate ((100 + UInt8.toNat y) - i) 0))) (100 + (UInt8.toNat y))]) (sz := 1) En550 (by kernel_rfl) (by kernel_rfl) rfl (by decide) Hv546 ?_
     intro ac552 wo553 bk551 En554 Hv555
     refine ⟨fun _ => Hv555.pk [0], ?_⟩
     refine q_t 5 ?_
     refine c_0 En554 Hv555 (of_all _ h hh (some ⟨bk551, 0, none⟩) 1 1 ([⟨some ⟨bk14, 0, none⟩, 100 + (UInt8.toNat y), List.take q (List.replicate i f ++ List.replicate ((100 + UInt8.toNat y) - i) 0)⟩] : List (Sl UInt8)) (by first | rfl | (simp; done) | (simp; omega) | omega) ⟨Hv555.heap.ro (k := 1) rfl [] (by kernel_rfl) rfl, (fun e => by cases e), (by simp), (by simp), (List.forall_mem_cons.2 ⟨(bys_in_take Hv555.heap (k := 0) rfl [] (by kernel_rfl) rfl q (by first | decide | omega)), (fun x h => absurd h List.not_mem_nil)⟩)⟩ ((gk32.ev Hv555).pick [] (by kernel_rfl)) ((gk64.ev Hv555).pick [] (by kernel_rfl))) ?_
     rintro _ wo558 ⟨aoq556, coq556, rfl, he559⟩
     refine ⟨_, _, _, rfl, he559, rfl, fun ac561 En562 Hv563 => ?_⟩
     refine ⟨fun _ => Hv563.pk [1], ?_⟩
     refine h_ways [6, 11] (by kernel_rfl) rfl ?_
     refine ⟨?_, ?_, trivial⟩
     ·
      rintro _ rfl
      refine op_str (d := some 38) (src := 23) (dst := 9) (e := 5) (ao := aoq556) (cap := coq556) (p := List.length (sumF h (List.flatMap (fun s : Sl UInt8 => s.l) ([⟨some ⟨bk14, 0, none⟩, 100 + (UInt8.toNat y), List.take q (List.replicate i f ++ List.replicate ((100 + UInt8.toNat y) - i) 0)⟩] : List (Sl UInt8))))) (bs := sumF h (List.flatMap (fun s : Sl UInt8 => s.l) ([⟨some ⟨bk14, 0, none⟩, 100 + (UInt8.toNat y), List.take q (List.replicate i f ++ List.replicate ((100 + UInt8.toNat y) - i) 0)⟩] : List (Sl UInt8)))) En562 (by kernel_rfl) rfl (by kernel_rfl) (by kernel_rfl) (by kernel_rfl) (Hv563.heap.reads (k := 0) rfl) (bys_vnz Hv563.heap (k := 0) rfl) ?_
      intro ac564 En565
      refine ⟨fun _ => Hv563.pk [1], ?_⟩
      exact h_to hG (by kernel_rfl) (nd387 _ _ (En565.sb) (Hv563.pk [1]))
     ·
      rintro _ rfl
      refine c_0 En562 Hv563 (docof_go _ h hh (some ⟨bk14, 0, none⟩) (List.length (List.take q (List.replicate i f ++ List.replicate ((100 + UInt8.toNat y) - i) 0))) (100 + (UInt8.toNat y)) (List.take q (List.replicate i f ++ List.replicate ((100 + UInt8.toNat y) - i) 0)) (by first | rfl | (simp; done) | (simp; omega) | omega) (bys_in_take Hv563.heap (k := 1) rfl [] (by kernel_rfl) rfl q (by first | decide | omega))) ?_
      rintro _ wo568 ⟨aoq566, coq566, rfl, he569⟩
      refine ⟨_, _, _, rfl, he569, rfl, fun ac571 En572 Hv573 => ?_⟩
      refine ⟨fun _ => Hv573.pk [2], ?_⟩
      exact h_to hG (by kernel_rfl) (nd404 _ _ aoq556 coq556 aoq566 coq566 (En572.sb) (Hv573.pk [0, 1, 2]))
    refine h_from hG ?_
    refine q_s [0,1,2,7,8,9] [] 8 En56 (wo58.pk [0]) fun ac574 En575 => ?_
    refine h_ways [3, 10] (by kernel_rfl) rfl ?_
    refine ⟨?_, ?_, trivial⟩
    ·
     rintro _ rfl
     refine op_slice0 (d := some 35) (t := 23) (e := 5) (sz := 1) (len := 100 + (UInt8.toNat y)) (cap := 100 + (UInt8.toNat y)) (hi := q) (ao := some ⟨bk14, 0, none⟩) (lov := none) (hiv := (some (ni q))) En575 (by kernel_rfl) (by kernel_rfl) (by kernel_rfl) (by omega) (.inl ⟨rfl, rfl⟩) (.inr ⟨.i64, rfl⟩) ?_
     intro ac576 En577
     have hsl578 : q = List.length (List.take q (List.replicate i f ++ List.replicate ((100 + UInt8.toNat y) - i) 0)) := by rw [List.length_take]; omega
     have En579 := Env.fx (t := 35) (v := .slice (some ⟨bk14, 0, none⟩) q (100 + (UInt8.toNat y))) (u := .slice (some ⟨bk14, 0, none⟩) (List.length (List.take q (List.replicate i f ++ List.replicate ((100 + UInt8.toNat y) - i) 0))) (100 + (UInt8.toNat y))) En577 (congrArg (fun n : Nat => Value.slice (some ⟨bk14, 0, none⟩) n (100 + (UInt8.toNat y))) hsl578)
     refine ⟨fun _ => wo58.pk [0], ?_⟩
     exact h_to hG (by kernel_rfl) (nd528 _ _ (En579.sb) (wo58.pk [0]))
    ·
     rintro _ rfl
     refine op_slice0 (d := some 42) (t := 23) (e := 5) (sz := 1) (len := 100 + (UInt8.toNat y)) (cap := 100 + (UInt8.toNat y)) (hi := q) (ao := some ⟨bk14, 0, none⟩) (lov := none) (hiv := (some (ni q))) En575 (by kernel_rfl) (by kernel_rfl) (by kernel_rfl) (by omega) (.inl ⟨rfl, rfl⟩) (.inr ⟨.i64, rfl⟩) ?_
     intro ac580 En581
     have hsl582 : q = List.length (List.take q (List.replicate i f ++ List.replicate ((100 + UInt8.toNat y) - i) 0)) := by rw [List.length_take]; omega
     have En583 := Env.fx (t := 42) (v := .slice (some ⟨bk14, 0, none⟩) q (100 + (UInt8.toNat y))) (u := .slice (some ⟨bk14, 0, none⟩) (List.length (List.take q (List.replicate i f ++ List.replicate ((100 + UInt8.toNat y) - i) 0))) (100 + (UInt8.toNat y))) En581 (congrArg (fun n : Nat => Value.slice (some ⟨bk14, 0, none⟩) n (100 + (UInt8.toNat y))) hsl582)
     refine ⟨fun _ => wo58.pk [0], ?_⟩
     exact h_to hG (by kernel_rfl) (nd542 _ _ (En583.sb) (wo58.pk [0]))
   rintro ac584 wo585 ⟨En586, Hv587⟩
   refine then_normal ?_
   refine c_f En586 ?_
   refine wp_skip ?_
   refine block_normal ?_
   refine then_normal ?_
   refine d_r [0,1,7,8,9,10] [(1, g_n (w_a q 13))] En586 fun ac588 En589 => ?_
   refine then_normal ?_
   refine ⟨_, ⟨q + 13, rfl, En589.sb, Hv587.pk [0], by omega⟩, ?_⟩
   omega
  ·
   refine wp_exit ?_
   refine then_exit ?_
   refine then_exit ?_
   refine block_exit ?_
   refine then_normal ?_
   refine wp_seq ?_
   refine d_r [0,1,6,8,9,10] [] En56 fun ac590 En591 => ?_
   refine then_normal ?_
   refine wp_ret ?_
   refine d_ret1 (t := 6) (v := .bool true) En591 (by kernel_rfl) (by kernel_rfl) ?_
   exact ⟨rfl, Hv53.pk []⟩

theorem ends_bad (h : Int) (f : UInt8) (y : UInt8) (w : World) (b_h : (-9223372036854775808 ≤ h ∧ h ≤ 9223372036854775807)) (hh : ¬ (h = 1 ∨ h = 2 ∨ h = 3)) (gk32 : InU32 w [] (some ⟨0, 0, none⟩) 64 K32) (gk64 : InU64 w [] (some ⟨1, 0, none⟩) 80 K64) : Calls Tryd.prog 4 #[.int .i64 h, bv f, bv y] w fun e w' => e = .returned (.bool true) ∧ Ev w [] w' [] := by
 have hy := UInt8.toNat_lt y
 refine d_0 [(0, .int .i64 h), (1, bv f), (2, bv y)] 47 Go.Proofs.Tryd.func4 Go.Proofs.Tryd.ntmps4 (Heap.nil _) fun act0 En0 Hv0 => ?_
 refine wp_seq ?_
 refine d_r [0,1,2,6] [] En0 fun ac1 En2 => ?_
 refine then_normal ?_
 refine wp_seq ?_
 refine region_from ?_
 refine f_o ?_
 refine c_p En2 Hv0 (head5_ok _ ((gk32.ev Hv0).pick [] (by kernel_rfl)) ((gk64.ev Hv0).pick [] (by kernel_rfl))) fun ac7 wo4 En8 Hv9 => ?_
 refine d_e [0,1,2,6,7] [] En8 fun ac10 En11 => ?_
 refine then_normal ?_
 refine wp_seq ?_
 refine region_from ?_
 refine d_k [0,1,6,7,14] [(1, g_i .i64 (Go.Dbr.u8_to_i64 (x := y) rfl)), (2, g_n (w_a 100 (UInt8.toNat y)))] 3 En11 fun ac12 En13 => ?_
 refine f_o ?_
 refine op_makeslice (d := some 15) (t := 23) (T := 5) (m := 100 + (UInt8.toNat y)) (kl := .i64) (kc := .i64) (z := .int .u8 0) (bytes := 1) En13 (by kernel_rfl) Hv9 (by kernel_rfl) (by kernel_rfl) (by kernel_rfl) (by omega) (by unfold maxLen; omega) ?_
 intro ac15 wo16 bk14 En17 Hv18
 rw [show List.replicate (100 + (UInt8.toNat y)) (Value.int .u8 0) = bys (List.replicate (100 + (UInt8.toNat y)) 0) from (bys_replicate _).symm] at Hv18
 refine d_e [0,1,6,7,8] [] En17 fun ac19 En20 => ?_
 refine then_normal ?_
 refine wp_seq ?_
 refine wp_seq ?_
 refine d_r [0,1,6,7,8,9] [] En20 fun ac21 En22 => ?_
 refine then_normal ?_
 refine wp_block ?_
 refine loop_m (fun ms23 ac wo => ∃ (i : Nat), ms23 = ((100 + UInt8.toNat y) - i : Nat) ∧ Env ac 47 [(0, .int .i64 h), (1, bv f), (6, .bool false), (7, .bool true), (8, .slice (some ⟨bk14, 0, none⟩) (100 + (UInt8.toNat y)) (100 + (UInt8.toNat y))), (9, ni i)] ∧ Ev w [] wo [.vec (some ⟨bk14, 0, none⟩) (100 + (UInt8.toNat y)) 1 (bys (List.replicate i f ++ List.replicate ((100 + UInt8.toNat y) - i) 0)) 5] ∧ (i ≤ (100 + UInt8.toNat y))) ⟨_, 0, rfl, En22.sb, Hv18.pk [0], by omega⟩ ?_
 rintro mm29 ac25 wo26 ⟨i, rfl, En27, Hv28, hi⟩
 refine wp_seq ?_
 refine wp_seq ?_
 have hfl : List.length (List.replicate i f ++ List.replicate ((100 + UInt8.toNat y) - i) 0) = (100 + UInt8.toNat y) := by rw [List.length_append, List.length_replicate, List.length_replicate]; omega
 refine d_r [0,1,6,7,8,9,19] [] En27 fun ac30 En31 => ?_
 refine then_normal ?_
 refine c_d (((i : Nat) : Int) < ((100 + (UInt8.toNat y) : Nat) : Int)) En31 (fun hc32 => ?_) (fun hc32 => ?_)
 ·
  refine wp_skip ?_
  refine then_normal ?_
  refine wp_seq ?_
  refine wp_block ?_
  have hfl : List.length (List.replicate i f ++ List.replicate ((100 + UInt8.toNat y) - i) 0) = (100 + UInt8.toNat y) := by rw [List.length_append, List.length_replicate, List.length_replicate]; omega
  have hb35 : i < 100 + (UInt8.toNat y) := (by omega)
  refine region_from ?_
  refine d_k [0,1,6,7,8,9,22,23,24] [] 3 En31 fun ac36 En37 => ?_
  refine f_o ?_
  refine q_v (x := Instr.indexAt 23 (.slice (some ⟨bk14, 0, none⟩) (100 + (UInt8.toNat y)) (100 + (UInt8.toNat y))) (ni i)) (v := .pointer (some (Addr.add ⟨bk14, 0, none⟩ i))) En37 (Go.Dbr.run_indexsl (e := 5) (sz := 1) (j := i) (jo := i) rfl (by kernel_rfl) (by kernel_rfl) (by omega) hb35 (Nat.mul_one _) _) fun ac38 En39 => ?_
  refine f_o ?_
  refine op_storeel (d := none) (t := 5) (ad := ⟨bk14, 0, none⟩) (ao := some ⟨bk14, 0, none⟩) (k := 0) (cap := 100 + (UInt8.toNat y)) (sz := 1) (j := i) (xs := bys (List.replicate i f ++ List.replicate ((100 + UInt8.toNat y) - i) 0)) (v := bv f) En39 (by kernel_rfl) Hv28 rfl rfl (by rw [bys_length]; first | omega | (simp; done) | (simp; omega)) (by kernel_rfl) rfl ?_
  intro ac40 wo41  En42 Hv43
  rw [bys_set] at Hv43
  refine f_e ?_
  have hfn : List.set (List.replicate i f ++ List.replicate ((100 + UInt8.toNat y) - i) 0) i f = List.replicate (i + 1) f ++ List.replicate ((100 + UInt8.toNat y) - (i + 1)) 0 := fill_next (by omega)
  rw [hfn] at Hv43
  refine block_normal ?_
  refine then_normal ?_
  refine d_r [0,1,6,7,8,9] [(1, g_n (w_a i 1))] En42 fun ac44 En45 => ?_
  refine then_normal ?_
  refine ⟨_, ⟨i + 1, rfl, En45.sb, Hv43.pk [0], by omega⟩, ?_⟩
  omega
 ·
  refine wp_exit ?_
  refine then_exit ?_
  refine then_exit ?_
  refine block_exit ?_
  refine then_normal ?_
  refine wp_seq ?_
  refine wp_seq ?_
  refine d_r [0,1,6,7,8,9,10] [] En31 fun ac46 En47 => ?_
  refine then_normal ?_
  refine wp_block ?_
  refine loop_m (fun ms48 ac wo => ∃ (q : Nat), ms48 = (1000 - q : Nat) ∧ Env ac 47 [(0, .int .i64 h), (1, bv f), (7, .bool true), (8, .slice (some ⟨bk14, 0, none⟩) (100 + (UInt8.toNat y)) (100 + (UInt8.toNat y))), (9, ni i), (10, ni q)] ∧ Ev w [] wo [.vec (some ⟨bk14, 0, none⟩) (100 + (UInt8.toNat y)) 1 (bys (List.replicate i f ++ List.replicate ((100 + UInt8.toNat y) - i) 0)) 5] ∧ (q ≤ 1000)) ⟨_, 40, rfl, En47.sb, Hv28.pk [0], by omega⟩ ?_
  rintro mm54 ac50 wo51 ⟨q, rfl, En52, Hv53, hq⟩
  refine wp_seq ?_
  refine wp_seq ?_
  have hfl2 : List.length (List.replicate i f ++ List.replicate ((100 + UInt8.toNat y) - i) 0) = (100 + UInt8.toNat y) := by rw [List.length_append, List.length_replicate, List.length_replicate]; omega
  refine d_r [0,1,7,8,9,10,29] [] En52 fun ac55 En56 => ?_
  refine then_normal ?_
  refine c_d (((q : Nat) : Int) < ((100 + (UInt8.toNat y) : Nat) : Int)) En56 (fun hc57 => ?_) (fun hc57 => ?_)
  ·
   refine wp_skip ?_
   refine then_normal ?_
   refine wp_seq ?_
   refine wp_block ?_
   refine wp_seq ?_
   have hfl2 : List.length (List.replicate i f ++ List.replicate ((100 + UInt8.toNat y) - i) 0) = (100 + UInt8.toNat y) := by rw [List.length_append, List.length_replicate, List.length_replicate]; omega
   refine r_c (fun ac wo => Env ac 47 [(0, .int .i64 h), (1, bv f), (7, .bool true), (8, .slice (some ⟨bk14, 0, none⟩) (100 + (UInt8.toNat y)) (100 + (UInt8.toNat y))), (9, ni i), (10, ni q), (45, .bool false)] ∧ Ev w [] wo [.vec (some ⟨bk14, 0, none⟩) (100 + (UInt8.toNat y)) 1 (bys (List.replicate i f ++ List.replicate ((100 + UInt8.toNat y) - i) 0)) 5]) ?_ ?_
   ·
    refine h_s (fun wv => Ev w [] wv [.vec (some ⟨bk14, 0, none⟩) (100 + (UInt8.toNat y)) 1 (bys (List.replicate i f ++ List.replicate ((100 + UInt8.toNat y) - i) 0)) 5]) [] 14 ?_
    have wo58 := Hv53.trans (Ev.drew Hv53.heap)
    refine h_name fun G hG => ?_
    have nd343 : ∀ (ac : Act) (wo : World), Env ac 47 [(0, .int .i64 h), (1, bv f), (7, .bool true), (8, .slice (some ⟨bk14, 0, none⟩) (100 + (UInt8.toNat y)) (100 + (UInt8.toNat y))), (9, ni i), (10, ni q), (37, .slice none 0 0), (39, .int .i64 h), (40, .slice (some ⟨bk14, 0, none⟩) (100 + (UInt8.toNat y)) (100 + (UInt8.toNat y))), (41, ni q)] → Ev w [] wo [.vec (some ⟨bk14, 0, none⟩) (100 + (UInt8.toNat y)) 1 (bys (List.replicate i f ++ List.replicate ((100 + UInt8.toNat y) - i) 0)) 5] → G 5 #[true, true, true, true, true, true, false, true, true, true, false, false, false, false] ac wo := by
     intro ac344 wo345 En346 Hv347
     refine h_from hG ?_
     refine q_r 6 (s := convert 23 9 (.slice none 0 0)) (v := .string (bstr [])) En346 (fun w hS => run_str2 (e := 5) (bs := []) rfl (by kernel_rfl) (by kernel_rfl) (by kernel_rfl) (rfl : bys [] = []) (fun _ => rfl)) (Hv347.pk [0]) fun ac348 En349 => ?_
     refine q_t 10 ?_
     refine op_slice0 (d := some 42) (t := 23) (e := 5) (sz := 1) (len := 100 + (UInt8.toNat y)) (cap := 100 + (UInt8.toNat y)) (hi := q) (ao := some ⟨bk14, 0, none⟩) (lov := none) (hiv := (some (ni q))) En349 (by kernel_rfl) (by kernel_rfl) (by kernel_rfl) (by omega) (.inl ⟨rfl, rfl⟩) (.inr ⟨.i64, rfl⟩) ?_
     intro ac350 En351
     have hsl352 : q = List.length (List.take q (List.replicate i f ++ List.replicate ((100 + UInt8.toNat y) - i) 0)) := by rw [List.length_take]; omega
     have En353 := Env.fx (t := 42) (v := .slice (some ⟨bk14, 0, none⟩) q (100 + (UInt8.toNat y))) (u := .slice (some ⟨bk14, 0, none⟩) (List.length (List.take q (List.replicate i f ++ List.replicate ((100 + UInt8.toNat y) - i) 0))) (100 + (UInt8.toNat y))) En351 (congrArg (fun n : Nat => Value.slice (some ⟨bk14, 0, none⟩) n (100 + (UInt8.toNat y))) hsl352)
     refine ⟨fun _ => Hv347.pk [0], ?_⟩
     refine q_t 11 ?_
     refine c_p En353 Hv347 (docof_nil _ h hh (some ⟨bk14, 0, none⟩) (List.length (List.take q (List.replicate i f ++ List.replicate ((100 + UInt8.toNat y) - i) 0))) (100 + (UInt8.toNat y)) (List.take q (List.replicate i f ++ List.replicate ((100 + UInt8.toNat y) - i) 0)) (by first | rfl | (simp; done) | (simp; omega) | omega) (bys_in_take Hv347.heap (k := 0) rfl [] (by kernel_rfl) rfl q (by first | decide | omega))) fun ac359 wo356 En360 Hv361 => ?_
     refine ⟨fun _ => Hv361.pk [0], ?_⟩
     refine q_r 12 (s := convert 23 9 (.slice none 0 0)) (v := .string (bstr [])) En360 (fun w hS => run_str2 (e := 5) (bs := []) rfl (by kernel_rfl) (by kernel_rfl) (by kernel_rfl) (rfl : bys [] = []) (fun _ => rfl)) (Hv361.pk [0]) fun ac362 En363 => ?_
     refine q_s [13] [(13, g_v (show (.bool (!(ByteArray.toList (bstr []) == ByteArray.toList (bstr []))) : Value) = .bool false by rw [Go.Dbr.bstr_eq [] [], show (!([] == [])) = false from (by simp)] <;> rfl))] 0 En363 (Hv361.pk [0]) fun ac364 En365 => ?_
     exact h_e ⟨En365.sb, Hv361.pk [0]⟩
    have nd366 : ∀ (ac : Act) (wo : World) (bk220 : Nat), Env ac 47 [(0, .int .i64 h), (1, bv f), (7, .bool true), (8, .slice (some ⟨bk14, 0, none⟩) (100 + (UInt8.toNat y)) (100 + (UInt8.toNat y))), (9, ni i), (10, ni q), (32, .int .i64 h), (36, .slice (some ⟨bk220, 0, none⟩) 1 1), (39, .int .i64 h), (42, .slice (some ⟨bk14, 0, none⟩) (List.length (List.take q (List.replicate i f ++ List.replicate ((100 + UInt8.toNat y) - i) 0))) (100 + (UInt8.toNat y)))] → Ev w [] wo [.vec (some ⟨bk14, 0, none⟩) (100 + (UInt8.toNat y)) 1 (bys (List.replicate i f ++ List.replicate ((100 + UInt8.toNat y) - i) 0)) 5, .vec (some ⟨bk220, 0, none⟩) 1 1 [.slice (some ⟨bk14, 0, none⟩) (List.length (List.take q (List.replicate i f ++ List.replicate ((100 + UInt8.toNat y) - i) 0))) (100 + (UInt8.toNat y))] 23] → G 5 #[true, true, true, true, true, false, false, true, true, true, true, false, false, false] ac wo := by
     intro ac367 wo368 bk220 En369 Hv370
     refine h_from hG ?_
     refine q_t 5 ?_
     refine c_p En369 Hv370 (of_nil _ h hh (some ⟨bk220, 0, none⟩) 1 1 ([⟨some ⟨bk14, 0, none⟩, 100 + (UInt8.toNat y), List.take q (List.replicate i f ++ List.replicate ((100 + UInt8.toNat y) - i) 0)⟩] : List (Sl UInt8)) (by first | rfl | (simp; done) | (simp; omega) | omega) ⟨Hv370.heap.ro (k := 1) rfl [] (by kernel_rfl) rfl, (fun e => by cases e), (by simp), (by simp), (List.forall_mem_cons.2 ⟨(bys_in_take Hv370.heap (k := 0) rfl [] (by kernel_rfl) rfl q (by first | decide | omega)), (fun x h => absurd h List.not_mem_nil)⟩)⟩) fun ac376 wo373 En377 Hv378 => ?_
     refine ⟨fun _ => Hv378.pk [0], ?_⟩
     refine q_r 6 (s := convert 23 9 (.slice none 0 0)) (v := .string (bstr [])) En377 (fun w hS => run_str2 (e := 5) (bs := []) rfl (by kernel_rfl) (by kernel_rfl) (by kernel_rfl) (rfl : bys [] = []) (fun _ => rfl)) (Hv378.pk [0]) fun ac379 En380 => ?_
     refine q_t 11 ?_
     refine c_p En380 Hv378 (docof_nil _ h hh (some ⟨bk14, 0, none⟩) (List.length (List.take q (List.replicate i f ++ List.replicate ((100 + UInt8.toNat y) - i) 0))) (100 + (UInt8.toNat y)) (List.take q (List.replicate i f ++ List.replicate ((100 + UInt8.toNat y) - i) 0)) (by first | rfl | (simp; done) | (simp; omega) | omega) (bys_in_take Hv378.heap (k := 0) rfl [] (by kernel_rfl) rfl q (by first | decide | omega))) fun ac386 wo383 En387 Hv388 => ?_
     refine ⟨fun _ => Hv388.pk [0], ?_⟩
     refine q_r 12 (s := convert 23 9 (.slice none 0 0)) (v := .string (bstr [])) En387 (fun w hS => run_str2 (e := 5) (bs := []) rfl (by kernel_rfl) (by kernel_rfl) (by kernel_rfl) (rfl : bys [] = []) (fun _ => rfl)) (Hv388.pk [0]) fun ac389 En390 => ?_
     refine q_s [13] [(13, g_v (show (.bool (!(ByteArray.toList (bstr []) == ByteArray.toList (bstr []))) : Value) = .bool false by rw [Go.Dbr.bstr_eq [] [], show (!([] == [])) = false from (by simp)] <;> rfl))] 0 En390 (Hv388.pk [0]) fun ac391 En392 => ?_
     exact h_e ⟨En392.sb, Hv388.pk [0]⟩
    have nd393 : ∀ (ac : Act) (wo : World) (bk220 : Nat), Env ac 47 [(0, .int .i64 h), (1, bv f), (7, .bool true), (8, .slice (some ⟨bk14, 0, none⟩) (100 + (UInt8.toNat y)) (100 + (UInt8.toNat y))), (9, ni i), (10, ni q), (32, .int .i64 h), (36, .slice (some ⟨bk220, 0, none⟩) 1 1), (39, .int .i64 h), (40, .slice (some ⟨bk14, 0, none⟩) (100 + (UInt8.toNat y)) (100 + (UInt8.toNat y))), (41, ni q)] → Ev w [] wo [.vec (some ⟨bk14, 0, none⟩) (100 + (UInt8.toNat y)) 1 (bys (List.replicate i f ++ List.replicate ((100 + UInt8.toNat y) - i) 0)) 5, .vec (some ⟨bk220, 0, none⟩) 1 1 [.slice (some ⟨bk14, 0, none⟩) (List.length (List.take q (List.replicate i f ++ List.replicate ((100 + UInt8.toNat y) - i) 0))) (100 + (UInt8.toNat y))] 23] → G 6 #[true, true, true, true, true, false, false, true, true, true, false, false, false, false] ac wo := by
     intro ac394 wo395 bk220 En396 Hv397
     refine h_from hG ?_
     refine h_ways [5, 10] (by kernel_rfl) rfl ?_
     refine ⟨?_, ?_, trivial⟩
     ·
      rintro _ rfl
      refine c_p En396 Hv397 (of_nil _ h hh (some ⟨bk220, 0, none⟩) 1 1 ([⟨some ⟨bk14, 0, none⟩, 100 + (UInt8.toNat y), List.take q (List.replicate i f ++ List.replicate ((100 + UInt8.toNat y) - i) 0)⟩] : List (Sl UInt8)) (by first | rfl | (simp; done) | (simp; omega) | omega) ⟨Hv397.heap.ro (k := 1) rfl [] (by kernel_rfl) rfl, (fun e => by cases e), (by simp), (by simp), (List.forall_mem_cons.2 ⟨(bys_in_take Hv397.heap (k := 0) rfl [] (by kernel_rfl) rfl q (by first | decide | omega)), (fun x h => absurd h List.not_mem_nil)⟩)⟩) fun ac403 wo400 En404 Hv405 => ?_
      refine ⟨fun _ => Hv405.pk [0], ?_⟩
      exact h_to hG (by kernel_rfl) (nd343 _ _ (En404.sb) (Hv405.pk [0]))
     ·
      rintro _ rfl
      refine op_slice0 (d := some 42) (t := 23) (e := 5) (sz := 1) (len := 100 + (UInt8.toNat y)) (cap := 100 + (UInt8.toNat y)) (hi := q) (ao := some ⟨bk14, 0, none⟩) (lov := none) (hiv := (some (ni q))) En396 (by kernel_rfl) (by kernel_rfl) (by kernel_rfl) (by omega) (.inl ⟨rfl, rfl⟩) (.inr ⟨.i64, rfl⟩) ?_
      intro ac406 En407
      have hsl408 : q = List.length (List.take q (List.replicate i f ++ List.replicate ((100 + UInt8.toNat y) - i) 0)) := by rw [List.length_take]; omega
      have En409 := Env.fx (t := 42) (v := .slice (some ⟨bk14, 0, none⟩) q (100 + (UInt8.toNat y))) (u := .slice (some ⟨bk14, 0, none⟩) (List.length (List.take q (List.replicate i f ++ List.replicate ((100 + UInt8.toNat y) - i) 0))) (100 + (UInt8.toNat y))) En407 (congrArg (fun n : Nat => Value.slice (some ⟨bk14, 0, none⟩) n (100 + (UInt8.toNat y))) hsl408)
      refine ⟨fun _ => Hv397.pk [0], ?_⟩
      exact h_to hG (by kernel_rfl) (nd366 _ _ bk220 (En409.sb) (Hv397.pk [0, 1]))
    have nd410 : ∀ (ac : Act) (wo : World), Env ac 47 [(0, .int .i64 h), (1, bv f), (7, .bool true), (8, .slice (some ⟨bk14, 0, none⟩) (100 + (UInt8.toNat y)) (100 + (UInt8.toNat y))), (9, ni i), (10, ni q), (32, .int .i64 h), (35, .slice (some ⟨bk14, 0, none⟩) (List.length (List.take q (List.replicate i f ++ List.replicate ((100 + UInt8.toNat y) - i) 0))) (100 + (UInt8.toNat y))), (39, .int .i64 h), (42, .slice (some ⟨bk14, 0, none⟩) (List.length (List.take q (List.replicate i f ++ List.replicate ((100 + UInt8.toNat y) - i) 0))) (100 + (UInt8.toNat y)))] → Ev w [] wo [.vec (some ⟨bk14, 0, none⟩) (100 + (UInt8.toNat y)) 1 (bys (List.replicate i f ++ List.replicate ((100 + UInt8.toNat y) - i) 0)) 5] → G 6 #[true, true, true, true, false, false, false, true, true, true, true, false, false, false] ac wo := by
     intro ac411 wo412 En413 Hv414
     refine h_from hG ?_
     refine q_t 4 ?_
     refine op_lit (d := some 36) (t := 30) (T := 23) (m := 1) (parts := #[(0, .slice (some ⟨bk14, 0, none⟩) (List.length (List.take q (List.replicate i f ++ List.replicate ((100 + UInt8.toNat y) - i) 0))) (100 + (UInt8.toNat y)))]) (xs := [.slice (some ⟨bk14, 0, none⟩) (List.length (List.take q (List.replicate i f ++ List.replicate ((100 + UInt8.toNat y) - i) 0))) (100 + (UInt8.toNat y))]) (sz := 1) En413 (by kernel_rfl) (by kernel_rfl) rfl (by decide) Hv414 ?_
     intro ac416 wo417 bk415 En418 Hv419
     refine ⟨fun _ => Hv419.pk [0], ?_⟩
     refine q_t 5 ?_
     refine c_p En418 Hv419 (of_nil _ h hh (some ⟨bk415, 0, none⟩) 1 1 ([⟨some ⟨bk14, 0, none⟩, 100 + (UInt8.toNat y), List.take q (List.replicate i f ++ List.replicate ((100 + UInt8.toNat y) - i) 0)⟩] : List (Sl UInt8)) (by first | rfl | (simp; done) | (simp; omega) | omega) ⟨Hv419.heap.ro (k := 1) rfl [] (by kernel_rfl) rfl, (fun e => by cases e), (by simp), (by simp), (List.forall_mem_cons.2 ⟨(bys_in_take Hv419.heap (k := 0) rfl [] (by kernel_rfl) rfl q (by first | decide | omega)), (fun x h => absurd h List.not_mem_nil)⟩)⟩) fun ac425 wo422 En426 Hv427 => ?_
     refine ⟨fun _ => Hv427.pk [0], ?_⟩
     refine q_r 6 (s := convert 23 9 (.slice none 0 0)) (v := .string (bstr [])) En426 (fun w hS => run_str2 (e := 5) (bs := []) rfl (by kernel_rfl) (by kernel_rfl) (by kernel_rfl) (rfl : bys [] = []) (fun _ => rfl)) (Hv427.pk [0]) fun ac428 En429 => ?_
     refine q_t 11 ?_
     refine c_p En429 Hv427 (docof_nil _ h hh (some ⟨bk14, 0, none⟩) (List.length (List.take q (List.replicate i f ++ List.replicate ((100 + UInt8.toNat y) - i) 0))) (100 + (UInt8.toNat y)) (List.take q (List.replicate i f ++ List.replicate ((100 + UInt8.toNat y) - i) 0)) (by first | rfl | (simp; done) | (simp; omega) | omega) (bys_in_take Hv427.heap (k := 0) rfl [] (by kernel_rfl) rfl q (by first | decide | omega))) fun ac435 wo432 En436 Hv437 => ?_
     refine ⟨fun _ => Hv437.pk [0], ?_⟩
     refine q_r 12 (s := convert 23 9 (.slice none 0 0)) (v := .string (bstr [])) En436 (fun w hS => run_str2 (e := 5) (bs := []) rfl (by kernel_rfl) (by kernel_rfl) (by kernel_rfl) (rfl : bys [] = []) (fun _ => rfl)) (Hv437.pk [0]) fun ac438 En439 => ?_
     refine q_s [13] [(13, g_v (show (.bool (!(ByteArray.toList (bstr []) == ByteArray.toList (bstr []))) : Value) = .bool false by rw [Go.Dbr.bstr_eq [] [], show (!([] == [])) = false from (by simp)] <;> rfl))] 0 En439 (Hv437.pk [0]) fun ac440 En441 => ?_
     exact h_e ⟨En441.sb, Hv437.pk [0]⟩
    have nd442 : ∀ (ac : Act) (wo : World), Env ac 47 [(0, .int .i64 h), (1, bv f), (7, .bool true), (8, .slice (some ⟨bk14, 0, none⟩) (100 + (UInt8.toNat y)) (100 + (UInt8.toNat y))), (9, ni i), (10, ni q), (32, .int .i64 h), (35, .slice (some ⟨bk14, 0, none⟩) (List.length (List.take q (List.replicate i f ++ List.replicate ((100 + UInt8.toNat y) - i) 0))) (100 + (UInt8.toNat y))), (39, .int .i64 h), (40, .slice (some ⟨bk14, 0, none⟩) (100 + (UInt8.toNat y)) (100 + (UInt8.toNat y))), (41, ni q)] → Ev w [] wo [.vec (some ⟨bk14, 0, none⟩) (100 + (UInt8.toNat y)) 1 (bys (List.replicate i f ++ List.replicate ((100 + UInt8.toNat y) - i) 0)) 5] → G 7 #[true, true, true, true, false, false, false, true, true, true, false, false, false, false] ac wo := by
     intro ac443 wo444 En445 Hv446
     refine h_from hG ?_
     refine h_ways [4, 10] (by kernel_rfl) rfl ?_
     refine ⟨?_, ?_, trivial⟩
     ·
      rintro _ rfl
      refine op_lit (d := some 36) (t := 30) (T := 23) (m := 1) (parts := #[(0, .slice (some ⟨bk14, 0, none⟩) (List.length (List.take q (List.replicate i f ++ List.replicate ((100 + UInt8.toNat y) - i) 0))) (100 + (UInt8.toNat y)))]) (xs := [.slice (some ⟨bk14, 0, none⟩) (List.length (List.take q (List.replicate i f ++ List.replicate ((100 + UInt8.toNat y) - i) 0))) (100 + (UInt8.toNat y))]) (sz := 1) En445 (by kernel_rfl) (by kernel_rfl) rfl (by decide) Hv446 ?_
      intro ac448 wo449 bk447 En450 Hv451
      refine ⟨fun _ => Hv451.pk [0], ?_⟩
      exact h_to hG (by kernel_rfl) (nd393 _ _ bk447 (En450.sb) (Hv451.pk [0, 1]))
     ·
      rintro _ rfl
      refine op_slice0 (d := some 42) (t := 23) (e := 5) (sz := 1) (len := 100 + (UInt8.toNat y)) (cap := 100 + (UInt8.toNat y)) (hi := q) (ao := some ⟨bk14, 0, none⟩) (lov := none) (hiv := (some (ni q))) En445 (by kernel_rfl) (by kernel_rfl) (by kernel_rfl) (by omega) (.inl ⟨rfl, rfl⟩) (.inr ⟨.i64, rfl⟩) ?_
      intro ac452 En453
      have hsl454 : q = List.length (List.take q (List.replicate i f ++ List.replicate ((100 + UInt8.toNat y) - i) 0)) := by rw [List.length_take]; omega
      have En455 := Env.fx (t := 42) (v := .slice (some ⟨bk14, 0, none⟩) q (100 + (UInt8.toNat y))) (u := .slice (some ⟨bk14, 0, none⟩) (List.length (List.take q (List.replicate i f ++ List.replicate ((100 + UInt8.toNat y) - i) 0))) (100 + (UInt8.toNat y))) En453 (congrArg (fun n : Nat => Value.slice (some ⟨bk14, 0, none⟩) n (100 + (UInt8.toNat y))) hsl454)
      refine ⟨fun _ => Hv446.pk [0], ?_⟩
      exact h_to hG (by kernel_rfl) (nd410 _ _ (En455.sb) (Hv446.pk [0]))
    have nd456 : ∀ (ac : Act) (wo : World), Env ac 47 [(0, .int .i64 h), (1, bv f), (7, .bool true), (8, .slice (some ⟨bk14, 0, none⟩) (100 + (UInt8.toNat y)) (100 + (UInt8.toNat y))), (9, ni i), (10, ni q), (32, .int .i64 h), (33, .slice (some ⟨bk14, 0, none⟩) (100 + (UInt8.toNat y)) (100 + (UInt8.toNat y))), (34, ni q), (39, .int .i64 h), (42, .slice (some ⟨bk14, 0, none⟩) (List.length (List.take q (List.replicate i f ++ List.replicate ((100 + UInt8.toNat y) - i) 0))) (100 + (UInt8.toNat y)))] → Ev w [] wo [.vec (some ⟨bk14, 0, none⟩) (100 + (UInt8.toNat y)) 1 (bys (List.replicate i f ++ List.replicate ((100 + UInt8.toNat y) - i) 0)) 5] → G 7 #[true, true, true, false, false, false, false, true, true, true, true, false, false, false] ac wo := by
     intro ac457 wo458 En459 Hv460
     refine h_from hG ?_
     refine q_t 3 ?_
     refine op_slice0 (d := some 35) (t := 23) (e := 5) (sz := 1) (len := 100 + (UInt8.toNat y)) (cap := 100 + (UInt8.toNat y)) (hi := q) (ao := some ⟨bk14, 0, none⟩) (lov := none) (hiv := (some (ni q))) En459 (by kernel_rfl) (by kernel_rfl) (by kernel_rfl) (by omega) (.inl ⟨rfl, rfl⟩) (.inr ⟨.i64, rfl⟩) ?_
     intro ac461 En462
     have hsl463 : q = List.length (List.take q (List.replicate i f ++ List.replicate ((100 + UInt8.toNat y) - i) 0)) := by rw [List.length_take]; omega
     have En464 := Env.fx (t := 35) (v := .slice (some ⟨bk14, 0, none⟩) q (100 + (UInt8.toNat y))) (u := .slice (some ⟨bk14, 0, none⟩) (List.length (List.take q (List.replicate i f ++ List.replicate ((100 + UInt8.toNat y) - i) 0))) (100 + (UInt8.toNat y))) En462 (congrArg (fun n : Nat => Value.slice (some ⟨bk14, 0, none⟩) n (100 + (UInt8.toNat y))) hsl463)
     refine ⟨fun _ => Hv460.pk [0], ?_⟩
     refine q_t 4 ?_
     refine op_lit (d := some 36) (t := 30) (T := 23) (m := 1) (parts := #[(0, .slice (some ⟨bk14, 0, none⟩) (List.length (List.take q (List.replicate i f ++ List.replicate ((100 + UInt8.toNat y) - i) 0))) (100 + (UInt8.toNat y)))]) (xs := [.slice (some ⟨bk14, 0, none⟩) (List.length (List.take q (List.replicate i f ++ List.replicate ((100 + UInt8.toNat y) - i) 0))) (100 + (UInt8.toNat y))]) (sz := 1) En464 (by kernel_rfl) (by kernel_rfl) rfl (by decide) Hv460 ?_
     intro ac466 wo467 bk465 En468 Hv469
     refine ⟨fun _ => Hv469.pk [0], ?_⟩
     refine q_t 5 ?_
     refine c_p En468 Hv469 (of_nil _ h hh (some ⟨bk465, 0, none⟩) 1 1 ([⟨some ⟨bk14, 0, none⟩, 100 + (UInt8.toNat y), List.take q (List.replicate i f ++ List.replicate ((100 + UInt8.toNat y) - i) 0)⟩] : List (Sl UInt8)) (by first | rfl | (simp; done) | (simp; omega) | omega) ⟨Hv469.heap.ro (k := 1) rfl [] (by kernel_rfl) rfl, (fun e => by cases e), (by simp), (by simp), (List.forall_mem_cons.2 ⟨(bys_in_take Hv469.heap (k := 0) rfl [] (by kernel_rfl) rfl q (by first | decide | omega)), (fun x h => absurd h List.not_mem_nil)⟩)⟩) fun ac475 wo472 En476 Hv477 => ?_
     refine ⟨fun _ => Hv477.pk [0], ?_⟩
     refine q_r 6 (s := convert 23 9 (.slice none 0 0)) (v := .string (bstr [])) En476 (fun w hS => run_str2 (e := 5) (bs := []) rfl (by kernel_rfl) (by kernel_rfl) (by kernel_rfl) (rfl : bys [] = []) (fun _ => rfl)) (Hv477.pk [0]) fun ac478 En479 => ?_
     refine q_t 11 ?_
     refine c_p En479 Hv477 (docof_nil _ h hh (some ⟨bk14, 0, none⟩) (List.length (List.take q (List.replicate i f ++ List.replicate ((100 + UInt8.toNat y) - i) 0))) (100 + (UInt8.toNat y)) (List.take q (List.replicate i f ++ List.replicate ((100 + UInt8.toNat y) - i) 0)) (by first | rfl | (simp; done) | (simp; omega) | omega) (bys_in_take Hv477.heap (k := 0) rfl [] (by kernel_rfl) rfl q (by first | decide | omega))) fun ac485 wo482 En486 Hv487 => ?_
     refine ⟨fun _ => Hv487.pk [0], ?_⟩
     refine q_r 12 (s := convert 23 9 (.slice none 0 0)) (v := .string (bstr [])) En486 (fun w hS => run_str2 (e := 5) (bs := []) rfl (by kernel_rfl) (by kernel_rfl) (by kernel_rfl) (rfl : bys [] = []) (fun _ => rfl)) (Hv487.pk [0]) fun ac488 En489 => ?_
     refine q_s [13] [(13, g_v (show (.bool (!(ByteArray.toList (bstr []) == ByteArray.toList (bstr []))) : Value) = .bool false by rw [Go.Dbr.bstr_eq [] [], show (!([] == [])) = false from (by simp)] <;> rfl))] 0 En489 (Hv487.pk [0]) fun ac490 En491 => ?_
     exact h_e ⟨En491.sb, Hv487.pk [0]⟩
    refine h_from hG ?_
    refine q_s [0,1,2,7,8,9] [] 8 En56 (wo58.pk [0]) fun ac492 En493 => ?_
    refine h_ways [3, 10] (by kernel_rfl) rfl ?_
    refine ⟨?_, ?_, trivial⟩
    ·
     rintro _ rfl
     refine op_slice0 (d := some 35) (t := 23) (e := 5) (sz := 1) (len := 100 + (UInt8.toNat y)) (cap := 100 + (UInt8.toNat y)) (hi := q) (ao := some ⟨bk14, 0, none⟩) (lov := none) (hiv := (some (ni q))) En493 (by kernel_rfl) (by kernel_rfl) (by kernel_rfl) (by omega) (.inl ⟨rfl, rfl⟩) (.inr ⟨.i64, rfl⟩) ?_
     intro ac494 En495
     have hsl496 : q = List.length (List.take q (List.replicate i f ++ List.replicate ((100 + UInt8.toNat y) - i) 0)) := by rw [List.length_take]; omega
     have En497 := Env.fx (t := 35) (v := .slice (some ⟨bk14, 0, none⟩) q (100 + (UInt8.toNat y))) (u := .slice (some ⟨bk14, 0, none⟩) (List.length (List.take q (List.replicate i f ++ List.replicate ((100 + UInt8.toNat y) - i) 0))) (100 + (UInt8.toNat y))) En495 (congrArg (fun n : Nat => Value.slice (some ⟨bk14, 0, none⟩) n (100 + (UInt8.toNat y))) hsl496)
     refine ⟨fun _ => wo58.pk [0], ?_⟩
     exact h_to hG (by kernel_rfl) (nd442 _ _ (En497.sb) (wo58.pk [0]))
    ·
     rintro _ rfl
     refine op_slice0 (d := some 42) (t := 23) (e := 5) (sz := 1) (len := 100 + (UInt8.toNat y)) (cap := 100 + (UInt8.toNat y)) (hi := q) (ao := some ⟨bk14, 0, none⟩) (lov := none) (hiv := (some (ni q))) En493 (by kernel_rfl) (by kernel_rfl) (by kernel_rfl) (by omega) (.inl ⟨rfl, rfl⟩) (.inr ⟨.i64, rfl⟩) ?_
     intro ac498 En499
     have hsl500 : q = List.length (List.take q (List.replicate i f ++ List.replicate ((100 + UInt8.toNat y) - i) 0)) := by rw [List.length_take]; omega
     have En501 := Env.fx (t := 42) (v := .slice (some ⟨bk14, 0, none⟩) q (100 + (UInt8.toNat y))) (u := .slice (some ⟨bk14, 0, none⟩) (List.length (List.take q (List.replicate i f ++ List.replicate ((100 + UInt8.toNat y) - i) 0))) (100 + (UInt8.toNat y))) En499 (congrArg (fun n : Nat => Value.slice (some ⟨bk14, 0, none⟩) n (100 + (UInt8.toNat y))) hsl500)
     refine ⟨fun _ => wo58.pk [0], ?_⟩
     exact h_to hG (by kernel_rfl) (nd456 _ _ (En501.sb) (wo58.pk [0]))
   rintro ac502 wo503 ⟨En504, Hv505⟩
   refine then_normal ?_
   refine c_f En504 ?_
   refine wp_skip ?_
   refine block_normal ?_
   refine then_normal ?_
   refine d_r [0,1,7,8,9,10] [(1, g_n (w_a q 13))] En504 fun ac506 En507 => ?_
   refine then_normal ?_
   refine ⟨_, ⟨q + 13, rfl, En507.sb, Hv505.pk [0], by omega⟩, ?_⟩
   omega
  ·
   refine wp_exit ?_
   refine then_exit ?_
   refine then_exit ?_
   refine block_exit ?_
   refine then_normal ?_
   refine wp_seq ?_
   refine d_r [0,1,6,8,9,10] [] En56 fun ac508 En509 => ?_
   refine then_normal ?_
   refine wp_ret ?_
   refine d_ret1 (t := 6) (v := .bool true) En509 (by kernel_rfl) (by kernel_rfl) ?_
   exact ⟨rfl, Hv53.pk []⟩

theorem ends_walk (h : Int) (f : UInt8) (y : UInt8) (w : World) (b_h : (-9223372036854775808 ≤ h ∧ h ≤ 9223372036854775807)) (gk32 : InU32 w [] (some ⟨0, 0, none⟩) 64 K32) (gk64 : InU64 w [] (some ⟨1, 0, none⟩) 80 K64) : Calls Tryd.prog 4 #[.int .i64 h, bv f, bv y] w fun e w' => e = .returned (.bool true) ∧ Ev w [] w' [] := by
  by_cases hh : h = 1 ∨ h = 2 ∨ h = 3
  · exact ends_ok h f y w b_h hh gk32 gk64
  · exact ends_bad h f y w b_h hh gk32 gk64

end Go.Proofs.YtbpihljkkkeijaaDoor
