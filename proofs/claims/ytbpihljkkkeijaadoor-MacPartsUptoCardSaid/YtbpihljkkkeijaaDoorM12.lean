/- MacParts: its walk. -/
import Derived.Test.YtbpihljkkkeijaaDoorM6
import Derived.Test.YtbpihljkkkeijaaDoorGlob
namespace Go.Proofs.YtbpihljkkkeijaaDoor
open Go.Dbr
set_option maxRecDepth 100000
set_option maxHeartbeats 2000000
set_option linter.unusedVariables false
set_option linter.unusedSimpArgs false

theorem long_same {h : Int} (hh : h = 1 ∨ h = 2 ∨ h = 3) (k b : List UInt8) : macF h (k ++ List.replicate (blockOf h + 1) 0) b = macF h (sumF h (k ++ List.replicate (blockOf h + 1) 0)) b := mac_long hh (by rw [List.length_append, List.length_replicate]; omega)
theorem filled_same {h : Int} {k : List UInt8} (hk : ¬ blockOf h < k.length) (b : List UInt8) : macF h k b = macF h (k ++ List.replicate (blockOf h - k.length) 0) b := (mac_zeros (by omega)).symm

theorem parts_long (h : Int) (a_k : Option Addr) (c_k : Nat) (k : List UInt8) (a_x : Option Addr) (c_x : Nat) (x : List UInt8) (a_y : Option Addr) (c_y : Nat) (y : List UInt8) (w : World) (b_h : (-9223372036854775808 ≤ h ∧ h ≤ 9223372036854775807)) (i_k : InB w [] a_k c_k k) (i_x : InB w [] a_x c_x x) (i_y : InB w [] a_y c_y y) (hB : (List.length k) + (List.length x) + (List.length y) ≤ 1048576) (hh : (h = 1 ∨ h = 2 ∨ h = 3)) (hk : blockOf h < List.length k) (gk32 : InU32 w [] (some ⟨0, 0, none⟩) 64 K32) (gk64 : InU64 w [] (some ⟨1, 0, none⟩) 80 K64) : Calls Tryd.prog 8 #[.int .i64 h, .slice a_k (List.length k) c_k, .slice a_x (List.length x) c_x, .slice a_y (List.length y) c_y] w fun e w' => e = .returned (.bool true) ∧ Ev w [] w' [] := by
 have hsk := i_k.small
 have hck := i_k.cap
 have hsx := i_x.small
 have hcx := i_x.cap
 have hsy := i_y.small
 have hcy := i_y.cap
 have hbg := block_ge hh
 have hsl := sumF_len hh (k ++ List.replicate (blockOf h + 1) 0)
 have hsz64 := size_le h
 refine d_0 [(0, .int .i64 h), (1, .slice a_k (List.length k) c_k), (2, .slice a_x (List.length x) c_x), (3, .slice a_y (List.length y) c_y)] 118 Go.Proofs.Tryd.func8 Go.Proofs.Tryd.ntmps8 (Heap.nil _) fun act0 En0 Hv0 => ?_
 refine d_s [0,1,2,3,8] [] En0 fun ac1 En2 => ?_
 refine wp_seq ?_
 refine region_from ?_
 refine f_o ?_
 refine c_p En2 Hv0 (head6_ok _ ((gk32.ev Hv0).pick [] (by kernel_rfl)) ((gk64.ev Hv0).pick [] (by kernel_rfl))) fun ac7 wo4 En8 Hv9 => ?_
 refine d_e [0,1,2,3,8,9] [] En8 fun ac10 En11 => ?_
 refine then_normal ?_
 refine wp_seq ?_
 refine region_from ?_
 refine d_k [0,1,2,3,8,9,16] [] 1 En11 fun ac12 En13 => ?_
 refine f_o ?_
 refine c_p En13 Hv9 (block_go _ h) fun ac18 wo15 En19 Hv20 => ?_
 refine d_e [0,1,2,3,8,9,10] [] En19 fun ac21 En22 => ?_
 refine then_normal ?_
 refine wp_seq ?_
 refine d_s [0,1,2,3,8,9,10,19] [(1, g_b (show (((blockOf h : Nat) : Int) == (0 : Int)) = false from (beq_eq_false_iff_ne.2 (by omega))))] En22 fun ac23 En24 => ?_
 refine c_f En24 ?_
 refine wp_skip ?_
 refine then_normal ?_
 refine wp_seq ?_
 refine region_from ?_
 refine f_o ?_
 refine op_lit (d := some 31) (t := 23) (T := 5) (m := 0) (parts := #[]) (xs := bys []) (sz := 1) En24 (by kernel_rfl) (by kernel_rfl) rfl (by decide) Hv20 ?_
 intro ac26 wo27 bk25 En28 Hv29
 refine d_k [0,1,2,3,8,9,10,31,32] [] 2 En28 fun ac30 En31 => ?_
 refine f_o ?_
 have hsm32 := i_k.small
 refine op_append (d := some 33) (t := 23) (tx := 23) (ty := 23) (k := 0) (p := 0) (m := List.length k) (x := .slice a_k (List.length k) c_k) (bytes := 1) En31 (by kernel_rfl) Hv29 rfl rfl (Reads.src (size := 1) (tx := 23) (e' := 5) (by kernel_rfl) (i_k.ev Hv29).reads (bys_len _) i_k.nz (bys_one _)) (by kernel_rfl) (z := .int .u8 0) (by kernel_rfl) rfl (by decide) (by omega) (by unfold maxLen; omega) ?_
 intro ac37 wo38 ao33 cp34 En39 Hv40 hnz _
 clear hnz
 rw [bys_nil_append] at Hv40
 have ehz35 : 0 + (List.length k) = List.length k := (by first | (simp; done) | (simp; omega) | omega)
 rw [ehz35] at En39
 refine d_k [0,1,2,3,8,9,10,33,35] [(4, g_n (w_a (blockOf h) 1))] 5 En39 fun ac41 En42 => ?_
 refine f_o ?_
 refine op_appzeros (d := some 36) (t := 23) (tn := 3) (tx := 9) (ty := 23) (T := 5) (kn := .i64) (ik := .i64) (k := 0) (p := List.length k) (m := (blockOf h) + 1) (xs := k) En42 (by kernel_rfl) Hv40 rfl rfl (by kernel_rfl) (by kernel_rfl) (by kernel_rfl) (by kernel_rfl) (by omega) ?_
 intro ac46 wo47 ao43 cp44 En48 Hv49 hnz _
 clear hnz
 have ehz45 : (List.length k) + ((blockOf h) + 1) = List.length (k ++ List.replicate ((blockOf h) + 1) 0) := (by first | (simp; done) | (simp; omega) | omega)
 rw [ehz45] at En48
 refine d_e [0,1,2,3,8,9,10,11] [] En48 fun ac50 En51 => ?_
 refine then_normal ?_
 refine wp_seq ?_
 refine region_from ?_
 refine d_k [0,1,2,3,8,9,10,11,37,38] [] 2 En51 fun ac52 En53 => ?_
 refine f_o ?_
 refine op_lit (d := some 39) (t := 23) (T := 5) (m := 0) (parts := #[]) (xs := bys []) (sz := 1) En53 (by kernel_rfl) (by kernel_rfl) rfl (by decide) Hv49 ?_
 intro ac55 wo56 bk54 En57 Hv58
 refine d_k [0,1,2,3,8,9,10,11,37,38,39,40] [] 4 En57 fun ac59 En60 => ?_
 refine f_o ?_
 have hsm61 := i_x.small
 refine op_append (d := some 41) (t := 23) (tx := 23) (ty := 23) (k := 1) (p := 0) (m := List.length x) (x := .slice a_x (List.length x) c_x) (bytes := 1) En60 (by kernel_rfl) Hv58 rfl rfl (Reads.src (size := 1) (tx := 23) (e' := 5) (by kernel_rfl) (i_x.ev Hv58).reads (bys_len _) i_x.nz (bys_one _)) (by kernel_rfl) (z := .int .u8 0) (by kernel_rfl) rfl (by decide) (by omega) (by unfold maxLen; omega) ?_
 intro ac66 wo67 ao62 cp63 En68 Hv69 hnz _
 clear hnz
 rw [bys_nil_append] at Hv69
 have ehz64 : 0 + (List.length x) = List.length x := (by first | (simp; done) | (simp; omega) | omega)
 rw [ehz64] at En68
 refine d_k [0,1,2,3,8,9,10,11,37,38,41,42] [] 6 En68 fun ac70 En71 => ?_
 refine f_o ?_
 have hsm72 := i_y.small
 refine op_append (d := some 43) (t := 23) (tx := 23) (ty := 23) (k := 1) (p := List.length x) (m := List.length y) (x := .slice a_y (List.length y) c_y) (bytes := 1) En71 (by kernel_rfl) Hv69 rfl (bys_len _) (Reads.src (size := 1) (tx := 23) (e' := 5) (by kernel_rfl) (i_y.ev Hv69).reads (bys_len _) i_y.nz (bys_one _)) (by kernel_rfl) (z := .int .u8 0) (by kernel_rfl) rfl (by decide) (by omega) (by unfold maxLen; omega) ?_
 intro ac77 wo78 ao73 cp74 En79 Hv80 hnz _
 clear hnz
 rw [← bys_append] at Hv80
 have ehz75 : (List.length x) + (List.length y) = List.length (x ++ y) := (by first | (simp; done) | (simp; omega) | omega)
 rw [ehz75] at En79
 refine f_o ?_
 refine op_lit (d := some 44) (t := 30) (T := 23) (m := 1) (parts := #[(0, .slice ao73 (List.length (x ++ y)) cp74)]) (xs := [.slice ao73 (List.length (x ++ y)) cp74]) (sz := 1) En79 (by kernel_rfl) (by kernel_rfl) rfl (by decide) Hv80 ?_
 intro ac82 wo83 bk81 En84 Hv85
 refine f_o ?_
 refine c_0 En84 Hv85 (macof_go _ h hh a_k (List.length k) c_k k (by first | rfl | (simp; done) | (simp; omega) | omega) ((i_k.ev Hv85).pick [] (by kernel_rfl)) (some ⟨bk81, 0, none⟩) 1 1 ([⟨ao73, cp74, x ++ y⟩] : List (Sl UInt8)) (by first | rfl | (simp; done) | (simp; omega) | omega) ⟨Hv85.heap.ro (k := 2) rfl [] (by kernel_rfl) rfl, (fun e => by cases e), (by simp), (by simp), (List.forall_mem_cons.2 ⟨(bys_in Hv85.heap (k := 1) rfl [] (by kernel_rfl) rfl (by first | decide | (dsimp only; omega) | (simp; done) | (simp; omega) | omega)), (fun x h => absurd h List.not_mem_nil)⟩)⟩ ((gk32.ev Hv85).pick [] (by kernel_rfl)) ((gk64.ev Hv85).pick [] (by kernel_rfl))) ?_
 rintro _ wo88 ⟨aoq86, coq86, rfl, he89⟩
 refine ⟨_, _, _, rfl, he89, rfl, fun ac91 En92 Hv93 => ?_⟩
 refine f_o ?_
 refine op_str (d := some 46) (src := 23) (dst := 9) (e := 5) (ao := aoq86) (cap := coq86) (p := List.length (macF h k (List.flatMap (fun s : Sl UInt8 => s.l) ([⟨ao73, cp74, x ++ y⟩] : List (Sl UInt8))))) (bs := macF h k (List.flatMap (fun s : Sl UInt8 => s.l) ([⟨ao73, cp74, x ++ y⟩] : List (Sl UInt8)))) En92 (by kernel_rfl) rfl (by kernel_rfl) (by kernel_rfl) (by kernel_rfl) (Hv93.heap.reads (k := 0) rfl) (bys_vnz Hv93.heap (k := 0) rfl) ?_
 intro ac94 En95
 refine d_e [0,1,2,3,8,9,10,11,12] [] En95 fun ac96 En97 => ?_
 refine then_normal ?_
 refine wp_seq ?_
 refine r_c (fun ac wo => Env ac 118 [(0, .int .i64 h), (1, .slice a_k (List.length k) c_k), (2, .slice a_x (List.length x) c_x), (3, .slice a_y (List.length y) c_y), (8, .bool false), (9, .bool true), (10, ni (blockOf h)), (12, .string (bstr (macF h k (List.flatMap (fun s : Sl UInt8 => s.l) ([⟨ao73, cp74, x ++ y⟩] : List (Sl UInt8)))))), (13, .bool true)] ∧ Ev w [] wo [.vec ao73 cp74 1 (bys (x ++ y)) 5]) ?_ ?_
 ·
  refine h_s (fun wv => Ev w [] wv []) [] 17 ?_
  have wo98 := Hv93.trans (Ev.drew Hv93.heap)
  refine h_name fun G hG => ?_
  have nd683 : ∀ (ac : Act) (wo : World) (aoq529 : _) (coq529 : _), Env ac 118 [(0, .int .i64 h), (1, .slice a_k (List.length k) c_k), (2, .slice a_x (List.length x) c_x), (3, .slice a_y (List.length y) c_y), (8, .bool false), (9, .bool true), (10, ni (blockOf h)), (12, .string (bstr (macF h k (List.flatMap (fun s : Sl UInt8 => s.l) ([⟨ao73, cp74, x ++ y⟩] : List (Sl UInt8)))))), (52, .string (bstr (macF h (k ++ List.replicate ((blockOf h) + 1) 0) (List.flatMap (fun s : Sl UInt8 => s.l) ([⟨a_x, c_x, x⟩] : List (Sl UInt8)))))), (60, .slice aoq529 (List.length (macF h (sumF h (List.flatMap (fun s : Sl UInt8 => s.l) ([⟨ao43, cp44, k ++ List.replicate ((blockOf h) + 1) 0⟩] : List (Sl UInt8)))) (List.flatMap (fun s : Sl UInt8 => s.l) ([⟨a_x, c_x, x⟩] : List (Sl UInt8))))) coq529)] → Ev w [] wo [.vec aoq529 coq529 1 (bys (macF h (sumF h (List.flatMap (fun s : Sl UInt8 => s.l) ([⟨ao43, cp44, k ++ List.replicate ((blockOf h) + 1) 0⟩] : List (Sl UInt8)))) (List.flatMap (fun s : Sl UInt8 => s.l) ([⟨a_x, c_x, x⟩] : List (Sl UInt8))))) 5, .vec ao43 cp44 1 (bys (k ++ List.replicate ((blockOf h) + 1) 0)) 5, .vec ao73 cp74 1 (bys (x ++ y)) 5] → G 3 #[true, true, true, true, true, true, true, true, true, true, true, true, true, true, false, false, false] ac wo := by
   intro ac684 wo685 aoq529 coq529 En686 Hv687
   refine h_from hG ?_
   refine q_t 14 ?_
   refine op_str (d := some 61) (src := 23) (dst := 9) (e := 5) (ao := aoq529) (cap := coq529) (p := List.length (macF h (sumF h (List.flatMap (fun s : Sl UInt8 => s.l) ([⟨ao43, cp44, k ++ List.replicate ((blockOf h) + 1) 0⟩] : List (Sl UInt8)))) (List.flatMap (fun s : Sl UInt8 => s.l) ([⟨a_x, c_x, x⟩] : List (Sl UInt8))))) (bs := macF h (sumF h (List.flatMap (fun s : Sl UInt8 => s.l) ([⟨ao43, cp44, k ++ List.replicate ((blockOf h) + 1) 0⟩] : List (Sl UInt8)))) (List.flatMap (fun s : Sl UInt8 => s.l) ([⟨a_x, c_x, x⟩] : List (Sl UInt8)))) En686 (by kernel_rfl) rfl (by kernel_rfl) (by kernel_rfl) (by kernel_rfl) (Hv687.heap.reads (k := 0) rfl) (bys_vnz Hv687.heap (k := 0) rfl) ?_
   intro ac688 En689
   refine ⟨fun _ => Hv687.pk [], ?_⟩
   refine q_s [15,16] [(15, g_v (show (.bool (ByteArray.toList (bstr (macF h (k ++ List.replicate ((blockOf h) + 1) 0) (List.flatMap (fun s : Sl UInt8 => s.l) ([⟨a_x, c_x, x⟩] : List (Sl UInt8))))) == ByteArray.toList (bstr (macF h (sumF h (List.flatMap (fun s : Sl UInt8 => s.l) ([⟨ao43, cp44, k ++ List.replicate ((blockOf h) + 1) 0⟩] : List (Sl UInt8)))) (List.flatMap (fun s : Sl UInt8 => s.l) ([⟨a_x, c_x, x⟩] : List (Sl UInt8)))))) : Value) = .bool true by rw [Go.Dbr.bstr_eq (macF h (k ++ List.replicate ((blockOf h) + 1) 0) (List.flatMap (fun s : Sl UInt8 => s.l) ([⟨a_x, c_x, x⟩] : List (Sl UInt8)))) (macF h (sumF h (List.flatMap (fun s : Sl UInt8 => s.l) ([⟨ao43, cp44, k ++ List.replicate ((blockOf h) + 1) 0⟩] : List (Sl UInt8)))) (List.flatMap (fun s : Sl UInt8 => s.l) ([⟨a_x, c_x, x⟩] : List (Sl UInt8)))), show ((macF h (k ++ List.replicate ((blockOf h) + 1) 0) (List.flatMap (fun s : Sl UInt8 => s.l) ([⟨a_x, c_x, x⟩] : List (Sl UInt8)))) == (macF h (sumF h (List.flatMap (fun s : Sl UInt8 => s.l) ([⟨ao43, cp44, k ++ List.replicate ((blockOf h) + 1) 0⟩] : List (Sl UInt8)))) (List.flatMap (fun s : Sl UInt8 => s.l) ([⟨a_x, c_x, x⟩] : List (Sl UInt8))))) = true from (by simp [← long_same hh k x, ← List.append_assoc]; done)] <;> rfl))] 0 En689 (Hv687.pk []) fun ac690 En691 => ?_
   exact h_e ⟨En691.sb, Hv687.pk [2]⟩
  have nd692 : ∀ (ac : Act) (wo : World) (aoq398 : _) (coq398 : _), Env ac 118 [(0, .int .i64 h), (1, .slice a_k (List.length k) c_k), (2, .slice a_x (List.length x) c_x), (3, .slice a_y (List.length y) c_y), (8, .bool false), (9, .bool true), (10, ni (blockOf h)), (12, .string (bstr (macF h k (List.flatMap (fun s : Sl UInt8 => s.l) ([⟨ao73, cp74, x ++ y⟩] : List (Sl UInt8)))))), (51, .slice aoq398 (List.length (macF h (k ++ List.replicate ((blockOf h) + 1) 0) (List.flatMap (fun s : Sl UInt8 => s.l) ([⟨a_x, c_x, x⟩] : List (Sl UInt8))))) coq398), (61, .string (bstr (macF h (sumF h (List.flatMap (fun s : Sl UInt8 => s.l) ([⟨ao43, cp44, k ++ List.replicate ((blockOf h) + 1) 0⟩] : List (Sl UInt8)))) (List.flatMap (fun s : Sl UInt8 => s.l) ([⟨a_x, c_x, x⟩] : List (Sl UInt8))))))] → Ev w [] wo [.vec aoq398 coq398 1 (bys (macF h (k ++ List.replicate ((blockOf h) + 1) 0) (List.flatMap (fun s : Sl UInt8 => s.l) ([⟨a_x, c_x, x⟩] : List (Sl UInt8))))) 5, .vec ao43 cp44 1 (bys (k ++ List.replicate ((blockOf h) + 1) 0)) 5, .vec ao73 cp74 1 (bys (x ++ y)) 5] → G 3 #[true, true, true, true, true, false, true, true, true, true, true, true, true, true, true, false, false] ac wo := by
   intro ac693 wo694 aoq398 coq398 En695 Hv696
   refine h_from hG ?_
   refine q_t 5 ?_
   refine op_str (d := some 52) (src := 23) (dst := 9) (e := 5) (ao := aoq398) (cap := coq398) (p := List.length (macF h (k ++ List.replicate ((blockOf h) + 1) 0) (List.flatMap (fun s : Sl UInt8 => s.l) ([⟨a_x, c_x, x⟩] : List (Sl UInt8))))) (bs := macF h (k ++ List.replicate ((blockOf h) + 1) 0) (List.flatMap (fun s : Sl UInt8 => s.l) ([⟨a_x, c_x, x⟩] : List (Sl UInt8)))) En695 (by kernel_rfl) rfl (by kernel_rfl) (by kernel_rfl) (by kernel_rfl) (Hv696.heap.reads (k := 0) rfl) (bys_vnz Hv696.heap (k := 0) rfl) ?_
   intro ac697 En698
   refine ⟨fun _ => Hv696.pk [], ?_⟩
   refine q_s [15,16] [(15, g_v (show (.bool (ByteArray.toList (bstr (macF h (k ++ List.replicate ((blockOf h) + 1) 0) (List.flatMap (fun s : Sl UInt8 => s.l) ([⟨a_x, c_x, x⟩] : List (Sl UInt8))))) == ByteArray.toList (bstr (macF h (sumF h (List.flatMap (fun s : Sl UInt8 => s.l) ([⟨ao43, cp44, k ++ List.replicate ((blockOf h) + 1) 0⟩] : List (Sl UInt8)))) (List.flatMap (fun s : Sl UInt8 => s.l) ([⟨a_x, c_x, x⟩] : List (Sl UInt8)))))) : Value) = .bool true by rw [Go.Dbr.bstr_eq (macF h (k ++ List.replicate ((blockOf h) + 1) 0) (List.flatMap (fun s : Sl UInt8 => s.l) ([⟨a_x, c_x, x⟩] : List (Sl UInt8)))) (macF h (sumF h (List.flatMap (fun s : Sl UInt8 => s.l) ([⟨ao43, cp44, k ++ List.replicate ((blockOf h) + 1) 0⟩] : List (Sl UInt8)))) (List.flatMap (fun s : Sl UInt8 => s.l) ([⟨a_x, c_x, x⟩] : List (Sl UInt8)))), show ((macF h (k ++ List.replicate ((blockOf h) + 1) 0) (List.flatMap (fun s : Sl UInt8 => s.l) ([⟨a_x, c_x, x⟩] : List (Sl UInt8)))) == (macF h (sumF h (List.flatMap (fun s : Sl UInt8 => s.l) ([⟨ao43, cp44, k ++ List.replicate ((blockOf h) + 1) 0⟩] : List (Sl UInt8)))) (List.flatMap (fun s : Sl UInt8 => s.l) ([⟨a_x, c_x, x⟩] : List (Sl UInt8))))) = true from (by simp [← long_same hh k x, ← List.append_assoc]; done)] <;> rfl))] 0 En698 (Hv696.pk []) fun ac699 En700 => ?_
   exact h_e ⟨En700.sb, Hv696.pk [2]⟩
  have nd701 : ∀ (ac : Act) (wo : World) (aoq500 : _) (coq500 : _) (bk510 : Nat), Env ac 118 [(0, .int .i64 h), (1, .slice a_k (List.length k) c_k), (2, .slice a_x (List.length x) c_x), (3, .slice a_y (List.length y) c_y), (8, .bool false), (9, .bool true), (10, ni (blockOf h)), (12, .string (bstr (macF h k (List.flatMap (fun s : Sl UInt8 => s.l) ([⟨ao73, cp74, x ++ y⟩] : List (Sl UInt8)))))), (52, .string (bstr (macF h (k ++ List.replicate ((blockOf h) + 1) 0) (List.flatMap (fun s : Sl UInt8 => s.l) ([⟨a_x, c_x, x⟩] : List (Sl UInt8)))))), (53, .int .i64 h), (57, .slice aoq500 (List.length (sumF h (List.flatMap (fun s : Sl UInt8 => s.l) ([⟨ao43, cp44, k ++ List.replicate ((blockOf h) + 1) 0⟩] : List (Sl UInt8))))) coq500), (59, .slice (some ⟨bk510, 0, none⟩) 1 1)] → Ev w [] wo [.vec aoq500 coq500 1 (bys (sumF h (List.flatMap (fun s : Sl UInt8 => s.l) ([⟨ao43, cp44, k ++ List.replicate ((blockOf h) + 1) 0⟩] : List (Sl UInt8))))) 5, .vec ao43 cp44 1 (bys (k ++ List.replicate ((blockOf h) + 1) 0)) 5, .vec ao73 cp74 1 (bys (x ++ y)) 5, .vec (some ⟨bk510, 0, none⟩) 1 1 [.slice a_x (List.length x) c_x] 23] → G 4 #[true, true, true, true, true, true, true, true, true, true, true, true, true, false, false, false, false] ac wo := by
   intro ac702 wo703 aoq500 coq500 bk510 En704 Hv705
   refine h_from hG ?_
   refine q_t 13 ?_
   refine c_0 En704 Hv705 (macof_go _ h hh aoq500 (List.length (sumF h (List.flatMap (fun s : Sl UInt8 => s.l) ([⟨ao43, cp44, k ++ List.replicate ((blockOf h) + 1) 0⟩] : List (Sl UInt8))))) coq500 (sumF h (List.flatMap (fun s : Sl UInt8 => s.l) ([⟨ao43, cp44, k ++ List.replicate ((blockOf h) + 1) 0⟩] : List (Sl UInt8)))) (by first | rfl | (simp; done) | (simp; omega) | omega) (bys_in Hv705.heap (k := 0) rfl [] (by kernel_rfl) rfl (by first | omega | (simp; done) | (simp; omega))) (some ⟨bk510, 0, none⟩) 1 1 ([⟨a_x, c_x, x⟩] : List (Sl UInt8)) (by first | rfl | (simp; done) | (simp; omega) | omega) ⟨Hv705.heap.ro (k := 3) rfl [] (by kernel_rfl) rfl, (fun e => by cases e), (by simp), (by simp), (List.forall_mem_cons.2 ⟨((i_x.ev Hv705).pick [] (by kernel_rfl)), (fun x h => absurd h List.not_mem_nil)⟩)⟩ ((gk32.ev Hv705).pick [] (by kernel_rfl)) ((gk64.ev Hv705).pick [] (by kernel_rfl))) ?_
   rintro _ wo708 ⟨aoq706, coq706, rfl, he709⟩
   refine ⟨_, _, _, rfl, he709, rfl, fun ac711 En712 Hv713 => ?_⟩
   refine ⟨fun _ => Hv713.pk [], ?_⟩
   refine q_t 14 ?_
   refine op_str (d := some 61) (src := 23) (dst := 9) (e := 5) (ao := aoq706) (cap := coq706) (p := List.length (macF h (sumF h (List.flatMap (fun s : Sl UInt8 => s.l) ([⟨ao43, cp44, k ++ List.replicate ((blockOf h) + 1) 0⟩] : List (Sl UInt8)))) (List.flatMap (fun s : Sl UInt8 => s.l) ([⟨a_x, c_x, x⟩] : List (Sl UInt8))))) (bs := macF h (sumF h (List.flatMap (fun s : Sl UInt8 => s.l) ([⟨ao43, cp44, k ++ List.replicate ((blockOf h) + 1) 0⟩] : List (Sl UInt8)))) (List.flatMap (fun s : Sl UInt8 => s.l) ([⟨a_x, c_x, x⟩] : List (Sl UInt8)))) En712 (by kernel_rfl) rfl (by kernel_rfl) (by kernel_rfl) (by kernel_rfl) (Hv713.heap.reads (k := 0) rfl) (bys_vnz Hv713.heap (k := 0) rfl) ?_
   intro ac714 En715
   refine ⟨fun _ => Hv713.pk [], ?_⟩
   refine q_s [15,16] [(15, g_v (show (.bool (ByteArray.toList (bstr (macF h (k ++ List.replicate ((blockOf h) + 1) 0) (List.flatMap (fun s : Sl UInt8 => s.l) ([⟨a_x, c_x, x⟩] : List (Sl UInt8))))) == ByteArray.toList (bstr (macF h (sumF h (List.flatMap (fun s : Sl UInt8 => s.l) ([⟨ao43, cp44, k ++ List.replicate ((blockOf h) + 1) 0⟩] : List (Sl UInt8)))) (List.flatMap (fun s : Sl UInt8 => s.l) ([⟨a_x, c_x, x⟩] : List (Sl UInt8)))))) : Value) = .bool true by rw [Go.Dbr.bstr_eq (macF h (k ++ List.replicate ((blockOf h) + 1) 0) (List.flatMap (fun s : Sl UInt8 => s.l) ([⟨a_x, c_x, x⟩] : List (Sl UInt8)))) (macF h (sumF h (List.flatMap (fun s : Sl UInt8 => s.l) ([⟨ao43, cp44, k ++ List.replicate ((blockOf h) + 1) 0⟩] : List (Sl UInt8)))) (List.flatMap (fun s : Sl UInt8 => s.l) ([⟨a_x, c_x, x⟩] : List (Sl UInt8)))), show ((macF h (k ++ List.replicate ((blockOf h) + 1) 0) (List.flatMap (fun s : Sl UInt8 => s.l) ([⟨a_x, c_x, x⟩] : List (Sl UInt8)))) == (macF h (sumF h (List.flatMap (fun s : Sl UInt8 => s.l) ([⟨ao43, cp44, k ++ List.replicate ((blockOf h) + 1) 0⟩] : List (Sl UInt8)))) (List.flatMap (fun s : Sl UInt8 => s.l) ([⟨a_x, c_x, x⟩] : List (Sl UInt8))))) = true from (by simp [← long_same hh k x, ← List.append_assoc]; done)] <;> rfl))] 0 En715 (Hv713.pk []) fun ac716 En717 => ?_
   exact h_e ⟨En717.sb, Hv713.pk [3]⟩
  have nd718 : ∀ (ac : Act) (wo : World) (aoq398 : _) (coq398 : _) (aoq529 : _) (coq529 : _), Env ac 118 [(0, .int .i64 h), (1, .slice a_k (List.length k) c_k), (2, .slice a_x (List.length x) c_x), (3, .slice a_y (List.length y) c_y), (8, .bool false), (9, .bool true), (10, ni (blockOf h)), (12, .string (bstr (macF h k (List.flatMap (fun s : Sl UInt8 => s.l) ([⟨ao73, cp74, x ++ y⟩] : List (Sl UInt8)))))), (51, .slice aoq398 (List.length (macF h (k ++ List.replicate ((blockOf h) + 1) 0) (List.flatMap (fun s : Sl UInt8 => s.l) ([⟨a_x, c_x, x⟩] : List (Sl UInt8))))) coq398), (60, .slice aoq529 (List.length (macF h (sumF h (List.flatMap (fun s : Sl UInt8 => s.l) ([⟨ao43, cp44, k ++ List.replicate ((blockOf h) + 1) 0⟩] : List (Sl UInt8)))) (List.flatMap (fun s : Sl UInt8 => s.l) ([⟨a_x, c_x, x⟩] : List (Sl UInt8))))) coq529)] → Ev w [] wo [.vec aoq529 coq529 1 (bys (macF h (sumF h (List.flatMap (fun s : Sl UInt8 => s.l) ([⟨ao43, cp44, k ++ List.replicate ((blockOf h) + 1) 0⟩] : List (Sl UInt8)))) (List.flatMap (fun s : Sl UInt8 => s.l) ([⟨a_x, c_x, x⟩] : List (Sl UInt8))))) 5, .vec aoq398 coq398 1 (bys (macF h (k ++ List.replicate ((blockOf h) + 1) 0) (List.flatMap (fun s : Sl UInt8 => s.l) ([⟨a_x, c_x, x⟩] : List (Sl UInt8))))) 5, .vec ao43 cp44 1 (bys (k ++ List.replicate ((blockOf h) + 1) 0)) 5, .vec ao73 cp74 1 (bys (x ++ y)) 5] → G 4 #[true, true, true, true, true, false, true, true, true, true, true, true, true, true, false, false, false] ac wo := by
   intro ac719 wo720 aoq398 coq398 aoq529 coq529 En721 Hv722
   refine h_from hG ?_
   refine h_ways [5, 14] (by kernel_rfl) rfl ?_
   refine ⟨?_, ?_, trivial⟩
   ·
    rintro _ rfl
    refine op_str (d := some 52) (src := 23) (dst := 9) (e := 5) (ao := aoq398) (cap := coq398) (p := List.length (macF h (k ++ List.replicate ((blockOf h) + 1) 0) (List.flatMap (fun s : Sl UInt8 => s.l) ([⟨a_x, c_x, x⟩] : List (Sl UInt8))))) (bs := macF h (k ++ List.replicate ((blockOf h) + 1) 0) (List.flatMap (fun s : Sl UInt8 => s.l) ([⟨a_x, c_x, x⟩] : List (Sl UInt8)))) En721 (by kernel_rfl) rfl (by kernel_rfl) (by kernel_rfl) (by kernel_rfl) (Hv722.heap.reads (k := 1) rfl) (bys_vnz Hv722.heap (k := 1) rfl) ?_
    intro ac723 En724
    refine ⟨fun _ => Hv722.pk [], ?_⟩
    exact h_to hG (by kernel_rfl) (nd683 _ _ aoq529 coq529 (En724.sb) (Hv722.pk [0, 2, 3]))
   ·
    rintro _ rfl
    refine op_str (d := some 61) (src := 23) (dst := 9) (e := 5) (ao := aoq529) (cap := coq529) (p := List.length (macF h (sumF h (List.flatMap (fun s : Sl UInt8 => s.l) ([⟨ao43, cp44, k ++ List.replicate ((blockOf h) + 1) 0⟩] : List (Sl UInt8)))) (List.flatMap (fun s : Sl UInt8 => s.l) ([⟨a_x, c_x, x⟩] : List (Sl UInt8))))) (bs := macF h (sumF h (List.flatMap (fun s : Sl UInt8 => s.l) ([⟨ao43, cp44, k ++ List.replicate ((blockOf h) + 1) 0⟩] : List (Sl UInt8)))) (List.flatMap (fun s : Sl UInt8 => s.l) ([⟨a_x, c_x, x⟩] : List (Sl UInt8)))) En721 (by kernel_rfl) rfl (by kernel_rfl) (by kernel_rfl) (by kernel_rfl) (Hv722.heap.reads (k := 0) rfl) (bys_vnz Hv722.heap (k := 0) rfl) ?_
    intro ac725 En726
    refine ⟨fun _ => Hv722.pk [], ?_⟩
    exact h_to hG (by kernel_rfl) (nd692 _ _ aoq398 coq398 (En726.sb) (Hv722.pk [1, 2, 3]))
  have nd727 : ∀ (ac : Act) (wo : World) (aoq413 : _) (coq413 : _), Env ac 118 [(0, .int .i64 h), (1, .slice a_k (List.length k) c_k), (2, .slice a_x (List.length x) c_x), (3, .slice a_y (List.length y) c_y), (8, .bool false), (9, .bool true), (10, ni (blockOf h)), (12, .string (bstr (macF h k (List.flatMap (fun s : Sl UInt8 => s.l) ([⟨ao73, cp74, x ++ y⟩] : List (Sl UInt8)))))), (52, .string (bstr (macF h (k ++ List.replicate ((blockOf h) + 1) 0) (List.flatMap (fun s : Sl UInt8 => s.l) ([⟨a_x, c_x, x⟩] : List (Sl UInt8)))))), (53, .int .i64 h), (57, .slice aoq413 (List.length (sumF h (List.flatMap (fun s : Sl UInt8 => s.l) ([⟨ao43, cp44, k ++ List.replicate ((blockOf h) + 1) 0⟩] : List (Sl UInt8))))) coq413), (58, .slice a_x (List.length x) c_x)] → Ev w [] wo [.vec aoq413 coq413 1 (bys (sumF h (List.flatMap (fun s : Sl UInt8 => s.l) ([⟨ao43, cp44, k ++ List.replicate ((blockOf h) + 1) 0⟩] : List (Sl UInt8))))) 5, .vec ao43 cp44 1 (bys (k ++ List.replicate ((blockOf h) + 1) 0)) 5, .vec ao73 cp74 1 (bys (x ++ y)) 5] → G 5 #[true, true, true, true, true, true, true, true, true, true, true, true, false, false, false, false, false] ac wo := by
   intro ac728 wo729 aoq413 coq413 En730 Hv731
   refine h_from hG ?_
   refine q_t 12 ?_
   refine op_lit (d := some 59) (t := 30) (T := 23) (m := 1) (parts := #[(0, .slice a_x (List.length x) c_x)]) (xs := [.slice a_x (List.length x) c_x]) (sz := 1) En730 (by kernel_rfl) (by kernel_rfl) rfl (by decide) Hv731 ?_
   intro ac733 wo734 bk732 En735 Hv736
   refine ⟨fun _ => Hv736.pk [], ?_⟩
   refine q_t 13 ?_
   refine c_0 En735 Hv736 (macof_go _ h hh aoq413 (List.length (sumF h (List.flatMap (fun s : Sl UInt8 => s.l) ([⟨ao43, cp44, k ++ List.replicate ((blockOf h) + 1) 0⟩] : List (Sl UInt8))))) coq413 (sumF h (List.flatMap (fun s : Sl UInt8 => s.l) ([⟨ao43, cp44, k ++ List.replicate ((blockOf h) + 1) 0⟩] : List (Sl UInt8)))) (by first | rfl | (simp; done) | (simp; omega) | omega) (bys_in Hv736.heap (k := 0) rfl [] (by kernel_rfl) rfl (by first | omega | (simp; done) | (simp; omega))) (some ⟨bk732, 0, none⟩) 1 1 ([⟨a_x, c_x, x⟩] : List (Sl UInt8)) (by first | rfl | (simp; done) | (simp; omega) | omega) ⟨Hv736.heap.ro (k := 3) rfl [] (by kernel_rfl) rfl, (fun e => by cases e), (by simp), (by simp), (List.forall_mem_cons.2 ⟨((i_x.ev Hv736).pick [] (by kernel_rfl)), (fun x h => absurd h List.not_mem_nil)⟩)⟩ ((gk32.ev Hv736).pick [] (by kernel_rfl)) ((gk64.ev Hv736).pick [] (by kernel_rfl))) ?_
   rintro _ wo739 ⟨aoq737, coq737, rfl, he740⟩
   refine ⟨_, _, _, rfl, he740, rfl, fun ac742 En743 Hv744 => ?_⟩
   refine ⟨fun _ => Hv744.pk [], ?_⟩
   refine q_t 14 ?_
   refine op_str (d := some 61) (src := 23) (dst := 9) (e := 5) (ao := aoq737) (cap := coq737) (p := List.length (macF h (sumF h (List.flatMap (fun s : Sl UInt8 => s.l) ([⟨ao43, cp44, k ++ List.replicate ((blockOf h) + 1) 0⟩] : List (Sl UInt8)))) (List.flatMap (fun s : Sl UInt8 => s.l) ([⟨a_x, c_x, x⟩] : List (Sl UInt8))))) (bs := macF h (sumF h (List.flatMap (fun s : Sl UInt8 => s.l) ([⟨ao43, cp44, k ++ List.replicate ((blockOf h) + 1) 0⟩] : List (Sl UInt8)))) (List.flatMap (fun s : Sl UInt8 => s.l) ([⟨a_x, c_x, x⟩] : List (Sl UInt8)))) En743 (by kernel_rfl) rfl (by kernel_rfl) (by kernel_rfl) (by kernel_rfl) (Hv744.heap.reads (k := 0) rfl) (bys_vnz Hv744.heap (k := 0) rfl) ?_
   intro ac745 En746
   refine ⟨fun _ => Hv744.pk [], ?_⟩
   refine q_s [15,16] [(15, g_v (show (.bool (ByteArray.toList (bstr (macF h (k ++ List.replicate ((blockOf h) + 1) 0) (List.flatMap (fun s : Sl UInt8 => s.l) ([⟨a_x, c_x, x⟩] : List (Sl UInt8))))) == ByteArray.toList (bstr (macF h (sumF h (List.flatMap (fun s : Sl UInt8 => s.l) ([⟨ao43, cp44, k ++ List.replicate ((blockOf h) + 1) 0⟩] : List (Sl UInt8)))) (List.flatMap (fun s : Sl UInt8 => s.l) ([⟨a_x, c_x, x⟩] : List (Sl UInt8)))))) : Value) = .bool true by rw [Go.Dbr.bstr_eq (macF h (k ++ List.replicate ((blockOf h) + 1) 0) (List.flatMap (fun s : Sl UInt8 => s.l) ([⟨a_x, c_x, x⟩] : List (Sl UInt8)))) (macF h (sumF h (List.flatMap (fun s : Sl UInt8 => s.l) ([⟨ao43, cp44, k ++ List.replicate ((blockOf h) + 1) 0⟩] : List (Sl UInt8)))) (List.flatMap (fun s : Sl UInt8 => s.l) ([⟨a_x, c_x, x⟩] : List (Sl UInt8)))), show ((macF h (k ++ List.replicate ((blockOf h) + 1) 0) (List.flatMap (fun s : Sl UInt8 => s.l) ([⟨a_x, c_x, x⟩] : List (Sl UInt8)))) == (macF h (sumF h (List.flatMap (fun s : Sl UInt8 => s.l) ([⟨ao43, cp44, k ++ List.replicate ((blockOf h) + 1) 0⟩] : List (Sl UInt8)))) (List.flatMap (fun s : Sl UInt8 => s.l) ([⟨a_x, c_x, x⟩] : List (Sl UInt8))))) = true from (by simp [← long_same hh k x, ← List.append_assoc]; done)] <;> rfl))] 0 En746 (Hv744.pk []) fun ac747 En748 => ?_
   exact h_e ⟨En748.sb, Hv744.pk [3]⟩
  have nd749 : ∀ (ac : Act) (wo : World) (bk408 : Nat) (bk438 : Nat), Env ac 118 [(0, .int .i64 h), (1, .slice a_k (List.length k) c_k), (2, .slice a_x (List.length x) c_x), (3, .slice a_y (List.length y) c_y), (8, .bool false), (9, .bool true), (10, ni (blockOf h)), (12, .string (bstr (macF h k (List.flatMap (fun s : Sl UInt8 => s.l) ([⟨ao73, cp74, x ++ y⟩] : List (Sl UInt8)))))), (52, .string (bstr (macF h (k ++ List.replicate ((blockOf h) + 1) 0) (List.flatMap (fun s : Sl UInt8 => s.l) ([⟨a_x, c_x, x⟩] : List (Sl UInt8)))))), (53, .int .i64 h), (54, .int .i64 h), (56, .slice (some ⟨bk408, 0, none⟩) 1 1), (59, .slice (some ⟨bk438, 0, none⟩) 1 1)] → Ev w [] wo [.vec ao43 cp44 1 (bys (k ++ List.replicate ((blockOf h) + 1) 0)) 5, .vec ao73 cp74 1 (bys (x ++ y)) 5, .vec (some ⟨bk408, 0, none⟩) 1 1 [.slice ao43 (List.length (k ++ List.replicate ((blockOf h) + 1) 0)) cp44] 23, .vec (some ⟨bk438, 0, none⟩) 1 1 [.slice a_x (List.length x) c_x] 23] → G 5 #[true, true, true, true, true, true, true, true, true, true, false, true, true, false, false, false, false] ac wo := by
   intro ac750 wo751 bk408 bk438 En752 Hv753
   refine h_from hG ?_
   refine q_t 10 ?_
   refine c_0 En752 Hv753 (of_all _ h hh (some ⟨bk408, 0, none⟩) 1 1 ([⟨ao43, cp44, k ++ List.replicate ((blockOf h) + 1) 0⟩] : List (Sl UInt8)) (by first | rfl | (simp; done) | (simp; omega) | omega) ⟨Hv753.heap.ro (k := 2) rfl [] (by kernel_rfl) rfl, (fun e => by cases e), (by simp), (by simp), (List.forall_mem_cons.2 ⟨(bys_in Hv753.heap (k := 0) rfl [] (by kernel_rfl) rfl (by first | decide | (dsimp only; omega) | (simp; done) | (simp; omega) | omega)), (fun x h => absurd h List.not_mem_nil)⟩)⟩ ((gk32.ev Hv753).pick [] (by kernel_rfl)) ((gk64.ev Hv753).pick [] (by kernel_rfl))) ?_
   rintro _ wo756 ⟨aoq754, coq754, rfl, he757⟩
   refine ⟨_, _, _, rfl, he757, rfl, fun ac759 En760 Hv761 => ?_⟩
   refine ⟨fun _ => Hv761.pk [], ?_⟩
   refine q_t 13 ?_
   refine c_0 En760 Hv761 (macof_go _ h hh aoq754 (List.length (sumF h (List.flatMap (fun s : Sl UInt8 => s.l) ([⟨ao43, cp44, k ++ List.replicate ((blockOf h) + 1) 0⟩] : List (Sl UInt8))))) coq754 (sumF h (List.flatMap (fun s : Sl UInt8 => s.l) ([⟨ao43, cp44, k ++ List.replicate ((blockOf h) + 1) 0⟩] : List (Sl UInt8)))) (by first | rfl | (simp; done) | (simp; omega) | omega) (bys_in Hv761.heap (k := 0) rfl [] (by kernel_rfl) rfl (by first | omega | (simp; done) | (simp; omega))) (some ⟨bk438, 0, none⟩) 1 1 ([⟨a_x, c_x, x⟩] : List (Sl UInt8)) (by first | rfl | (simp; done) | (simp; omega) | omega) ⟨Hv761.heap.ro (k := 4) rfl [] (by kernel_rfl) rfl, (fun e => by cases e), (by simp), (by simp), (List.forall_mem_cons.2 ⟨((i_x.ev Hv761).pick [] (by kernel_rfl)), (fun x h => absurd h List.not_mem_nil)⟩)⟩ ((gk32.ev Hv761).pick [] (by kernel_rfl)) ((gk64.ev Hv761).pick [] (by kernel_rfl))) ?_
   rintro _ wo764 ⟨aoq762, coq762, rfl, he765⟩
   refine ⟨_, _, _, rfl, he765, rfl, fun ac767 En768 Hv769 => ?_⟩
   refine ⟨fun _ => Hv769.pk [], ?_⟩
   refine q_t 14 ?_
   refine op_str (d := some 61) (src := 23) (dst := 9) (e := 5) (ao := aoq762) (cap := coq762) (p := List.length (macF h (sumF h (List.flatMap (fun s : Sl UInt8 => s.l) ([⟨ao43, cp44, k ++ List.replicate ((blockOf h) + 1) 0⟩] : List (Sl UInt8)))) (List.flatMap (fun s : Sl UInt8 => s.l) ([⟨a_x, c_x, x⟩] : List (Sl UInt8))))) (bs := macF h (sumF h (List.flatMap (fun s : Sl UInt8 => s.l) ([⟨ao43, cp44, k ++ List.replicate ((blockOf h) + 1) 0⟩] : List (Sl UInt8)))) (List.flatMap (fun s : Sl UInt8 => s.l) ([⟨a_x, c_x, x⟩] : List (Sl UInt8)))) En768 (by kernel_rfl) rfl (by kernel_rfl) (by kernel_rfl) (by kernel_rfl) (Hv769.heap.reads (k := 0) rfl) (bys_vnz Hv769.heap (k := 0) rfl) ?_
   intro ac770 En771
   refine ⟨fun _ => Hv769.pk [], ?_⟩
   refine q_s [15,16] [(15, g_v (show (.bool (ByteArray.toList (bstr (macF h (k ++ List.replicate ((blockOf h) + 1) 0) (List.flatMap (fun s : Sl UInt8 => s.l) ([⟨a_x, c_x, x⟩] : List (Sl UInt8))))) == ByteArray.toList (bstr (macF h (sumF h (List.flatMap (fun s : Sl UInt8 => s.l) ([⟨ao43, cp44, k ++ List.replicate ((blockOf h) + 1) 0⟩] : List (Sl UInt8)))) (List.flatMap (fun s : Sl UInt8 => s.l) ([⟨a_x, c_x, x⟩] : List (Sl UInt8)))))) : Value) = .bool true by rw [Go.Dbr.bstr_eq (macF h (k ++ List.replicate ((blockOf h) + 1) 0) (List.flatMap (fun s : Sl UInt8 => s.l) ([⟨a_x, c_x, x⟩] : List (Sl UInt8)))) (macF h (sumF h (List.flatMap (fun s : Sl UInt8 => s.l) ([⟨ao43, cp44, k ++ List.replicate ((blockOf h) + 1) 0⟩] : List (Sl UInt8)))) (List.flatMap (fun s : Sl UInt8 => s.l) ([⟨a_x, c_x, x⟩] : List (Sl UInt8)))), show ((macF h (k ++ List.replicate ((blockOf h) + 1) 0) (List.flatMap (fun s : Sl UInt8 => s.l) ([⟨a_x, c_x, x⟩] : List (Sl UInt8)))) == (macF h (sumF h (List.flatMap (fun s : Sl UInt8 => s.l) ([⟨ao43, cp44, k ++ List.replicate ((blockOf h) + 1) 0⟩] : List (Sl UInt8)))) (List.flatMap (fun s : Sl UInt8 => s.l) ([⟨a_x, c_x, x⟩] : List (Sl UInt8))))) = true from (by simp [← long_same hh k x, ← List.append_assoc]; done)] <;> rfl))] 0 En771 (Hv769.pk []) fun ac772 En773 => ?_
   exact h_e ⟨En773.sb, Hv769.pk [3]⟩
  have nd774 : ∀ (ac : Act) (wo : World) (aoq398 : _) (coq398 : _) (aoq500 : _) (coq500 : _) (bk510 : Nat), Env ac 118 [(0, .int .i64 h), (1, .slice a_k (List.length k) c_k), (2, .slice a_x (List.length x) c_x), (3, .slice a_y (List.length y) c_y), (8, .bool false), (9, .bool true), (10, ni (blockOf h)), (12, .string (bstr (macF h k (List.flatMap (fun s : Sl UInt8 => s.l) ([⟨ao73, cp74, x ++ y⟩] : List (Sl UInt8)))))), (51, .slice aoq398 (List.length (macF h (k ++ List.replicate ((blockOf h) + 1) 0) (List.flatMap (fun s : Sl UInt8 => s.l) ([⟨a_x, c_x, x⟩] : List (Sl UInt8))))) coq398), (53, .int .i64 h), (57, .slice aoq500 (List.length (sumF h (List.flatMap (fun s : Sl UInt8 => s.l) ([⟨ao43, cp44, k ++ List.replicate ((blockOf h) + 1) 0⟩] : List (Sl UInt8))))) coq500), (59, .slice (some ⟨bk510, 0, none⟩) 1 1)] → Ev w [] wo [.vec aoq500 coq500 1 (bys (sumF h (List.flatMap (fun s : Sl UInt8 => s.l) ([⟨ao43, cp44, k ++ List.replicate ((blockOf h) + 1) 0⟩] : List (Sl UInt8))))) 5, .vec aoq398 coq398 1 (bys (macF h (k ++ List.replicate ((blockOf h) + 1) 0) (List.flatMap (fun s : Sl UInt8 => s.l) ([⟨a_x, c_x, x⟩] : List (Sl UInt8))))) 5, .vec ao43 cp44 1 (bys (k ++ List.replicate ((blockOf h) + 1) 0)) 5, .vec ao73 cp74 1 (bys (x ++ y)) 5, .vec (some ⟨bk510, 0, none⟩) 1 1 [.slice a_x (List.length x) c_x] 23] → G 5 #[true, true, true, true, true, false, true, true, true, true, true, true, true, false, false, false, false] ac wo := by
   intro ac775 wo776 aoq398 coq398 aoq500 coq500 bk510 En777 Hv778
   refine h_from hG ?_
   refine h_ways [5, 13] (by kernel_rfl) rfl ?_
   refine ⟨?_, ?_, trivial⟩
   ·
    rintro _ rfl
    refine op_str (d := some 52) (src := 23) (dst := 9) (e := 5) (ao := aoq398) (cap := coq398) (p := List.length (macF h (k ++ List.replicate ((blockOf h) + 1) 0) (List.flatMap (fun s : Sl UInt8 => s.l) ([⟨a_x, c_x, x⟩] : List (Sl UInt8))))) (bs := macF h (k ++ List.replicate ((blockOf h) + 1) 0) (List.flatMap (fun s : Sl UInt8 => s.l) ([⟨a_x, c_x, x⟩] : List (Sl UInt8)))) En777 (by kernel_rfl) rfl (by kernel_rfl) (by kernel_rfl) (by kernel_rfl) (Hv778.heap.reads (k := 1) rfl) (bys_vnz Hv778.heap (k := 1) rfl) ?_
    intro ac779 En780
    refine ⟨fun _ => Hv778.pk [], ?_⟩
    exact h_to hG (by kernel_rfl) (nd701 _ _ aoq500 coq500 bk510 (En780.sb) (Hv778.pk [0, 2, 3, 4]))
   ·
    rintro _ rfl
    refine c_0 En777 Hv778 (macof_go _ h hh aoq500 (List.length (sumF h (List.flatMap (fun s : Sl UInt8 => s.l) ([⟨ao43, cp44, k ++ List.replicate ((blockOf h) + 1) 0⟩] : List (Sl UInt8))))) coq500 (sumF h (List.flatMap (fun s : Sl UInt8 => s.l) ([⟨ao43, cp44, k ++ List.replicate ((blockOf h) + 1) 0⟩] : List (Sl UInt8)))) (by first | rfl | (simp; done) | (simp; omega) | omega) (bys_in Hv778.heap (k := 0) rfl [] (by kernel_rfl) rfl (by first | omega | (simp; done) | (simp; omega))) (some ⟨bk510, 0, none⟩) 1 1 ([⟨a_x, c_x, x⟩] : List (Sl UInt8)) (by first | rfl | (simp; done) | (simp; omega) | omega) ⟨Hv778.heap.ro (k := 4) rfl [] (by kernel_rfl) rfl, (fun e => by cases e), (by simp), (by simp), (List.forall_mem_cons.2 ⟨((i_x.ev Hv778).pick [] (by kernel_rfl)), (fun x h => absurd h List.not_mem_nil)⟩)⟩ ((gk32.ev Hv778).pick [] (by kernel_rfl)) ((gk64.ev Hv778).pick [] (by kernel_rfl))) ?_
    rintro _ wo783 ⟨aoq781, coq781, rfl, he784⟩
    refine ⟨_, _, _, rfl, he784, rfl, fun ac786 En787 Hv788 => ?_⟩
    refine ⟨fun _ => Hv788.pk [], ?_⟩
    exact h_to hG (by kernel_rfl) (nd718 _ _ aoq398 coq398 aoq781 coq781 (En787.sb) (Hv788.pk [0, 2, 3, 4]))
  have nd789 : ∀ (ac : Act) (wo : World) (bk408 : Nat), Env ac 118 [(0, .int .i64 h), (1, .slice a_k (List.length k) c_k), (2, .slice a_x (List.length x) c_x), (3, .slice a_y (List.length y) c_y), (8, .bool false), (9, .bool true), (10, ni (blockOf h)), (12, .string (bstr (macF h k (List.flatMap (fun s : Sl UInt8 => s.l) ([⟨ao73, cp74, x ++ y⟩] : List (Sl UInt8)))))), (52, .string (bstr (macF h (k ++ List.replicate ((blockOf h) + 1) 0) (List.flatMap (fun s : Sl UInt8 => s.l) ([⟨a_x, c_x, x⟩] : List (Sl UInt8)))))), (53, .int .i64 h), (54, .int .i64 h), (56, .slice (some ⟨bk408, 0, none⟩) 1 1), (58, .slice a_x (List.length x) c_x)] → Ev w [] wo [.vec ao43 cp44 1 (bys (k ++ List.replicate ((blockOf h) + 1) 0)) 5, .vec ao73 cp74 1 (bys (x ++ y)) 5, .vec (some ⟨bk408, 0, none⟩) 1 1 [.slice ao43 (List.length (k ++ List.replicate ((blockOf h) + 1) 0)) cp44] 23] → G 6 #[true, true, true, true, true, true, true, true, true, true, false, true, false, false, false, false, false] ac wo := by
   intro ac790 wo791 bk408 En792 Hv793
   refine h_from hG ?_
   refine h_ways [10, 12] (by kernel_rfl) rfl ?_
   refine ⟨?_, ?_, trivial⟩
   ·
    rintro _ rfl
    refine c_0 En792 Hv793 (of_all _ h hh (some ⟨bk408, 0, none⟩) 1 1 ([⟨ao43, cp44, k ++ List.replicate ((blockOf h) + 1) 0⟩] : List (Sl UInt8)) (by first | rfl | (simp; done) | (simp; omega) | omega) ⟨Hv793.heap.ro (k := 2) rfl [] (by kernel_rfl) rfl, (fun e => by cases e), (by simp), (by simp), (List.forall_mem_cons.2 ⟨(bys_in Hv793.heap (k := 0) rfl [] (by kernel_rfl) rfl (by first | decide | (dsimp only; omega) | (simp; done) | (simp; omega) | omega)), (fun x h => absurd h List.not_mem_nil)⟩)⟩ ((gk32.ev Hv793).pick [] (by kernel_rfl)) ((gk64.ev Hv793).pick [] (by kernel_rfl))) ?_
    rintro _ wo796 ⟨aoq794, coq794, rfl, he797⟩
    refine ⟨_, _, _, rfl, he797, rfl, fun ac799 En800 Hv801 => ?_⟩
    refine ⟨fun _ => Hv801.pk [], ?_⟩
    exact h_to hG (by kernel_rfl) (nd727 _ _ aoq794 coq794 (En800.sb) (Hv801.pk [0, 1, 2]))
   ·
    rintro _ rfl
    refine op_lit (d := some 59) (t := 30) (T := 23) (m := 1) (parts := #[(0, .slice a_x (List.length x) c_x)]) (xs := [.slice a_x (List.length x) c_x]) (sz := 1) En792 (by kernel_rfl) (by kernel_rfl) rfl (by decide) Hv793 ?_
    intro ac803 wo804 bk802 En805 Hv806
    refine ⟨fun _ => Hv806.pk [], ?_⟩
    exact h_to hG (by kernel_rfl) (nd749 _ _ bk408 bk802 (En805.sb) (Hv806.pk [0, 1, 2, 3]))
  have nd807 : ∀ (ac : Act) (wo : World) (bk463 : Nat), Env ac 118 [(0, .int .i64 h), (1, .slice a_k (List.length k) c_k), (2, .slice a_x (List.length x) c_x), (3, .slice a_y (List.length y) c_y), (8, .bool false), (9, .bool true), (10, ni (blockOf h)), (12, .string (bstr (macF h k (List.flatMap (fun s : Sl UInt8 => s.l) ([⟨ao73, cp74, x ++ y⟩] : List (Sl UInt8)))))), (52, .string (bstr (macF h (k ++ List.replicate ((blockOf h) + 1) 0) (List.flatMap (fun s : Sl UInt8 => s.l) ([⟨a_x, c_x, x⟩] : List (Sl UInt8)))))), (53, .int .i64 h), (54, .int .i64 h), (55, .slice ao43 (List.length (k ++ List.replicate ((blockOf h) + 1) 0)) cp44), (59, .slice (some ⟨bk463, 0, none⟩) 1 1)] → Ev w [] wo [.vec ao43 cp44 1 (bys (k ++ List.replicate ((blockOf h) + 1) 0)) 5, .vec ao73 cp74 1 (bys (x ++ y)) 5, .vec (some ⟨bk463, 0, none⟩) 1 1 [.slice a_x (List.length x) c_x] 23] → G 6 #[true, true, true, true, true, true, true, true, true, false, false, true, true, false, false, false, false] ac wo := by
   intro ac808 wo809 bk463 En810 Hv811
   refine h_from hG ?_
   refine q_t 9 ?_
   refine op_lit (d := some 56) (t := 30) (T := 23) (m := 1) (parts := #[(0, .slice ao43 (List.length (k ++ List.replicate ((blockOf h) + 1) 0)) cp44)]) (xs := [.slice ao43 (List.length (k ++ List.replicate ((blockOf h) + 1) 0)) cp44]) (sz := 1) En810 (by kernel_rfl) (by kernel_rfl) rfl (by decide) Hv811 ?_
   intro ac813 wo814 bk812 En815 Hv816
   refine ⟨fun _ => Hv816.pk [], ?_⟩
   refine q_t 10 ?_
   refine c_0 En815 Hv816 (of_all _ h hh (some ⟨bk812, 0, none⟩) 1 1 ([⟨ao43, cp44, k ++ List.replicate ((blockOf h) + 1) 0⟩] : List (Sl UInt8)) (by first | rfl | (simp; done) | (simp; omega) | omega) ⟨Hv816.heap.ro (k := 3) rfl [] (by kernel_rfl) rfl, (fun e => by cases e), (by simp), (by simp), (List.forall_mem_cons.2 ⟨(bys_in Hv816.heap (k := 0) rfl [] (by kernel_rfl) rfl (by first | decide | (dsimp only; omega) | (simp; done) | (simp; omega) | omega)), (fun x h => absurd h List.not_mem_nil)⟩)⟩ ((gk32.ev Hv816).pick [] (by kernel_rfl)) ((gk64.ev Hv816).pick [] (by kernel_rfl))) ?_
   rintro _ wo819 ⟨aoq817, coq817, rfl, he820⟩
   refine ⟨_, _, _, rfl, he820, rfl, fun ac822 En823 Hv824 => ?_⟩
   refine ⟨fun _ => Hv824.pk [], ?_⟩
   refine q_t 13 ?_
   refine c_0 En823 Hv824 (macof_go _ h hh aoq817 (List.length (sumF h (List.flatMap (fun s : Sl UInt8 => s.l) ([⟨ao43, cp44, k ++ List.replicate ((blockOf h) + 1) 0⟩] : List (Sl UInt8))))) coq817 (sumF h (List.flatMap (fun s : Sl UInt8 => s.l) ([⟨ao43, cp44, k ++ List.replicate ((blockOf h) + 1) 0⟩] : List (Sl UInt8)))) (by first | rfl | (simp; done) | (simp; omega) | omega) (bys_in Hv824.heap (k := 0) rfl [] (by kernel_rfl) rfl (by first | omega | (simp; done) | (simp; omega))) (some ⟨bk463, 0, none⟩) 1 1 ([⟨a_x, c_x, x⟩] : List (Sl UInt8)) (by first | rfl | (simp; done) | (simp; omega) | omega) ⟨Hv824.heap.ro (k := 3) rfl [] (by kernel_rfl) rfl, (fun e => by cases e), (by simp), (by simp), (List.forall_mem_cons.2 ⟨((i_x.ev Hv824).pick [] (by kernel_rfl)), (fun x h => absurd h List.not_mem_nil)⟩)⟩ ((gk32.ev Hv824).pick [] (by kernel_rfl)) ((gk64.ev Hv824).pick [] (by kernel_rfl))) ?_
   rintro _ wo827 ⟨aoq825, coq825, rfl, he828⟩
   refine ⟨_, _, _, rfl, he828, rfl, fun ac830 En831 Hv832 => ?_⟩
   refine ⟨fun _ => Hv832.pk [], ?_⟩
   refine q_t 14 ?_
   refine op_str (d := some 61) (src := 23) (dst := 9) (e := 5) (ao := aoq825) (cap := coq825) (p := List.length (macF h (sumF h (List.flatMap (fun s : Sl UInt8 => s.l) ([⟨ao43, cp44, k ++ List.replicate ((blockOf h) + 1) 0⟩] : List (Sl UInt8)))) (List.flatMap (fun s : Sl UInt8 => s.l) ([⟨a_x, c_x, x⟩] : List (Sl UInt8))))) (bs := macF h (sumF h (List.flatMap (fun s : Sl UInt8 => s.l) ([⟨ao43, cp44, k ++ List.replicate ((blockOf h) + 1) 0⟩] : List (Sl UInt8)))) (List.flatMap (fun s : Sl UInt8 => s.l) ([⟨a_x, c_x, x⟩] : List (Sl UInt8)))) En831 (by kernel_rfl) rfl (by kernel_rfl) (by kernel_rfl) (by kernel_rfl) (Hv832.heap.reads (k := 0) rfl) (bys_vnz Hv832.heap (k := 0) rfl) ?_
   intro ac833 En834
   refine ⟨fun _ => Hv832.pk [], ?_⟩
   refine q_s [15,16] [(15, g_v (show (.bool (ByteArray.toList (bstr (macF h (k ++ List.replicate ((blockOf h) + 1) 0) (List.flatMap (fun s : Sl UInt8 => s.l) ([⟨a_x, c_x, x⟩] : List (Sl UInt8))))) == ByteArray.toList (bstr (macF h (sumF h (List.flatMap (fun s : Sl UInt8 => s.l) ([⟨ao43, cp44, k ++ List.replicate ((blockOf h) + 1) 0⟩] : List (Sl UInt8)))) (List.flatMap (fun s : Sl UInt8 => s.l) ([⟨a_x, c_x, x⟩] : List (Sl UInt8)))))) : Value) = .bool true by rw [Go.Dbr.bstr_eq (macF h (k ++ List.replicate ((blockOf h) + 1) 0) (List.flatMap (fun s : Sl UInt8 => s.l) ([⟨a_x, c_x, x⟩] : List (Sl UInt8)))) (macF h (sumF h (List.flatMap (fun s : Sl UInt8 => s.l) ([⟨ao43, cp44, k ++ List.replicate ((blockOf h) + 1) 0⟩] : List (Sl UInt8)))) (List.flatMap (fun s : Sl UInt8 => s.l) ([⟨a_x, c_x, x⟩] : List (Sl UInt8)))), show ((macF h (k ++ List.replicate ((blockOf h) + 1) 0) (List.flatMap (fun s : Sl UInt8 => s.l) ([⟨a_x, c_x, x⟩] : List (Sl UInt8)))) == (macF h (sumF h (List.flatMap (fun s : Sl UInt8 => s.l) ([⟨ao43, cp44, k ++ List.replicate ((blockOf h) + 1) 0⟩] : List (Sl UInt8)))) (List.flatMap (fun s : Sl UInt8 => s.l) ([⟨a_x, c_x, x⟩] : List (Sl UInt8))))) = true from (by simp [← long_same hh k x, ← List.append_assoc]; done)] <;> rfl))] 0 En834 (Hv832.pk []) fun ac835 En836 => ?_
   exact h_e ⟨En836.sb, Hv832.pk [3]⟩
  have nd837 : ∀ (ac : Act) (wo : World) (aoq398 : _) (coq398 : _) (aoq500 : _) (coq500 : _), Env ac 118 [(0, .int .i64 h), (1, .slice a_k (List.length k) c_k), (2, .slice a_x (List.length x) c_x), (3, .slice a_y (List.length y) c_y), (8, .bool false), (9, .bool true), (10, ni (blockOf h)), (12, .string (bstr (macF h k (List.flatMap (fun s : Sl UInt8 => s.l) ([⟨ao73, cp74, x ++ y⟩] : List (Sl UInt8)))))), (51, .slice aoq398 (List.length (macF h (k ++ List.replicate ((blockOf h) + 1) 0) (List.flatMap (fun s : Sl UInt8 => s.l) ([⟨a_x, c_x, x⟩] : List (Sl UInt8))))) coq398), (53, .int .i64 h), (57, .slice aoq500 (List.length (sumF h (List.flatMap (fun s : Sl UInt8 => s.l) ([⟨ao43, cp44, k ++ List.replicate ((blockOf h) + 1) 0⟩] : List (Sl UInt8))))) coq500), (58, .slice a_x (List.length x) c_x)] → Ev w [] wo [.vec aoq500 coq500 1 (bys (sumF h (List.flatMap (fun s : Sl UInt8 => s.l) ([⟨ao43, cp44, k ++ List.replicate ((blockOf h) + 1) 0⟩] : List (Sl UInt8))))) 5, .vec aoq398 coq398 1 (bys (macF h (k ++ List.replicate ((blockOf h) + 1) 0) (List.flatMap (fun s : Sl UInt8 => s.l) ([⟨a_x, c_x, x⟩] : List (Sl UInt8))))) 5, .vec ao43 cp44 1 (bys (k ++ List.replicate ((blockOf h) + 1) 0)) 5, .vec ao73 cp74 1 (bys (x ++ y)) 5] → G 6 #[true, true, true, true, true, false, true, true, true, true, true, true, false, false, false, false, false] ac wo := by
   intro ac838 wo839 aoq398 coq398 aoq500 coq500 En840 Hv841
   refine h_from hG ?_
   refine h_ways [5, 12] (by kernel_rfl) rfl ?_
   refine ⟨?_, ?_, trivial⟩
   ·
    rintro _ rfl
    refine op_str (d := some 52) (src := 23) (dst := 9) (e := 5) (ao := aoq398) (cap := coq398) (p := List.length (macF h (k ++ List.replicate ((blockOf h) + 1) 0) (List.flatMap (fun s : Sl UInt8 => s.l) ([⟨a_x, c_x, x⟩] : List (Sl UInt8))))) (bs := macF h (k ++ List.replicate ((blockOf h) + 1) 0) (List.flatMap (fun s : Sl UInt8 => s.l) ([⟨a_x, c_x, x⟩] : List (Sl UInt8)))) En840 (by kernel_rfl) rfl (by kernel_rfl) (by kernel_rfl) (by kernel_rfl) (Hv841.heap.reads (k := 1) rfl) (bys_vnz Hv841.heap (k := 1) rfl) ?_
    intro ac842 En843
    refine ⟨fun _ => Hv841.pk [], ?_⟩
    exact h_to hG (by kernel_rfl) (nd727 _ _ aoq500 coq500 (En843.sb) (Hv841.pk [0, 2, 3]))
   ·
    rintro _ rfl
    refine op_lit (d := some 59) (t := 30) (T := 23) (m := 1) (parts := #[(0, .slice a_x (List.length x) c_x)]) (xs := [.slice a_x (List.length x) c_x]) (sz := 1) En840 (by kernel_rfl) (by kernel_rfl) rfl (by decide) Hv841 ?_
    intro ac845 wo846 bk844 En847 Hv848
    refine ⟨fun _ => Hv848.pk [], ?_⟩
    exact h_to hG (by kernel_rfl) (nd774 _ _ aoq398 coq398 aoq500 coq500 bk844 (En847.sb) (Hv848.pk [0, 1, 2, 3, 4]))
  have nd849 : ∀ (ac : Act) (wo : World) (aoq398 : _) (coq398 : _) (bk493 : Nat) (bk549 : Nat), Env ac 118 [(0, .int .i64 h), (1, .slice a_k (List.length k) c_k), (2, .slice a_x (List.length x) c_x), (3, .slice a_y (List.length y) c_y), (8, .bool false), (9, .bool true), (10, ni (blockOf h)), (12, .string (bstr (macF h k (List.flatMap (fun s : Sl UInt8 => s.l) ([⟨ao73, cp74, x ++ y⟩] : List (Sl UInt8)))))), (51, .slice aoq398 (List.length (macF h (k ++ List.replicate ((blockOf h) + 1) 0) (List.flatMap (fun s : Sl UInt8 => s.l) ([⟨a_x, c_x, x⟩] : List (Sl UInt8))))) coq398), (53, .int .i64 h), (54, .int .i64 h), (56, .slice (some ⟨bk493, 0, none⟩) 1 1), (59, .slice (some ⟨bk549, 0, none⟩) 1 1)] → Ev w [] wo [.vec aoq398 coq398 1 (bys (macF h (k ++ List.replicate ((blockOf h) + 1) 0) (List.flatMap (fun s : Sl UInt8 => s.l) ([⟨a_x, c_x, x⟩] : List (Sl UInt8))))) 5, .vec ao43 cp44 1 (bys (k ++ List.replicate ((blockOf h) + 1) 0)) 5, .vec ao73 cp74 1 (bys (x ++ y)) 5, .vec (some ⟨bk493, 0, none⟩) 1 1 [.slice ao43 (List.length (k ++ List.replicate ((blockOf h) + 1) 0)) cp44] 23, .vec (some ⟨bk549, 0, none⟩) 1 1 [.slice a_x (List.length x) c_x] 23] → G 6 #[true, true, true, true, true, false, true, true, true, true, false, true, true, false, false, false, false] ac wo := by
   intro ac850 wo851 aoq398 coq398 bk493 bk549 En852 Hv853
   refine h_from hG ?_
   refine h_ways [5, 10] (by kernel_rfl) rfl ?_
   refine ⟨?_, ?_, trivial⟩
   ·
    rintro _ rfl
    refine op_str (d := some 52) (src := 23) (dst := 9) (e := 5) (ao := aoq398) (cap := coq398) (p := List.length (macF h (k ++ List.replicate ((blockOf h) + 1) 0) (List.flatMap (fun s : Sl UInt8 => s.l) ([⟨a_x, c_x, x⟩] : List (Sl UInt8))))) (bs := macF h (k ++ List.replicate ((blockOf h) + 1) 0) (List.flatMap (fun s : Sl UInt8 => s.l) ([⟨a_x, c_x, x⟩] : List (Sl UInt8)))) En852 (by kernel_rfl) rfl (by kernel_rfl) (by kernel_rfl) (by kernel_rfl) (Hv853.heap.reads (k := 0) rfl) (bys_vnz Hv853.heap (k := 0) rfl) ?_
    intro ac854 En855
    refine ⟨fun _ => Hv853.pk [], ?_⟩
    exact h_to hG (by kernel_rfl) (nd749 _ _ bk493 bk549 (En855.sb) (Hv853.pk [1, 2, 3, 4]))
   ·
    rintro _ rfl
    refine c_0 En852 Hv853 (of_all _ h hh (some ⟨bk493, 0, none⟩) 1 1 ([⟨ao43, cp44, k ++ List.replicate ((blockOf h) + 1) 0⟩] : List (Sl UInt8)) (by first | rfl | (simp; done) | (simp; omega) | omega) ⟨Hv853.heap.ro (k := 3) rfl [] (by kernel_rfl) rfl, (fun e => by cases e), (by simp), (by simp), (List.forall_mem_cons.2 ⟨(bys_in Hv853.heap (k := 1) rfl [] (by kernel_rfl) rfl (by first | decide | (dsimp only; omega) | (simp; done) | (simp; omega) | omega)), (fun x h => absurd h List.not_mem_nil)⟩)⟩ ((gk32.ev Hv853).pick [] (by kernel_rfl)) ((gk64.ev Hv853).pick [] (by kernel_rfl))) ?_
    rintro _ wo858 ⟨aoq856, coq856, rfl, he859⟩
    refine ⟨_, _, _, rfl, he859, rfl, fun ac861 En862 Hv863 => ?_⟩
    refine ⟨fun _ => Hv863.pk [], ?_⟩
    exact h_to hG (by kernel_rfl) (nd774 _ _ aoq398 coq398 aoq856 coq856 bk549 (En862.sb) (Hv863.pk [0, 1, 2, 3, 5]))
  have nd864 : ∀ (ac : Act) (wo : World), Env ac 118 [(0, .int .i64 h), (1, .slice a_k (List.length k) c_k), (2, .slice a_x (List.length x) c_x), (3, .slice a_y (List.length y) c_y), (8, .bool false), (9, .bool true), (10, ni (blockOf h)), (12, .string (bstr (macF h k (List.flatMap (fun s : Sl UInt8 => s.l) ([⟨ao73, cp74, x ++ y⟩] : List (Sl UInt8)))))), (52, .string (bstr (macF h (k ++ List.replicate ((blockOf h) + 1) 0) (List.flatMap (fun s : Sl UInt8 => s.l) ([⟨a_x, c_x, x⟩] : List (Sl UInt8)))))), (53, .int .i64 h), (54, .int .i64 h), (55, .slice ao43 (List.length (k ++ List.replicate ((blockOf h) + 1) 0)) cp44), (58, .slice a_x (List.length x) c_x)] → Ev w [] wo [.vec ao43 cp44 1 (bys (k ++ List.replicate ((blockOf h) + 1) 0)) 5, .vec ao73 cp74 1 (bys (x ++ y)) 5] → G 7 #[true, true, true, true, true, true, true, true, true, false, false, true, false, false, false, false, false] ac wo := by
   intro ac865 wo866 En867 Hv868
   refine h_from hG ?_
   refine h_ways [9, 12] (by kernel_rfl) rfl ?_
   refine ⟨?_, ?_, trivial⟩
   ·
    rintro _ rfl
    refine op_lit (d := some 56) (t := 30) (T := 23) (m := 1) (parts := #[(0, .slice ao43 (List.length (k ++ List.replicate ((blockOf h) + 1) 0)) cp44)]) (xs := [.slice ao43 (List.length (k ++ List.replicate ((blockOf h) + 1) 0)) cp44]) (sz := 1) En867 (by kernel_rfl) (by kernel_rfl) rfl (by decide) Hv868 ?_
    intro ac870 wo871 bk869 En872 Hv873
    refine ⟨fun _ => Hv873.pk [], ?_⟩
    exact h_to hG (by kernel_rfl) (nd789 _ _ bk869 (En872.sb) (Hv873.pk [0, 1, 2]))
   ·
    rintro _ rfl
    refine op_lit (d := some 59) (t := 30) (T := 23) (m := 1) (parts := #[(0, .slice a_x (List.length x) c_x)]) (xs := [.slice a_x (List.length x) c_x]) (sz := 1) En867 (by kernel_rfl) (by kernel_rfl) rfl (by decide) Hv868 ?_
    intro ac875 wo876 bk874 En877 Hv878
    refine ⟨fun _ => Hv878.pk [], ?_⟩
    exact h_to hG (by kernel_rfl) (nd807 _ _ bk874 (En877.sb) (Hv878.pk [0, 1, 2]))
  have nd879 : ∀ (ac : Act) (wo : World) (aoq398 : _) (coq398 : _) (bk493 : Nat), Env ac 118 [(0, .int .i64 h), (1, .slice a_k (List.length k) c_k), (2, .slice a_x (List.length x) c_x), (3, .slice a_y (List.length y) c_y), (8, .bool false), (9, .bool true), (10, ni (blockOf h)), (12, .string (bstr (macF h k (List.flatMap (fun s : Sl UInt8 => s.l) ([⟨ao73, cp74, x ++ y⟩] : List (Sl UInt8)))))), (51, .slice aoq398 (List.length (macF h (k ++ List.replicate ((blockOf h) + 1) 0) (List.flatMap (fun s : Sl UInt8 => s.l) ([⟨a_x, c_x, x⟩] : List (Sl UInt8))))) coq398), (53, .int .i64 h), (54, .int .i64 h), (56, .slice (some ⟨bk493, 0, none⟩) 1 1), (58, .slice a_x (List.length x) c_x)] → Ev w [] wo [.vec aoq398 coq398 1 (bys (macF h (k ++ List.replicate ((blockOf h) + 1) 0) (List.flatMap (fun s : Sl UInt8 => s.l) ([⟨a_x, c_x, x⟩] : List (Sl UInt8))))) 5, .vec ao43 cp44 1 (bys (k ++ List.replicate ((blockOf h) + 1) 0)) 5, .vec ao73 cp74 1 (bys (x ++ y)) 5, .vec (some ⟨bk493, 0, none⟩) 1 1 [.slice ao43 (List.length (k ++ List.replicate ((blockOf h) + 1) 0)) cp44] 23] → G 7 #[true, true, true, true, true, false, true, true, true, true, false, true, false, false, false, false, false] ac wo := by
   intro ac880 wo881 aoq398 coq398 bk493 En882 Hv883
   refine h_from hG ?_
   refine h_ways [5, 10, 12] (by kernel_rfl) rfl ?_
   refine ⟨?_, ?_, ?_, trivial⟩
   ·
    rintro _ rfl
    refine op_str (d := some 52) (src := 23) (dst := 9) (e := 5) (ao := aoq398) (cap := coq398) (p := List.length (macF h (k ++ List.replicate ((blockOf h) + 1) 0) (List.flatMap (fun s : Sl UInt8 => s.l) ([⟨a_x, c_x, x⟩] : List (Sl UInt8))))) (bs := macF h (k ++ List.replicate ((blockOf h) + 1) 0) (List.flatMap (fun s : Sl UInt8 => s.l) ([⟨a_x, c_x, x⟩] : List (Sl UInt8)))) En882 (by kernel_rfl) rfl (by kernel_rfl) (by kernel_rfl) (by kernel_rfl) (Hv883.heap.reads (k := 0) rfl) (bys_vnz Hv883.heap (k := 0) rfl) ?_
    intro ac884 En885
    refine ⟨fun _ => Hv883.pk [], ?_⟩
    exact h_to hG (by kernel_rfl) (nd789 _ _ bk493 (En885.sb) (Hv883.pk [1, 2, 3]))
   ·
    rintro _ rfl
    refine c_0 En882 Hv883 (of_all _ h hh (some ⟨bk493, 0, none⟩) 1 1 ([⟨ao43, cp44, k ++ List.replicate ((blockOf h) + 1) 0⟩] : List (Sl UInt8)) (by first | rfl | (simp; done) | (simp; omega) | omega) ⟨Hv883.heap.ro (k := 3) rfl [] (by kernel_rfl) rfl, (fun e => by cases e), (by simp), (by simp), (List.forall_mem_cons.2 ⟨(bys_in Hv883.heap (k := 1) rfl [] (by kernel_rfl) rfl (by first | decide | (dsimp only; omega) | (simp; done) | (simp; omega) | omega)), (fun x h => absurd h List.not_mem_nil)⟩)⟩ ((gk32.ev Hv883).pick [] (by kernel_rfl)) ((gk64.ev Hv883).pick [] (by kernel_rfl))) ?_
    rintro _ wo888 ⟨aoq886, coq886, rfl, he889⟩
    refine ⟨_, _, _, rfl, he889, rfl, fun ac891 En892 Hv893 => ?_⟩
    refine ⟨fun _ => Hv893.pk [], ?_⟩
    exact h_to hG (by kernel_rfl) (nd837 _ _ aoq398 coq398 aoq886 coq886 (En892.sb) (Hv893.pk [0, 1, 2, 3]))
   ·
    rintro _ rfl
    refine op_lit (d := some 59) (t := 30) (T := 23) (m := 1) (parts := #[(0, .slice a_x (List.length x) c_x)]) (xs := [.slice a_x (List.length x) c_x]) (sz := 1) En882 (by kernel_rfl) (by kernel_rfl) rfl (by decide) Hv883 ?_
    intro ac895 wo896 bk894 En897 Hv898
    refine ⟨fun _ => Hv898.pk [], ?_⟩
    exact h_to hG (by kernel_rfl) (nd849 _ _ aoq398 coq398 bk493 bk894 (En897.sb) (Hv898.pk [0, 1, 2, 3, 4]))
  have nd899 : ∀ (ac : Act) (wo : World) (aoq398 : _) (coq398 : _) (bk564 : Nat), Env ac 118 [(0, .int .i64 h), (1, .slice a_k (List.length k) c_k), (2, .slice a_x (List.length x) c_x), (3, .slice a_y (List.length y) c_y), (8, .bool false), (9, .bool true), (10, ni (blockOf h)), (12, .string (bstr (macF h k (List.flatMap (fun s : Sl UInt8 => s.l) ([⟨ao73, cp74, x ++ y⟩] : List (Sl UInt8)))))), (51, .slice aoq398 (List.length (macF h (k ++ List.replicate ((blockOf h) + 1) 0) (List.flatMap (fun s : Sl UInt8 => s.l) ([⟨a_x, c_x, x⟩] : List (Sl UInt8))))) coq398), (53, .int .i64 h), (54, .int .i64 h), (55, .slice ao43 (List.length (k ++ List.replicate ((blockOf h) + 1) 0)) cp44), (59, .slice (some ⟨bk564, 0, none⟩) 1 1)] → Ev w [] wo [.vec aoq398 coq398 1 (bys (macF h (k ++ List.replicate ((blockOf h) + 1) 0) (List.flatMap (fun s : Sl UInt8 => s.l) ([⟨a_x, c_x, x⟩] : List (Sl UInt8))))) 5, .vec ao43 cp44 1 (bys (k ++ List.replicate ((blockOf h) + 1) 0)) 5, .vec ao73 cp74 1 (bys (x ++ y)) 5, .vec (some ⟨bk564, 0, none⟩) 1 1 [.slice a_x (List.length x) c_x] 23] → G 7 #[true, true, true, true, true, false, true, true, true, false, false, true, true, false, false, false, false] ac wo := by
   intro ac900 wo901 aoq398 coq398 bk564 En902 Hv903
   refine h_from hG ?_
   refine h_ways [5, 9] (by kernel_rfl) rfl ?_
   refine ⟨?_, ?_, trivial⟩
   ·
    rintro _ rfl
    refine op_str (d := some 52) (src := 23) (dst := 9) (e := 5) (ao := aoq398) (cap := coq398) (p := List.length (macF h (k ++ List.replicate ((blockOf h) + 1) 0) (List.flatMap (fun s : Sl UInt8 => s.l) ([⟨a_x, c_x, x⟩] : List (Sl UInt8))))) (bs := macF h (k ++ List.replicate ((blockOf h) + 1) 0) (List.flatMap (fun s : Sl UInt8 => s.l) ([⟨a_x, c_x, x⟩] : List (Sl UInt8)))) En902 (by kernel_rfl) rfl (by kernel_rfl) (by kernel_rfl) (by kernel_rfl) (Hv903.heap.reads (k := 0) rfl) (bys_vnz Hv903.heap (k := 0) rfl) ?_
    intro ac904 En905
    refine ⟨fun _ => Hv903.pk [], ?_⟩
    exact h_to hG (by kernel_rfl) (nd807 _ _ bk564 (En905.sb) (Hv903.pk [1, 2, 3]))
   ·
    rintro _ rfl
    refine op_lit (d := some 56) (t := 30) (T := 23) (m := 1) (parts := #[(0, .slice ao43 (List.length (k ++ List.replicate ((blockOf h) + 1) 0)) cp44)]) (xs := [.slice ao43 (List.length (k ++ List.replicate ((blockOf h) + 1) 0)) cp44]) (sz := 1) En902 (by kernel_rfl) (by kernel_rfl) rfl (by decide) Hv903 ?_
    intro ac907 wo908 bk906 En909 Hv910
    refine ⟨fun _ => Hv910.pk [], ?_⟩
    exact h_to hG (by kernel_rfl) (nd849 _ _ aoq398 coq398 bk906 bk564 (En909.sb) (Hv910.pk [0, 1, 2, 4, 3]))
  have nd911 : ∀ (ac : Act) (wo : World) (bk393 : Nat) (bk576 : Nat) (bk589 : Nat), Env ac 118 [(0, .int .i64 h), (1, .slice a_k (List.length k) c_k), (2, .slice a_x (List.length x) c_x), (3, .slice a_y (List.length y) c_y), (8, .bool false), (9, .bool true), (10, ni (blockOf h)), (12, .string (bstr (macF h k (List.flatMap (fun s : Sl UInt8 => s.l) ([⟨ao73, cp74, x ++ y⟩] : List (Sl UInt8)))))), (47, .int .i64 h), (48, .slice ao43 (List.length (k ++ List.replicate ((blockOf h) + 1) 0)) cp44), (50, .slice (some ⟨bk393, 0, none⟩) 1 1), (53, .int .i64 h), (54, .int .i64 h), (56, .slice (some ⟨bk576, 0, none⟩) 1 1), (59, .slice (some ⟨bk589, 0, none⟩) 1 1)] → Ev w [] wo [.vec ao43 cp44 1 (bys (k ++ List.replicate ((blockOf h) + 1) 0)) 5, .vec ao73 cp74 1 (bys (x ++ y)) 5, .vec (some ⟨bk393, 0, none⟩) 1 1 [.slice a_x (List.length x) c_x] 23, .vec (some ⟨bk576, 0, none⟩) 1 1 [.slice ao43 (List.length (k ++ List.replicate ((blockOf h) + 1) 0)) cp44] 23, .vec (some ⟨bk589, 0, none⟩) 1 1 [.slice a_x (List.length x) c_x] 23] → G 7 #[true, true, true, true, false, false, true, true, true, true, false, true, true, false, false, false, false] ac wo := by
   intro ac912 wo913 bk393 bk576 bk589 En914 Hv915
   refine h_from hG ?_
   refine q_t 4 ?_
   refine c_0 En914 Hv915 (macof_go _ h hh ao43 (List.length (k ++ List.replicate ((blockOf h) + 1) 0)) cp44 (k ++ List.replicate ((blockOf h) + 1) 0) (by first | rfl | (simp; done) | (simp; omega) | omega) (bys_in Hv915.heap (k := 0) rfl [] (by kernel_rfl) rfl (by first | omega | (simp; done) | (simp; omega))) (some ⟨bk393, 0, none⟩) 1 1 ([⟨a_x, c_x, x⟩] : List (Sl UInt8)) (by first | rfl | (simp; done) | (simp; omega) | omega) ⟨Hv915.heap.ro (k := 2) rfl [] (by kernel_rfl) rfl, (fun e => by cases e), (by simp), (by simp), (List.forall_mem_cons.2 ⟨((i_x.ev Hv915).pick [] (by kernel_rfl)), (fun x h => absurd h List.not_mem_nil)⟩)⟩ ((gk32.ev Hv915).pick [] (by kernel_rfl)) ((gk64.ev Hv915).pick [] (by kernel_rfl))) ?_
   rintro _ wo918 ⟨aoq916, coq916, rfl, he919⟩
   refine ⟨_, _, _, rfl, he919, rfl, fun ac921 En922 Hv923 => ?_⟩
   refine ⟨fun _ => Hv923.pk [], ?_⟩
   refine h_ways [5, 10] (by kernel_rfl) rfl ?_
   refine ⟨?_, ?_, trivial⟩
   ·
    rintro _ rfl
    refine op_str (d := some 52) (src := 23) (dst := 9) (e := 5) (ao := aoq916) (cap := coq916) (p := List.length (macF h (k ++ List.replicate ((blockOf h) + 1) 0) (List.flatMap (fun s : Sl UInt8 => s.l) ([⟨a_x, c_x, x⟩] : List (Sl UInt8))))) (bs := macF h (k ++ List.replicate ((blockOf h) + 1) 0) (List.flatMap (fun s : Sl UInt8 => s.l) ([⟨a_x, c_x, x⟩] : List (Sl UInt8)))) En922 (by kernel_rfl) rfl (by kernel_rfl) (by kernel_rfl) (by kernel_rfl) (Hv923.heap.reads (k := 0) rfl) (bys_vnz Hv923.heap (k := 0) rfl) ?_
    intro ac924 En925
    refine ⟨fun _ => Hv923.pk [], ?_⟩
    exact h_to hG (by kernel_rfl) (nd749 _ _ bk576 bk589 (En925.sb) (Hv923.pk [1, 2, 4, 5]))
   ·
    rintro _ rfl
    refine c_0 En922 Hv923 (of_all _ h hh (some ⟨bk576, 0, none⟩) 1 1 ([⟨ao43, cp44, k ++ List.replicate ((blockOf h) + 1) 0⟩] : List (Sl UInt8)) (by first | rfl | (simp; done) | (simp; omega) | omega) ⟨Hv923.heap.ro (k := 4) rfl [] (by kernel_rfl) rfl, (fun e => by cases e), (by simp), (by simp), (List.forall_mem_cons.2 ⟨(bys_in Hv923.heap (k := 1) rfl [] (by kernel_rfl) rfl (by first | decide | (dsimp only; omega) | (simp; done) | (simp; omega) | omega)), (fun x h => absurd h List.not_mem_nil)⟩)⟩ ((gk32.ev Hv923).pick [] (by kernel_rfl)) ((gk64.ev Hv923).pick [] (by kernel_rfl))) ?_
    rintro _ wo928 ⟨aoq926, coq926, rfl, he929⟩
    refine ⟨_, _, _, rfl, he929, rfl, fun ac931 En932 Hv933 => ?_⟩
    refine ⟨fun _ => Hv933.pk [], ?_⟩
    exact h_to hG (by kernel_rfl) (nd774 _ _ aoq916 coq916 aoq926 coq926 bk589 (En932.sb) (Hv933.pk [0, 1, 2, 3, 6]))
  have nd934 : ∀ (ac : Act) (wo : World) (aoq398 : _) (coq398 : _), Env ac 118 [(0, .int .i64 h), (1, .slice a_k (List.length k) c_k), (2, .slice a_x (List.length x) c_x), (3, .slice a_y (List.length y) c_y), (8, .bool false), (9, .bool true), (10, ni (blockOf h)), (12, .string (bstr (macF h k (List.flatMap (fun s : Sl UInt8 => s.l) ([⟨ao73, cp74, x ++ y⟩] : List (Sl UInt8)))))), (51, .slice aoq398 (List.length (macF h (k ++ List.replicate ((blockOf h) + 1) 0) (List.flatMap (fun s : Sl UInt8 => s.l) ([⟨a_x, c_x, x⟩] : List (Sl UInt8))))) coq398), (53, .int .i64 h), (54, .int .i64 h), (55, .slice ao43 (List.length (k ++ List.replicate ((blockOf h) + 1) 0)) cp44), (58, .slice a_x (List.length x) c_x)] → Ev w [] wo [.vec aoq398 coq398 1 (bys (macF h (k ++ List.replicate ((blockOf h) + 1) 0) (List.flatMap (fun s : Sl UInt8 => s.l) ([⟨a_x, c_x, x⟩] : List (Sl UInt8))))) 5, .vec ao43 cp44 1 (bys (k ++ List.replicate ((blockOf h) + 1) 0)) 5, .vec ao73 cp74 1 (bys (x ++ y)) 5] → G 8 #[true, true, true, true, true, false, true, true, true, false, false, true, false, false, false, false, false] ac wo := by
   intro ac935 wo936 aoq398 coq398 En937 Hv938
   refine h_from hG ?_
   refine h_ways [5, 9, 12] (by kernel_rfl) rfl ?_
   refine ⟨?_, ?_, ?_, trivial⟩
   ·
    rintro _ rfl
    refine op_str (d := some 52) (src := 23) (dst := 9) (e := 5) (ao := aoq398) (cap := coq398) (p := List.length (macF h (k ++ List.replicate ((blockOf h) + 1) 0) (List.flatMap (fun s : Sl UInt8 => s.l) ([⟨a_x, c_x, x⟩] : List (Sl UInt8))))) (bs := macF h (k ++ List.replicate ((blockOf h) + 1) 0) (List.flatMap (fun s : Sl UInt8 => s.l) ([⟨a_x, c_x, x⟩] : List (Sl UInt8)))) En937 (by kernel_rfl) rfl (by kernel_rfl) (by kernel_rfl) (by kernel_rfl) (Hv938.heap.reads (k := 0) rfl) (bys_vnz Hv938.heap (k := 0) rfl) ?_
    intro ac939 En940
    refine ⟨fun _ => Hv938.pk [], ?_⟩
    exact h_to hG (by kernel_rfl) (nd864 _ _ (En940.sb) (Hv938.pk [1, 2]))
   ·
    rintro _ rfl
    refine op_lit (d := some 56) (t := 30) (T := 23) (m := 1) (parts := #[(0, .slice ao43 (List.length (k ++ List.replicate ((blockOf h) + 1) 0)) cp44)]) (xs := [.slice ao43 (List.length (k ++ List.replicate ((blockOf h) + 1) 0)) cp44]) (sz := 1) En937 (by kernel_rfl) (by kernel_rfl) rfl (by decide) Hv938 ?_
    intro ac942 wo943 bk941 En944 Hv945
    refine ⟨fun _ => Hv945.pk [], ?_⟩
    exact h_to hG (by kernel_rfl) (nd879 _ _ aoq398 coq398 bk941 (En944.sb) (Hv945.pk [0, 1, 2, 3]))
   ·
    rintro _ rfl
    refine op_lit (d := some 59) (t := 30) (T := 23) (m := 1) (parts := #[(0, .slice a_x (List.length x) c_x)]) (xs := [.slice a_x (List.length x) c_x]) (sz := 1) En937 (by kernel_rfl) (by kernel_rfl) rfl (by decide) Hv938 ?_
    intro ac947 wo948 bk946 En949 Hv950
    refine ⟨fun _ => Hv950.pk [], ?_⟩
    exact h_to hG (by kernel_rfl) (nd899 _ _ aoq398 coq398 bk946 (En949.sb) (Hv950.pk [0, 1, 2, 3]))
  have nd951 : ∀ (ac : Act) (wo : World) (bk393 : Nat) (bk576 : Nat), Env ac 118 [(0, .int .i64 h), (1, .slice a_k (List.length k) c_k), (2, .slice a_x (List.length x) c_x), (3, .slice a_y (List.length y) c_y), (8, .bool false), (9, .bool true), (10, ni (blockOf h)), (12, .string (bstr (macF h k (List.flatMap (fun s : Sl UInt8 => s.l) ([⟨ao73, cp74, x ++ y⟩] : List (Sl UInt8)))))), (47, .int .i64 h), (48, .slice ao43 (List.length (k ++ List.replicate ((blockOf h) + 1) 0)) cp44), (50, .slice (some ⟨bk393, 0, none⟩) 1 1), (53, .int .i64 h), (54, .int .i64 h), (56, .slice (some ⟨bk576, 0, none⟩) 1 1), (58, .slice a_x (List.length x) c_x)] → Ev w [] wo [.vec ao43 cp44 1 (bys (k ++ List.replicate ((blockOf h) + 1) 0)) 5, .vec ao73 cp74 1 (bys (x ++ y)) 5, .vec (some ⟨bk393, 0, none⟩) 1 1 [.slice a_x (List.length x) c_x] 23, .vec (some ⟨bk576, 0, none⟩) 1 1 [.slice ao43 (List.length (k ++ List.replicate ((blockOf h) + 1) 0)) cp44] 23] → G 8 #[true, true, true, true, false, false, true, true, true, true, false, true, false, false, false, false, false] ac wo := by
   intro ac952 wo953 bk393 bk576 En954 Hv955
   refine h_from hG ?_
   refine h_ways [4, 12] (by kernel_rfl) rfl ?_
   refine ⟨?_, ?_, trivial⟩
   ·
    rintro _ rfl
    refine c_0 En954 Hv955 (macof_go _ h hh ao43 (List.length (k ++ List.replicate ((blockOf h) + 1) 0)) cp44 (k ++ List.replicate ((blockOf h) + 1) 0) (by first | rfl | (simp; done) | (simp; omega) | omega) (bys_in Hv955.heap (k := 0) rfl [] (by kernel_rfl) rfl (by first | omega | (simp; done) | (simp; omega))) (some ⟨bk393, 0, none⟩) 1 1 ([⟨a_x, c_x, x⟩] : List (Sl UInt8)) (by first | rfl | (simp; done) | (simp; omega) | omega) ⟨Hv955.heap.ro (k := 2) rfl [] (by kernel_rfl) rfl, (fun e => by cases e), (by simp), (by simp), (List.forall_mem_cons.2 ⟨((i_x.ev Hv955).pick [] (by kernel_rfl)), (fun x h => absurd h List.not_mem_nil)⟩)⟩ ((gk32.ev Hv955).pick [] (by kernel_rfl)) ((gk64.ev Hv955).pick [] (by kernel_rfl))) ?_
    rintro _ wo958 ⟨aoq956, coq956, rfl, he959⟩
    refine ⟨_, _, _, rfl, he959, rfl, fun ac961 En962 Hv963 => ?_⟩
    refine ⟨fun _ => Hv963.pk [], ?_⟩
    exact h_to hG (by kernel_rfl) (nd879 _ _ aoq956 coq956 bk576 (En962.sb) (Hv963.pk [0, 1, 2, 4]))
   ·
    rintro _ rfl
    refine op_lit (d := some 59) (t := 30) (T := 23) (m := 1) (parts := #[(0, .slice a_x (List.length x) c_x)]) (xs := [.slice a_x (List.length x) c_x]) (sz := 1) En954 (by kernel_rfl) (by kernel_rfl) rfl (by decide) Hv955 ?_
    intro ac965 wo966 bk964 En967 Hv968
    refine ⟨fun _ => Hv968.pk [], ?_⟩
    exact h_to hG (by kernel_rfl) (nd911 _ _ bk393 bk576 bk964 (En967.sb) (Hv968.pk [0, 1, 2, 3, 4]))
  have nd969 : ∀ (ac : Act) (wo : World) (bk393 : Nat) (bk612 : Nat), Env ac 118 [(0, .int .i64 h), (1, .slice a_k (List.length k) c_k), (2, .slice a_x (List.length x) c_x), (3, .slice a_y (List.length y) c_y), (8, .bool false), (9, .bool true), (10, ni (blockOf h)), (12, .string (bstr (macF h k (List.flatMap (fun s : Sl UInt8 => s.l) ([⟨ao73, cp74, x ++ y⟩] : List (Sl UInt8)))))), (47, .int .i64 h), (48, .slice ao43 (List.length (k ++ List.replicate ((blockOf h) + 1) 0)) cp44), (50, .slice (some ⟨bk393, 0, none⟩) 1 1), (53, .int .i64 h), (54, .int .i64 h), (55, .slice ao43 (List.length (k ++ List.replicate ((blockOf h) + 1) 0)) cp44), (59, .slice (some ⟨bk612, 0, none⟩) 1 1)] → Ev w [] wo [.vec ao43 cp44 1 (bys (k ++ List.replicate ((blockOf h) + 1) 0)) 5, .vec ao73 cp74 1 (bys (x ++ y)) 5, .vec (some ⟨bk393, 0, none⟩) 1 1 [.slice a_x (List.length x) c_x] 23, .vec (some ⟨bk612, 0, none⟩) 1 1 [.slice a_x (List.length x) c_x] 23] → G 8 #[true, true, true, true, false, false, true, true, true, false, false, true, true, false, false, false, false] ac wo := by
   intro ac970 wo971 bk393 bk612 En972 Hv973
   refine h_from hG ?_
   refine h_ways [4, 9] (by kernel_rfl) rfl ?_
   refine ⟨?_, ?_, trivial⟩
   ·
    rintro _ rfl
    refine c_0 En972 Hv973 (macof_go _ h hh ao43 (List.length (k ++ List.replicate ((blockOf h) + 1) 0)) cp44 (k ++ List.replicate ((blockOf h) + 1) 0) (by first | rfl | (simp; done) | (simp; omega) | omega) (bys_in Hv973.heap (k := 0) rfl [] (by kernel_rfl) rfl (by first | omega | (simp; done) | (simp; omega))) (some ⟨bk393, 0, none⟩) 1 1 ([⟨a_x, c_x, x⟩] : List (Sl UInt8)) (by first | rfl | (simp; done) | (simp; omega) | omega) ⟨Hv973.heap.ro (k := 2) rfl [] (by kernel_rfl) rfl, (fun e => by cases e), (by simp), (by simp), (List.forall_mem_cons.2 ⟨((i_x.ev Hv973).pick [] (by kernel_rfl)), (fun x h => absurd h List.not_mem_nil)⟩)⟩ ((gk32.ev Hv973).pick [] (by kernel_rfl)) ((gk64.ev Hv973).pick [] (by kernel_rfl))) ?_
    rintro _ wo976 ⟨aoq974, coq974, rfl, he977⟩
    refine ⟨_, _, _, rfl, he977, rfl, fun ac979 En980 Hv981 => ?_⟩
    refine ⟨fun _ => Hv981.pk [], ?_⟩
    exact h_to hG (by kernel_rfl) (nd899 _ _ aoq974 coq974 bk612 (En980.sb) (Hv981.pk [0, 1, 2, 4]))
   ·
    rintro _ rfl
    refine op_lit (d := some 56) (t := 30) (T := 23) (m := 1) (parts := #[(0, .slice ao43 (List.length (k ++ List.replicate ((blockOf h) + 1) 0)) cp44)]) (xs := [.slice ao43 (List.length (k ++ List.replicate ((blockOf h) + 1) 0)) cp44]) (sz := 1) En972 (by kernel_rfl) (by kernel_rfl) rfl (by decide) Hv973 ?_
    intro ac983 wo984 bk982 En985 Hv986
    refine ⟨fun _ => Hv986.pk [], ?_⟩
    exact h_to hG (by kernel_rfl) (nd911 _ _ bk393 bk982 bk612 (En985.sb) (Hv986.pk [0, 1, 2, 4, 3]))
  have nd987 : ∀ (ac : Act) (wo : World) (bk630 : Nat) (bk640 : Nat), Env ac 118 [(0, .int .i64 h), (1, .slice a_k (List.length k) c_k), (2, .slice a_x (List.length x) c_x), (3, .slice a_y (List.length y) c_y), (8, .bool false), (9, .bool true), (10, ni (blockOf h)), (12, .string (bstr (macF h k (List.flatMap (fun s : Sl UInt8 => s.l) ([⟨ao73, cp74, x ++ y⟩] : List (Sl UInt8)))))), (47, .int .i64 h), (48, .slice ao43 (List.length (k ++ List.replicate ((blockOf h) + 1) 0)) cp44), (49, .slice a_x (List.length x) c_x), (53, .int .i64 h), (54, .int .i64 h), (56, .slice (some ⟨bk630, 0, none⟩) 1 1), (59, .slice (some ⟨bk640, 0, none⟩) 1 1)] → Ev w [] wo [.vec ao43 cp44 1 (bys (k ++ List.replicate ((blockOf h) + 1) 0)) 5, .vec ao73 cp74 1 (bys (x ++ y)) 5, .vec (some ⟨bk630, 0, none⟩) 1 1 [.slice ao43 (List.length (k ++ List.replicate ((blockOf h) + 1) 0)) cp44] 23, .vec (some ⟨bk640, 0, none⟩) 1 1 [.slice a_x (List.length x) c_x] 23] → G 8 #[true, true, true, false, false, false, true, true, true, true, false, true, true, false, false, false, false] ac wo := by
   intro ac988 wo989 bk630 bk640 En990 Hv991
   refine h_from hG ?_
   refine q_t 3 ?_
   refine op_lit (d := some 50) (t := 30) (T := 23) (m := 1) (parts := #[(0, .slice a_x (List.length x) c_x)]) (xs := [.slice a_x (List.length x) c_x]) (sz := 1) En990 (by kernel_rfl) (by kernel_rfl) rfl (by decide) Hv991 ?_
   intro ac993 wo994 bk992 En995 Hv996
   refine ⟨fun _ => Hv996.pk [], ?_⟩
   refine q_t 4 ?_
   refine c_0 En995 Hv996 (macof_go _ h hh ao43 (List.length (k ++ List.replicate ((blockOf h) + 1) 0)) cp44 (k ++ List.replicate ((blockOf h) + 1) 0) (by first | rfl | (simp; done) | (simp; omega) | omega) (bys_in Hv996.heap (k := 0) rfl [] (by kernel_rfl) rfl (by first | omega | (simp; done) | (simp; omega))) (some ⟨bk992, 0, none⟩) 1 1 ([⟨a_x, c_x, x⟩] : List (Sl UInt8)) (by first | rfl | (simp; done) | (simp; omega) | omega) ⟨Hv996.heap.ro (k := 4) rfl [] (by kernel_rfl) rfl, (fun e => by cases e), (by simp), (by simp), (List.forall_mem_cons.2 ⟨((i_x.ev Hv996).pick [] (by kernel_rfl)), (fun x h => absurd h List.not_mem_nil)⟩)⟩ ((gk32.ev Hv996).pick [] (by kernel_rfl)) ((gk64.ev Hv996).pick [] (by kernel_rfl))) ?_
   rintro _ wo999 ⟨aoq997, coq997, rfl, he1000⟩
   refine ⟨_, _, _, rfl, he1000, rfl, fun ac1002 En1003 Hv1004 => ?_⟩
   refine ⟨fun _ => Hv1004.pk [], ?_⟩
   refine h_ways [5, 10] (by kernel_rfl) rfl ?_
   refine ⟨?_, ?_, trivial⟩
   ·
    rintro _ rfl
    refine op_str (d := some 52) (src := 23) (dst := 9) (e := 5) (ao := aoq997) (cap := coq997) (p := List.length (macF h (k ++ List.replicate ((blockOf h) + 1) 0) (List.flatMap (fun s : Sl UInt8 => s.l) ([⟨a_x, c_x, x⟩] : List (Sl UInt8))))) (bs := macF h (k ++ List.replicate ((blockOf h) + 1) 0) (List.flatMap (fun s : Sl UInt8 => s.l) ([⟨a_x, c_x, x⟩] : List (Sl UInt8)))) En1003 (by kernel_rfl) rfl (by kernel_rfl) (by kernel_rfl) (by kernel_rfl) (Hv1004.heap.reads (k := 0) rfl) (bys_vnz Hv1004.heap (k := 0) rfl) ?_
    intro ac1005 En1006
    refine ⟨fun _ => Hv1004.pk [], ?_⟩
    exact h_to hG (by kernel_rfl) (nd749 _ _ bk630 bk640 (En1006.sb) (Hv1004.pk [1, 2, 3, 4]))
   ·
    rintro _ rfl
    refine c_0 En1003 Hv1004 (of_all _ h hh (some ⟨bk630, 0, none⟩) 1 1 ([⟨ao43, cp44, k ++ List.replicate ((blockOf h) + 1) 0⟩] : List (Sl UInt8)) (by first | rfl | (simp; done) | (simp; omega) | omega) ⟨Hv1004.heap.ro (k := 3) rfl [] (by kernel_rfl) rfl, (fun e => by cases e), (by simp), (by simp), (List.forall_mem_cons.2 ⟨(bys_in Hv1004.heap (k := 1) rfl [] (by kernel_rfl) rfl (by first | decide | (dsimp only; omega) | (simp; done) | (simp; omega) | omega)), (fun x h => absurd h List.not_mem_nil)⟩)⟩ ((gk32.ev Hv1004).pick [] (by kernel_rfl)) ((gk64.ev Hv1004).pick [] (by kernel_rfl))) ?_
    rintro _ wo1009 ⟨aoq1007, coq1007, rfl, he1010⟩
    refine ⟨_, _, _, rfl, he1010, rfl, fun ac1012 En1013 Hv1014 => ?_⟩
    refine ⟨fun _ => Hv1014.pk [], ?_⟩
    exact h_to hG (by kernel_rfl) (nd774 _ _ aoq997 coq997 aoq1007 coq1007 bk640 (En1013.sb) (Hv1014.pk [0, 1, 2, 3, 5]))
  have nd1015 : ∀ (ac : Act) (wo : World) (bk393 : Nat), Env ac 118 [(0, .int .i64 h), (1, .slice a_k (List.length k) c_k), (2, .slice a_x (List.length x) c_x), (3, .slice a_y (List.length y) c_y), (8, .bool false), (9, .bool true), (10, ni (blockOf h)), (12, .string (bstr (macF h k (List.flatMap (fun s : Sl UInt8 => s.l) ([⟨ao73, cp74, x ++ y⟩] : List (Sl UInt8)))))), (47, .int .i64 h), (48, .slice ao43 (List.length (k ++ List.replicate ((blockOf h) + 1) 0)) cp44), (50, .slice (some ⟨bk393, 0, none⟩) 1 1), (53, .int .i64 h), (54, .int .i64 h), (55, .slice ao43 (List.length (k ++ List.replicate ((blockOf h) + 1) 0)) cp44), (58, .slice a_x (List.length x) c_x)] → Ev w [] wo [.vec ao43 cp44 1 (bys (k ++ List.replicate ((blockOf h) + 1) 0)) 5, .vec ao73 cp74 1 (bys (x ++ y)) 5, .vec (some ⟨bk393, 0, none⟩) 1 1 [.slice a_x (List.length x) c_x] 23] → G 9 #[true, true, true, true, false, false, true, true, true, false, false, true, false, false, false, false, false] ac wo := by
   intro ac1016 wo1017 bk393 En1018 Hv1019
   refine h_from hG ?_
   refine h_ways [4, 9, 12] (by kernel_rfl) rfl ?_
   refine ⟨?_, ?_, ?_, trivial⟩
   ·
    rintro _ rfl
    refine c_0 En1018 Hv1019 (macof_go _ h hh ao43 (List.length (k ++ List.replicate ((blockOf h) + 1) 0)) cp44 (k ++ List.replicate ((blockOf h) + 1) 0) (by first | rfl | (simp; done) | (simp; omega) | omega) (bys_in Hv1019.heap (k := 0) rfl [] (by kernel_rfl) rfl (by first | omega | (simp; done) | (simp; omega))) (some ⟨bk393, 0, none⟩) 1 1 ([⟨a_x, c_x, x⟩] : List (Sl UInt8)) (by first | rfl | (simp; done) | (simp; omega) | omega) ⟨Hv1019.heap.ro (k := 2) rfl [] (by kernel_rfl) rfl, (fun e => by cases e), (by simp), (by simp), (List.forall_mem_cons.2 ⟨((i_x.ev Hv1019).pick [] (by kernel_rfl)), (fun x h => absurd h List.not_mem_nil)⟩)⟩ ((gk32.ev Hv1019).pick [] (by kernel_rfl)) ((gk64.ev Hv1019).pick [] (by kernel_rfl))) ?_
    rintro _ wo1022 ⟨aoq1020, coq1020, rfl, he1023⟩
    refine ⟨_, _, _, rfl, he1023, rfl, fun ac1025 En1026 Hv1027 => ?_⟩
    refine ⟨fun _ => Hv1027.pk [], ?_⟩
    exact h_to hG (by kernel_rfl) (nd934 _ _ aoq1020 coq1020 (En1026.sb) (Hv1027.pk [0, 1, 2]))
   ·
    rintro _ rfl
    refine op_lit (d := some 56) (t := 30) (T := 23) (m := 1) (parts := #[(0, .slice ao43 (List.length (k ++ List.replicate ((blockOf h) + 1) 0)) cp44)]) (xs := [.slice ao43 (List.length (k ++ List.replicate ((blockOf h) + 1) 0)) cp44]) (sz := 1) En1018 (by kernel_rfl) (by kernel_rfl) rfl (by decide) Hv1019 ?_
    intro ac1029 wo1030 bk1028 En1031 Hv1032
    refine ⟨fun _ => Hv1032.pk [], ?_⟩
    exact h_to hG (by kernel_rfl) (nd951 _ _ bk393 bk1028 (En1031.sb) (Hv1032.pk [0, 1, 2, 3]))
   ·
    rintro _ rfl
    refine op_lit (d := some 59) (t := 30) (T := 23) (m := 1) (parts := #[(0, .slice a_x (List.length x) c_x)]) (xs := [.slice a_x (List.length x) c_x]) (sz := 1) En1018 (by kernel_rfl) (by kernel_rfl) rfl (by decide) Hv1019 ?_
    intro ac1034 wo1035 bk1033 En1036 Hv1037
    refine ⟨fun _ => Hv1037.pk [], ?_⟩
    exact h_to hG (by kernel_rfl) (nd969 _ _ bk393 bk1033 (En1036.sb) (Hv1037.pk [0, 1, 2, 3]))
  have nd1038 : ∀ (ac : Act) (wo : World) (bk630 : Nat), Env ac 118 [(0, .int .i64 h), (1, .slice a_k (List.length k) c_k), (2, .slice a_x (List.length x) c_x), (3, .slice a_y (List.length y) c_y), (8, .bool false), (9, .bool true), (10, ni (blockOf h)), (12, .string (bstr (macF h k (List.flatMap (fun s : Sl UInt8 => s.l) ([⟨ao73, cp74, x ++ y⟩] : List (Sl UInt8)))))), (47, .int .i64 h), (48, .slice ao43 (List.length (k ++ List.replicate ((blockOf h) + 1) 0)) cp44), (49, .slice a_x (List.length x) c_x), (53, .int .i64 h), (54, .int .i64 h), (56, .slice (some ⟨bk630, 0, none⟩) 1 1), (58, .slice a_x (List.length x) c_x)] → Ev w [] wo [.vec ao43 cp44 1 (bys (k ++ List.replicate ((blockOf h) + 1) 0)) 5, .vec ao73 cp74 1 (bys (x ++ y)) 5, .vec (some ⟨bk630, 0, none⟩) 1 1 [.slice ao43 (List.length (k ++ List.replicate ((blockOf h) + 1) 0)) cp44] 23] → G 9 #[true, true, true, false, false, false, true, true, true, true, false, true, false, false, false, false, false] ac wo := by
   intro ac1039 wo1040 bk630 En1041 Hv1042
   refine h_from hG ?_
   refine h_ways [3, 12] (by kernel_rfl) rfl ?_
   refine ⟨?_, ?_, trivial⟩
   ·
    rintro _ rfl
    refine op_lit (d := some 50) (t := 30) (T := 23) (m := 1) (parts := #[(0, .slice a_x (List.length x) c_x)]) (xs := [.slice a_x (List.length x) c_x]) (sz := 1) En1041 (by kernel_rfl) (by kernel_rfl) rfl (by decide) Hv1042 ?_
    intro ac1044 wo1045 bk1043 En1046 Hv1047
    refine ⟨fun _ => Hv1047.pk [], ?_⟩
    exact h_to hG (by kernel_rfl) (nd951 _ _ bk1043 bk630 (En1046.sb) (Hv1047.pk [0, 1, 3, 2]))
   ·
    rintro _ rfl
    refine op_lit (d := some 59) (t := 30) (T := 23) (m := 1) (parts := #[(0, .slice a_x (List.length x) c_x)]) (xs := [.slice a_x (List.length x) c_x]) (sz := 1) En1041 (by kernel_rfl) (by kernel_rfl) rfl (by decide) Hv1042 ?_
    intro ac1049 wo1050 bk1048 En1051 Hv1052
    refine ⟨fun _ => Hv1052.pk [], ?_⟩
    exact h_to hG (by kernel_rfl) (nd987 _ _ bk630 bk1048 (En1051.sb) (Hv1052.pk [0, 1, 2, 3]))
  have nd1053 : ∀ (ac : Act) (wo : World) (bk668 : Nat), Env ac 118 [(0, .int .i64 h), (1, .slice a_k (List.length k) c_k), (2, .slice a_x (List.length x) c_x), (3, .slice a_y (List.length y) c_y), (8, .bool false), (9, .bool true), (10, ni (blockOf h)), (12, .string (bstr (macF h k (List.flatMap (fun s : Sl UInt8 => s.l) ([⟨ao73, cp74, x ++ y⟩] : List (Sl UInt8)))))), (47, .int .i64 h), (48, .slice ao43 (List.length (k ++ List.replicate ((blockOf h) + 1) 0)) cp44), (49, .slice a_x (List.length x) c_x), (53, .int .i64 h), (54, .int .i64 h), (55, .slice ao43 (List.length (k ++ List.replicate ((blockOf h) + 1) 0)) cp44), (59, .slice (some ⟨bk668, 0, none⟩) 1 1)] → Ev w [] wo [.vec ao43 cp44 1 (bys (k ++ List.replicate ((blockOf h) + 1) 0)) 5, .vec ao73 cp74 1 (bys (x ++ y)) 5, .vec (some ⟨bk668, 0, none⟩) 1 1 [.slice a_x (List.length x) c_x] 23] → G 9 #[true, true, true, false, false, false, true, true, true, false, false, true, true, false, false, false, false] ac wo := by
   intro ac1054 wo1055 bk668 En1056 Hv1057
   refine h_from hG ?_
   refine h_ways [3, 9] (by kernel_rfl) rfl ?_
   refine ⟨?_, ?_, trivial⟩
   ·
    rintro _ rfl
    refine op_lit (d := some 50) (t := 30) (T := 23) (m := 1) (parts := #[(0, .slice a_x (List.length x) c_x)]) (xs := [.slice a_x (List.length x) c_x]) (sz := 1) En1056 (by kernel_rfl) (by kernel_rfl) rfl (by decide) Hv1057 ?_
    intro ac1059 wo1060 bk1058 En1061 Hv1062
    refine ⟨fun _ => Hv1062.pk [], ?_⟩
    exact h_to hG (by kernel_rfl) (nd969 _ _ bk1058 bk668 (En1061.sb) (Hv1062.pk [0, 1, 3, 2]))
   ·
    rintro _ rfl
    refine op_lit (d := some 56) (t := 30) (T := 23) (m := 1) (parts := #[(0, .slice ao43 (List.length (k ++ List.replicate ((blockOf h) + 1) 0)) cp44)]) (xs := [.slice ao43 (List.length (k ++ List.replicate ((blockOf h) + 1) 0)) cp44]) (sz := 1) En1056 (by kernel_rfl) (by kernel_rfl) rfl (by decide) Hv1057 ?_
    intro ac1064 wo1065 bk1063 En1066 Hv1067
    refine ⟨fun _ => Hv1067.pk [], ?_⟩
    exact h_to hG (by kernel_rfl) (nd987 _ _ bk1063 bk668 (En1066.sb) (Hv1067.pk [0, 1, 3, 2]))
  refine h_from hG ?_
  refine q_s [0,1,2,6,7,8,11] [] 10 En97 (wo98.pk []) fun ac1068 En1069 => ?_
  refine h_ways [3, 9, 12] (by kernel_rfl) rfl ?_
  refine ⟨?_, ?_, ?_, trivial⟩
  ·
   rintro _ rfl
   refine op_lit (d := some 50) (t := 30) (T := 23) (m := 1) (parts := #[(0, .slice a_x (List.length x) c_x)]) (xs := [.slice a_x (List.length x) c_x]) (sz := 1) En1069 (by kernel_rfl) (by kernel_rfl) rfl (by decide) wo98 ?_
   intro ac1071 wo1072 bk1070 En1073 Hv1074
   refine ⟨fun _ => Hv1074.pk [], ?_⟩
   exact h_to hG (by kernel_rfl) (nd1015 _ _ bk1070 (En1073.sb) (Hv1074.pk [1, 2, 4]))
  ·
   rintro _ rfl
   refine op_lit (d := some 56) (t := 30) (T := 23) (m := 1) (parts := #[(0, .slice ao43 (List.length (k ++ List.replicate ((blockOf h) + 1) 0)) cp44)]) (xs := [.slice ao43 (List.length (k ++ List.replicate ((blockOf h) + 1) 0)) cp44]) (sz := 1) En1069 (by kernel_rfl) (by kernel_rfl) rfl (by decide) wo98 ?_
   intro ac1076 wo1077 bk1075 En1078 Hv1079
   refine ⟨fun _ => Hv1079.pk [], ?_⟩
   exact h_to hG (by kernel_rfl) (nd1038 _ _ bk1075 (En1078.sb) (Hv1079.pk [1, 2, 4]))
  ·
   rintro _ rfl
   refine op_lit (d := some 59) (t := 30) (T := 23) (m := 1) (parts := #[(0, .slice a_x (List.length x) c_x)]) (xs := [.slice a_x (List.length x) c_x]) (sz := 1) En1069 (by kernel_rfl) (by kernel_rfl) rfl (by decide) wo98 ?_
   intro ac1081 wo1082 bk1080 En1083 Hv1084
   refine ⟨fun _ => Hv1084.pk [], ?_⟩
   exact h_to hG (by kernel_rfl) (nd1053 _ _ bk1080 (En1083.sb) (Hv1084.pk [1, 2, 4]))
 rintro ac1085 wo1086 ⟨En1087, Hv1088⟩
 refine then_normal ?_
 refine wp_seq ?_
 refine r_c (fun ac wo => Env ac 118 [(0, .int .i64 h), (1, .slice a_k (List.length k) c_k), (2, .slice a_x (List.length x) c_x), (3, .slice a_y (List.length y) c_y), (8, .bool false), (9, .bool true), (10, ni (blockOf h)), (12, .string (bstr (macF h k (List.flatMap (fun s : Sl UInt8 => s.l) ([⟨ao73, cp74, x ++ y⟩] : List (Sl UInt8)))))), (13, .bool true), (14, .bool true)] ∧ Ev w [] wo [.vec ao73 cp74 1 (bys (x ++ y)) 5]) ?_ ?_
 ·
  refine draw_any (by kernel_rfl) 27 (by kernel_rfl) ?_
  have wo1089 := Hv1088.trans (Ev.drew Hv1088.heap)
  refine q_a [0,1,2,3,4,5,6,7,8,9,10,11,12,13,14,15,16,17,18,19,20,21,22,23,24,25,26] [(3, g_b (show (decide (((List.length k : Nat) : Int) > ((blockOf h : Nat) : Int))) = true from (decide_eq_true (by omega))))] 0 En1087 fun ac1092 En1093 => ?_
  exact a_e ⟨En1093.sb, wo1089.pk [0]⟩
 rintro ac1094 wo1095 ⟨En1096, Hv1097⟩
 refine then_normal ?_
 refine wp_seq ?_
 refine region_from ?_
 refine d_k [0,1,2,3,8,9,10,12,13,14,90,91,92,93,94] [] 6 En1096 fun ac1098 En1099 => ?_
 refine f_o ?_
 refine op_lit (d := some 95) (t := 30) (T := 23) (m := 2) (parts := #[(0, .slice a_x (List.length x) c_x), (1, .slice a_y (List.length y) c_y)]) (xs := [.slice a_x (List.length x) c_x, .slice a_y (List.length y) c_y]) (sz := 1) En1099 (by kernel_rfl) (by kernel_rfl) rfl (by decide) Hv1097 ?_
 intro ac1101 wo1102 bk1100 En1103 Hv1104
 refine f_o ?_
 refine c_0 En1103 Hv1104 (macof_go _ h hh a_k (List.length k) c_k k (by first | rfl | (simp; done) | (simp; omega) | omega) ((i_k.ev Hv1104).pick [] (by kernel_rfl)) (some ⟨bk1100, 0, none⟩) 2 2 ([⟨a_x, c_x, x⟩, ⟨a_y, c_y, y⟩] : List (Sl UInt8)) (by first | rfl | (simp; done) | (simp; omega) | omega) ⟨Hv1104.heap.ro (k := 1) rfl [] (by kernel_rfl) rfl, (fun e => by cases e), (by simp), (by simp), (List.forall_mem_cons.2 ⟨((i_x.ev Hv1104).pick [] (by kernel_rfl)), (List.forall_mem_cons.2 ⟨((i_y.ev Hv1104).pick [] (by kernel_rfl)), (fun x h => absurd h List.not_mem_nil)⟩)⟩)⟩ ((gk32.ev Hv1104).pick [] (by kernel_rfl)) ((gk64.ev Hv1104).pick [] (by kernel_rfl))) ?_
 rintro _ wo1107 ⟨aoq1105, coq1105, rfl, he1108⟩
 refine ⟨_, _, _, rfl, he1108, rfl, fun ac1110 En1111 Hv1112 => ?_⟩
 refine f_o ?_
 refine op_str (d := some 97) (src := 23) (dst := 9) (e := 5) (ao := aoq1105) (cap := coq1105) (p := List.length (macF h k (List.flatMap (fun s : Sl UInt8 => s.l) ([⟨a_x, c_x, x⟩, ⟨a_y, c_y, y⟩] : List (Sl UInt8))))) (bs := macF h k (List.flatMap (fun s : Sl UInt8 => s.l) ([⟨a_x, c_x, x⟩, ⟨a_y, c_y, y⟩] : List (Sl UInt8)))) En1111 (by kernel_rfl) rfl (by kernel_rfl) (by kernel_rfl) (by kernel_rfl) (Hv1112.heap.reads (k := 0) rfl) (bys_vnz Hv1112.heap (k := 0) rfl) ?_
 intro ac1113 En1114
 refine d_k [0,1,2,3,8,9,10,12,13,14,101,102,103,104,105] [(10, g_v (show (.bool (ByteArray.toList (bstr (macF h k (List.flatMap (fun s : Sl UInt8 => s.l) ([⟨a_x, c_x, x⟩, ⟨a_y, c_y, y⟩] : List (Sl UInt8))))) == ByteArray.toList (bstr (macF h k (List.flatMap (fun s : Sl UInt8 => s.l) ([⟨ao73, cp74, x ++ y⟩] : List (Sl UInt8)))))) : Value) = .bool true by rw [Go.Dbr.bstr_eq (macF h k (List.flatMap (fun s : Sl UInt8 => s.l) ([⟨a_x, c_x, x⟩, ⟨a_y, c_y, y⟩] : List (Sl UInt8)))) (macF h k (List.flatMap (fun s : Sl UInt8 => s.l) ([⟨ao73, cp74, x ++ y⟩] : List (Sl UInt8)))), show ((macF h k (List.flatMap (fun s : Sl UInt8 => s.l) ([⟨a_x, c_x, x⟩, ⟨a_y, c_y, y⟩] : List (Sl UInt8)))) == (macF h k (List.flatMap (fun s : Sl UInt8 => s.l) ([⟨ao73, cp74, x ++ y⟩] : List (Sl UInt8))))) = true from (by simp; done)] <;> rfl))] 17 En1114 fun ac1115 En1116 => ?_
 refine f_o ?_
 refine op_lit (d := some 106) (t := 30) (T := 23) (m := 3) (parts := #[(0, .slice a_x (List.length x) c_x), (1, .slice none 0 0), (2, .slice a_y (List.length y) c_y)]) (xs := [.slice a_x (List.length x) c_x, .slice none 0 0, .slice a_y (List.length y) c_y]) (sz := 1) En1116 (by kernel_rfl) (by kernel_rfl) rfl (by decide) Hv1112 ?_
 intro ac1118 wo1119 bk1117 En1120 Hv1121
 refine f_o ?_
 refine c_0 En1120 Hv1121 (macof_go _ h hh a_k (List.length k) c_k k (by first | rfl | (simp; done) | (simp; omega) | omega) ((i_k.ev Hv1121).pick [] (by kernel_rfl)) (some ⟨bk1117, 0, none⟩) 3 3 ([⟨a_x, c_x, x⟩, ⟨none, 0, []⟩, ⟨a_y, c_y, y⟩] : List (Sl UInt8)) (by first | rfl | (simp; done) | (simp; omega) | omega) ⟨Hv1121.heap.ro (k := 3) rfl [] (by kernel_rfl) rfl, (fun e => by cases e), (by simp), (by simp), (List.forall_mem_cons.2 ⟨((i_x.ev Hv1121).pick [] (by kernel_rfl)), (List.forall_mem_cons.2 ⟨(InB.nil _ _), (List.forall_mem_cons.2 ⟨((i_y.ev Hv1121).pick [] (by kernel_rfl)), (fun x h => absurd h List.not_mem_nil)⟩)⟩)⟩)⟩ ((gk32.ev Hv1121).pick [] (by kernel_rfl)) ((gk64.ev Hv1121).pick [] (by kernel_rfl))) ?_
 rintro _ wo1124 ⟨aoq1122, coq1122, rfl, he1125⟩
 refine ⟨_, _, _, rfl, he1125, rfl, fun ac1127 En1128 Hv1129 => ?_⟩
 refine f_o ?_
 refine op_str (d := some 108) (src := 23) (dst := 9) (e := 5) (ao := aoq1122) (cap := coq1122) (p := List.length (macF h k (List.flatMap (fun s : Sl UInt8 => s.l) ([⟨a_x, c_x, x⟩, ⟨none, 0, []⟩, ⟨a_y, c_y, y⟩] : List (Sl UInt8))))) (bs := macF h k (List.flatMap (fun s : Sl UInt8 => s.l) ([⟨a_x, c_x, x⟩, ⟨none, 0, []⟩, ⟨a_y, c_y, y⟩] : List (Sl UInt8)))) En1128 (by kernel_rfl) rfl (by kernel_rfl) (by kernel_rfl) (by kernel_rfl) (Hv1129.heap.reads (k := 0) rfl) (bys_vnz Hv1129.heap (k := 0) rfl) ?_
 intro ac1130 En1131
 refine d_e [0,1,2,3,8,9,10] [(21, g_v (show (.bool (ByteArray.toList (bstr (macF h k (List.flatMap (fun s : Sl UInt8 => s.l) ([⟨a_x, c_x, x⟩, ⟨none, 0, []⟩, ⟨a_y, c_y, y⟩] : List (Sl UInt8))))) == ByteArray.toList (bstr (macF h k (List.flatMap (fun s : Sl UInt8 => s.l) ([⟨ao73, cp74, x ++ y⟩] : List (Sl UInt8)))))) : Value) = .bool true by rw [Go.Dbr.bstr_eq (macF h k (List.flatMap (fun s : Sl UInt8 => s.l) ([⟨a_x, c_x, x⟩, ⟨none, 0, []⟩, ⟨a_y, c_y, y⟩] : List (Sl UInt8)))) (macF h k (List.flatMap (fun s : Sl UInt8 => s.l) ([⟨ao73, cp74, x ++ y⟩] : List (Sl UInt8)))), show ((macF h k (List.flatMap (fun s : Sl UInt8 => s.l) ([⟨a_x, c_x, x⟩, ⟨none, 0, []⟩, ⟨a_y, c_y, y⟩] : List (Sl UInt8)))) == (macF h k (List.flatMap (fun s : Sl UInt8 => s.l) ([⟨ao73, cp74, x ++ y⟩] : List (Sl UInt8))))) = true from (by simp; done)] <;> rfl))] En1131 fun ac1132 En1133 => ?_
 refine then_normal ?_
 refine wp_ret ?_
 refine d_ret1 (t := 8) (v := .bool true) En1133 (by kernel_rfl) (by kernel_rfl) ?_
 exact ⟨rfl, Hv1129.pk []⟩

theorem parts_short (h : Int) (a_k : Option Addr) (c_k : Nat) (k : List UInt8) (a_x : Option Addr) (c_x : Nat) (x : List UInt8) (a_y : Option Addr) (c_y : Nat) (y : List UInt8) (w : World) (b_h : (-9223372036854775808 ≤ h ∧ h ≤ 9223372036854775807)) (i_k : InB w [] a_k c_k k) (i_x : InB w [] a_x c_x x) (i_y : InB w [] a_y c_y y) (hB : (List.length k) + (List.length x) + (List.length y) ≤ 1048576) (hh : (h = 1 ∨ h = 2 ∨ h = 3)) (hk : ¬ blockOf h < List.length k) (gk32 : InU32 w [] (some ⟨0, 0, none⟩) 64 K32) (gk64 : InU64 w [] (some ⟨1, 0, none⟩) 80 K64) : Calls Tryd.prog 8 #[.int .i64 h, .slice a_k (List.length k) c_k, .slice a_x (List.length x) c_x, .slice a_y (List.length y) c_y] w fun e w' => e = .returned (.bool true) ∧ Ev w [] w' [] := by
 have hsk := i_k.small
 have hck := i_k.cap
 have hsx := i_x.small
 have hcx := i_x.cap
 have hsy := i_y.small
 have hcy := i_y.cap
 have hbg := block_ge hh
 have hsl := sumF_len hh (k ++ List.replicate (blockOf h + 1) 0)
 have hsz64 := size_le h
 refine d_0 [(0, .int .i64 h), (1, .slice a_k (List.length k) c_k), (2, .slice a_x (List.length x) c_x), (3, .slice a_y (List.length y) c_y)] 118 Go.Proofs.Tryd.func8 Go.Proofs.Tryd.ntmps8 (Heap.nil _) fun act0 En0 Hv0 => ?_
 refine d_s [0,1,2,3,8] [] En0 fun ac1 En2 => ?_
 refine wp_seq ?_
 refine region_from ?_
 refine f_o ?_
 refine c_p En2 Hv0 (head6_ok _ ((gk32.ev Hv0).pick [] (by kernel_rfl)) ((gk64.ev Hv0).pick [] (by kernel_rfl))) fun ac7 wo4 En8 Hv9 => ?_
 refine d_e [0,1,2,3,8,9] [] En8 fun ac10 En11 => ?_
 refine then_normal ?_
 refine wp_seq ?_
 refine region_from ?_
 refine d_k [0,1,2,3,8,9,16] [] 1 En11 fun ac12 En13 => ?_
 refine f_o ?_
 refine c_p En13 Hv9 (block_go _ h) fun ac18 wo15 En19 Hv20 => ?_
 refine d_e [0,1,2,3,8,9,10] [] En19 fun ac21 En22 => ?_
 refine then_normal ?_
 refine wp_seq ?_
 refine d_s [0,1,2,3,8,9,10,19] [(1, g_b (show (((blockOf h : Nat) : Int) == (0 : Int)) = false from (beq_eq_false_iff_ne.2 (by omega))))] En22 fun ac23 En24 => ?_
 refine c_f En24 ?_
 refine wp_skip ?_
 refine then_normal ?_
 refine wp_seq ?_
 refine region_from ?_
 refine f_o ?_
 refine op_lit (d := some 31) (t := 23) (T := 5) (m := 0) (parts := #[]) (xs := bys []) (sz := 1) En24 (by kernel_rfl) (by kernel_rfl) rfl (by decide) Hv20 ?_
 intro ac26 wo27 bk25 En28 Hv29
 refine d_k [0,1,2,3,8,9,10,31,32] [] 2 En28 fun ac30 En31 => ?_
 refine f_o ?_
 have hsm32 := i_k.small
 refine op_append (d := some 33) (t := 23) (tx := 23) (ty := 23) (k := 0) (p := 0) (m := List.length k) (x := .slice a_k (List.length k) c_k) (bytes := 1) En31 (by kernel_rfl) Hv29 rfl rfl (Reads.src (size := 1) (tx := 23) (e' := 5) (by kernel_rfl) (i_k.ev Hv29).reads (bys_len _) i_k.nz (bys_one _)) (by kernel_rfl) (z := .int .u8 0) (by kernel_rfl) rfl (by decide) (by omega) (by unfold maxLen; omega) ?_
 intro ac37 wo38 ao33 cp34 En39 Hv40 hnz _
 clear hnz
 rw [bys_nil_append] at Hv40
 have ehz35 : 0 + (List.length k) = List.length k := (by first | (simp; done) | (simp; omega) | omega)
 rw [ehz35] at En39
 refine d_k [0,1,2,3,8,9,10,33,35] [(4, g_n (w_a (blockOf h) 1))] 5 En39 fun ac41 En42 => ?_
 refine f_o ?_
 refine op_appzeros (d := some 36) (t := 23) (tn := 3) (tx := 9) (ty := 23) (T := 5) (kn := .i64) (ik := .i64) (k := 0) (p := List.length k) (m := (blockOf h) + 1) (xs := k) En42 (by kernel_rfl) Hv40 rfl rfl (by kernel_rfl) (by kernel_rfl) (by kernel_rfl) (by kernel_rfl) (by omega) ?_
 intro ac46 wo47 ao43 cp44 En48 Hv49 hnz _
 clear hnz
 have ehz45 : (List.length k) + ((blockOf h) + 1) = List.length (k ++ List.replicate ((blockOf h) + 1) 0) := (by first | (simp; done) | (simp; omega) | omega)
 rw [ehz45] at En48
 refine d_e [0,1,2,3,8,9,10,11] [] En48 fun ac50 En51 => ?_
 refine then_normal ?_
 refine wp_seq ?_
 refine region_from ?_
 refine d_k [0,1,2,3,8,9,10,11,37,38] [] 2 En51 fun ac52 En53 => ?_
 refine f_o ?_
 refine op_lit (d := some 39) (t := 23) (T := 5) (m := 0) (parts := #[]) (xs := bys []) (sz := 1) En53 (by kernel_rfl) (by kernel_rfl) rfl (by decide) Hv49 ?_
 intro ac55 wo56 bk54 En57 Hv58
 refine d_k [0,1,2,3,8,9,10,11,37,38,39,40] [] 4 En57 fun ac59 En60 => ?_
 refine f_o ?_
 have hsm61 := i_x.small
 refine op_append (d := some 41) (t := 23) (tx := 23) (ty := 23) (k := 1) (p := 0) (m := List.length x) (x := .slice a_x (List.length x) c_x) (bytes := 1) En60 (by kernel_rfl) Hv58 rfl rfl (Reads.src (size := 1) (tx := 23) (e' := 5) (by kernel_rfl) (i_x.ev Hv58).reads (bys_len _) i_x.nz (bys_one _)) (by kernel_rfl) (z := .int .u8 0) (by kernel_rfl) rfl (by decide) (by omega) (by unfold maxLen; omega) ?_
 intro ac66 wo67 ao62 cp63 En68 Hv69 hnz _
 clear hnz
 rw [bys_nil_append] at Hv69
 have ehz64 : 0 + (List.length x) = List.length x := (by first | (simp; done) | (simp; omega) | omega)
 rw [ehz64] at En68
 refine d_k [0,1,2,3,8,9,10,11,37,38,41,42] [] 6 En68 fun ac70 En71 => ?_
 refine f_o ?_
 have hsm72 := i_y.small
 refine op_append (d := some 43) (t := 23) (tx := 23) (ty := 23) (k := 1) (p := List.length x) (m := List.length y) (x := .slice a_y (List.length y) c_y) (bytes := 1) En71 (by kernel_rfl) Hv69 rfl (bys_len _) (Reads.src (size := 1) (tx := 23) (e' := 5) (by kernel_rfl) (i_y.ev Hv69).reads (bys_len _) i_y.nz (bys_one _)) (by kernel_rfl) (z := .int .u8 0) (by kernel_rfl) rfl (by decide) (by omega) (by unfold maxLen; omega) ?_
 intro ac77 wo78 ao73 cp74 En79 Hv80 hnz _
 clear hnz
 rw [← bys_append] at Hv80
 have ehz75 : (List.length x) + (List.length y) = List.length (x ++ y) := (by first | (simp; done) | (simp; omega) | omega)
 rw [ehz75] at En79
 refine f_o ?_
 refine op_lit (d := some 44) (t := 30) (T := 23) (m := 1) (parts := #[(0, .slice ao73 (List.length (x ++ y)) cp74)]) (xs := [.slice ao73 (List.length (x ++ y)) cp74]) (sz := 1) En79 (by kernel_rfl) (by kernel_rfl) rfl (by decide) Hv80 ?_
 intro ac82 wo83 bk81 En84 Hv85
 refine f_o ?_
 refine c_0 En84 Hv85 (macof_go _ h hh a_k (List.length k) c_k k (by first | rfl | (simp; done) | (simp; omega) | omega) ((i_k.ev Hv85).pick [] (by kernel_rfl)) (some ⟨bk81, 0, none⟩) 1 1 ([⟨ao73, cp74, x ++ y⟩] : List (Sl UInt8)) (by first | rfl | (simp; done) | (simp; omega) | omega) ⟨Hv85.heap.ro (k := 2) rfl [] (by kernel_rfl) rfl, (fun e => by cases e), (by simp), (by simp), (List.forall_mem_cons.2 ⟨(bys_in Hv85.heap (k := 1) rfl [] (by kernel_rfl) rfl (by first | decide | (dsimp only; omega) | (simp; done) | (simp; omega) | omega)), (fun x h => absurd h List.not_mem_nil)⟩)⟩ ((gk32.ev Hv85).pick [] (by kernel_rfl)) ((gk64.ev Hv85).pick [] (by kernel_rfl))) ?_
 rintro _ wo88 ⟨aoq86, coq86, rfl, he89⟩
 refine ⟨_, _, _, rfl, he89, rfl, fun ac91 En92 Hv93 => ?_⟩
 refine f_o ?_
 refine op_str (d := some 46) (src := 23) (dst := 9) (e := 5) (ao := aoq86) (cap := coq86) (p := List.length (macF h k (List.flatMap (fun s : Sl UInt8 => s.l) ([⟨ao73, cp74, x ++ y⟩] : List (Sl UInt8))))) (bs := macF h k (List.flatMap (fun s : Sl UInt8 => s.l) ([⟨ao73, cp74, x ++ y⟩] : List (Sl UInt8)))) En92 (by kernel_rfl) rfl (by kernel_rfl) (by kernel_rfl) (by kernel_rfl) (Hv93.heap.reads (k := 0) rfl) (bys_vnz Hv93.heap (k := 0) rfl) ?_
 intro ac94 En95
 refine d_e [0,1,2,3,8,9,10,11,12] [] En95 fun ac96 En97 => ?_
 refine then_normal ?_
 refine wp_seq ?_
 refine r_c (fun ac wo => Env ac 118 [(0, .int .i64 h), (1, .slice a_k (List.length k) c_k), (2, .slice a_x (List.length x) c_x), (3, .slice a_y (List.length y) c_y), (8, .bool false), (9, .bool true), (10, ni (blockOf h)), (12, .string (bstr (macF h k (List.flatMap (fun s : Sl UInt8 => s.l) ([⟨ao73, cp74, x ++ y⟩] : List (Sl UInt8)))))), (13, .bool true)] ∧ Ev w [] wo [.vec ao73 cp74 1 (bys (x ++ y)) 5]) ?_ ?_
 ·
  refine h_s (fun wv => Ev w [] wv []) [] 17 ?_
  have wo98 := Hv93.trans (Ev.drew Hv93.heap)
  refine h_name fun G hG => ?_
  have nd683 : ∀ (ac : Act) (wo : World) (aoq529 : _) (coq529 : _), Env ac 118 [(0, .int .i64 h), (1, .slice a_k (List.length k) c_k), (2, .slice a_x (List.length x) c_x), (3, .slice a_y (List.length y) c_y), (8, .bool false), (9, .bool true), (10, ni (blockOf h)), (12, .string (bstr (macF h k (List.flatMap (fun s : Sl UInt8 => s.l) ([⟨ao73, cp74, x ++ y⟩] : List (Sl UInt8)))))), (52, .string (bstr (macF h (k ++ List.replicate ((blockOf h) + 1) 0) (List.flatMap (fun s : Sl UInt8 => s.l) ([⟨a_x, c_x, x⟩] : List (Sl UInt8)))))), (60, .slice aoq529 (List.length (macF h (sumF h (List.flatMap (fun s : Sl UInt8 => s.l) ([⟨ao43, cp44, k ++ List.replicate ((blockOf h) + 1) 0⟩] : List (Sl UInt8)))) (List.flatMap (fun s : Sl UInt8 => s.l) ([⟨a_x, c_x, x⟩] : List (Sl UInt8))))) coq529)] → Ev w [] wo [.vec aoq529 coq529 1 (bys (macF h (sumF h (List.flatMap (fun s : Sl UInt8 => s.l) ([⟨ao43, cp44, k ++ List.replicate ((blockOf h) + 1) 0⟩] : List (Sl UInt8)))) (List.flatMap (fun s : Sl UInt8 => s.l) ([⟨a_x, c_x, x⟩] : List (Sl UInt8))))) 5, .vec ao43 cp44 1 (bys (k ++ List.replicate ((blockOf h) + 1) 0)) 5, .vec ao73 cp74 1 (bys (x ++ y)) 5] → G 3 #[true, true, true, true, true, true, true, true, true, true, true, true, true, true, false, false, false] ac wo := by
   intro ac684 wo685 aoq529 coq529 En686 Hv687
   refine h_from hG ?_
   refine q_t 14 ?_
   refine op_str (d := some 61) (src := 23) (dst := 9) (e := 5) (ao := aoq529) (cap := coq529) (p := List.length (macF h (sumF h (List.flatMap (fun s : Sl UInt8 => s.l) ([⟨ao43, cp44, k ++ List.replicate ((blockOf h) + 1) 0⟩] : List (Sl UInt8)))) (List.flatMap (fun s : Sl UInt8 => s.l) ([⟨a_x, c_x, x⟩] : List (Sl UInt8))))) (bs := macF h (sumF h (List.flatMap (fun s : Sl UInt8 => s.l) ([⟨ao43, cp44, k ++ List.replicate ((blockOf h) + 1) 0⟩] : List (Sl UInt8)))) (List.flatMap (fun s : Sl UInt8 => s.l) ([⟨a_x, c_x, x⟩] : List (Sl UInt8)))) En686 (by kernel_rfl) rfl (by kernel_rfl) (by kernel_rfl) (by kernel_rfl) (Hv687.heap.reads (k := 0) rfl) (bys_vnz Hv687.heap (k := 0) rfl) ?_
   intro ac688 En689
   refine ⟨fun _ => Hv687.pk [], ?_⟩
   refine q_s [15,16] [(15, g_v (show (.bool (ByteArray.toList (bstr (macF h (k ++ List.replicate ((blockOf h) + 1) 0) (List.flatMap (fun s : Sl UInt8 => s.l) ([⟨a_x, c_x, x⟩] : List (Sl UInt8))))) == ByteArray.toList (bstr (macF h (sumF h (List.flatMap (fun s : Sl UInt8 => s.l) ([⟨ao43, cp44, k ++ List.replicate ((blockOf h) + 1) 0⟩] : List (Sl UInt8)))) (List.flatMap (fun s : Sl UInt8 => s.l) ([⟨a_x, c_x, x⟩] : List (Sl UInt8)))))) : Value) = .bool true by rw [Go.Dbr.bstr_eq (macF h (k ++ List.replicate ((blockOf h) + 1) 0) (List.flatMap (fun s : Sl UInt8 => s.l) ([⟨a_x, c_x, x⟩] : List (Sl UInt8)))) (macF h (sumF h (List.flatMap (fun s : Sl UInt8 => s.l) ([⟨ao43, cp44, k ++ List.replicate ((blockOf h) + 1) 0⟩] : List (Sl UInt8)))) (List.flatMap (fun s : Sl UInt8 => s.l) ([⟨a_x, c_x, x⟩] : List (Sl UInt8)))), show ((macF h (k ++ List.replicate ((blockOf h) + 1) 0) (List.flatMap (fun s : Sl UInt8 => s.l) ([⟨a_x, c_x, x⟩] : List (Sl UInt8)))) == (macF h (sumF h (List.flatMap (fun s : Sl UInt8 => s.l) ([⟨ao43, cp44, k ++ List.replicate ((blockOf h) + 1) 0⟩] : List (Sl UInt8)))) (List.flatMap (fun s : Sl UInt8 => s.l) ([⟨a_x, c_x, x⟩] : List (Sl UInt8))))) = true from (by simp [← long_same hh k x, ← List.append_assoc]; done)] <;> rfl))] 0 En689 (Hv687.pk []) fun ac690 En691 => ?_
   exact h_e ⟨En691.sb, Hv687.pk [2]⟩
  have nd692 : ∀ (ac : Act) (wo : World) (aoq398 : _) (coq398 : _), Env ac 118 [(0, .int .i64 h), (1, .slice a_k (List.length k) c_k), (2, .slice a_x (List.length x) c_x), (3, .slice a_y (List.length y) c_y), (8, .bool false), (9, .bool true), (10, ni (blockOf h)), (12, .string (bstr (macF h k (List.flatMap (fun s : Sl UInt8 => s.l) ([⟨ao73, cp74, x ++ y⟩] : List (Sl UInt8)))))), (51, .slice aoq398 (List.length (macF h (k ++ List.replicate ((blockOf h) + 1) 0) (List.flatMap (fun s : Sl UInt8 => s.l) ([⟨a_x, c_x, x⟩] : List (Sl UInt8))))) coq398), (61, .string (bstr (macF h (sumF h (List.flatMap (fun s : Sl UInt8 => s.l) ([⟨ao43, cp44, k ++ List.replicate ((blockOf h) + 1) 0⟩] : List (Sl UInt8)))) (List.flatMap (fun s : Sl UInt8 => s.l) ([⟨a_x, c_x, x⟩] : List (Sl UInt8))))))] → Ev w [] wo [.vec aoq398 coq398 1 (bys (macF h (k ++ List.replicate ((blockOf h) + 1) 0) (List.flatMap (fun s : Sl UInt8 => s.l) ([⟨a_x, c_x, x⟩] : List (Sl UInt8))))) 5, .vec ao43 cp44 1 (bys (k ++ List.replicate ((blockOf h) + 1) 0)) 5, .vec ao73 cp74 1 (bys (x ++ y)) 5] → G 3 #[true, true, true, true, true, false, true, true, true, true, true, true, true, true, true, false, false] ac wo := by
   intro ac693 wo694 aoq398 coq398 En695 Hv696
   refine h_from hG ?_
   refine q_t 5 ?_
   refine op_str (d := some 52) (src := 23) (dst := 9) (e := 5) (ao := aoq398) (cap := coq398) (p := List.length (macF h (k ++ List.replicate ((blockOf h) + 1) 0) (List.flatMap (fun s : Sl UInt8 => s.l) ([⟨a_x, c_x, x⟩] : List (Sl UInt8))))) (bs := macF h (k ++ List.replicate ((blockOf h) + 1) 0) (List.flatMap (fun s : Sl UInt8 => s.l) ([⟨a_x, c_x, x⟩] : List (Sl UInt8)))) En695 (by kernel_rfl) rfl (by kernel_rfl) (by kernel_rfl) (by kernel_rfl) (Hv696.heap.reads (k := 0) rfl) (bys_vnz Hv696.heap (k := 0) rfl) ?_
   intro ac697 En698
   refine ⟨fun _ => Hv696.pk [], ?_⟩
   refine q_s [15,16] [(15, g_v (show (.bool (ByteArray.toList (bstr (macF h (k ++ List.replicate ((blockOf h) + 1) 0) (List.flatMap (fun s : Sl UInt8 => s.l) ([⟨a_x, c_x, x⟩] : List (Sl UInt8))))) == ByteArray.toList (bstr (macF h (sumF h (List.flatMap (fun s : Sl UInt8 => s.l) ([⟨ao43, cp44, k ++ List.replicate ((blockOf h) + 1) 0⟩] : List (Sl UInt8)))) (List.flatMap (fun s : Sl UInt8 => s.l) ([⟨a_x, c_x, x⟩] : List (Sl UInt8)))))) : Value) = .bool true by rw [Go.Dbr.bstr_eq (macF h (k ++ List.replicate ((blockOf h) + 1) 0) (List.flatMap (fun s : Sl UInt8 => s.l) ([⟨a_x, c_x, x⟩] : List (Sl UInt8)))) (macF h (sumF h (List.flatMap (fun s : Sl UInt8 => s.l) ([⟨ao43, cp44, k ++ List.replicate ((blockOf h) + 1) 0⟩] : List (Sl UInt8)))) (List.flatMap (fun s : Sl UInt8 => s.l) ([⟨a_x, c_x, x⟩] : List (Sl UInt8)))), show ((macF h (k ++ List.replicate ((blockOf h) + 1) 0) (List.flatMap (fun s : Sl UInt8 => s.l) ([⟨a_x, c_x, x⟩] : List (Sl UInt8)))) == (macF h (sumF h (List.flatMap (fun s : Sl UInt8 => s.l) ([⟨ao43, cp44, k ++ List.replicate ((blockOf h) + 1) 0⟩] : List (Sl UInt8)))) (List.flatMap (fun s : Sl UInt8 => s.l) ([⟨a_x, c_x, x⟩] : List (Sl UInt8))))) = true from (by simp [← long_same hh k x, ← List.append_assoc]; done)] <;> rfl))] 0 En698 (Hv696.pk []) fun ac699 En700 => ?_
   exact h_e ⟨En700.sb, Hv696.pk [2]⟩
  have nd701 : ∀ (ac : Act) (wo : World) (aoq500 : _) (coq500 : _) (bk510 : Nat), Env ac 118 [(0, .int .i64 h), (1, .slice a_k (List.length k) c_k), (2, .slice a_x (List.length x) c_x), (3, .slice a_y (List.length y) c_y), (8, .bool false), (9, .bool true), (10, ni (blockOf h)), (12, .string (bstr (macF h k (List.flatMap (fun s : Sl UInt8 => s.l) ([⟨ao73, cp74, x ++ y⟩] : List (Sl UInt8)))))), (52, .string (bstr (macF h (k ++ List.replicate ((blockOf h) + 1) 0) (List.flatMap (fun s : Sl UInt8 => s.l) ([⟨a_x, c_x, x⟩] : List (Sl UInt8)))))), (53, .int .i64 h), (57, .slice aoq500 (List.length (sumF h (List.flatMap (fun s : Sl UInt8 => s.l) ([⟨ao43, cp44, k ++ List.replicate ((blockOf h) + 1) 0⟩] : List (Sl UInt8))))) coq500), (59, .slice (some ⟨bk510, 0, none⟩) 1 1)] → Ev w [] wo [.vec aoq500 coq500 1 (bys (sumF h (List.flatMap (fun s : Sl UInt8 => s.l) ([⟨ao43, cp44, k ++ List.replicate ((blockOf h) + 1) 0⟩] : List (Sl UInt8))))) 5, .vec ao43 cp44 1 (bys (k ++ List.replicate ((blockOf h) + 1) 0)) 5, .vec ao73 cp74 1 (bys (x ++ y)) 5, .vec (some ⟨bk510, 0, none⟩) 1 1 [.slice a_x (List.length x) c_x] 23] → G 4 #[true, true, true, true, true, true, true, true, true, true, true, true, true, false, false, false, false] ac wo := by
   intro ac702 wo703 aoq500 coq500 bk510 En704 Hv705
   refine h_from hG ?_
   refine q_t 13 ?_
   refine c_0 En704 Hv705 (macof_go _ h hh aoq500 (List.length (sumF h (List.flatMap (fun s : Sl UInt8 => s.l) ([⟨ao43, cp44, k ++ List.replicate ((blockOf h) + 1) 0⟩] : List (Sl UInt8))))) coq500 (sumF h (List.flatMap (fun s : Sl UInt8 => s.l) ([⟨ao43, cp44, k ++ List.replicate ((blockOf h) + 1) 0⟩] : List (Sl UInt8)))) (by first | rfl | (simp; done) | (simp; omega) | omega) (bys_in Hv705.heap (k := 0) rfl [] (by kernel_rfl) rfl (by first | omega | (simp; done) | (simp; omega))) (some ⟨bk510, 0, none⟩) 1 1 ([⟨a_x, c_x, x⟩] : List (Sl UInt8)) (by first | rfl | (simp; done) | (simp; omega) | omega) ⟨Hv705.heap.ro (k := 3) rfl [] (by kernel_rfl) rfl, (fun e => by cases e), (by simp), (by simp), (List.forall_mem_cons.2 ⟨((i_x.ev Hv705).pick [] (by kernel_rfl)), (fun x h => absurd h List.not_mem_nil)⟩)⟩ ((gk32.ev Hv705).pick [] (by kernel_rfl)) ((gk64.ev Hv705).pick [] (by kernel_rfl))) ?_
   rintro _ wo708 ⟨aoq706, coq706, rfl, he709⟩
   refine ⟨_, _, _, rfl, he709, rfl, fun ac711 En712 Hv713 => ?_⟩
   refine ⟨fun _ => Hv713.pk [], ?_⟩
   refine q_t 14 ?_
   refine op_str (d := some 61) (src := 23) (dst := 9) (e := 5) (ao := aoq706) (cap := coq706) (p := List.length (macF h (sumF h (List.flatMap (fun s : Sl UInt8 => s.l) ([⟨ao43, cp44, k ++ List.replicate ((blockOf h) + 1) 0⟩] : List (Sl UInt8)))) (List.flatMap (fun s : Sl UInt8 => s.l) ([⟨a_x, c_x, x⟩] : List (Sl UInt8))))) (bs := macF h (sumF h (List.flatMap (fun s : Sl UInt8 => s.l) ([⟨ao43, cp44, k ++ List.replicate ((blockOf h) + 1) 0⟩] : List (Sl UInt8)))) (List.flatMap (fun s : Sl UInt8 => s.l) ([⟨a_x, c_x, x⟩] : List (Sl UInt8)))) En712 (by kernel_rfl) rfl (by kernel_rfl) (by kernel_rfl) (by kernel_rfl) (Hv713.heap.reads (k := 0) rfl) (bys_vnz Hv713.heap (k := 0) rfl) ?_
   intro ac714 En715
   refine ⟨fun _ => Hv713.pk [], ?_⟩
   refine q_s [15,16] [(15, g_v (show (.bool (ByteArray.toList (bstr (macF h (k ++ List.replicate ((blockOf h) + 1) 0) (List.flatMap (fun s : Sl UInt8 => s.l) ([⟨a_x, c_x, x⟩] : List (Sl UInt8))))) == ByteArray.toList (bstr (macF h (sumF h (List.flatMap (fun s : Sl UInt8 => s.l) ([⟨ao43, cp44, k ++ List.replicate ((blockOf h) + 1) 0⟩] : List (Sl UInt8)))) (List.flatMap (fun s : Sl UInt8 => s.l) ([⟨a_x, c_x, x⟩] : List (Sl UInt8)))))) : Value) = .bool true by rw [Go.Dbr.bstr_eq (macF h (k ++ List.replicate ((blockOf h) + 1) 0) (List.flatMap (fun s : Sl UInt8 => s.l) ([⟨a_x, c_x, x⟩] : List (Sl UInt8)))) (macF h (sumF h (List.flatMap (fun s : Sl UInt8 => s.l) ([⟨ao43, cp44, k ++ List.replicate ((blockOf h) + 1) 0⟩] : List (Sl UInt8)))) (List.flatMap (fun s : Sl UInt8 => s.l) ([⟨a_x, c_x, x⟩] : List (Sl UInt8)))), show ((macF h (k ++ List.replicate ((blockOf h) + 1) 0) (List.flatMap (fun s : Sl UInt8 => s.l) ([⟨a_x, c_x, x⟩] : List (Sl UInt8)))) == (macF h (sumF h (List.flatMap (fun s : Sl UInt8 => s.l) ([⟨ao43, cp44, k ++ List.replicate ((blockOf h) + 1) 0⟩] : List (Sl UInt8)))) (List.flatMap (fun s : Sl UInt8 => s.l) ([⟨a_x, c_x, x⟩] : List (Sl UInt8))))) = true from (by simp [← long_same hh k x, ← List.append_assoc]; done)] <;> rfl))] 0 En715 (Hv713.pk []) fun ac716 En717 => ?_
   exact h_e ⟨En717.sb, Hv713.pk [3]⟩
  have nd718 : ∀ (ac : Act) (wo : World) (aoq398 : _) (coq398 : _) (aoq529 : _) (coq529 : _), Env ac 118 [(0, .int .i64 h), (1, .slice a_k (List.length k) c_k), (2, .slice a_x (List.length x) c_x), (3, .slice a_y (List.length y) c_y), (8, .bool false), (9, .bool true), (10, ni (blockOf h)), (12, .string (bstr (macF h k (List.flatMap (fun s : Sl UInt8 => s.l) ([⟨ao73, cp74, x ++ y⟩] : List (Sl UInt8)))))), (51, .slice aoq398 (List.length (macF h (k ++ List.replicate ((blockOf h) + 1) 0) (List.flatMap (fun s : Sl UInt8 => s.l) ([⟨a_x, c_x, x⟩] : List (Sl UInt8))))) coq398), (60, .slice aoq529 (List.length (macF h (sumF h (List.flatMap (fun s : Sl UInt8 => s.l) ([⟨ao43, cp44, k ++ List.replicate ((blockOf h) + 1) 0⟩] : List (Sl UInt8)))) (List.flatMap (fun s : Sl UInt8 => s.l) ([⟨a_x, c_x, x⟩] : List (Sl UInt8))))) coq529)] → Ev w [] wo [.vec aoq529 coq529 1 (bys (macF h (sumF h (List.flatMap (fun s : Sl UInt8 => s.l) ([⟨ao43, cp44, k ++ List.replicate ((blockOf h) + 1) 0⟩] : List (Sl UInt8)))) (List.flatMap (fun s : Sl UInt8 => s.l) ([⟨a_x, c_x, x⟩] : List (Sl UInt8))))) 5, .vec aoq398 coq398 1 (bys (macF h (k ++ List.replicate ((blockOf h) + 1) 0) (List.flatMap (fun s : Sl UInt8 => s.l) ([⟨a_x, c_x, x⟩] : List (Sl UInt8))))) 5, .vec ao43 cp44 1 (bys (k ++ List.replicate ((blockOf h) + 1) 0)) 5, .vec ao73 cp74 1 (bys (x ++ y)) 5] → G 4 #[true, true, true, true, true, false, true, true, true, true, true, true, true, true, false, false, false] ac wo := by
   intro ac719 wo720 aoq398 coq398 aoq529 coq529 En721 Hv722
   refine h_from hG ?_
   refine h_ways [5, 14] (by kernel_rfl) rfl ?_
   refine ⟨?_, ?_, trivial⟩
   ·
    rintro _ rfl
    refine op_str (d := some 52) (src := 23) (dst := 9) (e := 5) (ao := aoq398) (cap := coq398) (p := List.length (macF h (k ++ List.replicate ((blockOf h) + 1) 0) (List.flatMap (fun s : Sl UInt8 => s.l) ([⟨a_x, c_x, x⟩] : List (Sl UInt8))))) (bs := macF h (k ++ List.replicate ((blockOf h) + 1) 0) (List.flatMap (fun s : Sl UInt8 => s.l) ([⟨a_x, c_x, x⟩] : List (Sl UInt8)))) En721 (by kernel_rfl) rfl (by kernel_rfl) (by kernel_rfl) (by kernel_rfl) (Hv722.heap.reads (k := 1) rfl) (bys_vnz Hv722.heap (k := 1) rfl) ?_
    intro ac723 En724
    refine ⟨fun _ => Hv722.pk [], ?_⟩
    exact h_to hG (by kernel_rfl) (nd683 _ _ aoq529 coq529 (En724.sb) (Hv722.pk [0, 2, 3]))
   ·
    rintro _ rfl
    refine op_str (d := some 61) (src := 23) (dst := 9) (e := 5) (ao := aoq529) (cap := coq529) (p := List.length (macF h (sumF h (List.flatMap (fun s : Sl UInt8 => s.l) ([⟨ao43, cp44, k ++ List.replicate ((blockOf h) + 1) 0⟩] : List (Sl UInt8)))) (List.flatMap (fun s : Sl UInt8 => s.l) ([⟨a_x, c_x, x⟩] : List (Sl UInt8))))) (bs := macF h (sumF h (List.flatMap (fun s : Sl UInt8 => s.l) ([⟨ao43, cp44, k ++ List.replicate ((blockOf h) + 1) 0⟩] : List (Sl UInt8)))) (List.flatMap (fun s : Sl UInt8 => s.l) ([⟨a_x, c_x, x⟩] : List (Sl UInt8)))) En721 (by kernel_rfl) rfl (by kernel_rfl) (by kernel_rfl) (by kernel_rfl) (Hv722.heap.reads (k := 0) rfl) (bys_vnz Hv722.heap (k := 0) rfl) ?_
    intro ac725 En726
    refine ⟨fun _ => Hv722.pk [], ?_⟩
    exact h_to hG (by kernel_rfl) (nd692 _ _ aoq398 coq398 (En726.sb) (Hv722.pk [1, 2, 3]))
  have nd727 : ∀ (ac : Act) (wo : World) (aoq413 : _) (coq413 : _), Env ac 118 [(0, .int .i64 h), (1, .slice a_k (List.length k) c_k), (2, .slice a_x (List.length x) c_x), (3, .slice a_y (List.length y) c_y), (8, .bool false), (9, .bool true), (10, ni (blockOf h)), (12, .string (bstr (macF h k (List.flatMap (fun s : Sl UInt8 => s.l) ([⟨ao73, cp74, x ++ y⟩] : List (Sl UInt8)))))), (52, .string (bstr (macF h (k ++ List.replicate ((blockOf h) + 1) 0) (List.flatMap (fun s : Sl UInt8 => s.l) ([⟨a_x, c_x, x⟩] : List (Sl UInt8)))))), (53, .int .i64 h), (57, .slice aoq413 (List.length (sumF h (List.flatMap (fun s : Sl UInt8 => s.l) ([⟨ao43, cp44, k ++ List.replicate ((blockOf h) + 1) 0⟩] : List (Sl UInt8))))) coq413), (58, .slice a_x (List.length x) c_x)] → Ev w [] wo [.vec aoq413 coq413 1 (bys (sumF h (List.flatMap (fun s : Sl UInt8 => s.l) ([⟨ao43, cp44, k ++ List.replicate ((blockOf h) + 1) 0⟩] : List (Sl UInt8))))) 5, .vec ao43 cp44 1 (bys (k ++ List.replicate ((blockOf h) + 1) 0)) 5, .vec ao73 cp74 1 (bys (x ++ y)) 5] → G 5 #[true, true, true, true, true, true, true, true, true, true, true, true, false, false, false, false, false] ac wo := by
   intro ac728 wo729 aoq413 coq413 En730 Hv731
   refine h_from hG ?_
   refine q_t 12 ?_
   refine op_lit (d := some 59) (t := 30) (T := 23) (m := 1) (parts := #[(0, .slice a_x (List.length x) c_x)]) (xs := [.slice a_x (List.length x) c_x]) (sz := 1) En730 (by kernel_rfl) (by kernel_rfl) rfl (by decide) Hv731 ?_
   intro ac733 wo734 bk732 En735 Hv736
   refine ⟨fun _ => Hv736.pk [], ?_⟩
   refine q_t 13 ?_
   refine c_0 En735 Hv736 (macof_go _ h hh aoq413 (List.length (sumF h (List.flatMap (fun s : Sl UInt8 => s.l) ([⟨ao43, cp44, k ++ List.replicate ((blockOf h) + 1) 0⟩] : List (Sl UInt8))))) coq413 (sumF h (List.flatMap (fun s : Sl UInt8 => s.l) ([⟨ao43, cp44, k ++ List.replicate ((blockOf h) + 1) 0⟩] : List (Sl UInt8)))) (by first | rfl | (simp; done) | (simp; omega) | omega) (bys_in Hv736.heap (k := 0) rfl [] (by kernel_rfl) rfl (by first | omega | (simp; done) | (simp; omega))) (some ⟨bk732, 0, none⟩) 1 1 ([⟨a_x, c_x, x⟩] : List (Sl UInt8)) (by first | rfl | (simp; done) | (simp; omega) | omega) ⟨Hv736.heap.ro (k := 3) rfl [] (by kernel_rfl) rfl, (fun e => by cases e), (by simp), (by simp), (List.forall_mem_cons.2 ⟨((i_x.ev Hv736).pick [] (by kernel_rfl)), (fun x h => absurd h List.not_mem_nil)⟩)⟩ ((gk32.ev Hv736).pick [] (by kernel_rfl)) ((gk64.ev Hv736).pick [] (by kernel_rfl))) ?_
   rintro _ wo739 ⟨aoq737, coq737, rfl, he740⟩
   refine ⟨_, _, _, rfl, he740, rfl, fun ac742 En743 Hv744 => ?_⟩
   refine ⟨fun _ => Hv744.pk [], ?_⟩
   refine q_t 14 ?_
   refine op_str (d := some 61) (src := 23) (dst := 9) (e := 5) (ao := aoq737) (cap := coq737) (p := List.length (macF h (sumF h (List.flatMap (fun s : Sl UInt8 => s.l) ([⟨ao43, cp44, k ++ List.replicate ((blockOf h) + 1) 0⟩] : List (Sl UInt8)))) (List.flatMap (fun s : Sl UInt8 => s.l) ([⟨a_x, c_x, x⟩] : List (Sl UInt8))))) (bs := macF h (sumF h (List.flatMap (fun s : Sl UInt8 => s.l) ([⟨ao43, cp44, k ++ List.replicate ((blockOf h) + 1) 0⟩] : List (Sl UInt8)))) (List.flatMap (fun s : Sl UInt8 => s.l) ([⟨a_x, c_x, x⟩] : List (Sl UInt8)))) En743 (by kernel_rfl) rfl (by kernel_rfl) (by kernel_rfl) (by kernel_rfl) (Hv744.heap.reads (k := 0) rfl) (bys_vnz Hv744.heap (k := 0) rfl) ?_
   intro ac745 En746
   refine ⟨fun _ => Hv744.pk [], ?_⟩
   refine q_s [15,16] [(15, g_v (show (.bool (ByteArray.toList (bstr (macF h (k ++ List.replicate ((blockOf h) + 1) 0) (List.flatMap (fun s : Sl UInt8 => s.l) ([⟨a_x, c_x, x⟩] : List (Sl UInt8))))) == ByteArray.toList (bstr (macF h (sumF h (List.flatMap (fun s : Sl UInt8 => s.l) ([⟨ao43, cp44, k ++ List.replicate ((blockOf h) + 1) 0⟩] : List (Sl UInt8)))) (List.flatMap (fun s : Sl UInt8 => s.l) ([⟨a_x, c_x, x⟩] : List (Sl UInt8)))))) : Value) = .bool true by rw [Go.Dbr.bstr_eq (macF h (k ++ List.replicate ((blockOf h) + 1) 0) (List.flatMap (fun s : Sl UInt8 => s.l) ([⟨a_x, c_x, x⟩] : List (Sl UInt8)))) (macF h (sumF h (List.flatMap (fun s : Sl UInt8 => s.l) ([⟨ao43, cp44, k ++ List.replicate ((blockOf h) + 1) 0⟩] : List (Sl UInt8)))) (List.flatMap (fun s : Sl UInt8 => s.l) ([⟨a_x, c_x, x⟩] : List (Sl UInt8)))), show ((macF h (k ++ List.replicate ((blockOf h) + 1) 0) (List.flatMap (fun s : Sl UInt8 => s.l) ([⟨a_x, c_x, x⟩] : List (Sl UInt8)))) == (macF h (sumF h (List.flatMap (fun s : Sl UInt8 => s.l) ([⟨ao43, cp44, k ++ List.replicate ((blockOf h) + 1) 0⟩] : List (Sl UInt8)))) (List.flatMap (fun s : Sl UInt8 => s.l) ([⟨a_x, c_x, x⟩] : List (Sl UInt8))))) = true from (by simp [← long_same hh k x, ← List.append_assoc]; done)] <;> rfl))] 0 En746 (Hv744.pk []) fun ac747 En748 => ?_
   exact h_e ⟨En748.sb, Hv744.pk [3]⟩
  have nd749 : ∀ (ac : Act) (wo : World) (bk408 : Nat) (bk438 : Nat), Env ac 118 [(0, .int .i64 h), (1, .slice a_k (List.length k) c_k), (2, .slice a_x (List.length x) c_x), (3, .slice a_y (List.length y) c_y), (8, .bool false), (9, .bool true), (10, ni (blockOf h)), (12, .string (bstr (macF h k (List.flatMap (fun s : Sl UInt8 => s.l) ([⟨ao73, cp74, x ++ y⟩] : List (Sl UInt8)))))), (52, .string (bstr (macF h (k ++ List.replicate ((blockOf h) + 1) 0) (List.flatMap (fun s : Sl UInt8 => s.l) ([⟨a_x, c_x, x⟩] : List (Sl UInt8)))))), (53, .int .i64 h), (54, .int .i64 h), (56, .slice (some ⟨bk408, 0, none⟩) 1 1), (59, .slice (some ⟨bk438, 0, none⟩) 1 1)] → Ev w [] wo [.vec ao43 cp44 1 (bys (k ++ List.replicate ((blockOf h) + 1) 0)) 5, .vec ao73 cp74 1 (bys (x ++ y)) 5, .vec (some ⟨bk408, 0, none⟩) 1 1 [.slice ao43 (List.length (k ++ List.replicate ((blockOf h) + 1) 0)) cp44] 23, .vec (some ⟨bk438, 0, none⟩) 1 1 [.slice a_x (List.length x) c_x] 23] → G 5 #[true, true, true, true, true, true, true, true, true, true, false, true, true, false, false, false, false] ac wo := by
   intro ac750 wo751 bk408 bk438 En752 Hv753
   refine h_from hG ?_
   refine q_t 10 ?_
   refine c_0 En752 Hv753 (of_all _ h hh (some ⟨bk408, 0, none⟩) 1 1 ([⟨ao43, cp44, k ++ List.replicate ((blockOf h) + 1) 0⟩] : List (Sl UInt8)) (by first | rfl | (simp; done) | (simp; omega) | omega) ⟨Hv753.heap.ro (k := 2) rfl [] (by kernel_rfl) rfl, (fun e => by cases e), (by simp), (by simp), (List.forall_mem_cons.2 ⟨(bys_in Hv753.heap (k := 0) rfl [] (by kernel_rfl) rfl (by first | decide | (dsimp only; omega) | (simp; done) | (simp; omega) | omega)), (fun x h => absurd h List.not_mem_nil)⟩)⟩ ((gk32.ev Hv753).pick [] (by kernel_rfl)) ((gk64.ev Hv753).pick [] (by kernel_rfl))) ?_
   rintro _ wo756 ⟨aoq754, coq754, rfl, he757⟩
   refine ⟨_, _, _, rfl, he757, rfl, fun ac759 En760 Hv761 => ?_⟩
   refine ⟨fun _ => Hv761.pk [], ?_⟩
   refine q_t 13 ?_
   refine c_0 En760 Hv761 (macof_go _ h hh aoq754 (List.length (sumF h (List.flatMap (fun s : Sl UInt8 => s.l) ([⟨ao43, cp44, k ++ List.replicate ((blockOf h) + 1) 0⟩] : List (Sl UInt8))))) coq754 (sumF h (List.flatMap (fun s : Sl UInt8 => s.l) ([⟨ao43, cp44, k ++ List.replicate ((blockOf h) + 1) 0⟩] : List (Sl UInt8)))) (by first | rfl | (simp; done) | (simp; omega) | omega) (bys_in Hv761.heap (k := 0) rfl [] (by kernel_rfl) rfl (by first | omega | (simp; done) | (simp; omega))) (some ⟨bk438, 0, none⟩) 1 1 ([⟨a_x, c_x, x⟩] : List (Sl UInt8)) (by first | rfl | (simp; done) | (simp; omega) | omega) ⟨Hv761.heap.ro (k := 4) rfl [] (by kernel_rfl) rfl, (fun e => by cases e), (by simp), (by simp), (List.forall_mem_cons.2 ⟨((i_x.ev Hv761).pick [] (by kernel_rfl)), (fun x h => absurd h List.not_mem_nil)⟩)⟩ ((gk32.ev Hv761).pick [] (by kernel_rfl)) ((gk64.ev Hv761).pick [] (by kernel_rfl))) ?_
   rintro _ wo764 ⟨aoq762, coq762, rfl, he765⟩
   refine ⟨_, _, _, rfl, he765, rfl, fun ac767 En768 Hv769 => ?_⟩
   refine ⟨fun _ => Hv769.pk [], ?_⟩
   refine q_t 14 ?_
   refine op_str (d := some 61) (src := 23) (dst := 9) (e := 5) (ao := aoq762) (cap := coq762) (p := List.length (macF h (sumF h (List.flatMap (fun s : Sl UInt8 => s.l) ([⟨ao43, cp44, k ++ List.replicate ((blockOf h) + 1) 0⟩] : List (Sl UInt8)))) (List.flatMap (fun s : Sl UInt8 => s.l) ([⟨a_x, c_x, x⟩] : List (Sl UInt8))))) (bs := macF h (sumF h (List.flatMap (fun s : Sl UInt8 => s.l) ([⟨ao43, cp44, k ++ List.replicate ((blockOf h) + 1) 0⟩] : List (Sl UInt8)))) (List.flatMap (fun s : Sl UInt8 => s.l) ([⟨a_x, c_x, x⟩] : List (Sl UInt8)))) En768 (by kernel_rfl) rfl (by kernel_rfl) (by kernel_rfl) (by kernel_rfl) (Hv769.heap.reads (k := 0) rfl) (bys_vnz Hv769.heap (k := 0) rfl) ?_
   intro ac770 En771
   refine ⟨fun _ => Hv769.pk [], ?_⟩
   refine q_s [15,16] [(15, g_v (show (.bool (ByteArray.toList (bstr (macF h (k ++ List.replicate ((blockOf h) + 1) 0) (List.flatMap (fun s : Sl UInt8 => s.l) ([⟨a_x, c_x, x⟩] : List (Sl UInt8))))) == ByteArray.toList (bstr (macF h (sumF h (List.flatMap (fun s : Sl UInt8 => s.l) ([⟨ao43, cp44, k ++ List.replicate ((blockOf h) + 1) 0⟩] : List (Sl UInt8)))) (List.flatMap (fun s : Sl UInt8 => s.l) ([⟨a_x, c_x, x⟩] : List (Sl UInt8)))))) : Value) = .bool true by rw [Go.Dbr.bstr_eq (macF h (k ++ List.replicate ((blockOf h) + 1) 0) (List.flatMap (fun s : Sl UInt8 => s.l) ([⟨a_x, c_x, x⟩] : List (Sl UInt8)))) (macF h (sumF h (List.flatMap (fun s : Sl UInt8 => s.l) ([⟨ao43, cp44, k ++ List.replicate ((blockOf h) + 1) 0⟩] : List (Sl UInt8)))) (List.flatMap (fun s : Sl UInt8 => s.l) ([⟨a_x, c_x, x⟩] : List (Sl UInt8)))), show ((macF h (k ++ List.replicate ((blockOf h) + 1) 0) (List.flatMap (fun s : Sl UInt8 => s.l) ([⟨a_x, c_x, x⟩] : List (Sl UInt8)))) == (macF h (sumF h (List.flatMap (fun s : Sl UInt8 => s.l) ([⟨ao43, cp44, k ++ List.replicate ((blockOf h) + 1) 0⟩] : List (Sl UInt8)))) (List.flatMap (fun s : Sl UInt8 => s.l) ([⟨a_x, c_x, x⟩] : List (Sl UInt8))))) = true from (by simp [← long_same hh k x, ← List.append_assoc]; done)] <;> rfl))] 0 En771 (Hv769.pk []) fun ac772 En773 => ?_
   exact h_e ⟨En773.sb, Hv769.pk [3]⟩
  have nd774 : ∀ (ac : Act) (wo : World) (aoq398 : _) (coq398 : _) (aoq500 : _) (coq500 : _) (bk510 : Nat), Env ac 118 [(0, .int .i64 h), (1, .slice a_k (List.length k) c_k), (2, .slice a_x (List.length x) c_x), (3, .slice a_y (List.length y) c_y), (8, .bool false), (9, .bool true), (10, ni (blockOf h)), (12, .string (bstr (macF h k (List.flatMap (fun s : Sl UInt8 => s.l) ([⟨ao73, cp74, x ++ y⟩] : List (Sl UInt8)))))), (51, .slice aoq398 (List.length (macF h (k ++ List.replicate ((blockOf h) + 1) 0) (List.flatMap (fun s : Sl UInt8 => s.l) ([⟨a_x, c_x, x⟩] : List (Sl UInt8))))) coq398), (53, .int .i64 h), (57, .slice aoq500 (List.length (sumF h (List.flatMap (fun s : Sl UInt8 => s.l) ([⟨ao43, cp44, k ++ List.replicate ((blockOf h) + 1) 0⟩] : List (Sl UInt8))))) coq500), (59, .slice (some ⟨bk510, 0, none⟩) 1 1)] → Ev w [] wo [.vec aoq500 coq500 1 (bys (sumF h (List.flatMap (fun s : Sl UInt8 => s.l) ([⟨ao43, cp44, k ++ List.replicate ((blockOf h) + 1) 0⟩] : List (Sl UInt8))))) 5, .vec aoq398 coq398 1 (bys (macF h (k ++ List.replicate ((blockOf h) + 1) 0) (List.flatMap (fun s : Sl UInt8 => s.l) ([⟨a_x, c_x, x⟩] : List (Sl UInt8))))) 5, .vec ao43 cp44 1 (bys (k ++ List.replicate ((blockOf h) + 1) 0)) 5, .vec ao73 cp74 1 (bys (x ++ y)) 5, .vec (some ⟨bk510, 0, none⟩) 1 1 [.slice a_x (List.length x) c_x] 23] → G 5 #[true, true, true, true, true, false, true, true, true, true, true, true, true, false, false, false, false] ac wo := by
   intro ac775 wo776 aoq398 coq398 aoq500 coq500 bk510 En777 Hv778
   refine h_from hG ?_
   refine h_ways [5, 13] (by kernel_rfl) rfl ?_
   refine ⟨?_, ?_, trivial⟩
   ·
    rintro _ rfl
    refine op_str (d := some 52) (src := 23) (dst := 9) (e := 5) (ao := aoq398) (cap := coq398) (p := List.length (macF h (k ++ List.replicate ((blockOf h) + 1) 0) (List.flatMap (fun s : Sl UInt8 => s.l) ([⟨a_x, c_x, x⟩] : List (Sl UInt8))))) (bs := macF h (k ++ List.replicate ((blockOf h) + 1) 0) (List.flatMap (fun s : Sl UInt8 => s.l) ([⟨a_x, c_x, x⟩] : List (Sl UInt8)))) En777 (by kernel_rfl) rfl (by kernel_rfl) (by kernel_rfl) (by kernel_rfl) (Hv778.heap.reads (k := 1) rfl) (bys_vnz Hv778.heap (k := 1) rfl) ?_
    intro ac779 En780
    refine ⟨fun _ => Hv778.pk [], ?_⟩
    exact h_to hG (by kernel_rfl) (nd701 _ _ aoq500 coq500 bk510 (En780.sb) (Hv778.pk [0, 2, 3, 4]))
   ·
    rintro _ rfl
    refine c_0 En777 Hv778 (macof_go _ h hh aoq500 (List.length (sumF h (List.flatMap (fun s : Sl UInt8 => s.l) ([⟨ao43, cp44, k ++ List.replicate ((blockOf h) + 1) 0⟩] : List (Sl UInt8))))) coq500 (sumF h (List.flatMap (fun s : Sl UInt8 => s.l) ([⟨ao43, cp44, k ++ List.replicate ((blockOf h) + 1) 0⟩] : List (Sl UInt8)))) (by first | rfl | (simp; done) | (simp; omega) | omega) (bys_in Hv778.heap (k := 0) rfl [] (by kernel_rfl) rfl (by first | omega | (simp; done) | (simp; omega))) (some ⟨bk510, 0, none⟩) 1 1 ([⟨a_x, c_x, x⟩] : List (Sl UInt8)) (by first | rfl | (simp; done) | (simp; omega) | omega) ⟨Hv778.heap.ro (k := 4) rfl [] (by kernel_rfl) rfl, (fun e => by cases e), (by simp), (by simp), (List.forall_mem_cons.2 ⟨((i_x.ev Hv778).pick [] (by kernel_rfl)), (fun x h => absurd h List.not_mem_nil)⟩)⟩ ((gk32.ev Hv778).pick [] (by kernel_rfl)) ((gk64.ev Hv778).pick [] (by kernel_rfl))) ?_
    rintro _ wo783 ⟨aoq781, coq781, rfl, he784⟩
    refine ⟨_, _, _, rfl, he784, rfl, fun ac786 En787 Hv788 => ?_⟩
    refine ⟨fun _ => Hv788.pk [], ?_⟩
    exact h_to hG (by kernel_rfl) (nd718 _ _ aoq398 coq398 aoq781 coq781 (En787.sb) (Hv788.pk [0, 2, 3, 4]))
  have nd789 : ∀ (ac : Act) (wo : World) (bk408 : Nat), Env ac 118 [(0, .int .i64 h), (1, .slice a_k (List.length k) c_k), (2, .slice a_x (List.length x) c_x), (3, .slice a_y (List.length y) c_y), (8, .bool false), (9, .bool true), (10, ni (blockOf h)), (12, .string (bstr (macF h k (List.flatMap (fun s : Sl UInt8 => s.l) ([⟨ao73, cp74, x ++ y⟩] : List (Sl UInt8)))))), (52, .string (bstr (macF h (k ++ List.replicate ((blockOf h) + 1) 0) (List.flatMap (fun s : Sl UInt8 => s.l) ([⟨a_x, c_x, x⟩] : List (Sl UInt8)))))), (53, .int .i64 h), (54, .int .i64 h), (56, .slice (some ⟨bk408, 0, none⟩) 1 1), (58, .slice a_x (List.length x) c_x)] → Ev w [] wo [.vec ao43 cp44 1 (bys (k ++ List.replicate ((blockOf h) + 1) 0)) 5, .vec ao73 cp74 1 (bys (x ++ y)) 5, .vec (some ⟨bk408, 0, none⟩) 1 1 [.slice ao43 (List.length (k ++ List.replicate ((blockOf h) + 1) 0)) cp44] 23] → G 6 #[true, true, true, true, true, true, true, true, true, true, false, true, false, false, false, false, false] ac wo := by
   intro ac790 wo791 bk408 En792 Hv793
   refine h_from hG ?_
   refine h_ways [10, 12] (by kernel_rfl) rfl ?_
   refine ⟨?_, ?_, trivial⟩
   ·
    rintro _ rfl
    refine c_0 En792 Hv793 (of_all _ h hh (some ⟨bk408, 0, none⟩) 1 1 ([⟨ao43, cp44, k ++ List.replicate ((blockOf h) + 1) 0⟩] : List (Sl UInt8)) (by first | rfl | (simp; done) | (simp; omega) | omega) ⟨Hv793.heap.ro (k := 2) rfl [] (by kernel_rfl) rfl, (fun e => by cases e), (by simp), (by simp), (List.forall_mem_cons.2 ⟨(bys_in Hv793.heap (k := 0) rfl [] (by kernel_rfl) rfl (by first | decide | (dsimp only; omega) | (simp; done) | (simp; omega) | omega)), (fun x h => absurd h List.not_mem_nil)⟩)⟩ ((gk32.ev Hv793).pick [] (by kernel_rfl)) ((gk64.ev Hv793).pick [] (by kernel_rfl))) ?_
    rintro _ wo796 ⟨aoq794, coq794, rfl, he797⟩
    refine ⟨_, _, _, rfl, he797, rfl, fun ac799 En800 Hv801 => ?_⟩
    refine ⟨fun _ => Hv801.pk [], ?_⟩
    exact h_to hG (by kernel_rfl) (nd727 _ _ aoq794 coq794 (En800.sb) (Hv801.pk [0, 1, 2]))
   ·
    rintro _ rfl
    refine op_lit (d := some 59) (t := 30) (T := 23) (m := 1) (parts := #[(0, .slice a_x (List.length x) c_x)]) (xs := [.slice a_x (List.length x) c_x]) (sz := 1) En792 (by kernel_rfl) (by kernel_rfl) rfl (by decide) Hv793 ?_
    intro ac803 wo804 bk802 En805 Hv806
    refine ⟨fun _ => Hv806.pk [], ?_⟩
    exact h_to hG (by kernel_rfl) (nd749 _ _ bk408 bk802 (En805.sb) (Hv806.pk [0, 1, 2, 3]))
  have nd807 : ∀ (ac : Act) (wo : World) (bk463 : Nat), Env ac 118 [(0, .int .i64 h), (1, .slice a_k (List.length k) c_k), (2, .slice a_x (List.length x) c_x), (3, .slice a_y (List.length y) c_y), (8, .bool false), (9, .bool true), (10, ni (blockOf h)), (12, .string (bstr (macF h k (List.flatMap (fun s : Sl UInt8 => s.l) ([⟨ao73, cp74, x ++ y⟩] : List (Sl UInt8)))))), (52, .string (bstr (macF h (k ++ List.replicate ((blockOf h) + 1) 0) (List.flatMap (fun s : Sl UInt8 => s.l) ([⟨a_x, c_x, x⟩] : List (Sl UInt8)))))), (53, .int .i64 h), (54, .int .i64 h), (55, .slice ao43 (List.length (k ++ List.replicate ((blockOf h) + 1) 0)) cp44), (59, .slice (some ⟨bk463, 0, none⟩) 1 1)] → Ev w [] wo [.vec ao43 cp44 1 (bys (k ++ List.replicate ((blockOf h) + 1) 0)) 5, .vec ao73 cp74 1 (bys (x ++ y)) 5, .vec (some ⟨bk463, 0, none⟩) 1 1 [.slice a_x (List.length x) c_x] 23] → G 6 #[true, true, true, true, true, true, true, true, true, false, false, true, true, false, false, false, false] ac wo := by
   intro ac808 wo809 bk463 En810 Hv811
   refine h_from hG ?_
   refine q_t 9 ?_
   refine op_lit (d := some 56) (t := 30) (T := 23) (m := 1) (parts := #[(0, .slice ao43 (List.length (k ++ List.replicate ((blockOf h) + 1) 0)) cp44)]) (xs := [.slice ao43 (List.length (k ++ List.replicate ((blockOf h) + 1) 0)) cp44]) (sz := 1) En810 (by kernel_rfl) (by kernel_rfl) rfl (by decide) Hv811 ?_
   intro ac813 wo814 bk812 En815 Hv816
   refine ⟨fun _ => Hv816.pk [], ?_⟩
   refine q_t 10 ?_
   refine c_0 En815 Hv816 (of_all _ h hh (some ⟨bk812, 0, none⟩) 1 1 ([⟨ao43, cp44, k ++ List.replicate ((blockOf h) + 1) 0⟩] : List (Sl UInt8)) (by first | rfl | (simp; done) | (simp; omega) | omega) ⟨Hv816.heap.ro (k := 3) rfl [] (by kernel_rfl) rfl, (fun e => by cases e), (by simp), (by simp), (List.forall_mem_cons.2 ⟨(bys_in Hv816.heap (k := 0) rfl [] (by kernel_rfl) rfl (by first | decide | (dsimp only; omega) | (simp; done) | (simp; omega) | omega)), (fun x h => absurd h List.not_mem_nil)⟩)⟩ ((gk32.ev Hv816).pick [] (by kernel_rfl)) ((gk64.ev Hv816).pick [] (by kernel_rfl))) ?_
   rintro _ wo819 ⟨aoq817, coq817, rfl, he820⟩
   refine ⟨_, _, _, rfl, he820, rfl, fun ac822 En823 Hv824 => ?_⟩
   refine ⟨fun _ => Hv824.pk [], ?_⟩
   refine q_t 13 ?_
   refine c_0 En823 Hv824 (macof_go _ h hh aoq817 (List.length (sumF h (List.flatMap (fun s : Sl UInt8 => s.l) ([⟨ao43, cp44, k ++ List.replicate ((blockOf h) + 1) 0⟩] : List (Sl UInt8))))) coq817 (sumF h (List.flatMap (fun s : Sl UInt8 => s.l) ([⟨ao43, cp44, k ++ List.replicate ((blockOf h) + 1) 0⟩] : List (Sl UInt8)))) (by first | rfl | (simp; done) | (simp; omega) | omega) (bys_in Hv824.heap (k := 0) rfl [] (by kernel_rfl) rfl (by first | omega | (simp; done) | (simp; omega))) (some ⟨bk463, 0, none⟩) 1 1 ([⟨a_x, c_x, x⟩] : List (Sl UInt8)) (by first | rfl | (simp; done) | (simp; omega) | omega) ⟨Hv824.heap.ro (k := 3) rfl [] (by kernel_rfl) rfl, (fun e => by cases e), (by simp), (by simp), (List.forall_mem_cons.2 ⟨((i_x.ev Hv824).pick [] (by kernel_rfl)), (fun x h => absurd h List.not_mem_nil)⟩)⟩ ((gk32.ev Hv824).pick [] (by kernel_rfl)) ((gk64.ev Hv824).pick [] (by kernel_rfl))) ?_
   rintro _ wo827 ⟨aoq825, coq825, rfl, he828⟩
   refine ⟨_, _, _, rfl, he828, rfl, fun ac830 En831 Hv832 => ?_⟩
   refine ⟨fun _ => Hv832.pk [], ?_⟩
   refine q_t 14 ?_
   refine op_str (d := some 61) (src := 23) (dst := 9) (e := 5) (ao := aoq825) (cap := coq825) (p := List.length (macF h (sumF h (List.flatMap (fun s : Sl UInt8 => s.l) ([⟨ao43, cp44, k ++ List.replicate ((blockOf h) + 1) 0⟩] : List (Sl UInt8)))) (List.flatMap (fun s : Sl UInt8 => s.l) ([⟨a_x, c_x, x⟩] : List (Sl UInt8))))) (bs := macF h (sumF h (List.flatMap (fun s : Sl UInt8 => s.l) ([⟨ao43, cp44, k ++ List.replicate ((blockOf h) + 1) 0⟩] : List (Sl UInt8)))) (List.flatMap (fun s : Sl UInt8 => s.l) ([⟨a_x, c_x, x⟩] : List (Sl UInt8)))) En831 (by kernel_rfl) rfl (by kernel_rfl) (by kernel_rfl) (by kernel_rfl) (Hv832.heap.reads (k := 0) rfl) (bys_vnz Hv832.heap (k := 0) rfl) ?_
   intro ac833 En834
   refine ⟨fun _ => Hv832.pk [], ?_⟩
   refine q_s [15,16] [(15, g_v (show (.bool (ByteArray.toList (bstr (macF h (k ++ List.replicate ((blockOf h) + 1) 0) (List.flatMap (fun s : Sl UInt8 => s.l) ([⟨a_x, c_x, x⟩] : List (Sl UInt8))))) == ByteArray.toList (bstr (macF h (sumF h (List.flatMap (fun s : Sl UInt8 => s.l) ([⟨ao43, cp44, k ++ List.replicate ((blockOf h) + 1) 0⟩] : List (Sl UInt8)))) (List.flatMap (fun s : Sl UInt8 => s.l) ([⟨a_x, c_x, x⟩] : List (Sl UInt8)))))) : Value) = .bool true by rw [Go.Dbr.bstr_eq (macF h (k ++ List.replicate ((blockOf h) + 1) 0) (List.flatMap (fun s : Sl UInt8 => s.l) ([⟨a_x, c_x, x⟩] : List (Sl UInt8)))) (macF h (sumF h (List.flatMap (fun s : Sl UInt8 => s.l) ([⟨ao43, cp44, k ++ List.replicate ((blockOf h) + 1) 0⟩] : List (Sl UInt8)))) (List.flatMap (fun s : Sl UInt8 => s.l) ([⟨a_x, c_x, x⟩] : List (Sl UInt8)))), show ((macF h (k ++ List.replicate ((blockOf h) + 1) 0) (List.flatMap (fun s : Sl UInt8 => s.l) ([⟨a_x, c_x, x⟩] : List (Sl UInt8)))) == (macF h (sumF h (List.flatMap (fun s : Sl UInt8 => s.l) ([⟨ao43, cp44, k ++ List.replicate ((blockOf h) + 1) 0⟩] : List (Sl UInt8)))) (List.flatMap (fun s : Sl UInt8 => s.l) ([⟨a_x, c_x, x⟩] : List (Sl UInt8))))) = true from (by simp [← long_same hh k x, ← List.append_assoc]; done)] <;> rfl))] 0 En834 (Hv832.pk []) fun ac835 En836 => ?_
   exact h_e ⟨En836.sb, Hv832.pk [3]⟩
  have nd837 : ∀ (ac : Act) (wo : World) (aoq398 : _) (coq398 : _) (aoq500 : _) (coq500 : _), Env ac 118 [(0, .int .i64 h), (1, .slice a_k (List.length k) c_k), (2, .slice a_x (List.length x) c_x), (3, .slice a_y (List.length y) c_y), (8, .bool false), (9, .bool true), (10, ni (blockOf h)), (12, .string (bstr (macF h k (List.flatMap (fun s : Sl UInt8 => s.l) ([⟨ao73, cp74, x ++ y⟩] : List (Sl UInt8)))))), (51, .slice aoq398 (List.length (macF h (k ++ List.replicate ((blockOf h) + 1) 0) (List.flatMap (fun s : Sl UInt8 => s.l) ([⟨a_x, c_x, x⟩] : List (Sl UInt8))))) coq398), (53, .int .i64 h), (57, .slice aoq500 (List.length (sumF h (List.flatMap (fun s : Sl UInt8 => s.l) ([⟨ao43, cp44, k ++ List.replicate ((blockOf h) + 1) 0⟩] : List (Sl UInt8))))) coq500), (58, .slice a_x (List.length x) c_x)] → Ev w [] wo [.vec aoq500 coq500 1 (bys (sumF h (List.flatMap (fun s : Sl UInt8 => s.l) ([⟨ao43, cp44, k ++ List.replicate ((blockOf h) + 1) 0⟩] : List (Sl UInt8))))) 5, .vec aoq398 coq398 1 (bys (macF h (k ++ List.replicate ((blockOf h) + 1) 0) (List.flatMap (fun s : Sl UInt8 => s.l) ([⟨a_x, c_x, x⟩] : List (Sl UInt8))))) 5, .vec ao43 cp44 1 (bys (k ++ List.replicate ((blockOf h) + 1) 0)) 5, .vec ao73 cp74 1 (bys (x ++ y)) 5] → G 6 #[true, true, true, true, true, false, true, true, true, true, true, true, false, false, false, false, false] ac wo := by
   intro ac838 wo839 aoq398 coq398 aoq500 coq500 En840 Hv841
   refine h_from hG ?_
   refine h_ways [5, 12] (by kernel_rfl) rfl ?_
   refine ⟨?_, ?_, trivial⟩
   ·
    rintro _ rfl
    refine op_str (d := some 52) (src := 23) (dst := 9) (e := 5) (ao := aoq398) (cap := coq398) (p := List.length (macF h (k ++ List.replicate ((blockOf h) + 1) 0) (List.flatMap (fun s : Sl UInt8 => s.l) ([⟨a_x, c_x, x⟩] : List (Sl UInt8))))) (bs := macF h (k ++ List.replicate ((blockOf h) + 1) 0) (List.flatMap (fun s : Sl UInt8 => s.l) ([⟨a_x, c_x, x⟩] : List (Sl UInt8)))) En840 (by kernel_rfl) rfl (by kernel_rfl) (by kernel_rfl) (by kernel_rfl) (Hv841.heap.reads (k := 1) rfl) (bys_vnz Hv841.heap (k := 1) rfl) ?_
    intro ac842 En843
    refine ⟨fun _ => Hv841.pk [], ?_⟩
    exact h_to hG (by kernel_rfl) (nd727 _ _ aoq500 coq500 (En843.sb) (Hv841.pk [0, 2, 3]))
   ·
    rintro _ rfl
    refine op_lit (d := some 59) (t := 30) (T := 23) (m := 1) (parts := #[(0, .slice a_x (List.length x) c_x)]) (xs := [.slice a_x (List.length x) c_x]) (sz := 1) En840 (by kernel_rfl) (by kernel_rfl) rfl (by decide) Hv841 ?_
    intro ac845 wo846 bk844 En847 Hv848
    refine ⟨fun _ => Hv848.pk [], ?_⟩
    exact h_to hG (by kernel_rfl) (nd774 _ _ aoq398 coq398 aoq500 coq500 bk844 (En847.sb) (Hv848.pk [0, 1, 2, 3, 4]))
  have nd849 : ∀ (ac : Act) (wo : World) (aoq398 : _) (coq398 : _) (bk493 : Nat) (bk549 : Nat), Env ac 118 [(0, .int .i64 h), (1, .slice a_k (List.length k) c_k), (2, .slice a_x (List.length x) c_x), (3, .slice a_y (List.length y) c_y), (8, .bool false), (9, .bool true), (10, ni (blockOf h)), (12, .string (bstr (macF h k (List.flatMap (fun s : Sl UInt8 => s.l) ([⟨ao73, cp74, x ++ y⟩] : List (Sl UInt8)))))), (51, .slice aoq398 (List.length (macF h (k ++ List.replicate ((blockOf h) + 1) 0) (List.flatMap (fun s : Sl UInt8 => s.l) ([⟨a_x, c_x, x⟩] : List (Sl UInt8))))) coq398), (53, .int .i64 h), (54, .int .i64 h), (56, .slice (some ⟨bk493, 0, none⟩) 1 1), (59, .slice (some ⟨bk549, 0, none⟩) 1 1)] → Ev w [] wo [.vec aoq398 coq398 1 (bys (macF h (k ++ List.replicate ((blockOf h) + 1) 0) (List.flatMap (fun s : Sl UInt8 => s.l) ([⟨a_x, c_x, x⟩] : List (Sl UInt8))))) 5, .vec ao43 cp44 1 (bys (k ++ List.replicate ((blockOf h) + 1) 0)) 5, .vec ao73 cp74 1 (bys (x ++ y)) 5, .vec (some ⟨bk493, 0, none⟩) 1 1 [.slice ao43 (List.length (k ++ List.replicate ((blockOf h) + 1) 0)) cp44] 23, .vec (some ⟨bk549, 0, none⟩) 1 1 [.slice a_x (List.length x) c_x] 23] → G 6 #[true, true, true, true, true, false, true, true, true, true, false, true, true, false, false, false, false] ac wo := by
   intro ac850 wo851 aoq398 coq398 bk493 bk549 En852 Hv853
   refine h_from hG ?_
   refine h_ways [5, 10] (by kernel_rfl) rfl ?_
   refine ⟨?_, ?_, trivial⟩
   ·
    rintro _ rfl
    refine op_str (d := some 52) (src := 23) (dst := 9) (e := 5) (ao := aoq398) (cap := coq398) (p := List.length (macF h (k ++ List.replicate ((blockOf h) + 1) 0) (List.flatMap (fun s : Sl UInt8 => s.l) ([⟨a_x, c_x, x⟩] : List (Sl UInt8))))) (bs := macF h (k ++ List.replicate ((blockOf h) + 1) 0) (List.flatMap (fun s : Sl UInt8 => s.l) ([⟨a_x, c_x, x⟩] : List (Sl UInt8)))) En852 (by kernel_rfl) rfl (by kernel_rfl) (by kernel_rfl) (by kernel_rfl) (Hv853.heap.reads (k := 0) rfl) (bys_vnz Hv853.heap (k := 0) rfl) ?_
    intro ac854 En855
    refine ⟨fun _ => Hv853.pk [], ?_⟩
    exact h_to hG (by kernel_rfl) (nd749 _ _ bk493 bk549 (En855.sb) (Hv853.pk [1, 2, 3, 4]))
   ·
    rintro _ rfl
    refine c_0 En852 Hv853 (of_all _ h hh (some ⟨bk493, 0, none⟩) 1 1 ([⟨ao43, cp44, k ++ List.replicate ((blockOf h) + 1) 0⟩] : List (Sl UInt8)) (by first | rfl | (simp; done) | (simp; omega) | omega) ⟨Hv853.heap.ro (k := 3) rfl [] (by kernel_rfl) rfl, (fun e => by cases e), (by simp), (by simp), (List.forall_mem_cons.2 ⟨(bys_in Hv853.heap (k := 1) rfl [] (by kernel_rfl) rfl (by first | decide | (dsimp only; omega) | (simp; done) | (simp; omega) | omega)), (fun x h => absurd h List.not_mem_nil)⟩)⟩ ((gk32.ev Hv853).pick [] (by kernel_rfl)) ((gk64.ev Hv853).pick [] (by kernel_rfl))) ?_
    rintro _ wo858 ⟨aoq856, coq856, rfl, he859⟩
    refine ⟨_, _, _, rfl, he859, rfl, fun ac861 En862 Hv863 => ?_⟩
    refine ⟨fun _ => Hv863.pk [], ?_⟩
    exact h_to hG (by kernel_rfl) (nd774 _ _ aoq398 coq398 aoq856 coq856 bk549 (En862.sb) (Hv863.pk [0, 1, 2, 3, 5]))
  have nd864 : ∀ (ac : Act) (wo : World), Env ac 118 [(0, .int .i64 h), (1, .slice a_k (List.length k) c_k), (2, .slice a_x (List.length x) c_x), (3, .slice a_y (List.length y) c_y), (8, .bool false), (9, .bool true), (10, ni (blockOf h)), (12, .string (bstr (macF h k (List.flatMap (fun s : Sl UInt8 => s.l) ([⟨ao73, cp74, x ++ y⟩] : List (Sl UInt8)))))), (52, .string (bstr (macF h (k ++ List.replicate ((blockOf h) + 1) 0) (List.flatMap (fun s : Sl UInt8 => s.l) ([⟨a_x, c_x, x⟩] : List (Sl UInt8)))))), (53, .int .i64 h), (54, .int .i64 h), (55, .slice ao43 (List.length (k ++ List.replicate ((blockOf h) + 1) 0)) cp44), (58, .slice a_x (List.length x) c_x)] → Ev w [] wo [.vec ao43 cp44 1 (bys (k ++ List.replicate ((blockOf h) + 1) 0)) 5, .vec ao73 cp74 1 (bys (x ++ y)) 5] → G 7 #[true, true, true, true, true, true, true, true, true, false, false, true, false, false, false, false, false] ac wo := by
   intro ac865 wo866 En867 Hv868
   refine h_from hG ?_
   refine h_ways [9, 12] (by kernel_rfl) rfl ?_
   refine ⟨?_, ?_, trivial⟩
   ·
    rintro _ rfl
    refine op_lit (d := some 56) (t := 30) (T := 23) (m := 1) (parts := #[(0, .slice ao43 (List.length (k ++ List.replicate ((blockOf h) + 1) 0)) cp44)]) (xs := [.slice ao43 (List.length (k ++ List.replicate ((blockOf h) + 1) 0)) cp44]) (sz := 1) En867 (by kernel_rfl) (by kernel_rfl) rfl (by decide) Hv868 ?_
    intro ac870 wo871 bk869 En872 Hv873
    refine ⟨fun _ => Hv873.pk [], ?_⟩
    exact h_to hG (by kernel_rfl) (nd789 _ _ bk869 (En872.sb) (Hv873.pk [0, 1, 2]))
   ·
    rintro _ rfl
    refine op_lit (d := some 59) (t := 30) (T := 23) (m := 1) (parts := #[(0, .slice a_x (List.length x) c_x)]) (xs := [.slice a_x (List.length x) c_x]) (sz := 1) En867 (by kernel_rfl) (by kernel_rfl) rfl (by decide) Hv868 ?_
    intro ac875 wo876 bk874 En877 Hv878
    refine ⟨fun _ => Hv878.pk [], ?_⟩
    exact h_to hG (by kernel_rfl) (nd807 _ _ bk874 (En877.sb) (Hv878.pk [0, 1, 2]))
  have nd879 : ∀ (ac : Act) (wo : World) (aoq398 : _) (coq398 : _) (bk493 : Nat), Env ac 118 [(0, .int .i64 h), (1, .slice a_k (List.length k) c_k), (2, .slice a_x (List.length x) c_x), (3, .slice a_y (List.length y) c_y), (8, .bool false), (9, .bool true), (10, ni (blockOf h)), (12, .string (bstr (macF h k (List.flatMap (fun s : Sl UInt8 => s.l) ([⟨ao73, cp74, x ++ y⟩] : List (Sl UInt8)))))), (51, .slice aoq398 (List.length (macF h (k ++ List.replicate ((blockOf h) + 1) 0) (List.flatMap (fun s : Sl UInt8 => s.l) ([⟨a_x, c_x, x⟩] : List (Sl UInt8))))) coq398), (53, .int .i64 h), (54, .int .i64 h), (56, .slice (some ⟨bk493, 0, none⟩) 1 1), (58, .slice a_x (List.length x) c_x)] → Ev w [] wo [.vec aoq398 coq398 1 (bys (macF h (k ++ List.replicate ((blockOf h) + 1) 0) (List.flatMap (fun s : Sl UInt8 => s.l) ([⟨a_x, c_x, x⟩] : List (Sl UInt8))))) 5, .vec ao43 cp44 1 (bys (k ++ List.replicate ((blockOf h) + 1) 0)) 5, .vec ao73 cp74 1 (bys (x ++ y)) 5, .vec (some ⟨bk493, 0, none⟩) 1 1 [.slice ao43 (List.length (k ++ List.replicate ((blockOf h) + 1) 0)) cp44] 23] → G 7 #[true, true, true, true, true, false, true, true, true, true, false, true, false, false, false, false, false] ac wo := by
   intro ac880 wo881 aoq398 coq398 bk493 En882 Hv883
   refine h_from hG ?_
   refine h_ways [5, 10, 12] (by kernel_rfl) rfl ?_
   refine ⟨?_, ?_, ?_, trivial⟩
   ·
    rintro _ rfl
    refine op_str (d := some 52) (src := 23) (dst := 9) (e := 5) (ao := aoq398) (cap := coq398) (p := List.length (macF h (k ++ List.replicate ((blockOf h) + 1) 0) (List.flatMap (fun s : Sl UInt8 => s.l) ([⟨a_x, c_x, x⟩] : List (Sl UInt8))))) (bs := macF h (k ++ List.replicate ((blockOf h) + 1) 0) (List.flatMap (fun s : Sl UInt8 => s.l) ([⟨a_x, c_x, x⟩] : List (Sl UInt8)))) En882 (by kernel_rfl) rfl (by kernel_rfl) (by kernel_rfl) (by kernel_rfl) (Hv883.heap.reads (k := 0) rfl) (bys_vnz Hv883.heap (k := 0) rfl) ?_
    intro ac884 En885
    refine ⟨fun _ => Hv883.pk [], ?_⟩
    exact h_to hG (by kernel_rfl) (nd789 _ _ bk493 (En885.sb) (Hv883.pk [1, 2, 3]))
   ·
    rintro _ rfl
    refine c_0 En882 Hv883 (of_all _ h hh (some ⟨bk493, 0, none⟩) 1 1 ([⟨ao43, cp44, k ++ List.replicate ((blockOf h) + 1) 0⟩] : List (Sl UInt8)) (by first | rfl | (simp; done) | (simp; omega) | omega) ⟨Hv883.heap.ro (k := 3) rfl [] (by kernel_rfl) rfl, (fun e => by cases e), (by simp), (by simp), (List.forall_mem_cons.2 ⟨(bys_in Hv883.heap (k := 1) rfl [] (by kernel_rfl) rfl (by first | decide | (dsimp only; omega) | (simp; done) | (simp; omega) | omega)), (fun x h => absurd h List.not_mem_nil)⟩)⟩ ((gk32.ev Hv883).pick [] (by kernel_rfl)) ((gk64.ev Hv883).pick [] (by kernel_rfl))) ?_
    rintro _ wo888 ⟨aoq886, coq886, rfl, he889⟩
    refine ⟨_, _, _, rfl, he889, rfl, fun ac891 En892 Hv893 => ?_⟩
    refine ⟨fun _ => Hv893.pk [], ?_⟩
    exact h_to hG (by kernel_rfl) (nd837 _ _ aoq398 coq398 aoq886 coq886 (En892.sb) (Hv893.pk [0, 1, 2, 3]))
   ·
    rintro _ rfl
    refine op_lit (d := some 59) (t := 30) (T := 23) (m := 1) (parts := #[(0, .slice a_x (List.length x) c_x)]) (xs := [.slice a_x (List.length x) c_x]) (sz := 1) En882 (by kernel_rfl) (by kernel_rfl) rfl (by decide) Hv883 ?_
    intro ac895 wo896 bk894 En897 Hv898
    refine ⟨fun _ => Hv898.pk [], ?_⟩
    exact h_to hG (by kernel_rfl) (nd849 _ _ aoq398 coq398 bk493 bk894 (En897.sb) (Hv898.pk [0, 1, 2, 3, 4]))
  have nd899 : ∀ (ac : Act) (wo : World) (aoq398 : _) (coq398 : _) (bk564 : Nat), Env ac 118 [(0, .int .i64 h), (1, .slice a_k (List.length k) c_k), (2, .slice a_x (List.length x) c_x), (3, .slice a_y (List.length y) c_y), (8, .bool false), (9, .bool true), (10, ni (blockOf h)), (12, .string (bstr (macF h k (List.flatMap (fun s : Sl UInt8 => s.l) ([⟨ao73, cp74, x ++ y⟩] : List (Sl UInt8)))))), (51, .slice aoq398 (List.length (macF h (k ++ List.replicate ((blockOf h) + 1) 0) (List.flatMap (fun s : Sl UInt8 => s.l) ([⟨a_x, c_x, x⟩] : List (Sl UInt8))))) coq398), (53, .int .i64 h), (54, .int .i64 h), (55, .slice ao43 (List.length (k ++ List.replicate ((blockOf h) + 1) 0)) cp44), (59, .slice (some ⟨bk564, 0, none⟩) 1 1)] → Ev w [] wo [.vec aoq398 coq398 1 (bys (macF h (k ++ List.replicate ((blockOf h) + 1) 0) (List.flatMap (fun s : Sl UInt8 => s.l) ([⟨a_x, c_x, x⟩] : List (Sl UInt8))))) 5, .vec ao43 cp44 1 (bys (k ++ List.replicate ((blockOf h) + 1) 0)) 5, .vec ao73 cp74 1 (bys (x ++ y)) 5, .vec (some ⟨bk564, 0, none⟩) 1 1 [.slice a_x (List.length x) c_x] 23] → G 7 #[true, true, true, true, true, false, true, true, true, false, false, true, true, false, false, false, false] ac wo := by
   intro ac900 wo901 aoq398 coq398 bk564 En902 Hv903
   refine h_from hG ?_
   refine h_ways [5, 9] (by kernel_rfl) rfl ?_
   refine ⟨?_, ?_, trivial⟩
   ·
    rintro _ rfl
    refine op_str (d := some 52) (src := 23) (dst := 9) (e := 5) (ao := aoq398) (cap := coq398) (p := List.length (macF h (k ++ List.replicate ((blockOf h) + 1) 0) (List.flatMap (fun s : Sl UInt8 => s.l) ([⟨a_x, c_x, x⟩] : List (Sl UInt8))))) (bs := macF h (k ++ List.replicate ((blockOf h) + 1) 0) (List.flatMap (fun s : Sl UInt8 => s.l) ([⟨a_x, c_x, x⟩] : List (Sl UInt8)))) En902 (by kernel_rfl) rfl (by kernel_rfl) (by kernel_rfl) (by kernel_rfl) (Hv903.heap.reads (k := 0) rfl) (bys_vnz Hv903.heap (k := 0) rfl) ?_
    intro ac904 En905
    refine ⟨fun _ => Hv903.pk [], ?_⟩
    exact h_to hG (by kernel_rfl) (nd807 _ _ bk564 (En905.sb) (Hv903.pk [1, 2, 3]))
   ·
    rintro _ rfl
    refine op_lit (d := some 56) (t := 30) (T := 23) (m := 1) (parts := #[(0, .slice ao43 (List.length (k ++ List.replicate ((blockOf h) + 1) 0)) cp44)]) (xs := [.slice ao43 (List.length (k ++ List.replicate ((blockOf h) + 1) 0)) cp44]) (sz := 1) En902 (by kernel_rfl) (by kernel_rfl) rfl (by decide) Hv903 ?_
    intro ac907 wo908 bk906 En909 Hv910
    refine ⟨fun _ => Hv910.pk [], ?_⟩
    exact h_to hG (by kernel_rfl) (nd849 _ _ aoq398 coq398 bk906 bk564 (En909.sb) (Hv910.pk [0, 1, 2, 4, 3]))
  have nd911 : ∀ (ac : Act) (wo : World) (bk393 : Nat) (bk576 : Nat) (bk589 : Nat), Env ac 118 [(0, .int .i64 h), (1, .slice a_k (List.length k) c_k), (2, .slice a_x (List.length x) c_x), (3, .slice a_y (List.length y) c_y), (8, .bool false), (9, .bool true), (10, ni (blockOf h)), (12, .string (bstr (macF h k (List.flatMap (fun s : Sl UInt8 => s.l) ([⟨ao73, cp74, x ++ y⟩] : List (Sl UInt8)))))), (47, .int .i64 h), (48, .slice ao43 (List.length (k ++ List.replicate ((blockOf h) + 1) 0)) cp44), (50, .slice (some ⟨bk393, 0, none⟩) 1 1), (53, .int .i64 h), (54, .int .i64 h), (56, .slice (some ⟨bk576, 0, none⟩) 1 1), (59, .slice (some ⟨bk589, 0, none⟩) 1 1)] → Ev w [] wo [.vec ao43 cp44 1 (bys (k ++ List.replicate ((blockOf h) + 1) 0)) 5, .vec ao73 cp74 1 (bys (x ++ y)) 5, .vec (some ⟨bk393, 0, none⟩) 1 1 [.slice a_x (List.length x) c_x] 23, .vec (some ⟨bk576, 0, none⟩) 1 1 [.slice ao43 (List.length (k ++ List.replicate ((blockOf h) + 1) 0)) cp44] 23, .vec (some ⟨bk589, 0, none⟩) 1 1 [.slice a_x (List.length x) c_x] 23] → G 7 #[true, true, true, true, false, false, true, true, true, true, false, true, true, false, false, false, false] ac wo := by
   intro ac912 wo913 bk393 bk576 bk589 En914 Hv915
   refine h_from hG ?_
   refine q_t 4 ?_
   refine c_0 En914 Hv915 (macof_go _ h hh ao43 (List.length (k ++ List.replicate ((blockOf h) + 1) 0)) cp44 (k ++ List.replicate ((blockOf h) + 1) 0) (by first | rfl | (simp; done) | (simp; omega) | omega) (bys_in Hv915.heap (k := 0) rfl [] (by kernel_rfl) rfl (by first | omega | (simp; done) | (simp; omega))) (some ⟨bk393, 0, none⟩) 1 1 ([⟨a_x, c_x, x⟩] : List (Sl UInt8)) (by first | rfl | (simp; done) | (simp; omega) | omega) ⟨Hv915.heap.ro (k := 2) rfl [] (by kernel_rfl) rfl, (fun e => by cases e), (by simp), (by simp), (List.forall_mem_cons.2 ⟨((i_x.ev Hv915).pick [] (by kernel_rfl)), (fun x h => absurd h List.not_mem_nil)⟩)⟩ ((gk32.ev Hv915).pick [] (by kernel_rfl)) ((gk64.ev Hv915).pick [] (by kernel_rfl))) ?_
   rintro _ wo918 ⟨aoq916, coq916, rfl, he919⟩
   refine ⟨_, _, _, rfl, he919, rfl, fun ac921 En922 Hv923 => ?_⟩
   refine ⟨fun _ => Hv923.pk [], ?_⟩
   refine h_ways [5, 10] (by kernel_rfl) rfl ?_
   refine ⟨?_, ?_, trivial⟩
   ·
    rintro _ rfl
    refine op_str (d := some 52) (src := 23) (dst := 9) (e := 5) (ao := aoq916) (cap := coq916) (p := List.length (macF h (k ++ List.replicate ((blockOf h) + 1) 0) (List.flatMap (fun s : Sl UInt8 => s.l) ([⟨a_x, c_x, x⟩] : List (Sl UInt8))))) (bs := macF h (k ++ List.replicate ((blockOf h) + 1) 0) (List.flatMap (fun s : Sl UInt8 => s.l) ([⟨a_x, c_x, x⟩] : List (Sl UInt8)))) En922 (by kernel_rfl) rfl (by kernel_rfl) (by kernel_rfl) (by kernel_rfl) (Hv923.heap.reads (k := 0) rfl) (bys_vnz Hv923.heap (k := 0) rfl) ?_
    intro ac924 En925
    refine ⟨fun _ => Hv923.pk [], ?_⟩
    exact h_to hG (by kernel_rfl) (nd749 _ _ bk576 bk589 (En925.sb) (Hv923.pk [1, 2, 4, 5]))
   ·
    rintro _ rfl
    refine c_0 En922 Hv923 (of_all _ h hh (some ⟨bk576, 0, none⟩) 1 1 ([⟨ao43, cp44, k ++ List.replicate ((blockOf h) + 1) 0⟩] : List (Sl UInt8)) (by first | rfl | (simp; done) | (simp; omega) | omega) ⟨Hv923.heap.ro (k := 4) rfl [] (by kernel_rfl) rfl, (fun e => by cases e), (by simp), (by simp), (List.forall_mem_cons.2 ⟨(bys_in Hv923.heap (k := 1) rfl [] (by kernel_rfl) rfl (by first | decide | (dsimp only; omega) | (simp; done) | (simp; omega) | omega)), (fun x h => absurd h List.not_mem_nil)⟩)⟩ ((gk32.ev Hv923).pick [] (by kernel_rfl)) ((gk64.ev Hv923).pick [] (by kernel_rfl))) ?_
    rintro _ wo928 ⟨aoq926, coq926, rfl, he929⟩
    refine ⟨_, _, _, rfl, he929, rfl, fun ac931 En932 Hv933 => ?_⟩
    refine ⟨fun _ => Hv933.pk [], ?_⟩
    exact h_to hG (by kernel_rfl) (nd774 _ _ aoq916 coq916 aoq926 coq926 bk589 (En932.sb) (Hv933.pk [0, 1, 2, 3, 6]))
  have nd934 : ∀ (ac : Act) (wo : World) (aoq398 : _) (coq398 : _), Env ac 118 [(0, .int .i64 h), (1, .slice a_k (List.length k) c_k), (2, .slice a_x (List.length x) c_x), (3, .slice a_y (List.length y) c_y), (8, .bool false), (9, .bool true), (10, ni (blockOf h)), (12, .string (bstr (macF h k (List.flatMap (fun s : Sl UInt8 => s.l) ([⟨ao73, cp74, x ++ y⟩] : List (Sl UInt8)))))), (51, .slice aoq398 (List.length (macF h (k ++ List.replicate ((blockOf h) + 1) 0) (List.flatMap (fun s : Sl UInt8 => s.l) ([⟨a_x, c_x, x⟩] : List (Sl UInt8))))) coq398), (53, .int .i64 h), (54, .int .i64 h), (55, .slice ao43 (List.length (k ++ List.replicate ((blockOf h) + 1) 0)) cp44), (58, .slice a_x (List.length x) c_x)] → Ev w [] wo [.vec aoq398 coq398 1 (bys (macF h (k ++ List.replicate ((blockOf h) + 1) 0) (List.flatMap (fun s : Sl UInt8 => s.l) ([⟨a_x, c_x, x⟩] : List (Sl UInt8))))) 5, .vec ao43 cp44 1 (bys (k ++ List.replicate ((blockOf h) + 1) 0)) 5, .vec ao73 cp74 1 (bys (x ++ y)) 5] → G 8 #[true, true, true, true, true, false, true, true, true, false, false, true, false, false, false, false, false] ac wo := by
   intro ac935 wo936 aoq398 coq398 En937 Hv938
   refine h_from hG ?_
   refine h_ways [5, 9, 12] (by kernel_rfl) rfl ?_
   refine ⟨?_, ?_, ?_, trivial⟩
   ·
    rintro _ rfl
    refine op_str (d := some 52) (src := 23) (dst := 9) (e := 5) (ao := aoq398) (cap := coq398) (p := List.length (macF h (k ++ List.replicate ((blockOf h) + 1) 0) (List.flatMap (fun s : Sl UInt8 => s.l) ([⟨a_x, c_x, x⟩] : List (Sl UInt8))))) (bs := macF h (k ++ List.replicate ((blockOf h) + 1) 0) (List.flatMap (fun s : Sl UInt8 => s.l) ([⟨a_x, c_x, x⟩] : List (Sl UInt8)))) En937 (by kernel_rfl) rfl (by kernel_rfl) (by kernel_rfl) (by kernel_rfl) (Hv938.heap.reads (k := 0) rfl) (bys_vnz Hv938.heap (k := 0) rfl) ?_
    intro ac939 En940
    refine ⟨fun _ => Hv938.pk [], ?_⟩
    exact h_to hG (by kernel_rfl) (nd864 _ _ (En940.sb) (Hv938.pk [1, 2]))
   ·
    rintro _ rfl
    refine op_lit (d := some 56) (t := 30) (T := 23) (m := 1) (parts := #[(0, .slice ao43 (List.length (k ++ List.replicate ((blockOf h) + 1) 0)) cp44)]) (xs := [.slice ao43 (List.length (k ++ List.replicate ((blockOf h) + 1) 0)) cp44]) (sz := 1) En937 (by kernel_rfl) (by kernel_rfl) rfl (by decide) Hv938 ?_
    intro ac942 wo943 bk941 En944 Hv945
    refine ⟨fun _ => Hv945.pk [], ?_⟩
    exact h_to hG (by kernel_rfl) (nd879 _ _ aoq398 coq398 bk941 (En944.sb) (Hv945.pk [0, 1, 2, 3]))
   ·
    rintro _ rfl
    refine op_lit (d := some 59) (t := 30) (T := 23) (m := 1) (parts := #[(0, .slice a_x (List.length x) c_x)]) (xs := [.slice a_x (List.length x) c_x]) (sz := 1) En937 (by kernel_rfl) (by kernel_rfl) rfl (by decide) Hv938 ?_
    intro ac947 wo948 bk946 En949 Hv950
    refine ⟨fun _ => Hv950.pk [], ?_⟩
    exact h_to hG (by kernel_rfl) (nd899 _ _ aoq398 coq398 bk946 (En949.sb) (Hv950.pk [0, 1, 2, 3]))
  have nd951 : ∀ (ac : Act) (wo : World) (bk393 : Nat) (bk576 : Nat), Env ac 118 [(0, .int .i64 h), (1, .slice a_k (List.length k) c_k), (2, .slice a_x (List.length x) c_x), (3, .slice a_y (List.length y) c_y), (8, .bool false), (9, .bool true), (10, ni (blockOf h)), (12, .string (bstr (macF h k (List.flatMap (fun s : Sl UInt8 => s.l) ([⟨ao73, cp74, x ++ y⟩] : List (Sl UInt8)))))), (47, .int .i64 h), (48, .slice ao43 (List.length (k ++ List.replicate ((blockOf h) + 1) 0)) cp44), (50, .slice (some ⟨bk393, 0, none⟩) 1 1), (53, .int .i64 h), (54, .int .i64 h), (56, .slice (some ⟨bk576, 0, none⟩) 1 1), (58, .slice a_x (List.length x) c_x)] → Ev w [] wo [.vec ao43 cp44 1 (bys (k ++ List.replicate ((blockOf h) + 1) 0)) 5, .vec ao73 cp74 1 (bys (x ++ y)) 5, .vec (some ⟨bk393, 0, none⟩) 1 1 [.slice a_x (List.length x) c_x] 23, .vec (some ⟨bk576, 0, none⟩) 1 1 [.slice ao43 (List.length (k ++ List.replicate ((blockOf h) + 1) 0)) cp44] 23] → G 8 #[true, true, true, true, false, false, true, true, true, true, false, true, false, false, false, false, false] ac wo := by
   intro ac952 wo953 bk393 bk576 En954 Hv955
   refine h_from hG ?_
   refine h_ways [4, 12] (by kernel_rfl) rfl ?_
   refine ⟨?_, ?_, trivial⟩
   ·
    rintro _ rfl
    refine c_0 En954 Hv955 (macof_go _ h hh ao43 (List.length (k ++ List.replicate ((blockOf h) + 1) 0)) cp44 (k ++ List.replicate ((blockOf h) + 1) 0) (by first | rfl | (simp; done) | (simp; omega) | omega) (bys_in Hv955.heap (k := 0) rfl [] (by kernel_rfl) rfl (by first | omega | (simp; done) | (simp; omega))) (some ⟨bk393, 0, none⟩) 1 1 ([⟨a_x, c_x, x⟩] : List (Sl UInt8)) (by first | rfl | (simp; done) | (simp; omega) | omega) ⟨Hv955.heap.ro (k := 2) rfl [] (by kernel_rfl) rfl, (fun e => by cases e), (by simp), (by simp), (List.forall_mem_cons.2 ⟨((i_x.ev Hv955).pick [] (by kernel_rfl)), (fun x h => absurd h List.not_mem_nil)⟩)⟩ ((gk32.ev Hv955).pick [] (by kernel_rfl)) ((gk64.ev Hv955).pick [] (by kernel_rfl))) ?_
    rintro _ wo958 ⟨aoq956, coq956, rfl, he959⟩
    refine ⟨_, _, _, rfl, he959, rfl, fun ac961 En962 Hv963 => ?_⟩
    refine ⟨fun _ => Hv963.pk [], ?_⟩
    exact h_to hG (by kernel_rfl) (nd879 _ _ aoq956 coq956 bk576 (En962.sb) (Hv963.pk [0, 1, 2, 4]))
   ·
    rintro _ rfl
    refine op_lit (d := some 59) (t := 30) (T := 23) (m := 1) (parts := #[(0, .slice a_x (List.length x) c_x)]) (xs := [.slice a_x (List.length x) c_x]) (sz := 1) En954 (by kernel_rfl) (by kernel_rfl) rfl (by decide) Hv955 ?_
    intro ac965 wo966 bk964 En967 Hv968
    refine ⟨fun _ => Hv968.pk [], ?_⟩
    exact h_to hG (by kernel_rfl) (nd911 _ _ bk393 bk576 bk964 (En967.sb) (Hv968.pk [0, 1, 2, 3, 4]))
  have nd969 : ∀ (ac : Act) (wo : World) (bk393 : Nat) (bk612 : Nat), Env ac 118 [(0, .int .i64 h), (1, .slice a_k (List.length k) c_k), (2, .slice a_x (List.length x) c_x), (3, .slice a_y (List.length y) c_y), (8, .bool false), (9, .bool true), (10, ni (blockOf h)), (12, .string (bstr (macF h k (List.flatMap (fun s : Sl UInt8 => s.l) ([⟨ao73, cp74, x ++ y⟩] : List (Sl UInt8)))))), (47, .int .i64 h), (48, .slice ao43 (List.length (k ++ List.replicate ((blockOf h) + 1) 0)) cp44), (50, .slice (some ⟨bk393, 0, none⟩) 1 1), (53, .int .i64 h), (54, .int .i64 h), (55, .slice ao43 (List.length (k ++ List.replicate ((blockOf h) + 1) 0)) cp44), (59, .slice (some ⟨bk612, 0, none⟩) 1 1)] → Ev w [] wo [.vec ao43 cp44 1 (bys (k ++ List.replicate ((blockOf h) + 1) 0)) 5, .vec ao73 cp74 1 (bys (x ++ y)) 5, .vec (some ⟨bk393, 0, none⟩) 1 1 [.slice a_x (List.length x) c_x] 23, .vec (some ⟨bk612, 0, none⟩) 1 1 [.slice a_x (List.length x) c_x] 23] → G 8 #[true, true, true, true, false, false, true, true, true, false, false, true, true, false, false, false, false] ac wo := by
   intro ac970 wo971 bk393 bk612 En972 Hv973
   refine h_from hG ?_
   refine h_ways [4, 9] (by kernel_rfl) rfl ?_
   refine ⟨?_, ?_, trivial⟩
   ·
    rintro _ rfl
    refine c_0 En972 Hv973 (macof_go _ h hh ao43 (List.length (k ++ List.replicate ((blockOf h) + 1) 0)) cp44 (k ++ List.replicate ((blockOf h) + 1) 0) (by first | rfl | (simp; done) | (simp; omega) | omega) (bys_in Hv973.heap (k := 0) rfl [] (by kernel_rfl) rfl (by first | omega | (simp; done) | (simp; omega))) (some ⟨bk393, 0, none⟩) 1 1 ([⟨a_x, c_x, x⟩] : List (Sl UInt8)) (by first | rfl | (simp; done) | (simp; omega) | omega) ⟨Hv973.heap.ro (k := 2) rfl [] (by kernel_rfl) rfl, (fun e => by cases e), (by simp), (by simp), (List.forall_mem_cons.2 ⟨((i_x.ev Hv973).pick [] (by kernel_rfl)), (fun x h => absurd h List.not_mem_nil)⟩)⟩ ((gk32.ev Hv973).pick [] (by kernel_rfl)) ((gk64.ev Hv973).pick [] (by kernel_rfl))) ?_
    rintro _ wo976 ⟨aoq974, coq974, rfl, he977⟩
    refine ⟨_, _, _, rfl, he977, rfl, fun ac979 En980 Hv981 => ?_⟩
    refine ⟨fun _ => Hv981.pk [], ?_⟩
    exact h_to hG (by kernel_rfl) (nd899 _ _ aoq974 coq974 bk612 (En980.sb) (Hv981.pk [0, 1, 2, 4]))
   ·
    rintro _ rfl
    refine op_lit (d := some 56) (t := 30) (T := 23) (m := 1) (parts := #[(0, .slice ao43 (List.length (k ++ List.replicate ((blockOf h) + 1) 0)) cp44)]) (xs := [.slice ao43 (List.length (k ++ List.replicate ((blockOf h) + 1) 0)) cp44]) (sz := 1) En972 (by kernel_rfl) (by kernel_rfl) rfl (by decide) Hv973 ?_
    intro ac983 wo984 bk982 En985 Hv986
    refine ⟨fun _ => Hv986.pk [], ?_⟩
    exact h_to hG (by kernel_rfl) (nd911 _ _ bk393 bk982 bk612 (En985.sb) (Hv986.pk [0, 1, 2, 4, 3]))
  have nd987 : ∀ (ac : Act) (wo : World) (bk630 : Nat) (bk640 : Nat), Env ac 118 [(0, .int .i64 h), (1, .slice a_k (List.length k) c_k), (2, .slice a_x (List.length x) c_x), (3, .slice a_y (List.length y) c_y), (8, .bool false), (9, .bool true), (10, ni (blockOf h)), (12, .string (bstr (macF h k (List.flatMap (fun s : Sl UInt8 => s.l) ([⟨ao73, cp74, x ++ y⟩] : List (Sl UInt8)))))), (47, .int .i64 h), (48, .slice ao43 (List.length (k ++ List.replicate ((blockOf h) + 1) 0)) cp44), (49, .slice a_x (List.length x) c_x), (53, .int .i64 h), (54, .int .i64 h), (56, .slice (some ⟨bk630, 0, none⟩) 1 1), (59, .slice (some ⟨bk640, 0, none⟩) 1 1)] → Ev w [] wo [.vec ao43 cp44 1 (bys (k ++ List.replicate ((blockOf h) + 1) 0)) 5, .vec ao73 cp74 1 (bys (x ++ y)) 5, .vec (some ⟨bk630, 0, none⟩) 1 1 [.slice ao43 (List.length (k ++ List.replicate ((blockOf h) + 1) 0)) cp44] 23, .vec (some ⟨bk640, 0, none⟩) 1 1 [.slice a_x (List.length x) c_x] 23] → G 8 #[true, true, true, false, false, false, true, true, true, true, false, true, true, false, false, false, false] ac wo := by
   intro ac988 wo989 bk630 bk640 En990 Hv991
   refine h_from hG ?_
   refine q_t 3 ?_
   refine op_lit (d := some 50) (t := 30) (T := 23) (m := 1) (parts := #[(0, .slice a_x (List.length x) c_x)]) (xs := [.slice a_x (List.length x) c_x]) (sz := 1) En990 (by kernel_rfl) (by kernel_rfl) rfl (by decide) Hv991 ?_
   intro ac993 wo994 bk992 En995 Hv996
   refine ⟨fun _ => Hv996.pk [], ?_⟩
   refine q_t 4 ?_
   refine c_0 En995 Hv996 (macof_go _ h hh ao43 (List.length (k ++ List.replicate ((blockOf h) + 1) 0)) cp44 (k ++ List.replicate ((blockOf h) + 1) 0) (by first | rfl | (simp; done) | (simp; omega) | omega) (bys_in Hv996.heap (k := 0) rfl [] (by kernel_rfl) rfl (by first | omega | (simp; done) | (simp; omega))) (some ⟨bk992, 0, none⟩) 1 1 ([⟨a_x, c_x, x⟩] : List (Sl UInt8)) (by first | rfl | (simp; done) | (simp; omega) | omega) ⟨Hv996.heap.ro (k := 4) rfl [] (by kernel_rfl) rfl, (fun e => by cases e), (by simp), (by simp), (List.forall_mem_cons.2 ⟨((i_x.ev Hv996).pick [] (by kernel_rfl)), (fun x h => absurd h List.not_mem_nil)⟩)⟩ ((gk32.ev Hv996).pick [] (by kernel_rfl)) ((gk64.ev Hv996).pick [] (by kernel_rfl))) ?_
   rintro _ wo999 ⟨aoq997, coq997, rfl, he1000⟩
   refine ⟨_, _, _, rfl, he1000, rfl, fun ac1002 En1003 Hv1004 => ?_⟩
   refine ⟨fun _ => Hv1004.pk [], ?_⟩
   refine h_ways [5, 10] (by kernel_rfl) rfl ?_
   refine ⟨?_, ?_, trivial⟩
   ·
    rintro _ rfl
    refine op_str (d := some 52) (src := 23) (dst := 9) (e := 5) (ao := aoq997) (cap := coq997) (p := List.length (macF h (k ++ List.replicate ((blockOf h) + 1) 0) (List.flatMap (fun s : Sl UInt8 => s.l) ([⟨a_x, c_x, x⟩] : List (Sl UInt8))))) (bs := macF h (k ++ List.replicate ((blockOf h) + 1) 0) (List.flatMap (fun s : Sl UInt8 => s.l) ([⟨a_x, c_x, x⟩] : List (Sl UInt8)))) En1003 (by kernel_rfl) rfl (by kernel_rfl) (by kernel_rfl) (by kernel_rfl) (Hv1004.heap.reads (k := 0) rfl) (bys_vnz Hv1004.heap (k := 0) rfl) ?_
    intro ac1005 En1006
    refine ⟨fun _ => Hv1004.pk [], ?_⟩
    exact h_to hG (by kernel_rfl) (nd749 _ _ bk630 bk640 (En1006.sb) (Hv1004.pk [1, 2, 3, 4]))
   ·
    rintro _ rfl
    refine c_0 En1003 Hv1004 (of_all _ h hh (some ⟨bk630, 0, none⟩) 1 1 ([⟨ao43, cp44, k ++ List.replicate ((blockOf h) + 1) 0⟩] : List (Sl UInt8)) (by first | rfl | (simp; done) | (simp; omega) | omega) ⟨Hv1004.heap.ro (k := 3) rfl [] (by kernel_rfl) rfl, (fun e => by cases e), (by simp), (by simp), (List.forall_mem_cons.2 ⟨(bys_in Hv1004.heap (k := 1) rfl [] (by kernel_rfl) rfl (by first | decide | (dsimp only; omega) | (simp; done) | (simp; omega) | omega)), (fun x h => absurd h List.not_mem_nil)⟩)⟩ ((gk32.ev Hv1004).pick [] (by kernel_rfl)) ((gk64.ev Hv1004).pick [] (by kernel_rfl))) ?_
    rintro _ wo1009 ⟨aoq1007, coq1007, rfl, he1010⟩
    refine ⟨_, _, _, rfl, he1010, rfl, fun ac1012 En1013 Hv1014 => ?_⟩
    refine ⟨fun _ => Hv1014.pk [], ?_⟩
    exact h_to hG (by kernel_rfl) (nd774 _ _ aoq997 coq997 aoq1007 coq1007 bk640 (En1013.sb) (Hv1014.pk [0, 1, 2, 3, 5]))
  have nd1015 : ∀ (ac : Act) (wo : World) (bk393 : Nat), Env ac 118 [(0, .int .i64 h), (1, .slice a_k (List.length k) c_k), (2, .slice a_x (List.length x) c_x), (3, .slice a_y (List.length y) c_y), (8, .bool false), (9, .bool true), (10, ni (blockOf h)), (12, .string (bstr (macF h k (List.flatMap (fun s : Sl UInt8 => s.l) ([⟨ao73, cp74, x ++ y⟩] : List (Sl UInt8)))))), (47, .int .i64 h), (48, .slice ao43 (List.length (k ++ List.replicate ((blockOf h) + 1) 0)) cp44), (50, .slice (some ⟨bk393, 0, none⟩) 1 1), (53, .int .i64 h), (54, .int .i64 h), (55, .slice ao43 (List.length (k ++ List.replicate ((blockOf h) + 1) 0)) cp44), (58, .slice a_x (List.length x) c_x)] → Ev w [] wo [.vec ao43 cp44 1 (bys (k ++ List.replicate ((blockOf h) + 1) 0)) 5, .vec ao73 cp74 1 (bys (x ++ y)) 5, .vec (some ⟨bk393, 0, none⟩) 1 1 [.slice a_x (List.length x) c_x] 23] → G 9 #[true, true, true, true, false, false, true, true, true, false, false, true, false, false, false, false, false] ac wo := by
   intro ac1016 wo1017 bk393 En1018 Hv1019
   refine h_from hG ?_
   refine h_ways [4, 9, 12] (by kernel_rfl) rfl ?_
   refine ⟨?_, ?_, ?_, trivial⟩
   ·
    rintro _ rfl
    refine c_0 En1018 Hv1019 (macof_go _ h hh ao43 (List.length (k ++ List.replicate ((blockOf h) + 1) 0)) cp44 (k ++ List.replicate ((blockOf h) + 1) 0) (by first | rfl | (simp; done) | (simp; omega) | omega) (bys_in Hv1019.heap (k := 0) rfl [] (by kernel_rfl) rfl (by first | omega | (simp; done) | (simp; omega))) (some ⟨bk393, 0, none⟩) 1 1 ([⟨a_x, c_x, x⟩] : List (Sl UInt8)) (by first | rfl | (simp; done) | (simp; omega) | omega) ⟨Hv1019.heap.ro (k := 2) rfl [] (by kernel_rfl) rfl, (fun e => by cases e), (by simp), (by simp), (List.forall_mem_cons.2 ⟨((i_x.ev Hv1019).pick [] (by kernel_rfl)), (fun x h => absurd h List.not_mem_nil)⟩)⟩ ((gk32.ev Hv1019).pick [] (by kernel_rfl)) ((gk64.ev Hv1019).pick [] (by kernel_rfl))) ?_
    rintro _ wo1022 ⟨aoq1020, coq1020, rfl, he1023⟩
    refine ⟨_, _, _, rfl, he1023, rfl, fun ac1025 En1026 Hv1027 => ?_⟩
    refine ⟨fun _ => Hv1027.pk [], ?_⟩
    exact h_to hG (by kernel_rfl) (nd934 _ _ aoq1020 coq1020 (En1026.sb) (Hv1027.pk [0, 1, 2]))
   ·
    rintro _ rfl
    refine op_lit (d := some 56) (t := 30) (T := 23) (m := 1) (parts := #[(0, .slice ao43 (List.length (k ++ List.replicate ((blockOf h) + 1) 0)) cp44)]) (xs := [.slice ao43 (List.length (k ++ List.replicate ((blockOf h) + 1) 0)) cp44]) (sz := 1) En1018 (by kernel_rfl) (by kernel_rfl) rfl (by decide) Hv1019 ?_
    intro ac1029 wo1030 bk1028 En1031 Hv1032
    refine ⟨fun _ => Hv1032.pk [], ?_⟩
    exact h_to hG (by kernel_rfl) (nd951 _ _ bk393 bk1028 (En1031.sb) (Hv1032.pk [0, 1, 2, 3]))
   ·
    rintro _ rfl
    refine op_lit (d := some 59) (t := 30) (T := 23) (m := 1) (parts := #[(0, .slice a_x (List.length x) c_x)]) (xs := [.slice a_x (List.length x) c_x]) (sz := 1) En1018 (by kernel_rfl) (by kernel_rfl) rfl (by decide) Hv1019 ?_
    intro ac1034 wo1035 bk1033 En1036 Hv1037
    refine ⟨fun _ => Hv1037.pk [], ?_⟩
    exact h_to hG (by kernel_rfl) (nd969 _ _ bk393 bk1033 (En1036.sb) (Hv1037.pk [0, 1, 2, 3]))
  have nd1038 : ∀ (ac : Act) (wo : World) (bk630 : Nat), Env ac 118 [(0, .int .i64 h), (1, .slice a_k (List.length k) c_k), (2, .slice a_x (List.length x) c_x), (3, .slice a_y (List.length y) c_y), (8, .bool false), (9, .bool true), (10, ni (blockOf h)), (12, .string (bstr (macF h k (List.flatMap (fun s : Sl UInt8 => s.l) ([⟨ao73, cp74, x ++ y⟩] : List (Sl UInt8)))))), (47, .int .i64 h), (48, .slice ao43 (List.length (k ++ List.replicate ((blockOf h) + 1) 0)) cp44), (49, .slice a_x (List.length x) c_x), (53, .int .i64 h), (54, .int .i64 h), (56, .slice (some ⟨bk630, 0, none⟩) 1 1), (58, .slice a_x (List.length x) c_x)] → Ev w [] wo [.vec ao43 cp44 1 (bys (k ++ List.replicate ((blockOf h) + 1) 0)) 5, .vec ao73 cp74 1 (bys (x ++ y)) 5, .vec (some ⟨bk630, 0, none⟩) 1 1 [.slice ao43 (List.length (k ++ List.replicate ((blockOf h) + 1) 0)) cp44] 23] → G 9 #[true, true, true, false, false, false, true, true, true, true, false, true, false, false, false, false, false] ac wo := by
   intro ac1039 wo1040 bk630 En1041 Hv1042
   refine h_from hG ?_
   refine h_ways [3, 12] (by kernel_rfl) rfl ?_
   refine ⟨?_, ?_, trivial⟩
   ·
    rintro _ rfl
    refine op_lit (d := some 50) (t := 30) (T := 23) (m := 1) (parts := #[(0, .slice a_x (List.length x) c_x)]) (xs := [.slice a_x (List.length x) c_x]) (sz := 1) En1041 (by kernel_rfl) (by kernel_rfl) rfl (by decide) Hv1042 ?_
    intro ac1044 wo1045 bk1043 En1046 Hv1047
    refine ⟨fun _ => Hv1047.pk [], ?_⟩
    exact h_to hG (by kernel_rfl) (nd951 _ _ bk1043 bk630 (En1046.sb) (Hv1047.pk [0, 1, 3, 2]))
   ·
    rintro _ rfl
    refine op_lit (d := some 59) (t := 30) (T := 23) (m := 1) (parts := #[(0, .slice a_x (List.length x) c_x)]) (xs := [.slice a_x (List.length x) c_x]) (sz := 1) En1041 (by kernel_rfl) (by kernel_rfl) rfl (by decide) Hv1042 ?_
    intro ac1049 wo1050 bk1048 En1051 Hv1052
    refine ⟨fun _ => Hv1052.pk [], ?_⟩
    exact h_to hG (by kernel_rfl) (nd987 _ _ bk630 bk1048 (En1051.sb) (Hv1052.pk [0, 1, 2, 3]))
  have nd1053 : ∀ (ac : Act) (wo : World) (bk668 : Nat), Env ac 118 [(0, .int .i64 h), (1, .slice a_k (List.length k) c_k), (2, .slice a_x (List.length x) c_x), (3, .slice a_y (List.length y) c_y), (8, .bool false), (9, .bool true), (10, ni (blockOf h)), (12, .string (bstr (macF h k (List.flatMap (fun s : Sl UInt8 => s.l) ([⟨ao73, cp74, x ++ y⟩] : List (Sl UInt8)))))), (47, .int .i64 h), (48, .slice ao43 (List.length (k ++ List.replicate ((blockOf h) + 1) 0)) cp44), (49, .slice a_x (List.length x) c_x), (53, .int .i64 h), (54, .int .i64 h), (55, .slice ao43 (List.length (k ++ List.replicate ((blockOf h) + 1) 0)) cp44), (59, .slice (some ⟨bk668, 0, none⟩) 1 1)] → Ev w [] wo [.vec ao43 cp44 1 (bys (k ++ List.replicate ((blockOf h) + 1) 0)) 5, .vec ao73 cp74 1 (bys (x ++ y)) 5, .vec (some ⟨bk668, 0, none⟩) 1 1 [.slice a_x (List.length x) c_x] 23] → G 9 #[true, true, true, false, false, false, true, true, true, false, false, true, true, false, false, false, false] ac wo := by
   intro ac1054 wo1055 bk668 En1056 Hv1057
   refine h_from hG ?_
   refine h_ways [3, 9] (by kernel_rfl) rfl ?_
   refine ⟨?_, ?_, trivial⟩
   ·
    rintro _ rfl
    refine op_lit (d := some 50) (t := 30) (T := 23) (m := 1) (parts := #[(0, .slice a_x (List.length x) c_x)]) (xs := [.slice a_x (List.length x) c_x]) (sz := 1) En1056 (by kernel_rfl) (by kernel_rfl) rfl (by decide) Hv1057 ?_
    intro ac1059 wo1060 bk1058 En1061 Hv1062
    refine ⟨fun _ => Hv1062.pk [], ?_⟩
    exact h_to hG (by kernel_rfl) (nd969 _ _ bk1058 bk668 (En1061.sb) (Hv1062.pk [0, 1, 3, 2]))
   ·
    rintro _ rfl
    refine op_lit (d := some 56) (t := 30) (T := 23) (m := 1) (parts := #[(0, .slice ao43 (List.length (k ++ List.replicate ((blockOf h) + 1) 0)) cp44)]) (xs := [.slice ao43 (List.length (k ++ List.replicate ((blockOf h) + 1) 0)) cp44]) (sz := 1) En1056 (by kernel_rfl) (by kernel_rfl) rfl (by decide) Hv1057 ?_
    intro ac1064 wo1065 bk1063 En1066 Hv1067
    refine ⟨fun _ => Hv1067.pk [], ?_⟩
    exact h_to hG (by kernel_rfl) (nd987 _ _ bk1063 bk668 (En1066.sb) (Hv1067.pk [0, 1, 3, 2]))
  refine h_from hG ?_
  refine q_s [0,1,2,6,7,8,11] [] 10 En97 (wo98.pk []) fun ac1068 En1069 => ?_
  refine h_ways [3, 9, 12] (by kernel_rfl) rfl ?_
  refine ⟨?_, ?_, ?_, trivial⟩
  ·
   rintro _ rfl
   refine op_lit (d := some 50) (t := 30) (T := 23) (m := 1) (parts := #[(0, .slice a_x (List.length x) c_x)]) (xs := [.slice a_x (List.length x) c_x]) (sz := 1) En1069 (by kernel_rfl) (by kernel_rfl) rfl (by decide) wo98 ?_
   intro ac1071 wo1072 bk1070 En1073 Hv1074
   refine ⟨fun _ => Hv1074.pk [], ?_⟩
   exact h_to hG (by kernel_rfl) (nd1015 _ _ bk1070 (En1073.sb) (Hv1074.pk [1, 2, 4]))
  ·
   rintro _ rfl
   refine op_lit (d := some 56) (t := 30) (T := 23) (m := 1) (parts := #[(0, .slice ao43 (List.length (k ++ List.replicate ((blockOf h) + 1) 0)) cp44)]) (xs := [.slice ao43 (List.length (k ++ List.replicate ((blockOf h) + 1) 0)) cp44]) (sz := 1) En1069 (by kernel_rfl) (by kernel_rfl) rfl (by decide) wo98 ?_
   intro ac1076 wo1077 bk1075 En1078 Hv1079
   refine ⟨fun _ => Hv1079.pk [], ?_⟩
   exact h_to hG (by kernel_rfl) (nd1038 _ _ bk1075 (En1078.sb) (Hv1079.pk [1, 2, 4]))
  ·
   rintro _ rfl
   refine op_lit (d := some 59) (t := 30) (T := 23) (m := 1) (parts := #[(0, .slice a_x (List.length x) c_x)]) (xs := [.slice a_x (List.length x) c_x]) (sz := 1) En1069 (by kernel_rfl) (by kernel_rfl) rfl (by decide) wo98 ?_
   intro ac1081 wo1082 bk1080 En1083 Hv1084
   refine ⟨fun _ => Hv1084.pk [], ?_⟩
   exact h_to hG (by kernel_rfl) (nd1053 _ _ bk1080 (En1083.sb) (Hv1084.pk [1, 2, 4]))
 rintro ac1085 wo1086 ⟨En1087, Hv1088⟩
 refine then_normal ?_
 refine wp_seq ?_
 refine r_c (fun ac wo => Env ac 118 [(0, .int .i64 h), (1, .slice a_k (List.length k) c_k), (2, .slice a_x (List.length x) c_x), (3, .slice a_y (List.length y) c_y), (8, .bool false), (9, .bool true), (10, ni (blockOf h)), (12, .string (bstr (macF h k (List.flatMap (fun s : Sl UInt8 => s.l) ([⟨ao73, cp74, x ++ y⟩] : List (Sl UInt8)))))), (13, .bool true), (14, .bool true)] ∧ Ev w [] wo [.vec ao73 cp74 1 (bys (x ++ y)) 5]) ?_ ?_
 ·
  refine h_s (fun wv => Ev w [] wv []) [] 27 ?_
  have wo1089 := Hv1088.trans (Ev.drew Hv1088.heap)
  refine h_name fun G hG => ?_
  have nd1824 : ∀ (ac : Act) (wo : World) (aoq1653 : _) (coq1653 : _), Env ac 118 [(0, .int .i64 h), (1, .slice a_k (List.length k) c_k), (2, .slice a_x (List.length x) c_x), (3, .slice a_y (List.length y) c_y), (8, .bool false), (9, .bool true), (10, ni (blockOf h)), (12, .string (bstr (macF h k (List.flatMap (fun s : Sl UInt8 => s.l) ([⟨ao73, cp74, x ++ y⟩] : List (Sl UInt8)))))), (13, .bool true), (67, .bool false), (73, .string (bstr (macF h k (List.flatMap (fun s : Sl UInt8 => s.l) ([⟨a_x, c_x, x⟩] : List (Sl UInt8)))))), (85, .slice aoq1653 (List.length (macF h (k ++ List.replicate (blockOf h - List.length k) 0) (List.flatMap (fun s : Sl UInt8 => s.l) ([⟨a_x, c_x, x⟩] : List (Sl UInt8))))) coq1653)] → Ev w [] wo [.vec aoq1653 coq1653 1 (bys (macF h (k ++ List.replicate (blockOf h - List.length k) 0) (List.flatMap (fun s : Sl UInt8 => s.l) ([⟨a_x, c_x, x⟩] : List (Sl UInt8))))) 5, .vec ao73 cp74 1 (bys (x ++ y)) 5] → G 4 #[true, true, true, true, true, true, true, true, true, true, true, true, true, true, true, true, true, true, true, true, true, true, true, false, false, false, false] ac wo := by
   intro ac1825 wo1826 aoq1653 coq1653 En1827 Hv1828
   refine h_from hG ?_
   refine q_t 23 ?_
   refine op_str (d := some 86) (src := 23) (dst := 9) (e := 5) (ao := aoq1653) (cap := coq1653) (p := List.length (macF h (k ++ List.replicate (blockOf h - List.length k) 0) (List.flatMap (fun s : Sl UInt8 => s.l) ([⟨a_x, c_x, x⟩] : List (Sl UInt8))))) (bs := macF h (k ++ List.replicate (blockOf h - List.length k) 0) (List.flatMap (fun s : Sl UInt8 => s.l) ([⟨a_x, c_x, x⟩] : List (Sl UInt8)))) En1827 (by kernel_rfl) rfl (by kernel_rfl) (by kernel_rfl) (by kernel_rfl) (Hv1828.heap.reads (k := 0) rfl) (bys_vnz Hv1828.heap (k := 0) rfl) ?_
   intro ac1829 En1830
   refine ⟨fun _ => Hv1828.pk [], ?_⟩
   refine q_s [24,25,26] [(24, g_v (show (.bool (ByteArray.toList (bstr (macF h k (List.flatMap (fun s : Sl UInt8 => s.l) ([⟨a_x, c_x, x⟩] : List (Sl UInt8))))) == ByteArray.toList (bstr (macF h (k ++ List.replicate (blockOf h - List.length k) 0) (List.flatMap (fun s : Sl UInt8 => s.l) ([⟨a_x, c_x, x⟩] : List (Sl UInt8)))))) : Value) = .bool true by rw [Go.Dbr.bstr_eq (macF h k (List.flatMap (fun s : Sl UInt8 => s.l) ([⟨a_x, c_x, x⟩] : List (Sl UInt8)))) (macF h (k ++ List.replicate (blockOf h - List.length k) 0) (List.flatMap (fun s : Sl UInt8 => s.l) ([⟨a_x, c_x, x⟩] : List (Sl UInt8)))), show ((macF h k (List.flatMap (fun s : Sl UInt8 => s.l) ([⟨a_x, c_x, x⟩] : List (Sl UInt8)))) == (macF h (k ++ List.replicate (blockOf h - List.length k) 0) (List.flatMap (fun s : Sl UInt8 => s.l) ([⟨a_x, c_x, x⟩] : List (Sl UInt8))))) = true from (by simp [← filled_same hk x]; done)] <;> rfl))] 0 En1830 (Hv1828.pk []) fun ac1831 En1832 => ?_
   exact h_e ⟨En1832.sb, Hv1828.pk [1]⟩
  have nd1833 : ∀ (ac : Act) (wo : World) (aoq1464 : _) (coq1464 : _), Env ac 118 [(0, .int .i64 h), (1, .slice a_k (List.length k) c_k), (2, .slice a_x (List.length x) c_x), (3, .slice a_y (List.length y) c_y), (8, .bool false), (9, .bool true), (10, ni (blockOf h)), (12, .string (bstr (macF h k (List.flatMap (fun s : Sl UInt8 => s.l) ([⟨ao73, cp74, x ++ y⟩] : List (Sl UInt8)))))), (13, .bool true), (67, .bool false), (72, .slice aoq1464 (List.length (macF h k (List.flatMap (fun s : Sl UInt8 => s.l) ([⟨a_x, c_x, x⟩] : List (Sl UInt8))))) coq1464), (86, .string (bstr (macF h (k ++ List.replicate (blockOf h - List.length k) 0) (List.flatMap (fun s : Sl UInt8 => s.l) ([⟨a_x, c_x, x⟩] : List (Sl UInt8))))))] → Ev w [] wo [.vec aoq1464 coq1464 1 (bys (macF h k (List.flatMap (fun s : Sl UInt8 => s.l) ([⟨a_x, c_x, x⟩] : List (Sl UInt8))))) 5, .vec ao73 cp74 1 (bys (x ++ y)) 5] → G 4 #[true, true, true, true, true, true, true, true, true, true, false, true, true, true, true, true, true, true, true, true, true, true, true, true, false, false, false] ac wo := by
   intro ac1834 wo1835 aoq1464 coq1464 En1836 Hv1837
   refine h_from hG ?_
   refine q_t 10 ?_
   refine op_str (d := some 73) (src := 23) (dst := 9) (e := 5) (ao := aoq1464) (cap := coq1464) (p := List.length (macF h k (List.flatMap (fun s : Sl UInt8 => s.l) ([⟨a_x, c_x, x⟩] : List (Sl UInt8))))) (bs := macF h k (List.flatMap (fun s : Sl UInt8 => s.l) ([⟨a_x, c_x, x⟩] : List (Sl UInt8)))) En1836 (by kernel_rfl) rfl (by kernel_rfl) (by kernel_rfl) (by kernel_rfl) (Hv1837.heap.reads (k := 0) rfl) (bys_vnz Hv1837.heap (k := 0) rfl) ?_
   intro ac1838 En1839
   refine ⟨fun _ => Hv1837.pk [], ?_⟩
   refine q_s [24,25,26] [(24, g_v (show (.bool (ByteArray.toList (bstr (macF h k (List.flatMap (fun s : Sl UInt8 => s.l) ([⟨a_x, c_x, x⟩] : List (Sl UInt8))))) == ByteArray.toList (bstr (macF h (k ++ List.replicate (blockOf h - List.length k) 0) (List.flatMap (fun s : Sl UInt8 => s.l) ([⟨a_x, c_x, x⟩] : List (Sl UInt8)))))) : Value) = .bool true by rw [Go.Dbr.bstr_eq (macF h k (List.flatMap (fun s : Sl UInt8 => s.l) ([⟨a_x, c_x, x⟩] : List (Sl UInt8)))) (macF h (k ++ List.replicate (blockOf h - List.length k) 0) (List.flatMap (fun s : Sl UInt8 => s.l) ([⟨a_x, c_x, x⟩] : List (Sl UInt8)))), show ((macF h k (List.flatMap (fun s : Sl UInt8 => s.l) ([⟨a_x, c_x, x⟩] : List (Sl UInt8)))) == (macF h (k ++ List.replicate (blockOf h - List.length k) 0) (List.flatMap (fun s : Sl UInt8 => s.l) ([⟨a_x, c_x, x⟩] : List (Sl UInt8))))) = true from (by simp [← filled_same hk x]; done)] <;> rfl))] 0 En1839 (Hv1837.pk []) fun ac1840 En1841 => ?_
   exact h_e ⟨En1841.sb, Hv1837.pk [1]⟩
  have nd1842 : ∀ (ac : Act) (wo : World) (ao1625 : Option Addr) (cp1626 : Nat) (bk1634 : Nat), Env ac 118 [(0, .int .i64 h), (1, .slice a_k (List.length k) c_k), (2, .slice a_x (List.length x) c_x), (3, .slice a_y (List.length y) c_y), (8, .bool false), (9, .bool true), (10, ni (blockOf h)), (12, .string (bstr (macF h k (List.flatMap (fun s : Sl UInt8 => s.l) ([⟨ao73, cp74, x ++ y⟩] : List (Sl UInt8)))))), (13, .bool true), (67, .bool false), (73, .string (bstr (macF h k (List.flatMap (fun s : Sl UInt8 => s.l) ([⟨a_x, c_x, x⟩] : List (Sl UInt8)))))), (74, .int .i64 h), (82, .slice ao1625 (List.length (k ++ List.replicate (blockOf h - List.length k) 0)) cp1626), (84, .slice (some ⟨bk1634, 0, none⟩) 1 1)] → Ev w [] wo [.vec ao73 cp74 1 (bys (x ++ y)) 5, .vec ao1625 cp1626 1 (bys (k ++ List.replicate (blockOf h - List.length k) 0)) 5, .vec (some ⟨bk1634, 0, none⟩) 1 1 [.slice a_x (List.length x) c_x] 23] → G 5 #[true, true, true, true, true, true, true, true, true, true, true, true, true, true, true, true, true, true, true, true, true, true, false, false, false, false, false] ac wo := by
   intro ac1843 wo1844 ao1625 cp1626 bk1634 En1845 Hv1846
   refine h_from hG ?_
   refine q_t 22 ?_
   refine c_0 En1845 Hv1846 (macof_go _ h hh ao1625 (List.length (k ++ List.replicate (blockOf h - List.length k) 0)) cp1626 (k ++ List.replicate (blockOf h - List.length k) 0) (by first | rfl | (simp; done) | (simp; omega) | omega) (bys_in Hv1846.heap (k := 1) rfl [] (by kernel_rfl) rfl (by first | omega | (simp; done) | (simp; omega))) (some ⟨bk1634, 0, none⟩) 1 1 ([⟨a_x, c_x, x⟩] : List (Sl UInt8)) (by first | rfl | (simp; done) | (simp; omega) | omega) ⟨Hv1846.heap.ro (k := 2) rfl [] (by kernel_rfl) rfl, (fun e => by cases e), (by simp), (by simp), (List.forall_mem_cons.2 ⟨((i_x.ev Hv1846).pick [] (by kernel_rfl)), (fun x h => absurd h List.not_mem_nil)⟩)⟩ ((gk32.ev Hv1846).pick [] (by kernel_rfl)) ((gk64.ev Hv1846).pick [] (by kernel_rfl))) ?_
   rintro _ wo1849 ⟨aoq1847, coq1847, rfl, he1850⟩
   refine ⟨_, _, _, rfl, he1850, rfl, fun ac1852 En1853 Hv1854 => ?_⟩
   refine ⟨fun _ => Hv1854.pk [], ?_⟩
   refine q_t 23 ?_
   refine op_str (d := some 86) (src := 23) (dst := 9) (e := 5) (ao := aoq1847) (cap := coq1847) (p := List.length (macF h (k ++ List.replicate (blockOf h - List.length k) 0) (List.flatMap (fun s : Sl UInt8 => s.l) ([⟨a_x, c_x, x⟩] : List (Sl UInt8))))) (bs := macF h (k ++ List.replicate (blockOf h - List.length k) 0) (List.flatMap (fun s : Sl UInt8 => s.l) ([⟨a_x, c_x, x⟩] : List (Sl UInt8)))) En1853 (by kernel_rfl) rfl (by kernel_rfl) (by kernel_rfl) (by kernel_rfl) (Hv1854.heap.reads (k := 0) rfl) (bys_vnz Hv1854.heap (k := 0) rfl) ?_
   intro ac1855 En1856
   refine ⟨fun _ => Hv1854.pk [], ?_⟩
   refine q_s [24,25,26] [(24, g_v (show (.bool (ByteArray.toList (bstr (macF h k (List.flatMap (fun s : Sl UInt8 => s.l) ([⟨a_x, c_x, x⟩] : List (Sl UInt8))))) == ByteArray.toList (bstr (macF h (k ++ List.replicate (blockOf h - List.length k) 0) (List.flatMap (fun s : Sl UInt8 => s.l) ([⟨a_x, c_x, x⟩] : List (Sl UInt8)))))) : Value) = .bool true by rw [Go.Dbr.bstr_eq (macF h k (List.flatMap (fun s : Sl UInt8 => s.l) ([⟨a_x, c_x, x⟩] : List (Sl UInt8)))) (macF h (k ++ List.replicate (blockOf h - List.length k) 0) (List.flatMap (fun s : Sl UInt8 => s.l) ([⟨a_x, c_x, x⟩] : List (Sl UInt8)))), show ((macF h k (List.flatMap (fun s : Sl UInt8 => s.l) ([⟨a_x, c_x, x⟩] : List (Sl UInt8)))) == (macF h (k ++ List.replicate (blockOf h - List.length k) 0) (List.flatMap (fun s : Sl UInt8 => s.l) ([⟨a_x, c_x, x⟩] : List (Sl UInt8))))) = true from (by simp [← filled_same hk x]; done)] <;> rfl))] 0 En1856 (Hv1854.pk []) fun ac1857 En1858 => ?_
   exact h_e ⟨En1858.sb, Hv1854.pk [1]⟩
  have nd1859 : ∀ (ac : Act) (wo : World) (aoq1464 : _) (coq1464 : _) (aoq1653 : _) (coq1653 : _), Env ac 118 [(0, .int .i64 h), (1, .slice a_k (List.length k) c_k), (2, .slice a_x (List.length x) c_x), (3, .slice a_y (List.length y) c_y), (8, .bool false), (9, .bool true), (10, ni (blockOf h)), (12, .string (bstr (macF h k (List.flatMap (fun s : Sl UInt8 => s.l) ([⟨ao73, cp74, x ++ y⟩] : List (Sl UInt8)))))), (13, .bool true), (67, .bool false), (72, .slice aoq1464 (List.length (macF h k (List.flatMap (fun s : Sl UInt8 => s.l) ([⟨a_x, c_x, x⟩] : List (Sl UInt8))))) coq1464), (85, .slice aoq1653 (List.length (macF h (k ++ List.replicate (blockOf h - List.length k) 0) (List.flatMap (fun s : Sl UInt8 => s.l) ([⟨a_x, c_x, x⟩] : List (Sl UInt8))))) coq1653)] → Ev w [] wo [.vec aoq1653 coq1653 1 (bys (macF h (k ++ List.replicate (blockOf h - List.length k) 0) (List.flatMap (fun s : Sl UInt8 => s.l) ([⟨a_x, c_x, x⟩] : List (Sl UInt8))))) 5, .vec aoq1464 coq1464 1 (bys (macF h k (List.flatMap (fun s : Sl UInt8 => s.l) ([⟨a_x, c_x, x⟩] : List (Sl UInt8))))) 5, .vec ao73 cp74 1 (bys (x ++ y)) 5] → G 5 #[true, true, true, true, true, true, true, true, true, true, false, true, true, true, true, true, true, true, true, true, true, true, true, false, false, false, false] ac wo := by
   intro ac1860 wo1861 aoq1464 coq1464 aoq1653 coq1653 En1862 Hv1863
   refine h_from hG ?_
   refine h_ways [10, 23] (by kernel_rfl) rfl ?_
   refine ⟨?_, ?_, trivial⟩
   ·
    rintro _ rfl
    refine op_str (d := some 73) (src := 23) (dst := 9) (e := 5) (ao := aoq1464) (cap := coq1464) (p := List.length (macF h k (List.flatMap (fun s : Sl UInt8 => s.l) ([⟨a_x, c_x, x⟩] : List (Sl UInt8))))) (bs := macF h k (List.flatMap (fun s : Sl UInt8 => s.l) ([⟨a_x, c_x, x⟩] : List (Sl UInt8)))) En1862 (by kernel_rfl) rfl (by kernel_rfl) (by kernel_rfl) (by kernel_rfl) (Hv1863.heap.reads (k := 1) rfl) (bys_vnz Hv1863.heap (k := 1) rfl) ?_
    intro ac1864 En1865
    refine ⟨fun _ => Hv1863.pk [], ?_⟩
    exact h_to hG (by kernel_rfl) (nd1824 _ _ aoq1653 coq1653 (En1865.sb) (Hv1863.pk [0, 2]))
   ·
    rintro _ rfl
    refine op_str (d := some 86) (src := 23) (dst := 9) (e := 5) (ao := aoq1653) (cap := coq1653) (p := List.length (macF h (k ++ List.replicate (blockOf h - List.length k) 0) (List.flatMap (fun s : Sl UInt8 => s.l) ([⟨a_x, c_x, x⟩] : List (Sl UInt8))))) (bs := macF h (k ++ List.replicate (blockOf h - List.length k) 0) (List.flatMap (fun s : Sl UInt8 => s.l) ([⟨a_x, c_x, x⟩] : List (Sl UInt8)))) En1862 (by kernel_rfl) rfl (by kernel_rfl) (by kernel_rfl) (by kernel_rfl) (Hv1863.heap.reads (k := 0) rfl) (bys_vnz Hv1863.heap (k := 0) rfl) ?_
    intro ac1866 En1867
    refine ⟨fun _ => Hv1863.pk [], ?_⟩
    exact h_to hG (by kernel_rfl) (nd1833 _ _ aoq1464 coq1464 (En1867.sb) (Hv1863.pk [1, 2]))
  have nd1868 : ∀ (ac : Act) (wo : World) (ao1488 : Option Addr) (cp1489 : Nat), Env ac 118 [(0, .int .i64 h), (1, .slice a_k (List.length k) c_k), (2, .slice a_x (List.length x) c_x), (3, .slice a_y (List.length y) c_y), (8, .bool false), (9, .bool true), (10, ni (blockOf h)), (12, .string (bstr (macF h k (List.flatMap (fun s : Sl UInt8 => s.l) ([⟨ao73, cp74, x ++ y⟩] : List (Sl UInt8)))))), (13, .bool true), (67, .bool false), (73, .string (bstr (macF h k (List.flatMap (fun s : Sl UInt8 => s.l) ([⟨a_x, c_x, x⟩] : List (Sl UInt8)))))), (74, .int .i64 h), (82, .slice ao1488 (List.length (k ++ List.replicate (blockOf h - List.length k) 0)) cp1489), (83, .slice a_x (List.length x) c_x)] → Ev w [] wo [.vec ao73 cp74 1 (bys (x ++ y)) 5, .vec ao1488 cp1489 1 (bys (k ++ List.replicate (blockOf h - List.length k) 0)) 5] → G 6 #[true, true, true, true, true, true, true, true, true, true, true, true, true, true, true, true, true, true, true, true, true, false, false, false, false, false, false] ac wo := by
   intro ac1869 wo1870 ao1488 cp1489 En1871 Hv1872
   refine h_from hG ?_
   refine q_t 21 ?_
   refine op_lit (d := some 84) (t := 30) (T := 23) (m := 1) (parts := #[(0, .slice a_x (List.length x) c_x)]) (xs := [.slice a_x (List.length x) c_x]) (sz := 1) En1871 (by kernel_rfl) (by kernel_rfl) rfl (by decide) Hv1872 ?_
   intro ac1874 wo1875 bk1873 En1876 Hv1877
   refine ⟨fun _ => Hv1877.pk [], ?_⟩
   refine q_t 22 ?_
   refine c_0 En1876 Hv1877 (macof_go _ h hh ao1488 (List.length (k ++ List.replicate (blockOf h - List.length k) 0)) cp1489 (k ++ List.replicate (blockOf h - List.length k) 0) (by first | rfl | (simp; done) | (simp; omega) | omega) (bys_in Hv1877.heap (k := 1) rfl [] (by kernel_rfl) rfl (by first | omega | (simp; done) | (simp; omega))) (some ⟨bk1873, 0, none⟩) 1 1 ([⟨a_x, c_x, x⟩] : List (Sl UInt8)) (by first | rfl | (simp; done) | (simp; omega) | omega) ⟨Hv1877.heap.ro (k := 2) rfl [] (by kernel_rfl) rfl, (fun e => by cases e), (by simp), (by simp), (List.forall_mem_cons.2 ⟨((i_x.ev Hv1877).pick [] (by kernel_rfl)), (fun x h => absurd h List.not_mem_nil)⟩)⟩ ((gk32.ev Hv1877).pick [] (by kernel_rfl)) ((gk64.ev Hv1877).pick [] (by kernel_rfl))) ?_
   rintro _ wo1880 ⟨aoq1878, coq1878, rfl, he1881⟩
   refine ⟨_, _, _, rfl, he1881, rfl, fun ac1883 En1884 Hv1885 => ?_⟩
   refine ⟨fun _ => Hv1885.pk [], ?_⟩
   refine q_t 23 ?_
   refine op_str (d := some 86) (src := 23) (dst := 9) (e := 5) (ao := aoq1878) (cap := coq1878) (p := List.length (macF h (k ++ List.replicate (blockOf h - List.length k) 0) (List.flatMap (fun s : Sl UInt8 => s.l) ([⟨a_x, c_x, x⟩] : List (Sl UInt8))))) (bs := macF h (k ++ List.replicate (blockOf h - List.length k) 0) (List.flatMap (fun s : Sl UInt8 => s.l) ([⟨a_x, c_x, x⟩] : List (Sl UInt8)))) En1884 (by kernel_rfl) rfl (by kernel_rfl) (by kernel_rfl) (by kernel_rfl) (Hv1885.heap.reads (k := 0) rfl) (bys_vnz Hv1885.heap (k := 0) rfl) ?_
   intro ac1886 En1887
   refine ⟨fun _ => Hv1885.pk [], ?_⟩
   refine q_s [24,25,26] [(24, g_v (show (.bool (ByteArray.toList (bstr (macF h k (List.flatMap (fun s : Sl UInt8 => s.l) ([⟨a_x, c_x, x⟩] : List (Sl UInt8))))) == ByteArray.toList (bstr (macF h (k ++ List.replicate (blockOf h - List.length k) 0) (List.flatMap (fun s : Sl UInt8 => s.l) ([⟨a_x, c_x, x⟩] : List (Sl UInt8)))))) : Value) = .bool true by rw [Go.Dbr.bstr_eq (macF h k (List.flatMap (fun s : Sl UInt8 => s.l) ([⟨a_x, c_x, x⟩] : List (Sl UInt8)))) (macF h (k ++ List.replicate (blockOf h - List.length k) 0) (List.flatMap (fun s : Sl UInt8 => s.l) ([⟨a_x, c_x, x⟩] : List (Sl UInt8)))), show ((macF h k (List.flatMap (fun s : Sl UInt8 => s.l) ([⟨a_x, c_x, x⟩] : List (Sl UInt8)))) == (macF h (k ++ List.replicate (blockOf h - List.length k) 0) (List.flatMap (fun s : Sl UInt8 => s.l) ([⟨a_x, c_x, x⟩] : List (Sl UInt8))))) = true from (by simp [← filled_same hk x]; done)] <;> rfl))] 0 En1887 (Hv1885.pk []) fun ac1888 En1889 => ?_
   exact h_e ⟨En1889.sb, Hv1885.pk [1]⟩
  have nd1890 : ∀ (ac : Act) (wo : World) (ao1480 : Option Addr) (cp1481 : Nat) (bk1512 : Nat), Env ac 118 [(0, .int .i64 h), (1, .slice a_k (List.length k) c_k), (2, .slice a_x (List.length x) c_x), (3, .slice a_y (List.length y) c_y), (8, .bool false), (9, .bool true), (10, ni (blockOf h)), (12, .string (bstr (macF h k (List.flatMap (fun s : Sl UInt8 => s.l) ([⟨ao73, cp74, x ++ y⟩] : List (Sl UInt8)))))), (13, .bool true), (67, .bool false), (73, .string (bstr (macF h k (List.flatMap (fun s : Sl UInt8 => s.l) ([⟨a_x, c_x, x⟩] : List (Sl UInt8)))))), (74, .int .i64 h), (77, .slice ao1480 (List.length k) cp1481), (81, ni (blockOf h - List.length k)), (84, .slice (some ⟨bk1512, 0, none⟩) 1 1)] → Ev w [] wo [.vec ao73 cp74 1 (bys (x ++ y)) 5, .vec ao1480 cp1481 1 (bys k) 5, .vec (some ⟨bk1512, 0, none⟩) 1 1 [.slice a_x (List.length x) c_x] 23] → G 6 #[true, true, true, true, true, true, true, true, true, true, true, true, true, true, true, true, true, true, true, false, true, true, false, false, false, false, false] ac wo := by
   intro ac1891 wo1892 ao1480 cp1481 bk1512 En1893 Hv1894
   refine h_from hG ?_
   refine q_t 19 ?_
   refine op_appzeros (d := some 82) (t := 23) (tn := 3) (tx := 9) (ty := 23) (T := 5) (kn := .i64) (ik := .i64) (k := 1) (p := List.length k) (m := blockOf h - List.length k) (xs := k) En1893 (by kernel_rfl) Hv1894 rfl rfl (by kernel_rfl) (by kernel_rfl) (by kernel_rfl) (by kernel_rfl) (by omega) ?_
   intro ac1898 wo1899 ao1895 cp1896 En1900 Hv1901 hnz _
   clear hnz
   have ehz1897 : (List.length k) + (blockOf h - List.length k) = List.length (k ++ List.replicate (blockOf h - List.length k) 0) := (by first | (simp; done) | (simp; omega) | omega)
   rw [ehz1897] at En1900
   refine ⟨fun _ => Hv1901.pk [], ?_⟩
   refine q_t 22 ?_
   refine c_0 En1900 Hv1901 (macof_go _ h hh ao1895 (List.length (k ++ List.replicate (blockOf h - List.length k) 0)) cp1896 (k ++ List.replicate (blockOf h - List.length k) 0) (by first | rfl | (simp; done) | (simp; omega) | omega) (bys_in Hv1901.heap (k := 1) rfl [] (by kernel_rfl) rfl (by first | omega | (simp; done) | (simp; omega))) (some ⟨bk1512, 0, none⟩) 1 1 ([⟨a_x, c_x, x⟩] : List (Sl UInt8)) (by first | rfl | (simp; done) | (simp; omega) | omega) ⟨Hv1901.heap.ro (k := 2) rfl [] (by kernel_rfl) rfl, (fun e => by cases e), (by simp), (by simp), (List.forall_mem_cons.2 ⟨((i_x.ev Hv1901).pick [] (by kernel_rfl)), (fun x h => absurd h List.not_mem_nil)⟩)⟩ ((gk32.ev Hv1901).pick [] (by kernel_rfl)) ((gk64.ev Hv1901).pick [] (by kernel_rfl))) ?_
   rintro _ wo1904 ⟨aoq1902, coq1902, rfl, he1905⟩
   refine ⟨_, _, _, rfl, he1905, rfl, fun ac1907 En1908 Hv1909 => ?_⟩
   refine ⟨fun _ => Hv1909.pk [], ?_⟩
   refine q_t 23 ?_
   refine op_str (d := some 86) (src := 23) (dst := 9) (e := 5) (ao := aoq1902) (cap := coq1902) (p := List.length (macF h (k ++ List.replicate (blockOf h - List.length k) 0) (List.flatMap (fun s : Sl UInt8 => s.l) ([⟨a_x, c_x, x⟩] : List (Sl UInt8))))) (bs := macF h (k ++ List.replicate (blockOf h - List.length k) 0) (List.flatMap (fun s : Sl UInt8 => s.l) ([⟨a_x, c_x, x⟩] : List (Sl UInt8)))) En1908 (by kernel_rfl) rfl (by kernel_rfl) (by kernel_rfl) (by kernel_rfl) (Hv1909.heap.reads (k := 0) rfl) (bys_vnz Hv1909.heap (k := 0) rfl) ?_
   intro ac1910 En1911
   refine ⟨fun _ => Hv1909.pk [], ?_⟩
   refine q_s [24,25,26] [(24, g_v (show (.bool (ByteArray.toList (bstr (macF h k (List.flatMap (fun s : Sl UInt8 => s.l) ([⟨a_x, c_x, x⟩] : List (Sl UInt8))))) == ByteArray.toList (bstr (macF h (k ++ List.replicate (blockOf h - List.length k) 0) (List.flatMap (fun s : Sl UInt8 => s.l) ([⟨a_x, c_x, x⟩] : List (Sl UInt8)))))) : Value) = .bool true by rw [Go.Dbr.bstr_eq (macF h k (List.flatMap (fun s : Sl UInt8 => s.l) ([⟨a_x, c_x, x⟩] : List (Sl UInt8)))) (macF h (k ++ List.replicate (blockOf h - List.length k) 0) (List.flatMap (fun s : Sl UInt8 => s.l) ([⟨a_x, c_x, x⟩] : List (Sl UInt8)))), show ((macF h k (List.flatMap (fun s : Sl UInt8 => s.l) ([⟨a_x, c_x, x⟩] : List (Sl UInt8)))) == (macF h (k ++ List.replicate (blockOf h - List.length k) 0) (List.flatMap (fun s : Sl UInt8 => s.l) ([⟨a_x, c_x, x⟩] : List (Sl UInt8))))) = true from (by simp [← filled_same hk x]; done)] <;> rfl))] 0 En1911 (Hv1909.pk []) fun ac1912 En1913 => ?_
   exact h_e ⟨En1913.sb, Hv1909.pk [1]⟩
  have nd1914 : ∀ (ac : Act) (wo : World) (aoq1464 : _) (coq1464 : _) (ao1625 : Option Addr) (cp1626 : Nat) (bk1634 : Nat), Env ac 118 [(0, .int .i64 h), (1, .slice a_k (List.length k) c_k), (2, .slice a_x (List.length x) c_x), (3, .slice a_y (List.length y) c_y), (8, .bool false), (9, .bool true), (10, ni (blockOf h)), (12, .string (bstr (macF h k (List.flatMap (fun s : Sl UInt8 => s.l) ([⟨ao73, cp74, x ++ y⟩] : List (Sl UInt8)))))), (13, .bool true), (67, .bool false), (72, .slice aoq1464 (List.length (macF h k (List.flatMap (fun s : Sl UInt8 => s.l) ([⟨a_x, c_x, x⟩] : List (Sl UInt8))))) coq1464), (74, .int .i64 h), (82, .slice ao1625 (List.length (k ++ List.replicate (blockOf h - List.length k) 0)) cp1626), (84, .slice (some ⟨bk1634, 0, none⟩) 1 1)] → Ev w [] wo [.vec aoq1464 coq1464 1 (bys (macF h k (List.flatMap (fun s : Sl UInt8 => s.l) ([⟨a_x, c_x, x⟩] : List (Sl UInt8))))) 5, .vec ao73 cp74 1 (bys (x ++ y)) 5, .vec ao1625 cp1626 1 (bys (k ++ List.replicate (blockOf h - List.length k) 0)) 5, .vec (some ⟨bk1634, 0, none⟩) 1 1 [.slice a_x (List.length x) c_x] 23] → G 6 #[true, true, true, true, true, true, true, true, true, true, false, true, true, true, true, true, true, true, true, true, true, true, false, false, false, false, false] ac wo := by
   intro ac1915 wo1916 aoq1464 coq1464 ao1625 cp1626 bk1634 En1917 Hv1918
   refine h_from hG ?_
   refine h_ways [10, 22] (by kernel_rfl) rfl ?_
   refine ⟨?_, ?_, trivial⟩
   ·
    rintro _ rfl
    refine op_str (d := some 73) (src := 23) (dst := 9) (e := 5) (ao := aoq1464) (cap := coq1464) (p := List.length (macF h k (List.flatMap (fun s : Sl UInt8 => s.l) ([⟨a_x, c_x, x⟩] : List (Sl UInt8))))) (bs := macF h k (List.flatMap (fun s : Sl UInt8 => s.l) ([⟨a_x, c_x, x⟩] : List (Sl UInt8)))) En1917 (by kernel_rfl) rfl (by kernel_rfl) (by kernel_rfl) (by kernel_rfl) (Hv1918.heap.reads (k := 0) rfl) (bys_vnz Hv1918.heap (k := 0) rfl) ?_
    intro ac1919 En1920
    refine ⟨fun _ => Hv1918.pk [], ?_⟩
    exact h_to hG (by kernel_rfl) (nd1842 _ _ ao1625 cp1626 bk1634 (En1920.sb) (Hv1918.pk [1, 2, 3]))
   ·
    rintro _ rfl
    refine c_0 En1917 Hv1918 (macof_go _ h hh ao1625 (List.length (k ++ List.replicate (blockOf h - List.length k) 0)) cp1626 (k ++ List.replicate (blockOf h - List.length k) 0) (by first | rfl | (simp; done) | (simp; omega) | omega) (bys_in Hv1918.heap (k := 2) rfl [] (by kernel_rfl) rfl (by first | omega | (simp; done) | (simp; omega))) (some ⟨bk1634, 0, none⟩) 1 1 ([⟨a_x, c_x, x⟩] : List (Sl UInt8)) (by first | rfl | (simp; done) | (simp; omega) | omega) ⟨Hv1918.heap.ro (k := 3) rfl [] (by kernel_rfl) rfl, (fun e => by cases e), (by simp), (by simp), (List.forall_mem_cons.2 ⟨((i_x.ev Hv1918).pick [] (by kernel_rfl)), (fun x h => absurd h List.not_mem_nil)⟩)⟩ ((gk32.ev Hv1918).pick [] (by kernel_rfl)) ((gk64.ev Hv1918).pick [] (by kernel_rfl))) ?_
    rintro _ wo1923 ⟨aoq1921, coq1921, rfl, he1924⟩
    refine ⟨_, _, _, rfl, he1924, rfl, fun ac1926 En1927 Hv1928 => ?_⟩
    refine ⟨fun _ => Hv1928.pk [], ?_⟩
    exact h_to hG (by kernel_rfl) (nd1859 _ _ aoq1464 coq1464 aoq1921 coq1921 (En1927.sb) (Hv1928.pk [0, 1, 2]))
  have nd1929 : ∀ (ac : Act) (wo : World) (ao1480 : Option Addr) (cp1481 : Nat), Env ac 118 [(0, .int .i64 h), (1, .slice a_k (List.length k) c_k), (2, .slice a_x (List.length x) c_x), (3, .slice a_y (List.length y) c_y), (8, .bool false), (9, .bool true), (10, ni (blockOf h)), (12, .string (bstr (macF h k (List.flatMap (fun s : Sl UInt8 => s.l) ([⟨ao73, cp74, x ++ y⟩] : List (Sl UInt8)))))), (13, .bool true), (67, .bool false), (73, .string (bstr (macF h k (List.flatMap (fun s : Sl UInt8 => s.l) ([⟨a_x, c_x, x⟩] : List (Sl UInt8)))))), (74, .int .i64 h), (77, .slice ao1480 (List.length k) cp1481), (81, ni (blockOf h - List.length k)), (83, .slice a_x (List.length x) c_x)] → Ev w [] wo [.vec ao73 cp74 1 (bys (x ++ y)) 5, .vec ao1480 cp1481 1 (bys k) 5] → G 7 #[true, true, true, true, true, true, true, true, true, true, true, true, true, true, true, true, true, true, true, false, true, false, false, false, false, false, false] ac wo := by
   intro ac1930 wo1931 ao1480 cp1481 En1932 Hv1933
   refine h_from hG ?_
   refine h_ways [19, 21] (by kernel_rfl) rfl ?_
   refine ⟨?_, ?_, trivial⟩
   ·
    rintro _ rfl
    refine op_appzeros (d := some 82) (t := 23) (tn := 3) (tx := 9) (ty := 23) (T := 5) (kn := .i64) (ik := .i64) (k := 1) (p := List.length k) (m := blockOf h - List.length k) (xs := k) En1932 (by kernel_rfl) Hv1933 rfl rfl (by kernel_rfl) (by kernel_rfl) (by kernel_rfl) (by kernel_rfl) (by omega) ?_
    intro ac1937 wo1938 ao1934 cp1935 En1939 Hv1940 hnz _
    clear hnz
    have ehz1936 : (List.length k) + (blockOf h - List.length k) = List.length (k ++ List.replicate (blockOf h - List.length k) 0) := (by first | (simp; done) | (simp; omega) | omega)
    rw [ehz1936] at En1939
    refine ⟨fun _ => Hv1940.pk [], ?_⟩
    exact h_to hG (by kernel_rfl) (nd1868 _ _ ao1934 cp1935 (En1939.sb) (Hv1940.pk [0, 1]))
   ·
    rintro _ rfl
    refine op_lit (d := some 84) (t := 30) (T := 23) (m := 1) (parts := #[(0, .slice a_x (List.length x) c_x)]) (xs := [.slice a_x (List.length x) c_x]) (sz := 1) En1932 (by kernel_rfl) (by kernel_rfl) rfl (by decide) Hv1933 ?_
    intro ac1942 wo1943 bk1941 En1944 Hv1945
    refine ⟨fun _ => Hv1945.pk [], ?_⟩
    exact h_to hG (by kernel_rfl) (nd1890 _ _ ao1480 cp1481 bk1941 (En1944.sb) (Hv1945.pk [0, 1, 2]))
  have nd1946 : ∀ (ac : Act) (wo : World) (bk1474 : Nat) (bk1536 : Nat), Env ac 118 [(0, .int .i64 h), (1, .slice a_k (List.length k) c_k), (2, .slice a_x (List.length x) c_x), (3, .slice a_y (List.length y) c_y), (8, .bool false), (9, .bool true), (10, ni (blockOf h)), (12, .string (bstr (macF h k (List.flatMap (fun s : Sl UInt8 => s.l) ([⟨ao73, cp74, x ++ y⟩] : List (Sl UInt8)))))), (13, .bool true), (67, .bool false), (73, .string (bstr (macF h k (List.flatMap (fun s : Sl UInt8 => s.l) ([⟨a_x, c_x, x⟩] : List (Sl UInt8)))))), (74, .int .i64 h), (75, .slice (some ⟨bk1474, 0, none⟩) 0 0), (76, .slice a_k (List.length k) c_k), (81, ni (blockOf h - List.length k)), (84, .slice (some ⟨bk1536, 0, none⟩) 1 1)] → Ev w [] wo [.vec ao73 cp74 1 (bys (x ++ y)) 5, .vec (some ⟨bk1474, 0, none⟩) 0 1 (bys []) 5, .vec (some ⟨bk1536, 0, none⟩) 1 1 [.slice a_x (List.length x) c_x] 23] → G 7 #[true, true, true, true, true, true, true, true, true, true, true, true, true, true, false, true, true, true, true, false, true, true, false, false, false, false, false] ac wo := by
   intro ac1947 wo1948 bk1474 bk1536 En1949 Hv1950
   refine h_from hG ?_
   refine q_t 14 ?_
   have hsm1951 := i_k.small
   refine op_append (d := some 77) (t := 23) (tx := 23) (ty := 23) (k := 1) (p := 0) (m := List.length k) (x := .slice a_k (List.length k) c_k) (bytes := 1) En1949 (by kernel_rfl) Hv1950 rfl rfl (Reads.src (size := 1) (tx := 23) (e' := 5) (by kernel_rfl) (i_k.ev Hv1950).reads (bys_len _) i_k.nz (bys_one _)) (by kernel_rfl) (z := .int .u8 0) (by kernel_rfl) rfl (by decide) (by omega) (by unfold maxLen; omega) ?_
   intro ac1956 wo1957 ao1952 cp1953 En1958 Hv1959 hnz _
   clear hnz
   rw [bys_nil_append] at Hv1959
   have ehz1954 : 0 + (List.length k) = List.length k := (by first | (simp; done) | (simp; omega) | omega)
   rw [ehz1954] at En1958
   refine ⟨fun _ => Hv1959.pk [], ?_⟩
   refine q_t 19 ?_
   refine op_appzeros (d := some 82) (t := 23) (tn := 3) (tx := 9) (ty := 23) (T := 5) (kn := .i64) (ik := .i64) (k := 1) (p := List.length k) (m := blockOf h - List.length k) (xs := k) En1958 (by kernel_rfl) Hv1959 rfl rfl (by kernel_rfl) (by kernel_rfl) (by kernel_rfl) (by kernel_rfl) (by omega) ?_
   intro ac1963 wo1964 ao1960 cp1961 En1965 Hv1966 hnz _
   clear hnz
   have ehz1962 : (List.length k) + (blockOf h - List.length k) = List.length (k ++ List.replicate (blockOf h - List.length k) 0) := (by first | (simp; done) | (simp; omega) | omega)
   rw [ehz1962] at En1965
   refine ⟨fun _ => Hv1966.pk [], ?_⟩
   refine q_t 22 ?_
   refine c_0 En1965 Hv1966 (macof_go _ h hh ao1960 (List.length (k ++ List.replicate (blockOf h - List.length k) 0)) cp1961 (k ++ List.replicate (blockOf h - List.length k) 0) (by first | rfl | (simp; done) | (simp; omega) | omega) (bys_in Hv1966.heap (k := 1) rfl [] (by kernel_rfl) rfl (by first | omega | (simp; done) | (simp; omega))) (some ⟨bk1536, 0, none⟩) 1 1 ([⟨a_x, c_x, x⟩] : List (Sl UInt8)) (by first | rfl | (simp; done) | (simp; omega) | omega) ⟨Hv1966.heap.ro (k := 2) rfl [] (by kernel_rfl) rfl, (fun e => by cases e), (by simp), (by simp), (List.forall_mem_cons.2 ⟨((i_x.ev Hv1966).pick [] (by kernel_rfl)), (fun x h => absurd h List.not_mem_nil)⟩)⟩ ((gk32.ev Hv1966).pick [] (by kernel_rfl)) ((gk64.ev Hv1966).pick [] (by kernel_rfl))) ?_
   rintro _ wo1969 ⟨aoq1967, coq1967, rfl, he1970⟩
   refine ⟨_, _, _, rfl, he1970, rfl, fun ac1972 En1973 Hv1974 => ?_⟩
   refine ⟨fun _ => Hv1974.pk [], ?_⟩
   refine q_t 23 ?_
   refine op_str (d := some 86) (src := 23) (dst := 9) (e := 5) (ao := aoq1967) (cap := coq1967) (p := List.length (macF h (k ++ List.replicate (blockOf h - List.length k) 0) (List.flatMap (fun s : Sl UInt8 => s.l) ([⟨a_x, c_x, x⟩] : List (Sl UInt8))))) (bs := macF h (k ++ List.replicate (blockOf h - List.length k) 0) (List.flatMap (fun s : Sl UInt8 => s.l) ([⟨a_x, c_x, x⟩] : List (Sl UInt8)))) En1973 (by kernel_rfl) rfl (by kernel_rfl) (by kernel_rfl) (by kernel_rfl) (Hv1974.heap.reads (k := 0) rfl) (bys_vnz Hv1974.heap (k := 0) rfl) ?_
   intro ac1975 En1976
   refine ⟨fun _ => Hv1974.pk [], ?_⟩
   refine q_s [24,25,26] [(24, g_v (show (.bool (ByteArray.toList (bstr (macF h k (List.flatMap (fun s : Sl UInt8 => s.l) ([⟨a_x, c_x, x⟩] : List (Sl UInt8))))) == ByteArray.toList (bstr (macF h (k ++ List.replicate (blockOf h - List.length k) 0) (List.flatMap (fun s : Sl UInt8 => s.l) ([⟨a_x, c_x, x⟩] : List (Sl UInt8)))))) : Value) = .bool true by rw [Go.Dbr.bstr_eq (macF h k (List.flatMap (fun s : Sl UInt8 => s.l) ([⟨a_x, c_x, x⟩] : List (Sl UInt8)))) (macF h (k ++ List.replicate (blockOf h - List.length k) 0) (List.flatMap (fun s : Sl UInt8 => s.l) ([⟨a_x, c_x, x⟩] : List (Sl UInt8)))), show ((macF h k (List.flatMap (fun s : Sl UInt8 => s.l) ([⟨a_x, c_x, x⟩] : List (Sl UInt8)))) == (macF h (k ++ List.replicate (blockOf h - List.length k) 0) (List.flatMap (fun s : Sl UInt8 => s.l) ([⟨a_x, c_x, x⟩] : List (Sl UInt8))))) = true from (by simp [← filled_same hk x]; done)] <;> rfl))] 0 En1976 (Hv1974.pk []) fun ac1977 En1978 => ?_
   exact h_e ⟨En1978.sb, Hv1974.pk [1]⟩
  have nd1979 : ∀ (ac : Act) (wo : World) (aoq1464 : _) (coq1464 : _) (ao1625 : Option Addr) (cp1626 : Nat), Env ac 118 [(0, .int .i64 h), (1, .slice a_k (List.length k) c_k), (2, .slice a_x (List.length x) c_x), (3, .slice a_y (List.length y) c_y), (8, .bool false), (9, .bool true), (10, ni (blockOf h)), (12, .string (bstr (macF h k (List.flatMap (fun s : Sl UInt8 => s.l) ([⟨ao73, cp74, x ++ y⟩] : List (Sl UInt8)))))), (13, .bool true), (67, .bool false), (72, .slice aoq1464 (List.length (macF h k (List.flatMap (fun s : Sl UInt8 => s.l) ([⟨a_x, c_x, x⟩] : List (Sl UInt8))))) coq1464), (74, .int .i64 h), (82, .slice ao1625 (List.length (k ++ List.replicate (blockOf h - List.length k) 0)) cp1626), (83, .slice a_x (List.length x) c_x)] → Ev w [] wo [.vec aoq1464 coq1464 1 (bys (macF h k (List.flatMap (fun s : Sl UInt8 => s.l) ([⟨a_x, c_x, x⟩] : List (Sl UInt8))))) 5, .vec ao73 cp74 1 (bys (x ++ y)) 5, .vec ao1625 cp1626 1 (bys (k ++ List.replicate (blockOf h - List.length k) 0)) 5] → G 7 #[true, true, true, true, true, true, true, true, true, true, false, true, true, true, true, true, true, true, true, true, true, false, false, false, false, false, false] ac wo := by
   intro ac1980 wo1981 aoq1464 coq1464 ao1625 cp1626 En1982 Hv1983
   refine h_from hG ?_
   refine h_ways [10, 21] (by kernel_rfl) rfl ?_
   refine ⟨?_, ?_, trivial⟩
   ·
    rintro _ rfl
    refine op_str (d := some 73) (src := 23) (dst := 9) (e := 5) (ao := aoq1464) (cap := coq1464) (p := List.length (macF h k (List.flatMap (fun s : Sl UInt8 => s.l) ([⟨a_x, c_x, x⟩] : List (Sl UInt8))))) (bs := macF h k (List.flatMap (fun s : Sl UInt8 => s.l) ([⟨a_x, c_x, x⟩] : List (Sl UInt8)))) En1982 (by kernel_rfl) rfl (by kernel_rfl) (by kernel_rfl) (by kernel_rfl) (Hv1983.heap.reads (k := 0) rfl) (bys_vnz Hv1983.heap (k := 0) rfl) ?_
    intro ac1984 En1985
    refine ⟨fun _ => Hv1983.pk [], ?_⟩
    exact h_to hG (by kernel_rfl) (nd1868 _ _ ao1625 cp1626 (En1985.sb) (Hv1983.pk [1, 2]))
   ·
    rintro _ rfl
    refine op_lit (d := some 84) (t := 30) (T := 23) (m := 1) (parts := #[(0, .slice a_x (List.length x) c_x)]) (xs := [.slice a_x (List.length x) c_x]) (sz := 1) En1982 (by kernel_rfl) (by kernel_rfl) rfl (by decide) Hv1983 ?_
    intro ac1987 wo1988 bk1986 En1989 Hv1990
    refine ⟨fun _ => Hv1990.pk [], ?_⟩
    exact h_to hG (by kernel_rfl) (nd1914 _ _ aoq1464 coq1464 ao1625 cp1626 bk1986 (En1989.sb) (Hv1990.pk [0, 1, 2, 3]))
  have nd1991 : ∀ (ac : Act) (wo : World) (aoq1464 : _) (coq1464 : _) (ao1615 : Option Addr) (cp1616 : Nat) (bk1673 : Nat), Env ac 118 [(0, .int .i64 h), (1, .slice a_k (List.length k) c_k), (2, .slice a_x (List.length x) c_x), (3, .slice a_y (List.length y) c_y), (8, .bool false), (9, .bool true), (10, ni (blockOf h)), (12, .string (bstr (macF h k (List.flatMap (fun s : Sl UInt8 => s.l) ([⟨ao73, cp74, x ++ y⟩] : List (Sl UInt8)))))), (13, .bool true), (67, .bool false), (72, .slice aoq1464 (List.length (macF h k (List.flatMap (fun s : Sl UInt8 => s.l) ([⟨a_x, c_x, x⟩] : List (Sl UInt8))))) coq1464), (74, .int .i64 h), (77, .slice ao1615 (List.length k) cp1616), (81, ni (blockOf h - List.length k)), (84, .slice (some ⟨bk1673, 0, none⟩) 1 1)] → Ev w [] wo [.vec aoq1464 coq1464 1 (bys (macF h k (List.flatMap (fun s : Sl UInt8 => s.l) ([⟨a_x, c_x, x⟩] : List (Sl UInt8))))) 5, .vec ao73 cp74 1 (bys (x ++ y)) 5, .vec ao1615 cp1616 1 (bys k) 5, .vec (some ⟨bk1673, 0, none⟩) 1 1 [.slice a_x (List.length x) c_x] 23] → G 7 #[true, true, true, true, true, true, true, true, true, true, false, true, true, true, true, true, true, true, true, false, true, true, false, false, false, false, false] ac wo := by
   intro ac1992 wo1993 aoq1464 coq1464 ao1615 cp1616 bk1673 En1994 Hv1995
   refine h_from hG ?_
   refine h_ways [10, 19] (by kernel_rfl) rfl ?_
   refine ⟨?_, ?_, trivial⟩
   ·
    rintro _ rfl
    refine op_str (d := some 73) (src := 23) (dst := 9) (e := 5) (ao := aoq1464) (cap := coq1464) (p := List.length (macF h k (List.flatMap (fun s : Sl UInt8 => s.l) ([⟨a_x, c_x, x⟩] : List (Sl UInt8))))) (bs := macF h k (List.flatMap (fun s : Sl UInt8 => s.l) ([⟨a_x, c_x, x⟩] : List (Sl UInt8)))) En1994 (by kernel_rfl) rfl (by kernel_rfl) (by kernel_rfl) (by kernel_rfl) (Hv1995.heap.reads (k := 0) rfl) (bys_vnz Hv1995.heap (k := 0) rfl) ?_
    intro ac1996 En1997
    refine ⟨fun _ => Hv1995.pk [], ?_⟩
    exact h_to hG (by kernel_rfl) (nd1890 _ _ ao1615 cp1616 bk1673 (En1997.sb) (Hv1995.pk [1, 2, 3]))
   ·
    rintro _ rfl
    refine op_appzeros (d := some 82) (t := 23) (tn := 3) (tx := 9) (ty := 23) (T := 5) (kn := .i64) (ik := .i64) (k := 2) (p := List.length k) (m := blockOf h - List.length k) (xs := k) En1994 (by kernel_rfl) Hv1995 rfl rfl (by kernel_rfl) (by kernel_rfl) (by kernel_rfl) (by kernel_rfl) (by omega) ?_
    intro ac2001 wo2002 ao1998 cp1999 En2003 Hv2004 hnz _
    clear hnz
    have ehz2000 : (List.length k) + (blockOf h - List.length k) = List.length (k ++ List.replicate (blockOf h - List.length k) 0) := (by first | (simp; done) | (simp; omega) | omega)
    rw [ehz2000] at En2003
    refine ⟨fun _ => Hv2004.pk [], ?_⟩
    exact h_to hG (by kernel_rfl) (nd1914 _ _ aoq1464 coq1464 ao1998 cp1999 bk1673 (En2003.sb) (Hv2004.pk [0, 1, 2, 3]))
  have nd2005 : ∀ (ac : Act) (wo : World) (bk1474 : Nat), Env ac 118 [(0, .int .i64 h), (1, .slice a_k (List.length k) c_k), (2, .slice a_x (List.length x) c_x), (3, .slice a_y (List.length y) c_y), (8, .bool false), (9, .bool true), (10, ni (blockOf h)), (12, .string (bstr (macF h k (List.flatMap (fun s : Sl UInt8 => s.l) ([⟨ao73, cp74, x ++ y⟩] : List (Sl UInt8)))))), (13, .bool true), (67, .bool false), (73, .string (bstr (macF h k (List.flatMap (fun s : Sl UInt8 => s.l) ([⟨a_x, c_x, x⟩] : List (Sl UInt8)))))), (74, .int .i64 h), (75, .slice (some ⟨bk1474, 0, none⟩) 0 0), (76, .slice a_k (List.length k) c_k), (81, ni (blockOf h - List.length k)), (83, .slice a_x (List.length x) c_x)] → Ev w [] wo [.vec ao73 cp74 1 (bys (x ++ y)) 5, .vec (some ⟨bk1474, 0, none⟩) 0 1 (bys []) 5] → G 8 #[true, true, true, true, true, true, true, true, true, true, true, true, true, true, false, true, true, true, true, false, true, false, false, false, false, false, false] ac wo := by
   intro ac2006 wo2007 bk1474 En2008 Hv2009
   refine h_from hG ?_
   refine h_ways [14, 21] (by kernel_rfl) rfl ?_
   refine ⟨?_, ?_, trivial⟩
   ·
    rintro _ rfl
    have hsm2010 := i_k.small
    refine op_append (d := some 77) (t := 23) (tx := 23) (ty := 23) (k := 1) (p := 0) (m := List.length k) (x := .slice a_k (List.length k) c_k) (bytes := 1) En2008 (by kernel_rfl) Hv2009 rfl rfl (Reads.src (size := 1) (tx := 23) (e' := 5) (by kernel_rfl) (i_k.ev Hv2009).reads (bys_len _) i_k.nz (bys_one _)) (by kernel_rfl) (z := .int .u8 0) (by kernel_rfl) rfl (by decide) (by omega) (by unfold maxLen; omega) ?_
    intro ac2015 wo2016 ao2011 cp2012 En2017 Hv2018 hnz _
    clear hnz
    rw [bys_nil_append] at Hv2018
    have ehz2013 : 0 + (List.length k) = List.length k := (by first | (simp; done) | (simp; omega) | omega)
    rw [ehz2013] at En2017
    refine ⟨fun _ => Hv2018.pk [], ?_⟩
    exact h_to hG (by kernel_rfl) (nd1929 _ _ ao2011 cp2012 (En2017.sb) (Hv2018.pk [0, 1]))
   ·
    rintro _ rfl
    refine op_lit (d := some 84) (t := 30) (T := 23) (m := 1) (parts := #[(0, .slice a_x (List.length x) c_x)]) (xs := [.slice a_x (List.length x) c_x]) (sz := 1) En2008 (by kernel_rfl) (by kernel_rfl) rfl (by decide) Hv2009 ?_
    intro ac2020 wo2021 bk2019 En2022 Hv2023
    refine ⟨fun _ => Hv2023.pk [], ?_⟩
    exact h_to hG (by kernel_rfl) (nd1946 _ _ bk1474 bk2019 (En2022.sb) (Hv2023.pk [0, 1, 2]))
  have nd2024 : ∀ (ac : Act) (wo : World) (bk1569 : Nat), Env ac 118 [(0, .int .i64 h), (1, .slice a_k (List.length k) c_k), (2, .slice a_x (List.length x) c_x), (3, .slice a_y (List.length y) c_y), (8, .bool false), (9, .bool true), (10, ni (blockOf h)), (12, .string (bstr (macF h k (List.flatMap (fun s : Sl UInt8 => s.l) ([⟨ao73, cp74, x ++ y⟩] : List (Sl UInt8)))))), (13, .bool true), (67, .bool false), (73, .string (bstr (macF h k (List.flatMap (fun s : Sl UInt8 => s.l) ([⟨a_x, c_x, x⟩] : List (Sl UInt8)))))), (74, .int .i64 h), (76, .slice a_k (List.length k) c_k), (81, ni (blockOf h - List.length k)), (84, .slice (some ⟨bk1569, 0, none⟩) 1 1)] → Ev w [] wo [.vec ao73 cp74 1 (bys (x ++ y)) 5, .vec (some ⟨bk1569, 0, none⟩) 1 1 [.slice a_x (List.length x) c_x] 23] → G 8 #[true, true, true, true, true, true, true, true, true, true, true, true, false, true, false, true, true, true, true, false, true, true, false, false, false, false, false] ac wo := by
   intro ac2025 wo2026 bk1569 En2027 Hv2028
   refine h_from hG ?_
   refine q_t 12 ?_
   refine op_lit (d := some 75) (t := 23) (T := 5) (m := 0) (parts := #[]) (xs := bys []) (sz := 1) En2027 (by kernel_rfl) (by kernel_rfl) rfl (by decide) Hv2028 ?_
   intro ac2030 wo2031 bk2029 En2032 Hv2033
   refine ⟨fun _ => Hv2033.pk [], ?_⟩
   refine q_t 14 ?_
   have hsm2034 := i_k.small
   refine op_append (d := some 77) (t := 23) (tx := 23) (ty := 23) (k := 2) (p := 0) (m := List.length k) (x := .slice a_k (List.length k) c_k) (bytes := 1) En2032 (by kernel_rfl) Hv2033 rfl rfl (Reads.src (size := 1) (tx := 23) (e' := 5) (by kernel_rfl) (i_k.ev Hv2033).reads (bys_len _) i_k.nz (bys_one _)) (by kernel_rfl) (z := .int .u8 0) (by kernel_rfl) rfl (by decide) (by omega) (by unfold maxLen; omega) ?_
   intro ac2039 wo2040 ao2035 cp2036 En2041 Hv2042 hnz _
   clear hnz
   rw [bys_nil_append] at Hv2042
   have ehz2037 : 0 + (List.length k) = List.length k := (by first | (simp; done) | (simp; omega) | omega)
   rw [ehz2037] at En2041
   refine ⟨fun _ => Hv2042.pk [], ?_⟩
   refine q_t 19 ?_
   refine op_appzeros (d := some 82) (t := 23) (tn := 3) (tx := 9) (ty := 23) (T := 5) (kn := .i64) (ik := .i64) (k := 2) (p := List.length k) (m := blockOf h - List.length k) (xs := k) En2041 (by kernel_rfl) Hv2042 rfl rfl (by kernel_rfl) (by kernel_rfl) (by kernel_rfl) (by kernel_rfl) (by omega) ?_
   intro ac2046 wo2047 ao2043 cp2044 En2048 Hv2049 hnz _
   clear hnz
   have ehz2045 : (List.length k) + (blockOf h - List.length k) = List.length (k ++ List.replicate (blockOf h - List.length k) 0) := (by first | (simp; done) | (simp; omega) | omega)
   rw [ehz2045] at En2048
   refine ⟨fun _ => Hv2049.pk [], ?_⟩
   refine q_t 22 ?_
   refine c_0 En2048 Hv2049 (macof_go _ h hh ao2043 (List.length (k ++ List.replicate (blockOf h - List.length k) 0)) cp2044 (k ++ List.replicate (blockOf h - List.length k) 0) (by first | rfl | (simp; done) | (simp; omega) | omega) (bys_in Hv2049.heap (k := 2) rfl [] (by kernel_rfl) rfl (by first | omega | (simp; done) | (simp; omega))) (some ⟨bk1569, 0, none⟩) 1 1 ([⟨a_x, c_x, x⟩] : List (Sl UInt8)) (by first | rfl | (simp; done) | (simp; omega) | omega) ⟨Hv2049.heap.ro (k := 1) rfl [] (by kernel_rfl) rfl, (fun e => by cases e), (by simp), (by simp), (List.forall_mem_cons.2 ⟨((i_x.ev Hv2049).pick [] (by kernel_rfl)), (fun x h => absurd h List.not_mem_nil)⟩)⟩ ((gk32.ev Hv2049).pick [] (by kernel_rfl)) ((gk64.ev Hv2049).pick [] (by kernel_rfl))) ?_
   rintro _ wo2052 ⟨aoq2050, coq2050, rfl, he2053⟩
   refine ⟨_, _, _, rfl, he2053, rfl, fun ac2055 En2056 Hv2057 => ?_⟩
   refine ⟨fun _ => Hv2057.pk [], ?_⟩
   refine q_t 23 ?_
   refine op_str (d := some 86) (src := 23) (dst := 9) (e := 5) (ao := aoq2050) (cap := coq2050) (p := List.length (macF h (k ++ List.replicate (blockOf h - List.length k) 0) (List.flatMap (fun s : Sl UInt8 => s.l) ([⟨a_x, c_x, x⟩] : List (Sl UInt8))))) (bs := macF h (k ++ List.replicate (blockOf h - List.length k) 0) (List.flatMap (fun s : Sl UInt8 => s.l) ([⟨a_x, c_x, x⟩] : List (Sl UInt8)))) En2056 (by kernel_rfl) rfl (by kernel_rfl) (by kernel_rfl) (by kernel_rfl) (Hv2057.heap.reads (k := 0) rfl) (bys_vnz Hv2057.heap (k := 0) rfl) ?_
   intro ac2058 En2059
   refine ⟨fun _ => Hv2057.pk [], ?_⟩
   refine q_s [24,25,26] [(24, g_v (show (.bool (ByteArray.toList (bstr (macF h k (List.flatMap (fun s : Sl UInt8 => s.l) ([⟨a_x, c_x, x⟩] : List (Sl UInt8))))) == ByteArray.toList (bstr (macF h (k ++ List.replicate (blockOf h - List.length k) 0) (List.flatMap (fun s : Sl UInt8 => s.l) ([⟨a_x, c_x, x⟩] : List (Sl UInt8)))))) : Value) = .bool true by rw [Go.Dbr.bstr_eq (macF h k (List.flatMap (fun s : Sl UInt8 => s.l) ([⟨a_x, c_x, x⟩] : List (Sl UInt8)))) (macF h (k ++ List.replicate (blockOf h - List.length k) 0) (List.flatMap (fun s : Sl UInt8 => s.l) ([⟨a_x, c_x, x⟩] : List (Sl UInt8)))), show ((macF h k (List.flatMap (fun s : Sl UInt8 => s.l) ([⟨a_x, c_x, x⟩] : List (Sl UInt8)))) == (macF h (k ++ List.replicate (blockOf h - List.length k) 0) (List.flatMap (fun s : Sl UInt8 => s.l) ([⟨a_x, c_x, x⟩] : List (Sl UInt8))))) = true from (by simp [← filled_same hk x]; done)] <;> rfl))] 0 En2059 (Hv2057.pk []) fun ac2060 En2061 => ?_
   exact h_e ⟨En2061.sb, Hv2057.pk [1]⟩
  have nd2062 : ∀ (ac : Act) (wo : World) (aoq1464 : _) (coq1464 : _) (ao1615 : Option Addr) (cp1616 : Nat), Env ac 118 [(0, .int .i64 h), (1, .slice a_k (List.length k) c_k), (2, .slice a_x (List.length x) c_x), (3, .slice a_y (List.length y) c_y), (8, .bool false), (9, .bool true), (10, ni (blockOf h)), (12, .string (bstr (macF h k (List.flatMap (fun s : Sl UInt8 => s.l) ([⟨ao73, cp74, x ++ y⟩] : List (Sl UInt8)))))), (13, .bool true), (67, .bool false), (72, .slice aoq1464 (List.length (macF h k (List.flatMap (fun s : Sl UInt8 => s.l) ([⟨a_x, c_x, x⟩] : List (Sl UInt8))))) coq1464), (74, .int .i64 h), (77, .slice ao1615 (List.length k) cp1616), (81, ni (blockOf h - List.length k)), (83, .slice a_x (List.length x) c_x)] → Ev w [] wo [.vec aoq1464 coq1464 1 (bys (macF h k (List.flatMap (fun s : Sl UInt8 => s.l) ([⟨a_x, c_x, x⟩] : List (Sl UInt8))))) 5, .vec ao73 cp74 1 (bys (x ++ y)) 5, .vec ao1615 cp1616 1 (bys k) 5] → G 8 #[true, true, true, true, true, true, true, true, true, true, false, true, true, true, true, true, true, true, true, false, true, false, false, false, false, false, false] ac wo := by
   intro ac2063 wo2064 aoq1464 coq1464 ao1615 cp1616 En2065 Hv2066
   refine h_from hG ?_
   refine h_ways [10, 19, 21] (by kernel_rfl) rfl ?_
   refine ⟨?_, ?_, ?_, trivial⟩
   ·
    rintro _ rfl
    refine op_str (d := some 73) (src := 23) (dst := 9) (e := 5) (ao := aoq1464) (cap := coq1464) (p := List.length (macF h k (List.flatMap (fun s : Sl UInt8 => s.l) ([⟨a_x, c_x, x⟩] : List (Sl UInt8))))) (bs := macF h k (List.flatMap (fun s : Sl UInt8 => s.l) ([⟨a_x, c_x, x⟩] : List (Sl UInt8)))) En2065 (by kernel_rfl) rfl (by kernel_rfl) (by kernel_rfl) (by kernel_rfl) (Hv2066.heap.reads (k := 0) rfl) (bys_vnz Hv2066.heap (k := 0) rfl) ?_
    intro ac2067 En2068
    refine ⟨fun _ => Hv2066.pk [], ?_⟩
    exact h_to hG (by kernel_rfl) (nd1929 _ _ ao1615 cp1616 (En2068.sb) (Hv2066.pk [1, 2]))
   ·
    rintro _ rfl
    refine op_appzeros (d := some 82) (t := 23) (tn := 3) (tx := 9) (ty := 23) (T := 5) (kn := .i64) (ik := .i64) (k := 2) (p := List.length k) (m := blockOf h - List.length k) (xs := k) En2065 (by kernel_rfl) Hv2066 rfl rfl (by kernel_rfl) (by kernel_rfl) (by kernel_rfl) (by kernel_rfl) (by omega) ?_
    intro ac2072 wo2073 ao2069 cp2070 En2074 Hv2075 hnz _
    clear hnz
    have ehz2071 : (List.length k) + (blockOf h - List.length k) = List.length (k ++ List.replicate (blockOf h - List.length k) 0) := (by first | (simp; done) | (simp; omega) | omega)
    rw [ehz2071] at En2074
    refine ⟨fun _ => Hv2075.pk [], ?_⟩
    exact h_to hG (by kernel_rfl) (nd1979 _ _ aoq1464 coq1464 ao2069 cp2070 (En2074.sb) (Hv2075.pk [0, 1, 2]))
   ·
    rintro _ rfl
    refine op_lit (d := some 84) (t := 30) (T := 23) (m := 1) (parts := #[(0, .slice a_x (List.length x) c_x)]) (xs := [.slice a_x (List.length x) c_x]) (sz := 1) En2065 (by kernel_rfl) (by kernel_rfl) rfl (by decide) Hv2066 ?_
    intro ac2077 wo2078 bk2076 En2079 Hv2080
    refine ⟨fun _ => Hv2080.pk [], ?_⟩
    exact h_to hG (by kernel_rfl) (nd1991 _ _ aoq1464 coq1464 ao1615 cp1616 bk2076 (En2079.sb) (Hv2080.pk [0, 1, 2, 3]))
  have nd2081 : ∀ (ac : Act) (wo : World) (aoq1464 : _) (coq1464 : _) (bk1607 : Nat) (bk1687 : Nat), Env ac 118 [(0, .int .i64 h), (1, .slice a_k (List.length k) c_k), (2, .slice a_x (List.length x) c_x), (3, .slice a_y (List.length y) c_y), (8, .bool false), (9, .bool true), (10, ni (blockOf h)), (12, .string (bstr (macF h k (List.flatMap (fun s : Sl UInt8 => s.l) ([⟨ao73, cp74, x ++ y⟩] : List (Sl UInt8)))))), (13, .bool true), (67, .bool false), (72, .slice aoq1464 (List.length (macF h k (List.flatMap (fun s : Sl UInt8 => s.l) ([⟨a_x, c_x, x⟩] : List (Sl UInt8))))) coq1464), (74, .int .i64 h), (75, .slice (some ⟨bk1607, 0, none⟩) 0 0), (76, .slice a_k (List.length k) c_k), (81, ni (blockOf h - List.length k)), (84, .slice (some ⟨bk1687, 0, none⟩) 1 1)] → Ev w [] wo [.vec aoq1464 coq1464 1 (bys (macF h k (List.flatMap (fun s : Sl UInt8 => s.l) ([⟨a_x, c_x, x⟩] : List (Sl UInt8))))) 5, .vec ao73 cp74 1 (bys (x ++ y)) 5, .vec (some ⟨bk1607, 0, none⟩) 0 1 (bys []) 5, .vec (some ⟨bk1687, 0, none⟩) 1 1 [.slice a_x (List.length x) c_x] 23] → G 8 #[true, true, true, true, true, true, true, true, true, true, false, true, true, true, false, true, true, true, true, false, true, true, false, false, false, false, false] ac wo := by
   intro ac2082 wo2083 aoq1464 coq1464 bk1607 bk1687 En2084 Hv2085
   refine h_from hG ?_
   refine h_ways [10, 14] (by kernel_rfl) rfl ?_
   refine ⟨?_, ?_, trivial⟩
   ·
    rintro _ rfl
    refine op_str (d := some 73) (src := 23) (dst := 9) (e := 5) (ao := aoq1464) (cap := coq1464) (p := List.length (macF h k (List.flatMap (fun s : Sl UInt8 => s.l) ([⟨a_x, c_x, x⟩] : List (Sl UInt8))))) (bs := macF h k (List.flatMap (fun s : Sl UInt8 => s.l) ([⟨a_x, c_x, x⟩] : List (Sl UInt8)))) En2084 (by kernel_rfl) rfl (by kernel_rfl) (by kernel_rfl) (by kernel_rfl) (Hv2085.heap.reads (k := 0) rfl) (bys_vnz Hv2085.heap (k := 0) rfl) ?_
    intro ac2086 En2087
    refine ⟨fun _ => Hv2085.pk [], ?_⟩
    exact h_to hG (by kernel_rfl) (nd1946 _ _ bk1607 bk1687 (En2087.sb) (Hv2085.pk [1, 2, 3]))
   ·
    rintro _ rfl
    have hsm2088 := i_k.small
    refine op_append (d := some 77) (t := 23) (tx := 23) (ty := 23) (k := 2) (p := 0) (m := List.length k) (x := .slice a_k (List.length k) c_k) (bytes := 1) En2084 (by kernel_rfl) Hv2085 rfl rfl (Reads.src (size := 1) (tx := 23) (e' := 5) (by kernel_rfl) (i_k.ev Hv2085).reads (bys_len _) i_k.nz (bys_one _)) (by kernel_rfl) (z := .int .u8 0) (by kernel_rfl) rfl (by decide) (by omega) (by unfold maxLen; omega) ?_
    intro ac2093 wo2094 ao2089 cp2090 En2095 Hv2096 hnz _
    clear hnz
    rw [bys_nil_append] at Hv2096
    have ehz2091 : 0 + (List.length k) = List.length k := (by first | (simp; done) | (simp; omega) | omega)
    rw [ehz2091] at En2095
    refine ⟨fun _ => Hv2096.pk [], ?_⟩
    exact h_to hG (by kernel_rfl) (nd1991 _ _ aoq1464 coq1464 ao2089 cp2090 bk1687 (En2095.sb) (Hv2096.pk [0, 1, 2, 3]))
  have nd2097 : ∀ (ac : Act) (wo : World), Env ac 118 [(0, .int .i64 h), (1, .slice a_k (List.length k) c_k), (2, .slice a_x (List.length x) c_x), (3, .slice a_y (List.length y) c_y), (8, .bool false), (9, .bool true), (10, ni (blockOf h)), (12, .string (bstr (macF h k (List.flatMap (fun s : Sl UInt8 => s.l) ([⟨ao73, cp74, x ++ y⟩] : List (Sl UInt8)))))), (13, .bool true), (67, .bool false), (73, .string (bstr (macF h k (List.flatMap (fun s : Sl UInt8 => s.l) ([⟨a_x, c_x, x⟩] : List (Sl UInt8)))))), (74, .int .i64 h), (76, .slice a_k (List.length k) c_k), (81, ni (blockOf h - List.length k)), (83, .slice a_x (List.length x) c_x)] → Ev w [] wo [.vec ao73 cp74 1 (bys (x ++ y)) 5] → G 9 #[true, true, true, true, true, true, true, true, true, true, true, true, false, true, false, true, true, true, true, false, true, false, false, false, false, false, false] ac wo := by
   intro ac2098 wo2099 En2100 Hv2101
   refine h_from hG ?_
   refine h_ways [12, 21] (by kernel_rfl) rfl ?_
   refine ⟨?_, ?_, trivial⟩
   ·
    rintro _ rfl
    refine op_lit (d := some 75) (t := 23) (T := 5) (m := 0) (parts := #[]) (xs := bys []) (sz := 1) En2100 (by kernel_rfl) (by kernel_rfl) rfl (by decide) Hv2101 ?_
    intro ac2103 wo2104 bk2102 En2105 Hv2106
    refine ⟨fun _ => Hv2106.pk [], ?_⟩
    exact h_to hG (by kernel_rfl) (nd2005 _ _ bk2102 (En2105.sb) (Hv2106.pk [0, 1]))
   ·
    rintro _ rfl
    refine op_lit (d := some 84) (t := 30) (T := 23) (m := 1) (parts := #[(0, .slice a_x (List.length x) c_x)]) (xs := [.slice a_x (List.length x) c_x]) (sz := 1) En2100 (by kernel_rfl) (by kernel_rfl) rfl (by decide) Hv2101 ?_
    intro ac2108 wo2109 bk2107 En2110 Hv2111
    refine ⟨fun _ => Hv2111.pk [], ?_⟩
    exact h_to hG (by kernel_rfl) (nd2024 _ _ bk2107 (En2110.sb) (Hv2111.pk [0, 1]))
  have nd2112 : ∀ (ac : Act) (wo : World) (aoq1464 : _) (coq1464 : _) (bk1607 : Nat), Env ac 118 [(0, .int .i64 h), (1, .slice a_k (List.length k) c_k), (2, .slice a_x (List.length x) c_x), (3, .slice a_y (List.length y) c_y), (8, .bool false), (9, .bool true), (10, ni (blockOf h)), (12, .string (bstr (macF h k (List.flatMap (fun s : Sl UInt8 => s.l) ([⟨ao73, cp74, x ++ y⟩] : List (Sl UInt8)))))), (13, .bool true), (67, .bool false), (72, .slice aoq1464 (List.length (macF h k (List.flatMap (fun s : Sl UInt8 => s.l) ([⟨a_x, c_x, x⟩] : List (Sl UInt8))))) coq1464), (74, .int .i64 h), (75, .slice (some ⟨bk1607, 0, none⟩) 0 0), (76, .slice a_k (List.length k) c_k), (81, ni (blockOf h - List.length k)), (83, .slice a_x (List.length x) c_x)] → Ev w [] wo [.vec aoq1464 coq1464 1 (bys (macF h k (List.flatMap (fun s : Sl UInt8 => s.l) ([⟨a_x, c_x, x⟩] : List (Sl UInt8))))) 5, .vec ao73 cp74 1 (bys (x ++ y)) 5, .vec (some ⟨bk1607, 0, none⟩) 0 1 (bys []) 5] → G 9 #[true, true, true, true, true, true, true, true, true, true, false, true, true, true, false, true, true, true, true, false, true, false, false, false, false, false, false] ac wo := by
   intro ac2113 wo2114 aoq1464 coq1464 bk1607 En2115 Hv2116
   refine h_from hG ?_
   refine h_ways [10, 14, 21] (by kernel_rfl) rfl ?_
   refine ⟨?_, ?_, ?_, trivial⟩
   ·
    rintro _ rfl
    refine op_str (d := some 73) (src := 23) (dst := 9) (e := 5) (ao := aoq1464) (cap := coq1464) (p := List.length (macF h k (List.flatMap (fun s : Sl UInt8 => s.l) ([⟨a_x, c_x, x⟩] : List (Sl UInt8))))) (bs := macF h k (List.flatMap (fun s : Sl UInt8 => s.l) ([⟨a_x, c_x, x⟩] : List (Sl UInt8)))) En2115 (by kernel_rfl) rfl (by kernel_rfl) (by kernel_rfl) (by kernel_rfl) (Hv2116.heap.reads (k := 0) rfl) (bys_vnz Hv2116.heap (k := 0) rfl) ?_
    intro ac2117 En2118
    refine ⟨fun _ => Hv2116.pk [], ?_⟩
    exact h_to hG (by kernel_rfl) (nd2005 _ _ bk1607 (En2118.sb) (Hv2116.pk [1, 2]))
   ·
    rintro _ rfl
    have hsm2119 := i_k.small
    refine op_append (d := some 77) (t := 23) (tx := 23) (ty := 23) (k := 2) (p := 0) (m := List.length k) (x := .slice a_k (List.length k) c_k) (bytes := 1) En2115 (by kernel_rfl) Hv2116 rfl rfl (Reads.src (size := 1) (tx := 23) (e' := 5) (by kernel_rfl) (i_k.ev Hv2116).reads (bys_len _) i_k.nz (bys_one _)) (by kernel_rfl) (z := .int .u8 0) (by kernel_rfl) rfl (by decide) (by omega) (by unfold maxLen; omega) ?_
    intro ac2124 wo2125 ao2120 cp2121 En2126 Hv2127 hnz _
    clear hnz
    rw [bys_nil_append] at Hv2127
    have ehz2122 : 0 + (List.length k) = List.length k := (by first | (simp; done) | (simp; omega) | omega)
    rw [ehz2122] at En2126
    refine ⟨fun _ => Hv2127.pk [], ?_⟩
    exact h_to hG (by kernel_rfl) (nd2062 _ _ aoq1464 coq1464 ao2120 cp2121 (En2126.sb) (Hv2127.pk [0, 1, 2]))
   ·
    rintro _ rfl
    refine op_lit (d := some 84) (t := 30) (T := 23) (m := 1) (parts := #[(0, .slice a_x (List.length x) c_x)]) (xs := [.slice a_x (List.length x) c_x]) (sz := 1) En2115 (by kernel_rfl) (by kernel_rfl) rfl (by decide) Hv2116 ?_
    intro ac2129 wo2130 bk2128 En2131 Hv2132
    refine ⟨fun _ => Hv2132.pk [], ?_⟩
    exact h_to hG (by kernel_rfl) (nd2081 _ _ aoq1464 coq1464 bk1607 bk2128 (En2131.sb) (Hv2132.pk [0, 1, 2, 3]))
  have nd2133 : ∀ (ac : Act) (wo : World) (aoq1464 : _) (coq1464 : _) (bk1703 : Nat), Env ac 118 [(0, .int .i64 h), (1, .slice a_k (List.length k) c_k), (2, .slice a_x (List.length x) c_x), (3, .slice a_y (List.length y) c_y), (8, .bool false), (9, .bool true), (10, ni (blockOf h)), (12, .string (bstr (macF h k (List.flatMap (fun s : Sl UInt8 => s.l) ([⟨ao73, cp74, x ++ y⟩] : List (Sl UInt8)))))), (13, .bool true), (67, .bool false), (72, .slice aoq1464 (List.length (macF h k (List.flatMap (fun s : Sl UInt8 => s.l) ([⟨a_x, c_x, x⟩] : List (Sl UInt8))))) coq1464), (74, .int .i64 h), (76, .slice a_k (List.length k) c_k), (81, ni (blockOf h - List.length k)), (84, .slice (some ⟨bk1703, 0, none⟩) 1 1)] → Ev w [] wo [.vec aoq1464 coq1464 1 (bys (macF h k (List.flatMap (fun s : Sl UInt8 => s.l) ([⟨a_x, c_x, x⟩] : List (Sl UInt8))))) 5, .vec ao73 cp74 1 (bys (x ++ y)) 5, .vec (some ⟨bk1703, 0, none⟩) 1 1 [.slice a_x (List.length x) c_x] 23] → G 9 #[true, true, true, true, true, true, true, true, true, true, false, true, false, true, false, true, true, true, true, false, true, true, false, false, false, false, false] ac wo := by
   intro ac2134 wo2135 aoq1464 coq1464 bk1703 En2136 Hv2137
   refine h_from hG ?_
   refine h_ways [10, 12] (by kernel_rfl) rfl ?_
   refine ⟨?_, ?_, trivial⟩
   ·
    rintro _ rfl
    refine op_str (d := some 73) (src := 23) (dst := 9) (e := 5) (ao := aoq1464) (cap := coq1464) (p := List.length (macF h k (List.flatMap (fun s : Sl UInt8 => s.l) ([⟨a_x, c_x, x⟩] : List (Sl UInt8))))) (bs := macF h k (List.flatMap (fun s : Sl UInt8 => s.l) ([⟨a_x, c_x, x⟩] : List (Sl UInt8)))) En2136 (by kernel_rfl) rfl (by kernel_rfl) (by kernel_rfl) (by kernel_rfl) (Hv2137.heap.reads (k := 0) rfl) (bys_vnz Hv2137.heap (k := 0) rfl) ?_
    intro ac2138 En2139
    refine ⟨fun _ => Hv2137.pk [], ?_⟩
    exact h_to hG (by kernel_rfl) (nd2024 _ _ bk1703 (En2139.sb) (Hv2137.pk [1, 2]))
   ·
    rintro _ rfl
    refine op_lit (d := some 75) (t := 23) (T := 5) (m := 0) (parts := #[]) (xs := bys []) (sz := 1) En2136 (by kernel_rfl) (by kernel_rfl) rfl (by decide) Hv2137 ?_
    intro ac2141 wo2142 bk2140 En2143 Hv2144
    refine ⟨fun _ => Hv2144.pk [], ?_⟩
    exact h_to hG (by kernel_rfl) (nd2081 _ _ aoq1464 coq1464 bk2140 bk1703 (En2143.sb) (Hv2144.pk [0, 1, 3, 2]))
  have nd2145 : ∀ (ac : Act) (wo : World) (bk1459 : Nat) (bk1715 : Nat) (bk1728 : Nat), Env ac 118 [(0, .int .i64 h), (1, .slice a_k (List.length k) c_k), (2, .slice a_x (List.length x) c_x), (3, .slice a_y (List.length y) c_y), (8, .bool false), (9, .bool true), (10, ni (blockOf h)), (12, .string (bstr (macF h k (List.flatMap (fun s : Sl UInt8 => s.l) ([⟨ao73, cp74, x ++ y⟩] : List (Sl UInt8)))))), (13, .bool true), (67, .bool false), (68, .int .i64 h), (69, .slice a_k (List.length k) c_k), (71, .slice (some ⟨bk1459, 0, none⟩) 1 1), (74, .int .i64 h), (75, .slice (some ⟨bk1715, 0, none⟩) 0 0), (76, .slice a_k (List.length k) c_k), (81, ni (blockOf h - List.length k)), (84, .slice (some ⟨bk1728, 0, none⟩) 1 1)] → Ev w [] wo [.vec ao73 cp74 1 (bys (x ++ y)) 5, .vec (some ⟨bk1459, 0, none⟩) 1 1 [.slice a_x (List.length x) c_x] 23, .vec (some ⟨bk1715, 0, none⟩) 0 1 (bys []) 5, .vec (some ⟨bk1728, 0, none⟩) 1 1 [.slice a_x (List.length x) c_x] 23] → G 9 #[true, true, true, true, true, true, true, true, true, false, false, true, true, true, false, true, true, true, true, false, true, true, false, false, false, false, false] ac wo := by
   intro ac2146 wo2147 bk1459 bk1715 bk1728 En2148 Hv2149
   refine h_from hG ?_
   refine q_t 9 ?_
   refine c_0 En2148 Hv2149 (macof_go _ h hh a_k (List.length k) c_k k (by first | rfl | (simp; done) | (simp; omega) | omega) ((i_k.ev Hv2149).pick [] (by kernel_rfl)) (some ⟨bk1459, 0, none⟩) 1 1 ([⟨a_x, c_x, x⟩] : List (Sl UInt8)) (by first | rfl | (simp; done) | (simp; omega) | omega) ⟨Hv2149.heap.ro (k := 1) rfl [] (by kernel_rfl) rfl, (fun e => by cases e), (by simp), (by simp), (List.forall_mem_cons.2 ⟨((i_x.ev Hv2149).pick [] (by kernel_rfl)), (fun x h => absurd h List.not_mem_nil)⟩)⟩ ((gk32.ev Hv2149).pick [] (by kernel_rfl)) ((gk64.ev Hv2149).pick [] (by kernel_rfl))) ?_
   rintro _ wo2152 ⟨aoq2150, coq2150, rfl, he2153⟩
   refine ⟨_, _, _, rfl, he2153, rfl, fun ac2155 En2156 Hv2157 => ?_⟩
   refine ⟨fun _ => Hv2157.pk [], ?_⟩
   refine h_ways [10, 14] (by kernel_rfl) rfl ?_
   refine ⟨?_, ?_, trivial⟩
   ·
    rintro _ rfl
    refine op_str (d := some 73) (src := 23) (dst := 9) (e := 5) (ao := aoq2150) (cap := coq2150) (p := List.length (macF h k (List.flatMap (fun s : Sl UInt8 => s.l) ([⟨a_x, c_x, x⟩] : List (Sl UInt8))))) (bs := macF h k (List.flatMap (fun s : Sl UInt8 => s.l) ([⟨a_x, c_x, x⟩] : List (Sl UInt8)))) En2156 (by kernel_rfl) rfl (by kernel_rfl) (by kernel_rfl) (by kernel_rfl) (Hv2157.heap.reads (k := 0) rfl) (bys_vnz Hv2157.heap (k := 0) rfl) ?_
    intro ac2158 En2159
    refine ⟨fun _ => Hv2157.pk [], ?_⟩
    exact h_to hG (by kernel_rfl) (nd1946 _ _ bk1715 bk1728 (En2159.sb) (Hv2157.pk [1, 3, 4]))
   ·
    rintro _ rfl
    have hsm2160 := i_k.small
    refine op_append (d := some 77) (t := 23) (tx := 23) (ty := 23) (k := 3) (p := 0) (m := List.length k) (x := .slice a_k (List.length k) c_k) (bytes := 1) En2156 (by kernel_rfl) Hv2157 rfl rfl (Reads.src (size := 1) (tx := 23) (e' := 5) (by kernel_rfl) (i_k.ev Hv2157).reads (bys_len _) i_k.nz (bys_one _)) (by kernel_rfl) (z := .int .u8 0) (by kernel_rfl) rfl (by decide) (by omega) (by unfold maxLen; omega) ?_
    intro ac2165 wo2166 ao2161 cp2162 En2167 Hv2168 hnz _
    clear hnz
    rw [bys_nil_append] at Hv2168
    have ehz2163 : 0 + (List.length k) = List.length k := (by first | (simp; done) | (simp; omega) | omega)
    rw [ehz2163] at En2167
    refine ⟨fun _ => Hv2168.pk [], ?_⟩
    exact h_to hG (by kernel_rfl) (nd1991 _ _ aoq2150 coq2150 ao2161 cp2162 bk1728 (En2167.sb) (Hv2168.pk [0, 1, 3, 4]))
  have nd2169 : ∀ (ac : Act) (wo : World) (aoq1464 : _) (coq1464 : _), Env ac 118 [(0, .int .i64 h), (1, .slice a_k (List.length k) c_k), (2, .slice a_x (List.length x) c_x), (3, .slice a_y (List.length y) c_y), (8, .bool false), (9, .bool true), (10, ni (blockOf h)), (12, .string (bstr (macF h k (List.flatMap (fun s : Sl UInt8 => s.l) ([⟨ao73, cp74, x ++ y⟩] : List (Sl UInt8)))))), (13, .bool true), (67, .bool false), (72, .slice aoq1464 (List.length (macF h k (List.flatMap (fun s : Sl UInt8 => s.l) ([⟨a_x, c_x, x⟩] : List (Sl UInt8))))) coq1464), (74, .int .i64 h), (76, .slice a_k (List.length k) c_k), (81, ni (blockOf h - List.length k)), (83, .slice a_x (List.length x) c_x)] → Ev w [] wo [.vec aoq1464 coq1464 1 (bys (macF h k (List.flatMap (fun s : Sl UInt8 => s.l) ([⟨a_x, c_x, x⟩] : List (Sl UInt8))))) 5, .vec ao73 cp74 1 (bys (x ++ y)) 5] → G 10 #[true, true, true, true, true, true, true, true, true, true, false, true, false, true, false, true, true, true, true, false, true, false, false, false, false, false, false] ac wo := by
   intro ac2170 wo2171 aoq1464 coq1464 En2172 Hv2173
   refine h_from hG ?_
   refine h_ways [10, 12, 21] (by kernel_rfl) rfl ?_
   refine ⟨?_, ?_, ?_, trivial⟩
   ·
    rintro _ rfl
    refine op_str (d := some 73) (src := 23) (dst := 9) (e := 5) (ao := aoq1464) (cap := coq1464) (p := List.length (macF h k (List.flatMap (fun s : Sl UInt8 => s.l) ([⟨a_x, c_x, x⟩] : List (Sl UInt8))))) (bs := macF h k (List.flatMap (fun s : Sl UInt8 => s.l) ([⟨a_x, c_x, x⟩] : List (Sl UInt8)))) En2172 (by kernel_rfl) rfl (by kernel_rfl) (by kernel_rfl) (by kernel_rfl) (Hv2173.heap.reads (k := 0) rfl) (bys_vnz Hv2173.heap (k := 0) rfl) ?_
    intro ac2174 En2175
    refine ⟨fun _ => Hv2173.pk [], ?_⟩
    exact h_to hG (by kernel_rfl) (nd2097 _ _ (En2175.sb) (Hv2173.pk [1]))
   ·
    rintro _ rfl
    refine op_lit (d := some 75) (t := 23) (T := 5) (m := 0) (parts := #[]) (xs := bys []) (sz := 1) En2172 (by kernel_rfl) (by kernel_rfl) rfl (by decide) Hv2173 ?_
    intro ac2177 wo2178 bk2176 En2179 Hv2180
    refine ⟨fun _ => Hv2180.pk [], ?_⟩
    exact h_to hG (by kernel_rfl) (nd2112 _ _ aoq1464 coq1464 bk2176 (En2179.sb) (Hv2180.pk [0, 1, 2]))
   ·
    rintro _ rfl
    refine op_lit (d := some 84) (t := 30) (T := 23) (m := 1) (parts := #[(0, .slice a_x (List.length x) c_x)]) (xs := [.slice a_x (List.length x) c_x]) (sz := 1) En2172 (by kernel_rfl) (by kernel_rfl) rfl (by decide) Hv2173 ?_
    intro ac2182 wo2183 bk2181 En2184 Hv2185
    refine ⟨fun _ => Hv2185.pk [], ?_⟩
    exact h_to hG (by kernel_rfl) (nd2133 _ _ aoq1464 coq1464 bk2181 (En2184.sb) (Hv2185.pk [0, 1, 2]))
  have nd2186 : ∀ (ac : Act) (wo : World) (bk1459 : Nat) (bk1715 : Nat), Env ac 118 [(0, .int .i64 h), (1, .slice a_k (List.length k) c_k), (2, .slice a_x (List.length x) c_x), (3, .slice a_y (List.length y) c_y), (8, .bool false), (9, .bool true), (10, ni (blockOf h)), (12, .string (bstr (macF h k (List.flatMap (fun s : Sl UInt8 => s.l) ([⟨ao73, cp74, x ++ y⟩] : List (Sl UInt8)))))), (13, .bool true), (67, .bool false), (68, .int .i64 h), (69, .slice a_k (List.length k) c_k), (71, .slice (some ⟨bk1459, 0, none⟩) 1 1), (74, .int .i64 h), (75, .slice (some ⟨bk1715, 0, none⟩) 0 0), (76, .slice a_k (List.length k) c_k), (81, ni (blockOf h - List.length k)), (83, .slice a_x (List.length x) c_x)] → Ev w [] wo [.vec ao73 cp74 1 (bys (x ++ y)) 5, .vec (some ⟨bk1459, 0, none⟩) 1 1 [.slice a_x (List.length x) c_x] 23, .vec (some ⟨bk1715, 0, none⟩) 0 1 (bys []) 5] → G 10 #[true, true, true, true, true, true, true, true, true, false, false, true, true, true, false, true, true, true, true, false, true, false, false, false, false, false, false] ac wo := by
   intro ac2187 wo2188 bk1459 bk1715 En2189 Hv2190
   refine h_from hG ?_
   refine h_ways [9, 21] (by kernel_rfl) rfl ?_
   refine ⟨?_, ?_, trivial⟩
   ·
    rintro _ rfl
    refine c_0 En2189 Hv2190 (macof_go _ h hh a_k (List.length k) c_k k (by first | rfl | (simp; done) | (simp; omega) | omega) ((i_k.ev Hv2190).pick [] (by kernel_rfl)) (some ⟨bk1459, 0, none⟩) 1 1 ([⟨a_x, c_x, x⟩] : List (Sl UInt8)) (by first | rfl | (simp; done) | (simp; omega) | omega) ⟨Hv2190.heap.ro (k := 1) rfl [] (by kernel_rfl) rfl, (fun e => by cases e), (by simp), (by simp), (List.forall_mem_cons.2 ⟨((i_x.ev Hv2190).pick [] (by kernel_rfl)), (fun x h => absurd h List.not_mem_nil)⟩)⟩ ((gk32.ev Hv2190).pick [] (by kernel_rfl)) ((gk64.ev Hv2190).pick [] (by kernel_rfl))) ?_
    rintro _ wo2193 ⟨aoq2191, coq2191, rfl, he2194⟩
    refine ⟨_, _, _, rfl, he2194, rfl, fun ac2196 En2197 Hv2198 => ?_⟩
    refine ⟨fun _ => Hv2198.pk [], ?_⟩
    exact h_to hG (by kernel_rfl) (nd2112 _ _ aoq2191 coq2191 bk1715 (En2197.sb) (Hv2198.pk [0, 1, 3]))
   ·
    rintro _ rfl
    refine op_lit (d := some 84) (t := 30) (T := 23) (m := 1) (parts := #[(0, .slice a_x (List.length x) c_x)]) (xs := [.slice a_x (List.length x) c_x]) (sz := 1) En2189 (by kernel_rfl) (by kernel_rfl) rfl (by decide) Hv2190 ?_
    intro ac2200 wo2201 bk2199 En2202 Hv2203
    refine ⟨fun _ => Hv2203.pk [], ?_⟩
    exact h_to hG (by kernel_rfl) (nd2145 _ _ bk1459 bk1715 bk2199 (En2202.sb) (Hv2203.pk [0, 1, 2, 3]))
  have nd2204 : ∀ (ac : Act) (wo : World) (bk1459 : Nat) (bk1752 : Nat), Env ac 118 [(0, .int .i64 h), (1, .slice a_k (List.length k) c_k), (2, .slice a_x (List.length x) c_x), (3, .slice a_y (List.length y) c_y), (8, .bool false), (9, .bool true), (10, ni (blockOf h)), (12, .string (bstr (macF h k (List.flatMap (fun s : Sl UInt8 => s.l) ([⟨ao73, cp74, x ++ y⟩] : List (Sl UInt8)))))), (13, .bool true), (67, .bool false), (68, .int .i64 h), (69, .slice a_k (List.length k) c_k), (71, .slice (some ⟨bk1459, 0, none⟩) 1 1), (74, .int .i64 h), (76, .slice a_k (List.length k) c_k), (81, ni (blockOf h - List.length k)), (84, .slice (some ⟨bk1752, 0, none⟩) 1 1)] → Ev w [] wo [.vec ao73 cp74 1 (bys (x ++ y)) 5, .vec (some ⟨bk1459, 0, none⟩) 1 1 [.slice a_x (List.length x) c_x] 23, .vec (some ⟨bk1752, 0, none⟩) 1 1 [.slice a_x (List.length x) c_x] 23] → G 10 #[true, true, true, true, true, true, true, true, true, false, false, true, false, true, false, true, true, true, true, false, true, true, false, false, false, false, false] ac wo := by
   intro ac2205 wo2206 bk1459 bk1752 En2207 Hv2208
   refine h_from hG ?_
   refine h_ways [9, 12] (by kernel_rfl) rfl ?_
   refine ⟨?_, ?_, trivial⟩
   ·
    rintro _ rfl
    refine c_0 En2207 Hv2208 (macof_go _ h hh a_k (List.length k) c_k k (by first | rfl | (simp; done) | (simp; omega) | omega) ((i_k.ev Hv2208).pick [] (by kernel_rfl)) (some ⟨bk1459, 0, none⟩) 1 1 ([⟨a_x, c_x, x⟩] : List (Sl UInt8)) (by first | rfl | (simp; done) | (simp; omega) | omega) ⟨Hv2208.heap.ro (k := 1) rfl [] (by kernel_rfl) rfl, (fun e => by cases e), (by simp), (by simp), (List.forall_mem_cons.2 ⟨((i_x.ev Hv2208).pick [] (by kernel_rfl)), (fun x h => absurd h List.not_mem_nil)⟩)⟩ ((gk32.ev Hv2208).pick [] (by kernel_rfl)) ((gk64.ev Hv2208).pick [] (by kernel_rfl))) ?_
    rintro _ wo2211 ⟨aoq2209, coq2209, rfl, he2212⟩
    refine ⟨_, _, _, rfl, he2212, rfl, fun ac2214 En2215 Hv2216 => ?_⟩
    refine ⟨fun _ => Hv2216.pk [], ?_⟩
    exact h_to hG (by kernel_rfl) (nd2133 _ _ aoq2209 coq2209 bk1752 (En2215.sb) (Hv2216.pk [0, 1, 3]))
   ·
    rintro _ rfl
    refine op_lit (d := some 75) (t := 23) (T := 5) (m := 0) (parts := #[]) (xs := bys []) (sz := 1) En2207 (by kernel_rfl) (by kernel_rfl) rfl (by decide) Hv2208 ?_
    intro ac2218 wo2219 bk2217 En2220 Hv2221
    refine ⟨fun _ => Hv2221.pk [], ?_⟩
    exact h_to hG (by kernel_rfl) (nd2145 _ _ bk1459 bk2217 bk1752 (En2220.sb) (Hv2221.pk [0, 1, 3, 2]))
  have nd2222 : ∀ (ac : Act) (wo : World) (bk1770 : Nat) (bk1780 : Nat), Env ac 118 [(0, .int .i64 h), (1, .slice a_k (List.length k) c_k), (2, .slice a_x (List.length x) c_x), (3, .slice a_y (List.length y) c_y), (8, .bool false), (9, .bool true), (10, ni (blockOf h)), (12, .string (bstr (macF h k (List.flatMap (fun s : Sl UInt8 => s.l) ([⟨ao73, cp74, x ++ y⟩] : List (Sl UInt8)))))), (13, .bool true), (67, .bool false), (68, .int .i64 h), (69, .slice a_k (List.length k) c_k), (70, .slice a_x (List.length x) c_x), (74, .int .i64 h), (75, .slice (some ⟨bk1770, 0, none⟩) 0 0), (76, .slice a_k (List.length k) c_k), (81, ni (blockOf h - List.length k)), (84, .slice (some ⟨bk1780, 0, none⟩) 1 1)] → Ev w [] wo [.vec ao73 cp74 1 (bys (x ++ y)) 5, .vec (some ⟨bk1770, 0, none⟩) 0 1 (bys []) 5, .vec (some ⟨bk1780, 0, none⟩) 1 1 [.slice a_x (List.length x) c_x] 23] → G 10 #[true, true, true, true, true, true, true, true, false, false, false, true, true, true, false, true, true, true, true, false, true, true, false, false, false, false, false] ac wo := by
   intro ac2223 wo2224 bk1770 bk1780 En2225 Hv2226
   refine h_from hG ?_
   refine q_t 8 ?_
   refine op_lit (d := some 71) (t := 30) (T := 23) (m := 1) (parts := #[(0, .slice a_x (List.length x) c_x)]) (xs := [.slice a_x (List.length x) c_x]) (sz := 1) En2225 (by kernel_rfl) (by kernel_rfl) rfl (by decide) Hv2226 ?_
   intro ac2228 wo2229 bk2227 En2230 Hv2231
   refine ⟨fun _ => Hv2231.pk [], ?_⟩
   refine q_t 9 ?_
   refine c_0 En2230 Hv2231 (macof_go _ h hh a_k (List.length k) c_k k (by first | rfl | (simp; done) | (simp; omega) | omega) ((i_k.ev Hv2231).pick [] (by kernel_rfl)) (some ⟨bk2227, 0, none⟩) 1 1 ([⟨a_x, c_x, x⟩] : List (Sl UInt8)) (by first | rfl | (simp; done) | (simp; omega) | omega) ⟨Hv2231.heap.ro (k := 3) rfl [] (by kernel_rfl) rfl, (fun e => by cases e), (by simp), (by simp), (List.forall_mem_cons.2 ⟨((i_x.ev Hv2231).pick [] (by kernel_rfl)), (fun x h => absurd h List.not_mem_nil)⟩)⟩ ((gk32.ev Hv2231).pick [] (by kernel_rfl)) ((gk64.ev Hv2231).pick [] (by kernel_rfl))) ?_
   rintro _ wo2234 ⟨aoq2232, coq2232, rfl, he2235⟩
   refine ⟨_, _, _, rfl, he2235, rfl, fun ac2237 En2238 Hv2239 => ?_⟩
   refine ⟨fun _ => Hv2239.pk [], ?_⟩
   refine h_ways [10, 14] (by kernel_rfl) rfl ?_
   refine ⟨?_, ?_, trivial⟩
   ·
    rintro _ rfl
    refine op_str (d := some 73) (src := 23) (dst := 9) (e := 5) (ao := aoq2232) (cap := coq2232) (p := List.length (macF h k (List.flatMap (fun s : Sl UInt8 => s.l) ([⟨a_x, c_x, x⟩] : List (Sl UInt8))))) (bs := macF h k (List.flatMap (fun s : Sl UInt8 => s.l) ([⟨a_x, c_x, x⟩] : List (Sl UInt8)))) En2238 (by kernel_rfl) rfl (by kernel_rfl) (by kernel_rfl) (by kernel_rfl) (Hv2239.heap.reads (k := 0) rfl) (bys_vnz Hv2239.heap (k := 0) rfl) ?_
    intro ac2240 En2241
    refine ⟨fun _ => Hv2239.pk [], ?_⟩
    exact h_to hG (by kernel_rfl) (nd1946 _ _ bk1770 bk1780 (En2241.sb) (Hv2239.pk [1, 2, 3]))
   ·
    rintro _ rfl
    have hsm2242 := i_k.small
    refine op_append (d := some 77) (t := 23) (tx := 23) (ty := 23) (k := 2) (p := 0) (m := List.length k) (x := .slice a_k (List.length k) c_k) (bytes := 1) En2238 (by kernel_rfl) Hv2239 rfl rfl (Reads.src (size := 1) (tx := 23) (e' := 5) (by kernel_rfl) (i_k.ev Hv2239).reads (bys_len _) i_k.nz (bys_one _)) (by kernel_rfl) (z := .int .u8 0) (by kernel_rfl) rfl (by decide) (by omega) (by unfold maxLen; omega) ?_
    intro ac2247 wo2248 ao2243 cp2244 En2249 Hv2250 hnz _
    clear hnz
    rw [bys_nil_append] at Hv2250
    have ehz2245 : 0 + (List.length k) = List.length k := (by first | (simp; done) | (simp; omega) | omega)
    rw [ehz2245] at En2249
    refine ⟨fun _ => Hv2250.pk [], ?_⟩
    exact h_to hG (by kernel_rfl) (nd1991 _ _ aoq2232 coq2232 ao2243 cp2244 bk1780 (En2249.sb) (Hv2250.pk [0, 1, 2, 3]))
  have nd2251 : ∀ (ac : Act) (wo : World) (bk1459 : Nat), Env ac 118 [(0, .int .i64 h), (1, .slice a_k (List.length k) c_k), (2, .slice a_x (List.length x) c_x), (3, .slice a_y (List.length y) c_y), (8, .bool false), (9, .bool true), (10, ni (blockOf h)), (12, .string (bstr (macF h k (List.flatMap (fun s : Sl UInt8 => s.l) ([⟨ao73, cp74, x ++ y⟩] : List (Sl UInt8)))))), (13, .bool true), (67, .bool false), (68, .int .i64 h), (69, .slice a_k (List.length k) c_k), (71, .slice (some ⟨bk1459, 0, none⟩) 1 1), (74, .int .i64 h), (76, .slice a_k (List.length k) c_k), (81, ni (blockOf h - List.length k)), (83, .slice a_x (List.length x) c_x)] → Ev w [] wo [.vec ao73 cp74 1 (bys (x ++ y)) 5, .vec (some ⟨bk1459, 0, none⟩) 1 1 [.slice a_x (List.length x) c_x] 23] → G 11 #[true, true, true, true, true, true, true, true, true, false, false, true, false, true, false, true, true, true, true, false, true, false, false, false, false, false, false] ac wo := by
   intro ac2252 wo2253 bk1459 En2254 Hv2255
   refine h_from hG ?_
   refine h_ways [9, 12, 21] (by kernel_rfl) rfl ?_
   refine ⟨?_, ?_, ?_, trivial⟩
   ·
    rintro _ rfl
    refine c_0 En2254 Hv2255 (macof_go _ h hh a_k (List.length k) c_k k (by first | rfl | (simp; done) | (simp; omega) | omega) ((i_k.ev Hv2255).pick [] (by kernel_rfl)) (some ⟨bk1459, 0, none⟩) 1 1 ([⟨a_x, c_x, x⟩] : List (Sl UInt8)) (by first | rfl | (simp; done) | (simp; omega) | omega) ⟨Hv2255.heap.ro (k := 1) rfl [] (by kernel_rfl) rfl, (fun e => by cases e), (by simp), (by simp), (List.forall_mem_cons.2 ⟨((i_x.ev Hv2255).pick [] (by kernel_rfl)), (fun x h => absurd h List.not_mem_nil)⟩)⟩ ((gk32.ev Hv2255).pick [] (by kernel_rfl)) ((gk64.ev Hv2255).pick [] (by kernel_rfl))) ?_
    rintro _ wo2258 ⟨aoq2256, coq2256, rfl, he2259⟩
    refine ⟨_, _, _, rfl, he2259, rfl, fun ac2261 En2262 Hv2263 => ?_⟩
    refine ⟨fun _ => Hv2263.pk [], ?_⟩
    exact h_to hG (by kernel_rfl) (nd2169 _ _ aoq2256 coq2256 (En2262.sb) (Hv2263.pk [0, 1]))
   ·
    rintro _ rfl
    refine op_lit (d := some 75) (t := 23) (T := 5) (m := 0) (parts := #[]) (xs := bys []) (sz := 1) En2254 (by kernel_rfl) (by kernel_rfl) rfl (by decide) Hv2255 ?_
    intro ac2265 wo2266 bk2264 En2267 Hv2268
    refine ⟨fun _ => Hv2268.pk [], ?_⟩
    exact h_to hG (by kernel_rfl) (nd2186 _ _ bk1459 bk2264 (En2267.sb) (Hv2268.pk [0, 1, 2]))
   ·
    rintro _ rfl
    refine op_lit (d := some 84) (t := 30) (T := 23) (m := 1) (parts := #[(0, .slice a_x (List.length x) c_x)]) (xs := [.slice a_x (List.length x) c_x]) (sz := 1) En2254 (by kernel_rfl) (by kernel_rfl) rfl (by decide) Hv2255 ?_
    intro ac2270 wo2271 bk2269 En2272 Hv2273
    refine ⟨fun _ => Hv2273.pk [], ?_⟩
    exact h_to hG (by kernel_rfl) (nd2204 _ _ bk1459 bk2269 (En2272.sb) (Hv2273.pk [0, 1, 2]))
  have nd2274 : ∀ (ac : Act) (wo : World) (bk1770 : Nat), Env ac 118 [(0, .int .i64 h), (1, .slice a_k (List.length k) c_k), (2, .slice a_x (List.length x) c_x), (3, .slice a_y (List.length y) c_y), (8, .bool false), (9, .bool true), (10, ni (blockOf h)), (12, .string (bstr (macF h k (List.flatMap (fun s : Sl UInt8 => s.l) ([⟨ao73, cp74, x ++ y⟩] : List (Sl UInt8)))))), (13, .bool true), (67, .bool false), (68, .int .i64 h), (69, .slice a_k (List.length k) c_k), (70, .slice a_x (List.length x) c_x), (74, .int .i64 h), (75, .slice (some ⟨bk1770, 0, none⟩) 0 0), (76, .slice a_k (List.length k) c_k), (81, ni (blockOf h - List.length k)), (83, .slice a_x (List.length x) c_x)] → Ev w [] wo [.vec ao73 cp74 1 (bys (x ++ y)) 5, .vec (some ⟨bk1770, 0, none⟩) 0 1 (bys []) 5] → G 11 #[true, true, true, true, true, true, true, true, false, false, false, true, true, true, false, true, true, true, true, false, true, false, false, false, false, false, false] ac wo := by
   intro ac2275 wo2276 bk1770 En2277 Hv2278
   refine h_from hG ?_
   refine h_ways [8, 21] (by kernel_rfl) rfl ?_
   refine ⟨?_, ?_, trivial⟩
   ·
    rintro _ rfl
    refine op_lit (d := some 71) (t := 30) (T := 23) (m := 1) (parts := #[(0, .slice a_x (List.length x) c_x)]) (xs := [.slice a_x (List.length x) c_x]) (sz := 1) En2277 (by kernel_rfl) (by kernel_rfl) rfl (by decide) Hv2278 ?_
    intro ac2280 wo2281 bk2279 En2282 Hv2283
    refine ⟨fun _ => Hv2283.pk [], ?_⟩
    exact h_to hG (by kernel_rfl) (nd2186 _ _ bk2279 bk1770 (En2282.sb) (Hv2283.pk [0, 2, 1]))
   ·
    rintro _ rfl
    refine op_lit (d := some 84) (t := 30) (T := 23) (m := 1) (parts := #[(0, .slice a_x (List.length x) c_x)]) (xs := [.slice a_x (List.length x) c_x]) (sz := 1) En2277 (by kernel_rfl) (by kernel_rfl) rfl (by decide) Hv2278 ?_
    intro ac2285 wo2286 bk2284 En2287 Hv2288
    refine ⟨fun _ => Hv2288.pk [], ?_⟩
    exact h_to hG (by kernel_rfl) (nd2222 _ _ bk1770 bk2284 (En2287.sb) (Hv2288.pk [0, 1, 2]))
  have nd2289 : ∀ (ac : Act) (wo : World) (bk1809 : Nat), Env ac 118 [(0, .int .i64 h), (1, .slice a_k (List.length k) c_k), (2, .slice a_x (List.length x) c_x), (3, .slice a_y (List.length y) c_y), (8, .bool false), (9, .bool true), (10, ni (blockOf h)), (12, .string (bstr (macF h k (List.flatMap (fun s : Sl UInt8 => s.l) ([⟨ao73, cp74, x ++ y⟩] : List (Sl UInt8)))))), (13, .bool true), (67, .bool false), (68, .int .i64 h), (69, .slice a_k (List.length k) c_k), (70, .slice a_x (List.length x) c_x), (74, .int .i64 h), (76, .slice a_k (List.length k) c_k), (81, ni (blockOf h - List.length k)), (84, .slice (some ⟨bk1809, 0, none⟩) 1 1)] → Ev w [] wo [.vec ao73 cp74 1 (bys (x ++ y)) 5, .vec (some ⟨bk1809, 0, none⟩) 1 1 [.slice a_x (List.length x) c_x] 23] → G 11 #[true, true, true, true, true, true, true, true, false, false, false, true, false, true, false, true, true, true, true, false, true, true, false, false, false, false, false] ac wo := by
   intro ac2290 wo2291 bk1809 En2292 Hv2293
   refine h_from hG ?_
   refine h_ways [8, 12] (by kernel_rfl) rfl ?_
   refine ⟨?_, ?_, trivial⟩
   ·
    rintro _ rfl
    refine op_lit (d := some 71) (t := 30) (T := 23) (m := 1) (parts := #[(0, .slice a_x (List.length x) c_x)]) (xs := [.slice a_x (List.length x) c_x]) (sz := 1) En2292 (by kernel_rfl) (by kernel_rfl) rfl (by decide) Hv2293 ?_
    intro ac2295 wo2296 bk2294 En2297 Hv2298
    refine ⟨fun _ => Hv2298.pk [], ?_⟩
    exact h_to hG (by kernel_rfl) (nd2204 _ _ bk2294 bk1809 (En2297.sb) (Hv2298.pk [0, 2, 1]))
   ·
    rintro _ rfl
    refine op_lit (d := some 75) (t := 23) (T := 5) (m := 0) (parts := #[]) (xs := bys []) (sz := 1) En2292 (by kernel_rfl) (by kernel_rfl) rfl (by decide) Hv2293 ?_
    intro ac2300 wo2301 bk2299 En2302 Hv2303
    refine ⟨fun _ => Hv2303.pk [], ?_⟩
    exact h_to hG (by kernel_rfl) (nd2222 _ _ bk2299 bk1809 (En2302.sb) (Hv2303.pk [0, 2, 1]))
  refine h_from hG ?_
  refine q_s [0,1,2,3,4,5,6,7,11,13,15,16,17,18,20] [(3, g_b (show (decide (((List.length k : Nat) : Int) > ((blockOf h : Nat) : Int))) = false from (decide_eq_false (by omega)))), (18, g_n (w_r (e := ((blockOf h : Nat) : Int) - ((List.length k : Nat) : Int)) (x := ((blockOf h - List.length k : Nat) : Int)) (by omega)))] 12 En1087 (wo1089.pk []) fun ac2304 En2305 => ?_
  refine h_ways [8, 12, 21] (by kernel_rfl) rfl ?_
  refine ⟨?_, ?_, ?_, trivial⟩
  ·
   rintro _ rfl
   refine op_lit (d := some 71) (t := 30) (T := 23) (m := 1) (parts := #[(0, .slice a_x (List.length x) c_x)]) (xs := [.slice a_x (List.length x) c_x]) (sz := 1) En2305 (by kernel_rfl) (by kernel_rfl) rfl (by decide) wo1089 ?_
   intro ac2307 wo2308 bk2306 En2309 Hv2310
   refine ⟨fun _ => Hv2310.pk [], ?_⟩
   exact h_to hG (by kernel_rfl) (nd2251 _ _ bk2306 (En2309.sb) (Hv2310.pk [0, 1]))
  ·
   rintro _ rfl
   refine op_lit (d := some 75) (t := 23) (T := 5) (m := 0) (parts := #[]) (xs := bys []) (sz := 1) En2305 (by kernel_rfl) (by kernel_rfl) rfl (by decide) wo1089 ?_
   intro ac2312 wo2313 bk2311 En2314 Hv2315
   refine ⟨fun _ => Hv2315.pk [], ?_⟩
   exact h_to hG (by kernel_rfl) (nd2274 _ _ bk2311 (En2314.sb) (Hv2315.pk [0, 1]))
  ·
   rintro _ rfl
   refine op_lit (d := some 84) (t := 30) (T := 23) (m := 1) (parts := #[(0, .slice a_x (List.length x) c_x)]) (xs := [.slice a_x (List.length x) c_x]) (sz := 1) En2305 (by kernel_rfl) (by kernel_rfl) rfl (by decide) wo1089 ?_
   intro ac2317 wo2318 bk2316 En2319 Hv2320
   refine ⟨fun _ => Hv2320.pk [], ?_⟩
   exact h_to hG (by kernel_rfl) (nd2289 _ _ bk2316 (En2319.sb) (Hv2320.pk [0, 1]))
 rintro ac2321 wo2322 ⟨En2323, Hv2324⟩
 refine then_normal ?_
 refine wp_seq ?_
 refine region_from ?_
 refine d_k [0,1,2,3,8,9,10,12,13,14,90,91,92,93,94] [] 6 En2323 fun ac2325 En2326 => ?_
 refine f_o ?_
 refine op_lit (d := some 95) (t := 30) (T := 23) (m := 2) (parts := #[(0, .slice a_x (List.length x) c_x), (1, .slice a_y (List.length y) c_y)]) (xs := [.slice a_x (List.length x) c_x, .slice a_y (List.length y) c_y]) (sz := 1) En2326 (by kernel_rfl) (by kernel_rfl) rfl (by decide) Hv2324 ?_
 intro ac2328 wo2329 bk2327 En2330 Hv2331
 refine f_o ?_
 refine c_0 En2330 Hv2331 (macof_go _ h hh a_k (List.length k) c_k k (by first | rfl | (simp; done) | (simp; omega) | omega) ((i_k.ev Hv2331).pick [] (by kernel_rfl)) (some ⟨bk2327, 0, none⟩) 2 2 ([⟨a_x, c_x, x⟩, ⟨a_y, c_y, y⟩] : List (Sl UInt8)) (by first | rfl | (simp; done) | (simp; omega) | omega) ⟨Hv2331.heap.ro (k := 1) rfl [] (by kernel_rfl) rfl, (fun e => by cases e), (by simp), (by simp), (List.forall_mem_cons.2 ⟨((i_x.ev Hv2331).pick [] (by kernel_rfl)), (List.forall_mem_cons.2 ⟨((i_y.ev Hv2331).pick [] (by kernel_rfl)), (fun x h => absurd h List.not_mem_nil)⟩)⟩)⟩ ((gk32.ev Hv2331).pick [] (by kernel_rfl)) ((gk64.ev Hv2331).pick [] (by kernel_rfl))) ?_
 rintro _ wo2334 ⟨aoq2332, coq2332, rfl, he2335⟩
 refine ⟨_, _, _, rfl, he2335, rfl, fun ac2337 En2338 Hv2339 => ?_⟩
 refine f_o ?_
 refine op_str (d := some 97) (src := 23) (dst := 9) (e := 5) (ao := aoq2332) (cap := coq2332) (p := List.length (macF h k (List.flatMap (fun s : Sl UInt8 => s.l) ([⟨a_x, c_x, x⟩, ⟨a_y, c_y, y⟩] : List (Sl UInt8))))) (bs := macF h k (List.flatMap (fun s : Sl UInt8 => s.l) ([⟨a_x, c_x, x⟩, ⟨a_y, c_y, y⟩] : List (Sl UInt8)))) En2338 (by kernel_rfl) rfl (by kernel_rfl) (by kernel_rfl) (by kernel_rfl) (Hv2339.heap.reads (k := 0) rfl) (bys_vnz Hv2339.heap (k := 0) rfl) ?_
 intro ac2340 En2341
 refine d_k [0,1,2,3,8,9,10,12,13,14,101,102,103,104,105] [(10, g_v (show (.bool (ByteArray.toList (bstr (macF h k (List.flatMap (fun s : Sl UInt8 => s.l) ([⟨a_x, c_x, x⟩, ⟨a_y, c_y, y⟩] : List (Sl UInt8))))) == ByteArray.toList (bstr (macF h k (List.flatMap (fun s : Sl UInt8 => s.l) ([⟨ao73, cp74, x ++ y⟩] : List (Sl UInt8)))))) : Value) = .bool true by rw [Go.Dbr.bstr_eq (macF h k (List.flatMap (fun s : Sl UInt8 => s.l) ([⟨a_x, c_x, x⟩, ⟨a_y, c_y, y⟩] : List (Sl UInt8)))) (macF h k (List.flatMap (fun s : Sl UInt8 => s.l) ([⟨ao73, cp74, x ++ y⟩] : List (Sl UInt8)))), show ((macF h k (List.flatMap (fun s : Sl UInt8 => s.l) ([⟨a_x, c_x, x⟩, ⟨a_y, c_y, y⟩] : List (Sl UInt8)))) == (macF h k (List.flatMap (fun s : Sl UInt8 => s.l) ([⟨ao73, cp74, x ++ y⟩] : List (Sl UInt8))))) = true from (by simp; done)] <;> rfl))] 17 En2341 fun ac2342 En2343 => ?_
 refine f_o ?_
 refine op_lit (d := some 106) (t := 30) (T := 23) (m := 3) (parts := #[(0, .slice a_x (List.length x) c_x), (1, .slice none 0 0), (2, .slice a_y (List.length y) c_y)]) (xs := [.slice a_x (List.length x) c_x, .slice none 0 0, .slice a_y (List.length y) c_y]) (sz := 1) En2343 (by kernel_rfl) (by kernel_rfl) rfl (by decide) Hv2339 ?_
 intro ac2345 wo2346 bk2344 En2347 Hv2348
 refine f_o ?_
 refine c_0 En2347 Hv2348 (macof_go _ h hh a_k (List.length k) c_k k (by first | rfl | (simp; done) | (simp; omega) | omega) ((i_k.ev Hv2348).pick [] (by kernel_rfl)) (some ⟨bk2344, 0, none⟩) 3 3 ([⟨a_x, c_x, x⟩, ⟨none, 0, []⟩, ⟨a_y, c_y, y⟩] : List (Sl UInt8)) (by first | rfl | (simp; done) | (simp; omega) | omega) ⟨Hv2348.heap.ro (k := 3) rfl [] (by kernel_rfl) rfl, (fun e => by cases e), (by simp), (by simp), (List.forall_mem_cons.2 ⟨((i_x.ev Hv2348).pick [] (by kernel_rfl)), (List.forall_mem_cons.2 ⟨(InB.nil _ _), (List.forall_mem_cons.2 ⟨((i_y.ev Hv2348).pick [] (by kernel_rfl)), (fun x h => absurd h List.not_mem_nil)⟩)⟩)⟩)⟩ ((gk32.ev Hv2348).pick [] (by kernel_rfl)) ((gk64.ev Hv2348).pick [] (by kernel_rfl))) ?_
 rintro _ wo2351 ⟨aoq2349, coq2349, rfl, he2352⟩
 refine ⟨_, _, _, rfl, he2352, rfl, fun ac2354 En2355 Hv2356 => ?_⟩
 refine f_o ?_
 refine op_str (d := some 108) (src := 23) (dst := 9) (e := 5) (ao := aoq2349) (cap := coq2349) (p := List.length (macF h k (List.flatMap (fun s : Sl UInt8 => s.l) ([⟨a_x, c_x, x⟩, ⟨none, 0, []⟩, ⟨a_y, c_y, y⟩] : List (Sl UInt8))))) (bs := macF h k (List.flatMap (fun s : Sl UInt8 => s.l) ([⟨a_x, c_x, x⟩, ⟨none, 0, []⟩, ⟨a_y, c_y, y⟩] : List (Sl UInt8)))) En2355 (by kernel_rfl) rfl (by kernel_rfl) (by kernel_rfl) (by kernel_rfl) (Hv2356.heap.reads (k := 0) rfl) (bys_vnz Hv2356.heap (k := 0) rfl) ?_
 intro ac2357 En2358
 refine d_e [0,1,2,3,8,9,10] [(21, g_v (show (.bool (ByteArray.toList (bstr (macF h k (List.flatMap (fun s : Sl UInt8 => s.l) ([⟨a_x, c_x, x⟩, ⟨none, 0, []⟩, ⟨a_y, c_y, y⟩] : List (Sl UInt8))))) == ByteArray.toList (bstr (macF h k (List.flatMap (fun s : Sl UInt8 => s.l) ([⟨ao73, cp74, x ++ y⟩] : List (Sl UInt8)))))) : Value) = .bool true by rw [Go.Dbr.bstr_eq (macF h k (List.flatMap (fun s : Sl UInt8 => s.l) ([⟨a_x, c_x, x⟩, ⟨none, 0, []⟩, ⟨a_y, c_y, y⟩] : List (Sl UInt8)))) (macF h k (List.flatMap (fun s : Sl UInt8 => s.l) ([⟨ao73, cp74, x ++ y⟩] : List (Sl UInt8)))), show ((macF h k (List.flatMap (fun s : Sl UInt8 => s.l) ([⟨a_x, c_x, x⟩, ⟨none, 0, []⟩, ⟨a_y, c_y, y⟩] : List (Sl UInt8)))) == (macF h k (List.flatMap (fun s : Sl UInt8 => s.l) ([⟨ao73, cp74, x ++ y⟩] : List (Sl UInt8))))) = true from (by simp; done)] <;> rfl))] En2358 fun ac2359 En2360 => ?_
 refine then_normal ?_
 refine wp_ret ?_
 refine d_ret1 (t := 8) (v := .bool true) En2360 (by kernel_rfl) (by kernel_rfl) ?_
 exact ⟨rfl, Hv2356.pk []⟩

theorem parts_bad (h : Int) (a_k : Option Addr) (c_k : Nat) (k : List UInt8) (a_x : Option Addr) (c_x : Nat) (x : List UInt8) (a_y : Option Addr) (c_y : Nat) (y : List UInt8) (w : World) (b_h : (-9223372036854775808 ≤ h ∧ h ≤ 9223372036854775807)) (i_k : InB w [] a_k c_k k) (i_x : InB w [] a_x c_x x) (i_y : InB w [] a_y c_y y) (hB : (List.length k) + (List.length x) + (List.length y) ≤ 1048576) (hh : ¬ (h = 1 ∨ h = 2 ∨ h = 3)) (gk32 : InU32 w [] (some ⟨0, 0, none⟩) 64 K32) (gk64 : InU64 w [] (some ⟨1, 0, none⟩) 80 K64) : Calls Tryd.prog 8 #[.int .i64 h, .slice a_k (List.length k) c_k, .slice a_x (List.length x) c_x, .slice a_y (List.length y) c_y] w fun e w' => e = .returned (.bool true) ∧ Ev w [] w' [] := by
 have hsk := i_k.small
 have hck := i_k.cap
 have hsx := i_x.small
 have hcx := i_x.cap
 have hsy := i_y.small
 have hcy := i_y.cap
 have hbk : blockOf h = 0 := by unfold blockOf; rw [if_neg (by omega), if_neg (by omega), if_neg (by omega)]
 refine d_0 [(0, .int .i64 h), (1, .slice a_k (List.length k) c_k), (2, .slice a_x (List.length x) c_x), (3, .slice a_y (List.length y) c_y)] 118 Go.Proofs.Tryd.func8 Go.Proofs.Tryd.ntmps8 (Heap.nil _) fun act0 En0 Hv0 => ?_
 refine d_s [0,1,2,3,8] [] En0 fun ac1 En2 => ?_
 refine wp_seq ?_
 refine region_from ?_
 refine f_o ?_
 refine c_p En2 Hv0 (head6_ok _ ((gk32.ev Hv0).pick [] (by kernel_rfl)) ((gk64.ev Hv0).pick [] (by kernel_rfl))) fun ac7 wo4 En8 Hv9 => ?_
 refine d_e [0,1,2,3,8,9] [] En8 fun ac10 En11 => ?_
 refine then_normal ?_
 refine wp_seq ?_
 refine region_from ?_
 refine d_k [0,1,2,3,8,9,16] [] 1 En11 fun ac12 En13 => ?_
 refine f_o ?_
 refine c_p En13 Hv9 (block_go _ h) fun ac18 wo15 En19 Hv20 => ?_
 refine d_e [0,1,2,3,8,9,10] [] En19 fun ac21 En22 => ?_
 refine then_normal ?_
 refine wp_seq ?_
 refine d_s [0,1,2,3,8,9,10,19] [(1, g_b (show (((blockOf h : Nat) : Int) == (0 : Int)) = true from (by rw [hbk]; rfl)))] En22 fun ac23 En24 => ?_
 refine c_t En24 ?_
 refine wp_seq ?_
 refine region_from ?_
 refine d_k [0,1,2,3,8,9,10,21,22,23,24,25] [] 6 En24 fun ac25 En26 => ?_
 refine f_o ?_
 refine op_lit (d := some 26) (t := 30) (T := 23) (m := 2) (parts := #[(0, .slice a_x (List.length x) c_x), (1, .slice a_y (List.length y) c_y)]) (xs := [.slice a_x (List.length x) c_x, .slice a_y (List.length y) c_y]) (sz := 1) En26 (by kernel_rfl) (by kernel_rfl) rfl (by decide) Hv20 ?_
 intro ac28 wo29 bk27 En30 Hv31
 refine f_o ?_
 refine c_p En30 Hv31 (macof_nil _ h hh a_k (List.length k) c_k k (by first | rfl | (simp; done) | (simp; omega) | omega) ((i_k.ev Hv31).pick [] (by kernel_rfl)) (some ⟨bk27, 0, none⟩) 2 2 ([⟨a_x, c_x, x⟩, ⟨a_y, c_y, y⟩] : List (Sl UInt8)) (by first | rfl | (simp; done) | (simp; omega) | omega) ⟨Hv31.heap.ro (k := 0) rfl [] (by kernel_rfl) rfl, (fun e => by cases e), (by simp), (by simp), (List.forall_mem_cons.2 ⟨((i_x.ev Hv31).pick [] (by kernel_rfl)), (List.forall_mem_cons.2 ⟨((i_y.ev Hv31).pick [] (by kernel_rfl)), (fun x h => absurd h List.not_mem_nil)⟩)⟩)⟩) fun ac37 wo34 En38 Hv39 => ?_
 refine d_e [0,1,2,3,8,9,10] [(9, g_b (show (true) = true from (by rfl)))] En38 fun ac40 En41 => ?_
 refine then_normal ?_
 refine wp_ret ?_
 refine then_ret ?_
 refine d_ret1 (t := 8) (v := .bool true) En41 (by kernel_rfl) (by kernel_rfl) ?_
 exact ⟨rfl, Hv39.pk []⟩

theorem parts_walk (h : Int) (a_k : Option Addr) (c_k : Nat) (k : List UInt8) (a_x : Option Addr) (c_x : Nat) (x : List UInt8) (a_y : Option Addr) (c_y : Nat) (y : List UInt8) (w : World) (b_h : (-9223372036854775808 ≤ h ∧ h ≤ 9223372036854775807)) (i_k : InB w [] a_k c_k k) (i_x : InB w [] a_x c_x x) (i_y : InB w [] a_y c_y y) (hB : (List.length k) + (List.length x) + (List.length y) ≤ 1048576) (gk32 : InU32 w [] (some ⟨0, 0, none⟩) 64 K32) (gk64 : InU64 w [] (some ⟨1, 0, none⟩) 80 K64) : Calls Tryd.prog 8 #[.int .i64 h, .slice a_k (List.length k) c_k, .slice a_x (List.length x) c_x, .slice a_y (List.length y) c_y] w fun e w' => e = .returned (.bool true) ∧ Ev w [] w' [] := by
  by_cases hh : h = 1 ∨ h = 2 ∨ h = 3
  · by_cases hk : blockOf h < List.length k
    · exact parts_long h a_k c_k k a_x c_x x a_y c_y y w b_h i_k i_x i_y hB hh hk gk32 gk64
    · exact parts_short h a_k c_k k a_x c_x x a_y c_y y w b_h i_k i_x i_y hB hh hk gk32 gk64
  · exact parts_bad h a_k c_k k a_x c_x x a_y c_y y w b_h i_k i_x i_y hB hh gk32 gk64

end Go.Proofs.YtbpihljkkkeijaaDoor
