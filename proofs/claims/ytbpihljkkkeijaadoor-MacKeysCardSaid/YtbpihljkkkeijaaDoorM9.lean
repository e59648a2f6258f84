/- MacKeys: its walk. -/
import Derived.Test.YtbpihljkkkeijaaDoorM8
namespace Go.Proofs.YtbpihljkkkeijaaDoor
open Go.Dbr
set_option maxRecDepth 100000
set_option maxHeartbeats 2000000
set_option linter.unusedVariables false
set_option linter.unusedSimpArgs false

theorem keys_ok (h : Int) (a_x : Option Addr) (c_x : Nat) (x : List UInt8) (a_y : Option Addr) (c_y : Nat) (y : List UInt8) (a_z : Option Addr) (c_z : Nat) (z : List UInt8) (m : Nat) (w : World) (b_h : (-9223372036854775808 ≤ h ∧ h ≤ 9223372036854775807)) (i_x : InB w [] a_x c_x x) (s_x : List.length x ≤ 140737488351232) (i_y : InB w [] a_y c_y y) (s_y : List.length y ≤ 140737488351232) (i_z : InB w [] a_z c_z z) (s_z : List.length z ≤ 140737488351232) (hm : m ≤ 255 * sizeOfH h) (hh : (h = 1 ∨ h = 2 ∨ h = 3)) (gk32 : InU32 w [] (some ⟨0, 0, none⟩) 64 K32) (gk64 : InU64 w [] (some ⟨1, 0, none⟩) 80 K64) : Calls Tryd.prog 10 #[.int .i64 h, .slice a_x (List.length x) c_x, .slice a_y (List.length y) c_y, .slice a_z (List.length z) c_z, ni m] w fun e w' => e = .returned (.bool true) ∧ Ev w [] w' [] := by
 have hsx := i_x.small
 have hsy := i_y.small
 have hsz1 := i_z.small
 have hcx := i_x.cap
 have hcy := i_y.cap
 have hcz := i_z.cap
 have hel := expF_len hh y z m
 have hsz64 := size_le h
 refine d_0 [(0, .int .i64 h), (1, .slice a_x (List.length x) c_x), (2, .slice a_y (List.length y) c_y), (3, .slice a_z (List.length z) c_z), (4, ni m)] 63 Go.Proofs.Tryd.func10 Go.Proofs.Tryd.ntmps10 (Heap.nil _) fun act0 En0 Hv0 => ?_
 refine d_s [0,1,2,3,4,10] [] En0 fun ac1 En2 => ?_
 refine wp_seq ?_
 refine region_from ?_
 refine f_o ?_
 refine c_p En2 Hv0 (head6_ok _ ((gk32.ev Hv0).pick [] (by kernel_rfl)) ((gk64.ev Hv0).pick [] (by kernel_rfl))) fun ac7 wo4 En8 Hv9 => ?_
 refine d_e [0,1,2,3,4,10,11] [] En8 fun ac10 En11 => ?_
 refine then_normal ?_
 refine wp_seq ?_
 refine region_from ?_
 refine d_k [0,1,2,3,4,10,11,19,20,21] [] 3 En11 fun ac12 En13 => ?_
 refine f_o ?_
 refine c_0 En13 Hv9 (extract_go _ h hh a_x (List.length x) c_x x (by first | rfl | (simp; done) | (simp; omega) | omega) ((i_x.ev Hv9).pick [] (by kernel_rfl)) a_y (List.length y) c_y y (by first | rfl | (simp; done) | (simp; omega) | omega) ((i_y.ev Hv9).pick [] (by kernel_rfl)) ((gk32.ev Hv9).pick [] (by kernel_rfl)) ((gk64.ev Hv9).pick [] (by kernel_rfl))) ?_
 rintro _ wo16 ⟨aoq14, coq14, rfl, he17⟩
 refine ⟨_, _, _, rfl, he17, rfl, fun ac19 En20 Hv21 => ?_⟩
 refine d_e [0,1,2,3,4,10,11,12] [] En20 fun ac22 En23 => ?_
 refine then_normal ?_
 refine wp_seq ?_
 refine region_from ?_
 refine d_k [0,1,2,3,4,10,11,12,23,24,25] [] 3 En23 fun ac24 En25 => ?_
 refine f_o ?_
 refine c_0 En25 Hv21 (refextract_go _ h hh a_x (List.length x) c_x x (by first | rfl | (simp; done) | (simp; omega) | omega) ((i_x.ev Hv21).pick [] (by kernel_rfl)) a_y (List.length y) c_y y (by first | rfl | (simp; done) | (simp; omega) | omega) ((i_y.ev Hv21).pick [] (by kernel_rfl)) (by omega)) ?_
 rintro _ wo28 ⟨aoq26, coq26, rfl, he29⟩
 refine ⟨_, _, _, rfl, he29, rfl, fun ac31 En32 Hv33 => ?_⟩
 refine d_e [0,1,2,3,4,10,11,12,13] [] En32 fun ac34 En35 => ?_
 refine then_normal ?_
 refine wp_seq ?_
 refine region_from ?_
 refine d_k [0,1,2,3,4,10,11,12,13,28,29,30,31] [] 4 En35 fun ac36 En37 => ?_
 refine f_o ?_
 refine c_0 En37 Hv33 (exp_go _ h hh a_y (List.length y) c_y y (by first | rfl | (simp; done) | (simp; omega) | omega) ((i_y.ev Hv33).pick [] (by kernel_rfl)) a_z (List.length z) c_z z (by first | rfl | (simp; done) | (simp; omega) | omega) ((i_z.ev Hv33).pick [] (by kernel_rfl)) m (by omega) ((gk32.ev Hv33).pick [] (by kernel_rfl)) ((gk64.ev Hv33).pick [] (by kernel_rfl))) ?_
 rintro _ wo40 ⟨aoq38, coq38, rfl, he41⟩
 refine ⟨_, _, _, rfl, he41, rfl, fun ac43 En44 Hv45 => ?_⟩
 refine d_e [0,1,2,3,4,10,11,12,13,14,15] [] En44 fun ac46 En47 => ?_
 refine then_normal ?_
 refine wp_seq ?_
 refine region_from ?_
 refine d_k [0,1,2,3,4,10,11,12,13,14,15,36,37,38,39] [] 4 En47 fun ac48 En49 => ?_
 refine f_o ?_
 refine c_0 En49 Hv45 (refexp_go _ h hh a_y (List.length y) c_y y (by first | rfl | (simp; done) | (simp; omega) | omega) ((i_y.ev Hv45).pick [] (by kernel_rfl)) a_z (List.length z) c_z z (by first | rfl | (simp; done) | (simp; omega) | omega) ((i_z.ev Hv45).pick [] (by kernel_rfl)) (by omega) m (by omega)) ?_
 rintro _ wo52 ⟨aoq50, coq50, rfl, he53⟩
 refine ⟨_, _, _, rfl, he53, rfl, fun ac55 En56 Hv57 => ?_⟩
 refine d_e [0,1,2,3,4,10,11,12,13,14,15,16,17] [] En56 fun ac58 En59 => ?_
 refine then_normal ?_
 refine wp_seq ?_
 refine region_from ?_
 refine d_k [0,1,2,3,4,10,13,14,15,16,17,44,45] [] 3 En59 fun ac60 En61 => ?_
 refine f_o ?_
 refine op_str (d := some 46) (src := 23) (dst := 9) (e := 5) (ao := aoq14) (cap := coq14) (p := List.length (macF h x y)) (bs := macF h x y) En61 (by kernel_rfl) rfl (by kernel_rfl) (by kernel_rfl) (by kernel_rfl) (Hv57.heap.reads (k := 3) rfl) (bys_vnz Hv57.heap (k := 3) rfl) ?_
 intro ac62 En63
 refine d_k [0,1,2,3,4,10,14,15,16,17,44,46,47] [] 5 En63 fun ac64 En65 => ?_
 refine f_o ?_
 refine op_str (d := some 48) (src := 23) (dst := 9) (e := 5) (ao := aoq26) (cap := coq26) (p := List.length (macF h x y)) (bs := macF h x y) En65 (by kernel_rfl) rfl (by kernel_rfl) (by kernel_rfl) (by kernel_rfl) (Hv57.heap.reads (k := 2) rfl) (bys_vnz Hv57.heap (k := 2) rfl) ?_
 intro ac66 En67
 refine d_k [0,1,2,3,4,10,15,16,17,51,52] [(6, g_v (show (.bool (ByteArray.toList (bstr (macF h x y)) == ByteArray.toList (bstr (macF h x y))) : Value) = .bool true by rw [Go.Dbr.bstr_eq (macF h x y) (macF h x y), show ((macF h x y) == (macF h x y)) = true from (by simp)] <;> rfl))] 10 En67 fun ac68 En69 => ?_
 refine f_o ?_
 refine op_str (d := some 53) (src := 23) (dst := 9) (e := 5) (ao := aoq38) (cap := coq38) (p := m) (bs := expF h y z m) En69 (by kernel_rfl) (by first | (simp; done) | (simp; omega) | omega) (by kernel_rfl) (by kernel_rfl) (by kernel_rfl) (Hv57.heap.reads (k := 1) rfl) (fun e => by have h := (bys_vnz Hv57.heap (k := 1) rfl) e; first | omega | (rw [List.length_take] at h; omega) | (simp at h; omega)) ?_
 intro ac70 En71
 refine d_k [0,1,2,3,4,10,15,17,51,53,54] [] 12 En71 fun ac72 En73 => ?_
 refine f_o ?_
 refine op_str (d := some 55) (src := 23) (dst := 9) (e := 5) (ao := aoq50) (cap := coq50) (p := m) (bs := expF h y z m) En73 (by kernel_rfl) (by first | (simp; done) | (simp; omega) | omega) (by kernel_rfl) (by kernel_rfl) (by kernel_rfl) (Hv57.heap.reads (k := 0) rfl) (fun e => by have h := (bys_vnz Hv57.heap (k := 0) rfl) e; first | omega | (rw [List.length_take] at h; omega) | (simp at h; omega)) ?_
 intro ac74 En75
 refine d_e [0,1,2,3,4,10] [(13, g_v (show (.bool (ByteArray.toList (bstr (expF h y z m)) == ByteArray.toList (bstr (expF h y z m))) : Value) = .bool true by rw [Go.Dbr.bstr_eq (expF h y z m) (expF h y z m), show ((expF h y z m) == (expF h y z m)) = true from (by simp)] <;> rfl)), (18, g_b (show (true) = true from (by rfl)))] En75 fun ac76 En77 => ?_
 refine then_normal ?_
 refine wp_ret ?_
 refine d_ret1 (t := 10) (v := .bool true) En77 (by kernel_rfl) (by kernel_rfl) ?_
 exact ⟨rfl, Hv57.pk []⟩

theorem keys_bad1 (h : Int) (a_x : Option Addr) (c_x : Nat) (x : List UInt8) (a_y : Option Addr) (c_y : Nat) (y : List UInt8) (a_z : Option Addr) (c_z : Nat) (z : List UInt8) (n : Int) (w : World) (b_h : (-9223372036854775808 ≤ h ∧ h ≤ 9223372036854775807)) (i_x : InB w [] a_x c_x x) (s_x : List.length x ≤ 140737488351232) (i_y : InB w [] a_y c_y y) (s_y : List.length y ≤ 140737488351232) (i_z : InB w [] a_z c_z z) (s_z : List.length z ≤ 140737488351232) (b_n : (-9223372036854775808 ≤ n ∧ n ≤ 9223372036854775807)) (hn : n < 0 ∨ 255 * (sizeOfH h : Int) < n) (hh : (h = 1 ∨ h = 2 ∨ h = 3)) (gk32 : InU32 w [] (some ⟨0, 0, none⟩) 64 K32) (gk64 : InU64 w [] (some ⟨1, 0, none⟩) 80 K64) : Calls Tryd.prog 10 #[.int .i64 h, .slice a_x (List.length x) c_x, .slice a_y (List.length y) c_y, .slice a_z (List.length z) c_z, .int .i64 n] w fun e w' => e = .returned (.bool true) ∧ Ev w [] w' [] := by
 have hsx := i_x.small
 have hsy := i_y.small
 have hsz1 := i_z.small
 have hcx := i_x.cap
 have hcy := i_y.cap
 have hcz := i_z.cap
 refine d_0 [(0, .int .i64 h), (1, .slice a_x (List.length x) c_x), (2, .slice a_y (List.length y) c_y), (3, .slice a_z (List.length z) c_z), (4, .int .i64 n)] 63 Go.Proofs.Tryd.func10 Go.Proofs.Tryd.ntmps10 (Heap.nil _) fun act0 En0 Hv0 => ?_
 refine d_s [0,1,2,3,4,10] [] En0 fun ac1 En2 => ?_
 refine wp_seq ?_
 refine region_from ?_
 refine f_o ?_
 refine c_p En2 Hv0 (head6_ok _ ((gk32.ev Hv0).pick [] (by kernel_rfl)) ((gk64.ev Hv0).pick [] (by kernel_rfl))) fun ac7 wo4 En8 Hv9 => ?_
 refine d_e [0,1,2,3,4,10,11] [] En8 fun ac10 En11 => ?_
 refine then_normal ?_
 refine wp_seq ?_
 refine region_from ?_
 refine d_k [0,1,2,3,4,10,11,19,20,21] [] 3 En11 fun ac12 En13 => ?_
 refine f_o ?_
 refine c_0 En13 Hv9 (extract_go _ h hh a_x (List.length x) c_x x (by first | rfl | (simp; done) | (simp; omega) | omega) ((i_x.ev Hv9).pick [] (by kernel_rfl)) a_y (List.length y) c_y y (by first | rfl | (simp; done) | (simp; omega) | omega) ((i_y.ev Hv9).pick [] (by kernel_rfl)) ((gk32.ev Hv9).pick [] (by kernel_rfl)) ((gk64.ev Hv9).pick [] (by kernel_rfl))) ?_
 rintro _ wo16 ⟨aoq14, coq14, rfl, he17⟩
 refine ⟨_, _, _, rfl, he17, rfl, fun ac19 En20 Hv21 => ?_⟩
 refine d_e [0,1,2,3,4,10,11,12] [] En20 fun ac22 En23 => ?_
 refine then_normal ?_
 refine wp_seq ?_
 refine region_from ?_
 refine d_k [0,1,2,3,4,10,11,12,23,24,25] [] 3 En23 fun ac24 En25 => ?_
 refine f_o ?_
 refine c_0 En25 Hv21 (refextract_go _ h hh a_x (List.length x) c_x x (by first | rfl | (simp; done) | (simp; omega) | omega) ((i_x.ev Hv21).pick [] (by kernel_rfl)) a_y (List.length y) c_y y (by first | rfl | (simp; done) | (simp; omega) | omega) ((i_y.ev Hv21).pick [] (by kernel_rfl)) (by omega)) ?_
 rintro _ wo28 ⟨aoq26, coq26, rfl, he29⟩
 refine ⟨_, _, _, rfl, he29, rfl, fun ac31 En32 Hv33 => ?_⟩
 refine d_e [0,1,2,3,4,10,11,12,13] [] En32 fun ac34 En35 => ?_
 refine then_normal ?_
 refine wp_seq ?_
 refine region_from ?_
 refine d_k [0,1,2,3,4,10,11,12,13,28,29,30,31] [] 4 En35 fun ac36 En37 => ?_
 refine f_o ?_
 refine c_p En37 Hv33 (exp_bad1 _ h hh a_y (List.length y) c_y y (by first | rfl | (simp; done) | (simp; omega) | omega) ((i_y.ev Hv33).pick [] (by kernel_rfl)) a_z (List.length z) c_z z (by first | rfl | (simp; done) | (simp; omega) | omega) ((i_z.ev Hv33).pick [] (by kernel_rfl)) n hn) fun ac43 wo40 En44 Hv45 => ?_
 refine d_e [0,1,2,3,4,10,11,12,13,14,15] [] En44 fun ac46 En47 => ?_
 refine then_normal ?_
 refine wp_seq ?_
 refine region_from ?_
 refine d_k [0,1,2,3,4,10,11,12,13,14,15,36,37,38,39] [] 4 En47 fun ac48 En49 => ?_
 refine f_o ?_
 refine c_p En49 Hv45 (refexp_bad1 _ h hh a_y (List.length y) c_y y (by first | rfl | (simp; done) | (simp; omega) | omega) ((i_y.ev Hv45).pick [] (by kernel_rfl)) a_z (List.length z) c_z z (by first | rfl | (simp; done) | (simp; omega) | omega) ((i_z.ev Hv45).pick [] (by kernel_rfl)) n hn) fun ac55 wo52 En56 Hv57 => ?_
 refine d_e [0,1,2,3,4,10,11,12,13,14,15,16,17] [] En56 fun ac58 En59 => ?_
 refine then_normal ?_
 refine wp_seq ?_
 refine region_from ?_
 refine d_k [0,1,2,3,4,10,13,14,15,16,17,44,45] [] 3 En59 fun ac60 En61 => ?_
 refine f_o ?_
 refine op_str (d := some 46) (src := 23) (dst := 9) (e := 5) (ao := aoq14) (cap := coq14) (p := List.length (macF h x y)) (bs := macF h x y) En61 (by kernel_rfl) rfl (by kernel_rfl) (by kernel_rfl) (by kernel_rfl) (Hv57.heap.reads (k := 1) rfl) (bys_vnz Hv57.heap (k := 1) rfl) ?_
 intro ac62 En63
 refine d_k [0,1,2,3,4,10,14,15,16,17,44,46,47] [] 5 En63 fun ac64 En65 => ?_
 refine f_o ?_
 refine op_str (d := some 48) (src := 23) (dst := 9) (e := 5) (ao := aoq26) (cap := coq26) (p := List.length (macF h x y)) (bs := macF h x y) En65 (by kernel_rfl) rfl (by kernel_rfl) (by kernel_rfl) (by kernel_rfl) (Hv57.heap.reads (k := 0) rfl) (bys_vnz Hv57.heap (k := 0) rfl) ?_
 intro ac66 En67
 refine d_k [0,1,2,3,4,10,15,16,17,51,52] [(6, g_v (show (.bool (ByteArray.toList (bstr (macF h x y)) == ByteArray.toList (bstr (macF h x y))) : Value) = .bool true by rw [Go.Dbr.bstr_eq (macF h x y) (macF h x y), show ((macF h x y) == (macF h x y)) = true from (by simp)] <;> rfl))] 10 En67 fun ac68 En69 => ?_
 refine f_o ?_
 refine op_str (d := some 53) (src := 23) (dst := 9) (e := 5) (ao := none) (cap := 0) (p := 0) (bs := []) En69 (by kernel_rfl) rfl (by kernel_rfl) (by kernel_rfl) (by kernel_rfl) (rfl : bys [] = []) (fun _ => rfl) ?_
 intro ac70 En71
 refine d_k [0,1,2,3,4,10,15,17,51,53,54] [] 12 En71 fun ac72 En73 => ?_
 refine f_o ?_
 refine op_str (d := some 55) (src := 23) (dst := 9) (e := 5) (ao := none) (cap := 0) (p := 0) (bs := []) En73 (by kernel_rfl) rfl (by kernel_rfl) (by kernel_rfl) (by kernel_rfl) (rfl : bys [] = []) (fun _ => rfl) ?_
 intro ac74 En75
 refine d_e [0,1,2,3,4,10] [(13, g_v (show (.bool (ByteArray.toList (bstr []) == ByteArray.toList (bstr [])) : Value) = .bool true by rw [Go.Dbr.bstr_eq [] [], show ([] == []) = true from (by simp)] <;> rfl)), (18, g_b (show (true) = true from (by rfl)))] En75 fun ac76 En77 => ?_
 refine then_normal ?_
 refine wp_ret ?_
 refine d_ret1 (t := 10) (v := .bool true) En77 (by kernel_rfl) (by kernel_rfl) ?_
 exact ⟨rfl, Hv57.pk []⟩

theorem keys_bad0 (h : Int) (a_x : Option Addr) (c_x : Nat) (x : List UInt8) (a_y : Option Addr) (c_y : Nat) (y : List UInt8) (a_z : Option Addr) (c_z : Nat) (z : List UInt8) (n : Int) (w : World) (b_h : (-9223372036854775808 ≤ h ∧ h ≤ 9223372036854775807)) (i_x : InB w [] a_x c_x x) (s_x : List.length x ≤ 140737488351232) (i_y : InB w [] a_y c_y y) (s_y : List.length y ≤ 140737488351232) (i_z : InB w [] a_z c_z z) (s_z : List.length z ≤ 140737488351232) (b_n : (-9223372036854775808 ≤ n ∧ n ≤ 9223372036854775807)) (hh : ¬ (h = 1 ∨ h = 2 ∨ h = 3)) (gk32 : InU32 w [] (some ⟨0, 0, none⟩) 64 K32) (gk64 : InU64 w [] (some ⟨1, 0, none⟩) 80 K64) : Calls Tryd.prog 10 #[.int .i64 h, .slice a_x (List.length x) c_x, .slice a_y (List.length y) c_y, .slice a_z (List.length z) c_z, .int .i64 n] w fun e w' => e = .returned (.bool true) ∧ Ev w [] w' [] := by
 have hsx := i_x.small
 have hsy := i_y.small
 have hsz1 := i_z.small
 have hcx := i_x.cap
 have hcy := i_y.cap
 have hcz := i_z.cap
 refine d_0 [(0, .int .i64 h), (1, .slice a_x (List.length x) c_x), (2, .slice a_y (List.length y) c_y), (3, .slice a_z (List.length z) c_z), (4, .int .i64 n)] 63 Go.Proofs.Tryd.func10 Go.Proofs.Tryd.ntmps10 (Heap.nil _) fun act0 En0 Hv0 => ?_
 refine d_s [0,1,2,3,4,10] [] En0 fun ac1 En2 => ?_
 refine wp_seq ?_
 refine region_from ?_
 refine f_o ?_
 refine c_p En2 Hv0 (head6_ok _ ((gk32.ev Hv0).pick [] (by kernel_rfl)) ((gk64.ev Hv0).pick [] (by kernel_rfl))) fun ac7 wo4 En8 Hv9 => ?_
 refine d_e [0,1,2,3,4,10,11] [] En8 fun ac10 En11 => ?_
 refine then_normal ?_
 refine wp_seq ?_
 refine region_from ?_
 refine d_k [0,1,2,3,4,10,11,19,20,21] [] 3 En11 fun ac12 En13 => ?_
 refine f_o ?_
 refine c_p En13 Hv9 (extract_nil _ h hh a_x (List.length x) c_x x (by first | rfl | (simp; done) | (simp; omega) | omega) ((i_x.ev Hv9).pick [] (by kernel_rfl)) a_y (List.length y) c_y y (by first | rfl | (simp; done) | (simp; omega) | omega) ((i_y.ev Hv9).pick [] (by kernel_rfl))) fun ac19 wo16 En20 Hv21 => ?_
 refine d_e [0,1,2,3,4,10,11,12] [] En20 fun ac22 En23 => ?_
 refine then_normal ?_
 refine wp_seq ?_
 refine region_from ?_
 refine d_k [0,1,2,3,4,10,11,12,23,24,25] [] 3 En23 fun ac24 En25 => ?_
 refine f_o ?_
 refine c_p En25 Hv21 (refextract_nil _ h hh a_x (List.length x) c_x x (by first | rfl | (simp; done) | (simp; omega) | omega) ((i_x.ev Hv21).pick [] (by kernel_rfl)) a_y (List.length y) c_y y (by first | rfl | (simp; done) | (simp; omega) | omega) ((i_y.ev Hv21).pick [] (by kernel_rfl))) fun ac31 wo28 En32 Hv33 => ?_
 refine d_e [0,1,2,3,4,10,11,12,13] [] En32 fun ac34 En35 => ?_
 refine then_normal ?_
 refine wp_seq ?_
 refine region_from ?_
 refine d_k [0,1,2,3,4,10,11,12,13,28,29,30,31] [] 4 En35 fun ac36 En37 => ?_
 refine f_o ?_
 refine c_p En37 Hv33 (exp_bad0 _ h hh a_y (List.length y) c_y y (by first | rfl | (simp; done) | (simp; omega) | omega) ((i_y.ev Hv33).pick [] (by kernel_rfl)) a_z (List.length z) c_z z (by first | rfl | (simp; done) | (simp; omega) | omega) ((i_z.ev Hv33).pick [] (by kernel_rfl)) n) fun ac43 wo40 En44 Hv45 => ?_
 refine d_e [0,1,2,3,4,10,11,12,13,14,15] [] En44 fun ac46 En47 => ?_
 refine then_normal ?_
 refine wp_seq ?_
 refine region_from ?_
 refine d_k [0,1,2,3,4,10,11,12,13,14,15,36,37,38,39] [] 4 En47 fun ac48 En49 => ?_
 refine f_o ?_
 refine c_p En49 Hv45 (refexp_bad0 _ h hh a_y (List.length y) c_y y (by first | rfl | (simp; done) | (simp; omega) | omega) ((i_y.ev Hv45).pick [] (by kernel_rfl)) a_z (List.length z) c_z z (by first | rfl | (simp; done) | (simp; omega) | omega) ((i_z.ev Hv45).pick [] (by kernel_rfl)) n) fun ac55 wo52 En56 Hv57 => ?_
 refine d_e [0,1,2,3,4,10,11,12,13,14,15,16,17] [] En56 fun ac58 En59 => ?_
 refine then_normal ?_
 refine wp_seq ?_
 refine region_from ?_
 refine d_k [0,1,2,3,4,10,13,14,15,16,17,44,45] [] 3 En59 fun ac60 En61 => ?_
 refine f_o ?_
 refine op_str (d := some 46) (src := 23) (dst := 9) (e := 5) (ao := none) (cap := 0) (p := 0) (bs := []) En61 (by kernel_rfl) rfl (by kernel_rfl) (by kernel_rfl) (by kernel_rfl) (rfl : bys [] = []) (fun _ => rfl) ?_
 intro ac62 En63
 refine d_k [0,1,2,3,4,10,14,15,16,17,44,46,47] [] 5 En63 fun ac64 En65 => ?_
 refine f_o ?_
 refine op_str (d := some 48) (src := 23) (dst := 9) (e := 5) (ao := none) (cap := 0) (p := 0) (bs := []) En65 (by kernel_rfl) rfl (by kernel_rfl) (by kernel_rfl) (by kernel_rfl) (rfl : bys [] = []) (fun _ => rfl) ?_
 intro ac66 En67
 refine d_k [0,1,2,3,4,10,15,16,17,51,52] [(6, g_v (show (.bool (ByteArray.toList (bstr []) == ByteArray.toList (bstr [])) : Value) = .bool true by rw [Go.Dbr.bstr_eq [] [], show ([] == []) = true from (by simp)] <;> rfl))] 10 En67 fun ac68 En69 => ?_
 refine f_o ?_
 refine op_str (d := some 53) (src := 23) (dst := 9) (e := 5) (ao := none) (cap := 0) (p := 0) (bs := []) En69 (by kernel_rfl) rfl (by kernel_rfl) (by kernel_rfl) (by kernel_rfl) (rfl : bys [] = []) (fun _ => rfl) ?_
 intro ac70 En71
 refine d_k [0,1,2,3,4,10,15,17,51,53,54] [] 12 En71 fun ac72 En73 => ?_
 refine f_o ?_
 refine op_str (d := some 55) (src := 23) (dst := 9) (e := 5) (ao := none) (cap := 0) (p := 0) (bs := []) En73 (by kernel_rfl) rfl (by kernel_rfl) (by kernel_rfl) (by kernel_rfl) (rfl : bys [] = []) (fun _ => rfl) ?_
 intro ac74 En75
 refine d_e [0,1,2,3,4,10] [(13, g_v (show (.bool (ByteArray.toList (bstr []) == ByteArray.toList (bstr [])) : Value) = .bool true by rw [Go.Dbr.bstr_eq [] [], show ([] == []) = true from (by simp)] <;> rfl)), (18, g_b (show (true) = true from (by rfl)))] En75 fun ac76 En77 => ?_
 refine then_normal ?_
 refine wp_ret ?_
 refine d_ret1 (t := 10) (v := .bool true) En77 (by kernel_rfl) (by kernel_rfl) ?_
 exact ⟨rfl, Hv57.pk []⟩

theorem keys_walk (h : Int) (a_x : Option Addr) (c_x : Nat) (x : List UInt8) (a_y : Option Addr) (c_y : Nat) (y : List UInt8) (a_z : Option Addr) (c_z : Nat) (z : List UInt8) (n : Int) (w : World) (b_h : (-9223372036854775808 ≤ h ∧ h ≤ 9223372036854775807)) (i_x : InB w [] a_x c_x x) (s_x : List.length x ≤ 140737488351232) (i_y : InB w [] a_y c_y y) (s_y : List.length y ≤ 140737488351232) (i_z : InB w [] a_z c_z z) (s_z : List.length z ≤ 140737488351232) (b_n : (-9223372036854775808 ≤ n ∧ n ≤ 9223372036854775807)) (gk32 : InU32 w [] (some ⟨0, 0, none⟩) 64 K32) (gk64 : InU64 w [] (some ⟨1, 0, none⟩) 80 K64) : Calls Tryd.prog 10 #[.int .i64 h, .slice a_x (List.length x) c_x, .slice a_y (List.length y) c_y, .slice a_z (List.length z) c_z, .int .i64 n] w fun e w' => e = .returned (.bool true) ∧ Ev w [] w' [] := by
  by_cases hh : h = 1 ∨ h = 2 ∨ h = 3
  · by_cases hn : 0 ≤ n ∧ n ≤ 255 * (sizeOfH h : Int)
    · obtain ⟨m, rfl⟩ := Int.eq_ofNat_of_zero_le hn.1
      exact keys_ok h a_x c_x x a_y c_y y a_z c_z z m w b_h i_x s_x i_y s_y i_z s_z (by omega) hh gk32 gk64
    · exact keys_bad1 h a_x c_x x a_y c_y y a_z c_z z n w b_h i_x s_x i_y s_y i_z s_z b_n (by omega) hh gk32 gk64
  · exact keys_bad0 h a_x c_x x a_y c_y y a_z c_z z n w b_h i_x s_x i_y s_y i_z s_z b_n hh gk32 gk64

end Go.Proofs.YtbpihljkkkeijaaDoor
