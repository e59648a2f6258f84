/- MacBegins: its walk. -/
import Derived.Test.YtbpihljkkkeijaaDoorM8
namespace Go.Proofs.YtbpihljkkkeijaaDoor
open Go.Dbr
set_option maxRecDepth 100000
set_option maxHeartbeats 2000000
set_option linter.unusedVariables false
set_option linter.unusedSimpArgs false

theorem min_int (a b : Nat) : (if ((b : Nat) : Int) < ((a : Nat) : Int) then ((b : Nat) : Int) else ((a : Nat) : Int)) = ((min a b : Nat) : Int) := by split <;> omega
theorem macz {h : Int} (hh : h = 1 ∨ h = 2 ∨ h = 3) (x : List UInt8) : macF h (List.replicate (List.length (macF h [] x)) 0) x = macF h [] x := by
  have h2 := mac_zeros (h := h) (key := []) (b := x) (m := List.length (macF h [] x)) (by rw [macF_len hh]; have := block_ge hh; simp only [List.length_nil]; omega)
  rwa [List.nil_append] at h2

theorem begins_ok (h : Int) (a_x : Option Addr) (c_x : Nat) (x : List UInt8) (a_y : Option Addr) (c_y : Nat) (y : List UInt8) (m : UInt16) (n : UInt16) (w : World) (b_h : (-9223372036854775808 ≤ h ∧ h ≤ 9223372036854775807)) (i_x : InB w [] a_x c_x x) (i_y : InB w [] a_y c_y y) (hh : (h = 1 ∨ h = 2 ∨ h = 3)) (gk32 : InU32 w [] (some ⟨0, 0, none⟩) 64 K32) (gk64 : InU64 w [] (some ⟨1, 0, none⟩) 80 K64) : Calls Tryd.prog 11 #[.int .i64 h, .slice a_x (List.length x) c_x, .slice a_y (List.length y) c_y, uv16 m, uv16 n] w fun e w' => e = .returned (.bool true) ∧ Ev w [] w' [] := by
 have hsx := i_x.small
 have hsy := i_y.small
 have hcx := i_x.cap
 have hcy := i_y.cap
 have hbg := block_ge hh
 have hsz64 := size_le h
 have hm2 : UInt16.toNat (m % 2000) < 2000 := by rw [UInt16.toNat_mod]; exact Nat.mod_lt _ (by decide)
 have hn2 : UInt16.toNat (n % 2000) < 2000 := by rw [UInt16.toNat_mod]; exact Nat.mod_lt _ (by decide)
 have hle := macF_len hh [] x
 have hem := expF_len hh x y (UInt16.toNat (m % 2000))
 have hen := expF_len hh x y (UInt16.toNat (n % 2000))
 have hk1 := Nat.min_le_left (UInt16.toNat (m % 2000)) (UInt16.toNat (n % 2000))
 have hk2 := Nat.min_le_right (UInt16.toNat (m % 2000)) (UInt16.toNat (n % 2000))
 have ht1 : List.length (List.take (min (UInt16.toNat (m % 2000)) (UInt16.toNat (n % 2000))) (expF h x y (UInt16.toNat (m % 2000)))) = min (UInt16.toNat (m % 2000)) (UInt16.toNat (n % 2000)) := by rw [List.length_take, hem]; omega
 have ht2 : List.length (List.take (min (UInt16.toNat (m % 2000)) (UInt16.toNat (n % 2000))) (expF h x y (UInt16.toNat (n % 2000)))) = min (UInt16.toNat (m % 2000)) (UInt16.toNat (n % 2000)) := by rw [List.length_take, hen]; omega
 refine d_0 [(0, .int .i64 h), (1, .slice a_x (List.length x) c_x), (2, .slice a_y (List.length y) c_y), (3, uv16 m), (4, uv16 n)] 76 Go.Proofs.Tryd.func11 Go.Proofs.Tryd.ntmps11 (Heap.nil _) fun act0 En0 Hv0 => ?_
 refine d_s [0,1,2,3,4,10] [] En0 fun ac1 En2 => ?_
 refine wp_seq ?_
 refine region_from ?_
 refine f_o ?_
 refine c_p En2 Hv0 (head6_ok _ ((gk32.ev Hv0).pick [] (by kernel_rfl)) ((gk64.ev Hv0).pick [] (by kernel_rfl))) fun ac7 wo4 En8 Hv9 => ?_
 refine d_e [0,1,2,3,4,10,11] [] En8 fun ac10 En11 => ?_
 refine then_normal ?_
 refine wp_seq ?_
 refine region_from ?_
 refine d_k [0,1,2,4,10,11,20,21,22,25] [(4, g_i .u16 (Go.Dbr.u16_rem (x := m) (y := (2000 : UInt16)) rfl rfl)), (5, g_i .i64 (Go.Dbr.u16_to_i64 (x := m % (2000 : UInt16)) rfl))] 6 En11 fun ac12 En13 => ?_
 refine f_o ?_
 refine c_0 En13 Hv9 (exp_go _ h hh a_x (List.length x) c_x x (by first | rfl | (simp; done) | (simp; omega) | omega) ((i_x.ev Hv9).pick [] (by kernel_rfl)) a_y (List.length y) c_y y (by first | rfl | (simp; done) | (simp; omega) | omega) ((i_y.ev Hv9).pick [] (by kernel_rfl)) (UInt16.toNat (m % (2000 : UInt16))) (by omega) ((gk32.ev Hv9).pick [] (by kernel_rfl)) ((gk64.ev Hv9).pick [] (by kernel_rfl))) ?_
 rintro _ wo16 ⟨aoq14, coq14, rfl, he17⟩
 refine ⟨_, _, _, rfl, he17, rfl, fun ac19 En20 Hv21 => ?_⟩
 refine d_e [0,1,2,4,10,11,12,13] [] En20 fun ac22 En23 => ?_
 refine then_normal ?_
 refine wp_seq ?_
 refine region_from ?_
 refine d_k [0,1,2,10,11,12,13,30,31,32,35] [(4, g_i .u16 (Go.Dbr.u16_rem (x := n) (y := (2000 : UInt16)) rfl rfl)), (5, g_i .i64 (Go.Dbr.u16_to_i64 (x := n % (2000 : UInt16)) rfl))] 6 En23 fun ac24 En25 => ?_
 refine f_o ?_
 refine c_0 En25 Hv21 (exp_go _ h hh a_x (List.length x) c_x x (by first | rfl | (simp; done) | (simp; omega) | omega) ((i_x.ev Hv21).pick [] (by kernel_rfl)) a_y (List.length y) c_y y (by first | rfl | (simp; done) | (simp; omega) | omega) ((i_y.ev Hv21).pick [] (by kernel_rfl)) (UInt16.toNat (n % (2000 : UInt16))) (by omega) ((gk32.ev Hv21).pick [] (by kernel_rfl)) ((gk64.ev Hv21).pick [] (by kernel_rfl))) ?_
 rintro _ wo28 ⟨aoq26, coq26, rfl, he29⟩
 refine ⟨_, _, _, rfl, he29, rfl, fun ac31 En32 Hv33 => ?_⟩
 refine d_e [0,1,2,10,11,12,13,14,15] [] En32 fun ac34 En35 => ?_
 refine then_normal ?_
 refine d_s [0,1,2,10,11,12,13,14,15,16] [(4, g_i .i64 (show (if (((UInt16.toNat (n % (2000 : UInt16))) : Nat) : Int) < (((UInt16.toNat (m % (2000 : UInt16))) : Nat) : Int) then (((UInt16.toNat (n % (2000 : UInt16))) : Nat) : Int) else (((UInt16.toNat (m % (2000 : UInt16))) : Nat) : Int)) = ((min (UInt16.toNat (m % (2000 : UInt16))) (UInt16.toNat (n % (2000 : UInt16))) : Nat) : Int) from min_int _ _))] En35 fun ac36 En37 => ?_
 refine wp_seq ?_
 refine region_from ?_
 refine d_k [0,1,2,10,11,12,13,14,15,16,44,45] [] 2 En37 fun ac38 En39 => ?_
 refine f_o ?_
 refine c_0 En39 Hv33 (extract_go _ h hh none 0 0 [] (by first | rfl | (simp; done) | (simp; omega) | omega) (InB.nil _ _) a_x (List.length x) c_x x (by first | rfl | (simp; done) | (simp; omega) | omega) ((i_x.ev Hv33).pick [] (by kernel_rfl)) ((gk32.ev Hv33).pick [] (by kernel_rfl)) ((gk64.ev Hv33).pick [] (by kernel_rfl))) ?_
 rintro _ wo42 ⟨aoq40, coq40, rfl, he43⟩
 refine ⟨_, _, _, rfl, he43, rfl, fun ac45 En46 Hv47 => ?_⟩
 refine d_e [0,1,2,10,11,12,13,14,15,16,17] [] En46 fun ac48 En49 => ?_
 refine then_normal ?_
 refine wp_seq ?_
 refine r_c (fun ac wo => Env ac 76 [(0, .int .i64 h), (1, .slice a_x (List.length x) c_x), (2, .slice a_y (List.length y) c_y), (10, .bool true), (12, .slice aoq14 (UInt16.toNat (m % (2000 : UInt16))) coq14), (14, .slice aoq26 (UInt16.toNat (n % (2000 : UInt16))) coq26)] ∧ Ev w [] wo [.vec aoq26 coq26 1 (bys (expF h x y (UInt16.toNat (n % (2000 : UInt16))))) 5, .vec aoq14 coq14 1 (bys (expF h x y (UInt16.toNat (m % (2000 : UInt16))))) 5]) ?_ ?_
 ·
  refine h_s (fun wv => Ev w [] wv [.vec aoq40 coq40 1 (bys (macF h [] x)) 5, .vec aoq26 coq26 1 (bys (expF h x y (UInt16.toNat (n % (2000 : UInt16))))) 5, .vec aoq14 coq14 1 (bys (expF h x y (UInt16.toNat (m % (2000 : UInt16))))) 5]) [] 30 ?_
  have wo50 := Hv47.trans (Ev.drew Hv47.heap)
  refine h_name fun G hG => ?_
  have nd242 : ∀ (ac : Act) (wo : World), Env ac 76 [(0, .int .i64 h), (1, .slice a_x (List.length x) c_x), (2, .slice a_y (List.length y) c_y), (10, .bool false), (12, .slice aoq14 (UInt16.toNat (m % (2000 : UInt16))) coq14), (14, .slice aoq26 (UInt16.toNat (n % (2000 : UInt16))) coq26), (17, .slice aoq40 (List.length (macF h [] x)) coq40), (53, .bool true), (56, .slice aoq14 (min (UInt16.toNat (m % (2000 : UInt16))) (UInt16.toNat (n % (2000 : UInt16)))) coq14), (58, .slice aoq26 (UInt16.toNat (n % (2000 : UInt16))) coq26), (59, ni (min (UInt16.toNat (m % (2000 : UInt16))) (UInt16.toNat (n % (2000 : UInt16)))))] → Ev w [] wo [.vec aoq40 coq40 1 (bys (macF h [] x)) 5, .vec aoq26 coq26 1 (bys (expF h x y (UInt16.toNat (n % (2000 : UInt16))))) 5, .vec aoq14 coq14 1 (bys (expF h x y (UInt16.toNat (m % (2000 : UInt16))))) 5] → G 18 #[true, true, true, true, true, true, true, true, true, true, false, true, true, false, false, false, false, false, false, false, false, false, false, false, false, false, false, false, false, false] ac wo := by
   intro ac243 wo244 En245 Hv246
   refine h_from hG ?_
   refine q_r 10 (s := convert 23 9 (.slice aoq14 (min (UInt16.toNat (m % (2000 : UInt16))) (UInt16.toNat (n % (2000 : UInt16)))) coq14)) (v := .string (bstr (List.take (min (UInt16.toNat (m % (2000 : UInt16))) (UInt16.toNat (n % (2000 : UInt16)))) (expF h x y (UInt16.toNat (m % (2000 : UInt16))))))) En245 (fun w hS => run_str2 (e := 5) (bs := List.take (min (UInt16.toNat (m % (2000 : UInt16))) (UInt16.toNat (n % (2000 : UInt16)))) (expF h x y (UInt16.toNat (m % (2000 : UInt16))))) (by first | (simp; done) | (simp; omega) | omega) (by kernel_rfl) (by kernel_rfl) (by kernel_rfl) (bys_take_reads (hS.heap.reads (k := 2) rfl) (min (UInt16.toNat (m % (2000 : UInt16))) (UInt16.toNat (n % (2000 : UInt16))))) (fun e => by have := (fun e => by have h := (bys_vnz wo50.heap (k := 2) rfl) e; first | omega | (rw [List.length_take] at h; omega) | (simp at h; omega)) e; omega)) (Hv246.pk [0, 1, 2]) fun ac247 En248 => ?_
   refine q_t 13 ?_
   have hcap249 := bys_vcap Hv246.heap (k := 1) rfl
   refine op_slice0 (d := some 60) (t := 23) (e := 5) (sz := 1) (len := (UInt16.toNat (n % (2000 : UInt16)))) (cap := coq26) (hi := min (UInt16.toNat (m % (2000 : UInt16))) (UInt16.toNat (n % (2000 : UInt16)))) (ao := aoq26) (lov := none) (hiv := (some (ni (min (UInt16.toNat (m % (2000 : UInt16))) (UInt16.toNat (n % (2000 : UInt16))))))) En248 (by kernel_rfl) (by kernel_rfl) (by kernel_rfl) (by omega) (.inl ⟨rfl, rfl⟩) (.inr ⟨.i64, rfl⟩) ?_
   intro ac250 En251
   refine ⟨fun _ => Hv246.pk [0, 1, 2], ?_⟩
   refine q_r 14 (s := convert 23 9 (.slice aoq26 (min (UInt16.toNat (m % (2000 : UInt16))) (UInt16.toNat (n % (2000 : UInt16)))) coq26)) (v := .string (bstr (List.take (min (UInt16.toNat (m % (2000 : UInt16))) (UInt16.toNat (n % (2000 : UInt16)))) (expF h x y (UInt16.toNat (n % (2000 : UInt16))))))) En251 (fun w hS => run_str2 (e := 5) (bs := List.take (min (UInt16.toNat (m % (2000 : UInt16))) (UInt16.toNat (n % (2000 : UInt16)))) (expF h x y (UInt16.toNat (n % (2000 : UInt16))))) (by first | (simp; done) | (simp; omega) | omega) (by kernel_rfl) (by kernel_rfl) (by kernel_rfl) (bys_take_reads (hS.heap.reads (k := 1) rfl) (min (UInt16.toNat (m % (2000 : UInt16))) (UInt16.toNat (n % (2000 : UInt16))))) (fun e => by have := (fun e => by have h := (bys_vnz Hv246.heap (k := 1) rfl) e; first | omega | (rw [List.length_take] at h; omega) | (simp at h; omega)) e; omega)) (Hv246.pk [0, 1, 2]) fun ac252 En253 => ?_
   refine q_s [15,16,17,18] [(15, g_v (show (.bool (ByteArray.toList (bstr (List.take (min (UInt16.toNat (m % (2000 : UInt16))) (UInt16.toNat (n % (2000 : UInt16)))) (expF h x y (UInt16.toNat (m % (2000 : UInt16)))))) == ByteArray.toList (bstr (List.take (min (UInt16.toNat (m % (2000 : UInt16))) (UInt16.toNat (n % (2000 : UInt16)))) (expF h x y (UInt16.toNat (n % (2000 : UInt16))))))) : Value) = .bool true by rw [Go.Dbr.bstr_eq (List.take (min (UInt16.toNat (m % (2000 : UInt16))) (UInt16.toNat (n % (2000 : UInt16)))) (expF h x y (UInt16.toNat (m % (2000 : UInt16))))) (List.take (min (UInt16.toNat (m % (2000 : UInt16))) (UInt16.toNat (n % (2000 : UInt16)))) (expF h x y (UInt16.toNat (n % (2000 : UInt16))))), show ((List.take (min (UInt16.toNat (m % (2000 : UInt16))) (UInt16.toNat (n % (2000 : UInt16)))) (expF h x y (UInt16.toNat (m % (2000 : UInt16))))) == (List.take (min (UInt16.toNat (m % (2000 : UInt16))) (UInt16.toNat (n % (2000 : UInt16)))) (expF h x y (UInt16.toNat (n % (2000 : UInt16)))))) = true from (by rw [expF_take hh _ _ (Nat.min_le_left _ _), expF_take hh _ _ (Nat.min_le_right _ _)]; simp)] <;> rfl))] 11 En253 (Hv246.pk [0, 1, 2]) fun ac254 En255 => ?_
   refine q_r 19 (s := convert 23 9 (.slice aoq40 (List.length (macF h [] x)) coq40)) (v := .string (bstr (macF h [] x))) En255 (fun w hS => run_str2 (e := 5) (bs := macF h [] x) rfl (by kernel_rfl) (by kernel_rfl) (by kernel_rfl) (hS.heap.reads (k := 0) rfl) (bys_vnz hS.heap (k := 0) rfl)) (Hv246.pk [0, 1, 2]) fun ac256 En257 => ?_
   refine q_s [20,21,22,24] [] 6 En257 (Hv246.pk [0, 1, 2]) fun ac258 En259 => ?_
   refine q_t 23 ?_
   refine op_makeslice (d := some 70) (t := 23) (T := 5) (m := List.length (macF h [] x)) (kl := .i64) (kc := .i64) (z := .int .u8 0) (bytes := 1) En259 (by kernel_rfl) Hv246 (by kernel_rfl) (by kernel_rfl) (by kernel_rfl) (by omega) (by unfold maxLen; omega) ?_
   intro ac261 wo262 bk260 En263 Hv264
   rw [show List.replicate (List.length (macF h [] x)) (Value.int .u8 0) = bys (List.replicate (List.length (macF h [] x)) 0) from (bys_replicate _).symm] at Hv264
   refine ⟨fun _ => Hv264.pk [0, 1, 2], ?_⟩
   refine q_t 25 ?_
   refine c_0 En263 Hv264 (extract_go _ h hh (some ⟨bk260, 0, none⟩) (List.length (macF h [] x)) (List.length (macF h [] x)) (List.replicate (List.length (macF h [] x)) 0) (by first | rfl | (simp; done) | (simp; omega) | omega) (bys_in Hv264.heap (k := 3) rfl [] (by kernel_rfl) rfl (by first | omega | (simp; done) | (simp; omega))) a_x (List.length x) c_x x (by first | rfl | (simp; done) | (simp; omega) | omega) ((i_x.ev Hv264).pick [] (by kernel_rfl)) ((gk32.ev Hv264).pick [] (by kernel_rfl)) ((gk64.ev Hv264).pick [] (by kernel_rfl))) ?_
   rintro _ wo267 ⟨aoq265, coq265, rfl, he268⟩
   refine ⟨_, _, _, rfl, he268, rfl, fun ac270 En271 Hv272 => ?_⟩
   refine ⟨fun _ => Hv272.pk [1, 2, 3], ?_⟩
   refine q_t 26 ?_
   refine op_str (d := some 73) (src := 23) (dst := 9) (e := 5) (ao := aoq265) (cap := coq265) (p := List.length (macF h (List.replicate (List.length (macF h [] x)) 0) x)) (bs := macF h (List.replicate (List.length (macF h [] x)) 0) x) En271 (by kernel_rfl) rfl (by kernel_rfl) (by kernel_rfl) (by kernel_rfl) (Hv272.heap.reads (k := 0) rfl) (bys_vnz Hv272.heap (k := 0) rfl) ?_
   intro ac273 En274
   refine ⟨fun _ => Hv272.pk [1, 2, 3], ?_⟩
   refine q_s [27,28,29] [(27, g_v (show (.bool (ByteArray.toList (bstr (macF h [] x)) == ByteArray.toList (bstr (macF h (List.replicate (List.length (macF h [] x)) 0) x))) : Value) = .bool true by rw [Go.Dbr.bstr_eq (macF h [] x) (macF h (List.replicate (List.length (macF h [] x)) 0) x), show ((macF h [] x) == (macF h (List.replicate (List.length (macF h [] x)) 0) x)) = true from (by rw [macz hh]; simp)] <;> rfl))] 0 En274 (Hv272.pk [1, 2, 3]) fun ac275 En276 => ?_
   exact h_e ⟨En276.sb, Hv272.pk [2, 3]⟩
  have nd277 : ∀ (ac : Act) (wo : World), Env ac 76 [(0, .int .i64 h), (1, .slice a_x (List.length x) c_x), (2, .slice a_y (List.length y) c_y), (10, .bool false), (12, .slice aoq14 (UInt16.toNat (m % (2000 : UInt16))) coq14), (14, .slice aoq26 (UInt16.toNat (n % (2000 : UInt16))) coq26), (17, .slice aoq40 (List.length (macF h [] x)) coq40), (53, .bool true), (54, .slice aoq14 (UInt16.toNat (m % (2000 : UInt16))) coq14), (55, ni (min (UInt16.toNat (m % (2000 : UInt16))) (UInt16.toNat (n % (2000 : UInt16))))), (60, .slice aoq26 (min (UInt16.toNat (m % (2000 : UInt16))) (UInt16.toNat (n % (2000 : UInt16)))) coq26)] → Ev w [] wo [.vec aoq40 coq40 1 (bys (macF h [] x)) 5, .vec aoq26 coq26 1 (bys (expF h x y (UInt16.toNat (n % (2000 : UInt16))))) 5, .vec aoq14 coq14 1 (bys (expF h x y (UInt16.toNat (m % (2000 : UInt16))))) 5] → G 18 #[true, true, true, true, true, true, true, true, true, false, false, true, true, true, false, false, false, false, false, false, false, false, false, false, false, false, false, false, false, false] ac wo := by
   intro ac278 wo279 En280 Hv281
   refine h_from hG ?_
   refine q_r 14 (s := convert 23 9 (.slice aoq26 (min (UInt16.toNat (m % (2000 : UInt16))) (UInt16.toNat (n % (2000 : UInt16)))) coq26)) (v := .string (bstr (List.take (min (UInt16.toNat (m % (2000 : UInt16))) (UInt16.toNat (n % (2000 : UInt16)))) (expF h x y (UInt16.toNat (n % (2000 : UInt16))))))) En280 (fun w hS => run_str2 (e := 5) (bs := List.take (min (UInt16.toNat (m % (2000 : UInt16))) (UInt16.toNat (n % (2000 : UInt16)))) (expF h x y (UInt16.toNat (n % (2000 : UInt16))))) (by first | (simp; done) | (simp; omega) | omega) (by kernel_rfl) (by kernel_rfl) (by kernel_rfl) (bys_take_reads (hS.heap.reads (k := 1) rfl) (min (UInt16.toNat (m % (2000 : UInt16))) (UInt16.toNat (n % (2000 : UInt16))))) (fun e => by have := (fun e => by have h := (bys_vnz wo50.heap (k := 1) rfl) e; first | omega | (rw [List.length_take] at h; omega) | (simp at h; omega)) e; omega)) (Hv281.pk [0, 1, 2]) fun ac282 En283 => ?_
   refine q_t 9 ?_
   have hcap284 := bys_vcap Hv281.heap (k := 2) rfl
   refine op_slice0 (d := some 56) (t := 23) (e := 5) (sz := 1) (len := (UInt16.toNat (m % (2000 : UInt16)))) (cap := coq14) (hi := min (UInt16.toNat (m % (2000 : UInt16))) (UInt16.toNat (n % (2000 : UInt16)))) (ao := aoq14) (lov := none) (hiv := (some (ni (min (UInt16.toNat (m % (2000 : UInt16))) (UInt16.toNat (n % (2000 : UInt16))))))) En283 (by kernel_rfl) (by kernel_rfl) (by kernel_rfl) (by omega) (.inl ⟨rfl, rfl⟩) (.inr ⟨.i64, rfl⟩) ?_
   intro ac285 En286
   refine ⟨fun _ => Hv281.pk [0, 1, 2], ?_⟩
   refine q_r 10 (s := convert 23 9 (.slice aoq14 (min (UInt16.toNat (m % (2000 : UInt16))) (UInt16.toNat (n % (2000 : UInt16)))) coq14)) (v := .string (bstr (List.take (min (UInt16.toNat (m % (2000 : UInt16))) (UInt16.toNat (n % (2000 : UInt16)))) (expF h x y (UInt16.toNat (m % (2000 : UInt16))))))) En286 (fun w hS => run_str2 (e := 5) (bs := List.take (min (UInt16.toNat (m % (2000 : UInt16))) (UInt16.toNat (n % (2000 : UInt16)))) (expF h x y (UInt16.toNat (m % (2000 : UInt16))))) (by first | (simp; done) | (simp; omega) | omega) (by kernel_rfl) (by kernel_rfl) (by kernel_rfl) (bys_take_reads (hS.heap.reads (k := 2) rfl) (min (UInt16.toNat (m % (2000 : UInt16))) (UInt16.toNat (n % (2000 : UInt16))))) (fun e => by have := (fun e => by have h := (bys_vnz Hv281.heap (k := 2) rfl) e; first | omega | (rw [List.length_take] at h; omega) | (simp at h; omega)) e; omega)) (Hv281.pk [0, 1, 2]) fun ac287 En288 => ?_
   refine q_s [15,16,17,18] [(15, g_v (show (.bool (ByteArray.toList (bstr (List.take (min (UInt16.toNat (m % (2000 : UInt16))) (UInt16.toNat (n % (2000 : UInt16)))) (expF h x y (UInt16.toNat (m % (2000 : UInt16)))))) == ByteArray.toList (bstr (List.take (min (UInt16.toNat (m % (2000 : UInt16))) (UInt16.toNat (n % (2000 : UInt16)))) (expF h x y (UInt16.toNat (n % (2000 : UInt16))))))) : Value) = .bool true by rw [Go.Dbr.bstr_eq (List.take (min (UInt16.toNat (m % (2000 : UInt16))) (UInt16.toNat (n % (2000 : UInt16)))) (expF h x y (UInt16.toNat (m % (2000 : UInt16))))) (List.take (min (UInt16.toNat (m % (2000 : UInt16))) (UInt16.toNat (n % (2000 : UInt16)))) (expF h x y (UInt16.toNat (n % (2000 : UInt16))))), show ((List.take (min (UInt16.toNat (m % (2000 : UInt16))) (UInt16.toNat (n % (2000 : UInt16)))) (expF h x y (UInt16.toNat (m % (2000 : UInt16))))) == (List.take (min (UInt16.toNat (m % (2000 : UInt16))) (UInt16.toNat (n % (2000 : UInt16)))) (expF h x y (UInt16.toNat (n % (2000 : UInt16)))))) = true from (by rw [expF_take hh _ _ (Nat.min_le_left _ _), expF_take hh _ _ (Nat.min_le_right _ _)]; simp)] <;> rfl))] 11 En288 (Hv281.pk [0, 1, 2]) fun ac289 En290 => ?_
   refine q_r 19 (s := convert 23 9 (.slice aoq40 (List.length (macF h [] x)) coq40)) (v := .string (bstr (macF h [] x))) En290 (fun w hS => run_str2 (e := 5) (bs := macF h [] x) rfl (by kernel_rfl) (by kernel_rfl) (by kernel_rfl) (hS.heap.reads (k := 0) rfl) (bys_vnz hS.heap (k := 0) rfl)) (Hv281.pk [0, 1, 2]) fun ac291 En292 => ?_
   refine q_s [20,21,22,24] [] 6 En292 (Hv281.pk [0, 1, 2]) fun ac293 En294 => ?_
   refine q_t 23 ?_
   refine op_makeslice (d := some 70) (t := 23) (T := 5) (m := List.length (macF h [] x)) (kl := .i64) (kc := .i64) (z := .int .u8 0) (bytes := 1) En294 (by kernel_rfl) Hv281 (by kernel_rfl) (by kernel_rfl) (by kernel_rfl) (by omega) (by unfold maxLen; omega) ?_
   intro ac296 wo297 bk295 En298 Hv299
   rw [show List.replicate (List.length (macF h [] x)) (Value.int .u8 0) = bys (List.replicate (List.length (macF h [] x)) 0) from (bys_replicate _).symm] at Hv299
   refine ⟨fun _ => Hv299.pk [0, 1, 2], ?_⟩
   refine q_t 25 ?_
   refine c_0 En298 Hv299 (extract_go _ h hh (some ⟨bk295, 0, none⟩) (List.length (macF h [] x)) (List.length (macF h [] x)) (List.replicate (List.length (macF h [] x)) 0) (by first | rfl | (simp; done) | (simp; omega) | omega) (bys_in Hv299.heap (k := 3) rfl [] (by kernel_rfl) rfl (by first | omega | (simp; done) | (simp; omega))) a_x (List.length x) c_x x (by first | rfl | (simp; done) | (simp; omega) | omega) ((i_x.ev Hv299).pick [] (by kernel_rfl)) ((gk32.ev Hv299).pick [] (by kernel_rfl)) ((gk64.ev Hv299).pick [] (by kernel_rfl))) ?_
   rintro _ wo302 ⟨aoq300, coq300, rfl, he303⟩
   refine ⟨_, _, _, rfl, he303, rfl, fun ac305 En306 Hv307 => ?_⟩
   refine ⟨fun _ => Hv307.pk [1, 2, 3], ?_⟩
   refine q_t 26 ?_
   refine op_str (d := some 73) (src := 23) (dst := 9) (e := 5) (ao := aoq300) (cap := coq300) (p := List.length (macF h (List.replicate (List.length (macF h [] x)) 0) x)) (bs := macF h (List.replicate (List.length (macF h [] x)) 0) x) En306 (by kernel_rfl) rfl (by kernel_rfl) (by kernel_rfl) (by kernel_rfl) (Hv307.heap.reads (k := 0) rfl) (bys_vnz Hv307.heap (k := 0) rfl) ?_
   intro ac308 En309
   refine ⟨fun _ => Hv307.pk [1, 2, 3], ?_⟩
   refine q_s [27,28,29] [(27, g_v (show (.bool (ByteArray.toList (bstr (macF h [] x)) == ByteArray.toList (bstr (macF h (List.replicate (List.length (macF h [] x)) 0) x))) : Value) = .bool true by rw [Go.Dbr.bstr_eq (macF h [] x) (macF h (List.replicate (List.length (macF h [] x)) 0) x), show ((macF h [] x) == (macF h (List.replicate (List.length (macF h [] x)) 0) x)) = true from (by rw [macz hh]; simp)] <;> rfl))] 0 En309 (Hv307.pk [1, 2, 3]) fun ac310 En311 => ?_
   exact h_e ⟨En311.sb, Hv307.pk [2, 3]⟩
  refine h_from hG ?_
  refine q_s [0,1,2,3,4,5,6,7,8,11,12] [(4, g_b (show (true) = true from (by rfl)))] 19 En49 (wo50.pk [0, 1, 2]) fun ac312 En313 => ?_
  refine h_ways [9, 13] (by kernel_rfl) rfl ?_
  refine ⟨?_, ?_, trivial⟩
  ·
   rintro _ rfl
   have hcap314 := bys_vcap wo50.heap (k := 2) rfl
   refine op_slice0 (d := some 56) (t := 23) (e := 5) (sz := 1) (len := (UInt16.toNat (m % (2000 : UInt16)))) (cap := coq14) (hi := min (UInt16.toNat (m % (2000 : UInt16))) (UInt16.toNat (n % (2000 : UInt16)))) (ao := aoq14) (lov := none) (hiv := (some (ni (min (UInt16.toNat (m % (2000 : UInt16))) (UInt16.toNat (n % (2000 : UInt16))))))) En313 (by kernel_rfl) (by kernel_rfl) (by kernel_rfl) (by omega) (.inl ⟨rfl, rfl⟩) (.inr ⟨.i64, rfl⟩) ?_
   intro ac315 En316
   refine ⟨fun _ => wo50.pk [0, 1, 2], ?_⟩
   exact h_to hG (by kernel_rfl) (nd242 _ _ (En316.sb) (wo50.pk [0, 1, 2]))
  ·
   rintro _ rfl
   have hcap317 := bys_vcap wo50.heap (k := 1) rfl
   refine op_slice0 (d := some 60) (t := 23) (e := 5) (sz := 1) (len := (UInt16.toNat (n % (2000 : UInt16)))) (cap := coq26) (hi := min (UInt16.toNat (m % (2000 : UInt16))) (UInt16.toNat (n % (2000 : UInt16)))) (ao := aoq26) (lov := none) (hiv := (some (ni (min (UInt16.toNat (m % (2000 : UInt16))) (UInt16.toNat (n % (2000 : UInt16))))))) En313 (by kernel_rfl) (by kernel_rfl) (by kernel_rfl) (by omega) (.inl ⟨rfl, rfl⟩) (.inr ⟨.i64, rfl⟩) ?_
   intro ac318 En319
   refine ⟨fun _ => wo50.pk [0, 1, 2], ?_⟩
   exact h_to hG (by kernel_rfl) (nd277 _ _ (En319.sb) (wo50.pk [0, 1, 2]))
 rintro ac320 wo321 ⟨En322, Hv323⟩
 refine then_normal ?_
 refine wp_ret ?_
 refine d_ret1 (t := 10) (v := .bool true) En322 (by kernel_rfl) (by kernel_rfl) ?_
 exact ⟨rfl, Hv323.pk []⟩

theorem begins_bad0 (h : Int) (a_x : Option Addr) (c_x : Nat) (x : List UInt8) (a_y : Option Addr) (c_y : Nat) (y : List UInt8) (m : UInt16) (n : UInt16) (w : World) (b_h : (-9223372036854775808 ≤ h ∧ h ≤ 9223372036854775807)) (i_x : InB w [] a_x c_x x) (i_y : InB w [] a_y c_y y) (hh : ¬ (h = 1 ∨ h = 2 ∨ h = 3)) (gk32 : InU32 w [] (some ⟨0, 0, none⟩) 64 K32) (gk64 : InU64 w [] (some ⟨1, 0, none⟩) 80 K64) : Calls Tryd.prog 11 #[.int .i64 h, .slice a_x (List.length x) c_x, .slice a_y (List.length y) c_y, uv16 m, uv16 n] w fun e w' => e = .returned (.bool true) ∧ Ev w [] w' [] := by
 have hsx := i_x.small
 have hsy := i_y.small
 have hcx := i_x.cap
 have hcy := i_y.cap
 refine d_0 [(0, .int .i64 h), (1, .slice a_x (List.length x) c_x), (2, .slice a_y (List.length y) c_y), (3, uv16 m), (4, uv16 n)] 76 Go.Proofs.Tryd.func11 Go.Proofs.Tryd.ntmps11 (Heap.nil _) fun act0 En0 Hv0 => ?_
 refine d_s [0,1,2,3,4,10] [] En0 fun ac1 En2 => ?_
 refine wp_seq ?_
 refine region_from ?_
 refine f_o ?_
 refine c_p En2 Hv0 (head6_ok _ ((gk32.ev Hv0).pick [] (by kernel_rfl)) ((gk64.ev Hv0).pick [] (by kernel_rfl))) fun ac7 wo4 En8 Hv9 => ?_
 refine d_e [0,1,2,3,4,10,11] [] En8 fun ac10 En11 => ?_
 refine then_normal ?_
 refine wp_seq ?_
 refine region_from ?_
 refine d_k [0,1,2,4,10,11,20,21,22,25] [(4, g_i .u16 (Go.Dbr.u16_rem (x := m) (y := (2000 : UInt16)) rfl rfl)), (5, g_i .i64 (Go.Dbr.u16_to_i64 (x := m % (2000 : UInt16)) rfl))] 6 En11 fun ac12 En13 => ?_
 refine f_o ?_
 refine c_p En13 Hv9 (exp_bad0 _ h hh a_x (List.length x) c_x x (by first | rfl | (simp; done) | (simp; omega) | omega) ((i_x.ev Hv9).pick [] (by kernel_rfl)) a_y (List.length y) c_y y (by first | rfl | (simp; done) | (simp; omega) | omega) ((i_y.ev Hv9).pick [] (by kernel_rfl)) ((UInt16.toNat (m % (2000 : UInt16)) : Nat) : Int)) fun ac19 wo16 En20 Hv21 => ?_
 refine d_e [0,1,2,4,10,11,12,13] [] En20 fun ac22 En23 => ?_
 refine then_normal ?_
 refine wp_seq ?_
 refine region_from ?_
 refine d_k [0,1,2,10,11,12,13,30,31,32,35] [(4, g_i .u16 (Go.Dbr.u16_rem (x := n) (y := (2000 : UInt16)) rfl rfl)), (5, g_i .i64 (Go.Dbr.u16_to_i64 (x := n % (2000 : UInt16)) rfl))] 6 En23 fun ac24 En25 => ?_
 refine f_o ?_
 refine c_p En25 Hv21 (exp_bad0 _ h hh a_x (List.length x) c_x x (by first | rfl | (simp; done) | (simp; omega) | omega) ((i_x.ev Hv21).pick [] (by kernel_rfl)) a_y (List.length y) c_y y (by first | rfl | (simp; done) | (simp; omega) | omega) ((i_y.ev Hv21).pick [] (by kernel_rfl)) ((UInt16.toNat (n % (2000 : UInt16)) : Nat) : Int)) fun ac31 wo28 En32 Hv33 => ?_
 refine d_e [0,1,2,10,11,12,13,14,15] [] En32 fun ac34 En35 => ?_
 refine then_normal ?_
 refine d_s [0,1,2,10,11,12,13,14,15,16] [(4, g_i .i64 (show (if (0 : Int) < (0 : Int) then (0 : Int) else (0 : Int)) = ((0 : Nat) : Int) from rfl))] En35 fun ac36 En37 => ?_
 refine wp_seq ?_
 refine region_from ?_
 refine d_k [0,1,2,10,11,12,13,14,15,16,44,45] [] 2 En37 fun ac38 En39 => ?_
 refine f_o ?_
 refine c_p En39 Hv33 (extract_nil _ h hh none 0 0 [] (by first | rfl | (simp; done) | (simp; omega) | omega) (InB.nil _ _) a_x (List.length x) c_x x (by first | rfl | (simp; done) | (simp; omega) | omega) ((i_x.ev Hv33).pick [] (by kernel_rfl))) fun ac45 wo42 En46 Hv47 => ?_
 refine d_e [0,1,2,10,11,12,13,14,15,16,17] [] En46 fun ac48 En49 => ?_
 refine then_normal ?_
 refine wp_seq ?_
 refine r_c (fun ac wo => Env ac 76 [(0, .int .i64 h), (1, .slice a_x (List.length x) c_x), (2, .slice a_y (List.length y) c_y), (10, .bool true), (12, .slice none 0 0), (14, .slice none 0 0)] ∧ Ev w [] wo []) ?_ ?_
 ·
  refine h_s (fun wv => Ev w [] wv []) [] 30 ?_
  have wo50 := Hv47.trans (Ev.drew Hv47.heap)
  refine q_s [0,1,2,3,4,5,6,7,8,9] [(4, g_b (show (true) = true from (by rfl)))] 20 En49 (wo50.pk []) fun ac161 En162 => ?_
  refine q_r 10 (s := convert 23 9 (.slice none 0 0)) (v := .string (bstr [])) En162 (fun w hS => run_str2 (e := 5) (bs := []) rfl (by kernel_rfl) (by kernel_rfl) (by kernel_rfl) (rfl : bys [] = []) (fun _ => rfl)) (wo50.pk []) fun ac163 En164 => ?_
  refine q_s [11,12,13] [] 16 En164 (wo50.pk []) fun ac165 En166 => ?_
  refine q_r 14 (s := convert 23 9 (.slice none 0 0)) (v := .string (bstr [])) En166 (fun w hS => run_str2 (e := 5) (bs := []) rfl (by kernel_rfl) (by kernel_rfl) (by kernel_rfl) (rfl : bys [] = []) (fun _ => rfl)) (wo50.pk []) fun ac167 En168 => ?_
  refine q_s [15,16,17,18] [(15, g_v (show (.bool (ByteArray.toList (bstr []) == ByteArray.toList (bstr [])) : Value) = .bool true by rw [Go.Dbr.bstr_eq [] [], show ([] == []) = true from (by simp; done)] <;> rfl))] 11 En168 (wo50.pk []) fun ac169 En170 => ?_
  refine q_r 19 (s := convert 23 9 (.slice none 0 0)) (v := .string (bstr [])) En170 (fun w hS => run_str2 (e := 5) (bs := []) rfl (by kernel_rfl) (by kernel_rfl) (by kernel_rfl) (rfl : bys [] = []) (fun _ => rfl)) (wo50.pk []) fun ac171 En172 => ?_
  refine q_s [20,21,22,24] [] 6 En172 (wo50.pk []) fun ac173 En174 => ?_
  refine q_t 23 ?_
  refine op_makeslice (d := some 70) (t := 23) (T := 5) (m := 0) (kl := .i64) (kc := .i64) (z := .int .u8 0) (bytes := 1) En174 (by kernel_rfl) wo50 (by kernel_rfl) (by kernel_rfl) (by kernel_rfl) (by omega) (by unfold maxLen; omega) ?_
  intro ac176 wo177 bk175 En178 Hv179
  rw [show List.replicate 0 (Value.int .u8 0) = bys (List.replicate 0 0) from (bys_replicate _).symm] at Hv179
  refine ⟨fun _ => Hv179.pk [], ?_⟩
  refine q_t 25 ?_
  refine c_p En178 Hv179 (extract_nil _ h hh (some ⟨bk175, 0, none⟩) 0 0 (List.replicate 0 0) (by first | rfl | (simp; done) | (simp; omega) | omega) (bys_in Hv179.heap (k := 0) rfl [] (by kernel_rfl) rfl (by first | omega | (simp; done) | (simp; omega))) a_x (List.length x) c_x x (by first | rfl | (simp; done) | (simp; omega) | omega) ((i_x.ev Hv179).pick [] (by kernel_rfl))) fun ac185 wo182 En186 Hv187 => ?_
  refine ⟨fun _ => Hv187.pk [], ?_⟩
  refine q_r 26 (s := convert 23 9 (.slice none 0 0)) (v := .string (bstr [])) En186 (fun w hS => run_str2 (e := 5) (bs := []) rfl (by kernel_rfl) (by kernel_rfl) (by kernel_rfl) (rfl : bys [] = []) (fun _ => rfl)) (Hv187.pk []) fun ac188 En189 => ?_
  refine q_s [27,28,29] [(27, g_v (show (.bool (ByteArray.toList (bstr []) == ByteArray.toList (bstr [])) : Value) = .bool true by rw [Go.Dbr.bstr_eq [] [], show ([] == []) = true from (by simp; done)] <;> rfl))] 0 En189 (Hv187.pk []) fun ac190 En191 => ?_
  exact h_e ⟨En191.sb, Hv187.pk []⟩
 rintro ac192 wo193 ⟨En194, Hv195⟩
 refine then_normal ?_
 refine wp_ret ?_
 refine d_ret1 (t := 10) (v := .bool true) En194 (by kernel_rfl) (by kernel_rfl) ?_
 exact ⟨rfl, Hv195.pk []⟩

theorem begins_walk (h : Int) (a_x : Option Addr) (c_x : Nat) (x : List UInt8) (a_y : Option Addr) (c_y : Nat) (y : List UInt8) (m : UInt16) (n : UInt16) (w : World) (b_h : (-9223372036854775808 ≤ h ∧ h ≤ 9223372036854775807)) (i_x : InB w [] a_x c_x x) (i_y : InB w [] a_y c_y y) (gk32 : InU32 w [] (some ⟨0, 0, none⟩) 64 K32) (gk64 : InU64 w [] (some ⟨1, 0, none⟩) 80 K64) : Calls Tryd.prog 11 #[.int .i64 h, .slice a_x (List.length x) c_x, .slice a_y (List.length y) c_y, uv16 m, uv16 n] w fun e w' => e = .returned (.bool true) ∧ Ev w [] w' [] := by
  by_cases hh : h = 1 ∨ h = 2 ∨ h = 3
  · exact begins_ok h a_x c_x x a_y c_y y m n w b_h i_x i_y hh gk32 gk64
  · exact begins_bad0 h a_x c_x x a_y c_y y m n w b_h i_x i_y hh gk32 gk64

end Go.Proofs.YtbpihljkkkeijaaDoor
