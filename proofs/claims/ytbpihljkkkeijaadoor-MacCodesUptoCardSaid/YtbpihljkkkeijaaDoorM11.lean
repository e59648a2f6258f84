/- MacCodes: its walk. -/
import Derived.Test.YtbpihljkkkeijaaDoorM6
import Derived.Test.YtbpihljkkkeijaaDoorGlob
namespace Go.Proofs.YtbpihljkkkeijaaDoor
open Go.Dbr
set_option maxRecDepth 100000
set_option maxHeartbeats 2000000
set_option linter.unusedVariables false
set_option linter.unusedSimpArgs false

theorem flat_len_le : ∀ (l : List (Sl UInt8)), (l.flatMap fun s => s.l).length ≤ (l.map fun x => x.l.length + 1).sum
  | [] => Nat.le_refl _
  | x :: r => by
    have := flat_len_le r
    rw [List.flatMap_cons, List.length_append, List.map_cons, List.sum_cons]
    omega
theorem flat_take_le (l : List (Sl UInt8)) (i : Nat) : ((l.take i).flatMap fun s => s.l).length ≤ (l.map fun x => x.l.length + 1).sum := by
  have h : l.flatMap (fun s => s.l) = (l.take i).flatMap (fun s => s.l) ++ (l.drop i).flatMap (fun s => s.l) := by rw [← List.flatMap_append, List.take_append_drop]
  have h2 := flat_len_le l
  rw [h, List.length_append] at h2
  omega

theorem codes_ok (h : Int) (a_x : Option Addr) (c_x : Nat) (x : List UInt8) (a_l : Option Addr) (c_l : Nat) (l : List (Sl UInt8)) (w : World) (b_h : (-9223372036854775808 ≤ h ∧ h ≤ 9223372036854775807)) (i_x : InB w [] a_x c_x x) (i_l : InS (fun s : Sl UInt8 => s.f) 24 (fun x : Sl UInt8 => InB w [] x.a x.c x.l) w [] a_l c_l l) (hB : (List.length x) + ((List.map (fun x => List.length x.l + 1) l).sum) ≤ 1048576) (hh : (h = 1 ∨ h = 2 ∨ h = 3)) (gk32 : InU32 w [] (some ⟨0, 0, none⟩) 64 K32) (gk64 : InU64 w [] (some ⟨1, 0, none⟩) 80 K64) : Calls Tryd.prog 7 #[.int .i64 h, .slice a_x (List.length x) c_x, .slice a_l (List.length l) c_l] w fun e w' => e = .returned (.bool true) ∧ Ev w [] w' [] := by
 have hsx := i_x.small
 have hcx := i_x.cap
 have hsl2 := i_l.small
 have hcl := i_l.cap
 refine d_0 [(0, .int .i64 h), (1, .slice a_x (List.length x) c_x), (2, .slice a_l (List.length l) c_l)] 61 Go.Proofs.Tryd.func7 Go.Proofs.Tryd.ntmps7 (Heap.nil _) fun act0 En0 Hv0 => ?_
 refine wp_seq ?_
 refine d_r [0,1,2,6] [] En0 fun ac1 En2 => ?_
 refine then_normal ?_
 refine wp_seq ?_
 refine region_from ?_
 refine f_o ?_
 refine c_p En2 Hv0 (head6_ok _ ((gk32.ev Hv0).pick [] (by kernel_rfl)) ((gk64.ev Hv0).pick [] (by kernel_rfl))) fun ac7 wo4 En8 Hv9 => ?_
 refine d_e [0,1,2,6,7] [] En8 fun ac10 En11 => ?_
 refine then_normal ?_
 refine wp_seq ?_
 refine d_r [0,1,2,6,7,8] [] En11 fun ac12 En13 => ?_
 refine then_normal ?_
 refine wp_seq ?_
 refine wp_seq ?_
 refine d_r [0,1,2,6,7,8,9] [] En13 fun ac14 En15 => ?_
 refine then_normal ?_
 refine wp_block ?_
 have Hv16 := Ev.nil (sz := 1) (T := 5) Hv9
 refine loop_m (fun ms17 ac wo => ∃ (i : Nat) (a1 : Option Addr) (c1 : Nat), ms17 = (List.length l - i : Nat) ∧ Env ac 61 [(0, .int .i64 h), (1, .slice a_x (List.length x) c_x), (2, .slice a_l (List.length l) c_l), (6, .bool false), (7, .bool true), (8, .slice a1 (List.length (List.flatMap (fun s : Sl UInt8 => s.l) (List.take i l))) c1), (9, ni i)] ∧ Ev w [] wo [.vec a1 c1 1 (bys (List.flatMap (fun s : Sl UInt8 => s.l) (List.take i l))) 5] ∧ (i ≤ List.length l)) ⟨_, 0, none, 0, rfl, En15.sb, Hv16.pk [0], by omega⟩ ?_
 rintro mm23 ac19 wo20 ⟨i, a1, c1, rfl, En21, Hv22, hi⟩
 refine wp_seq ?_
 refine wp_seq ?_
 refine d_r [0,1,2,6,7,8,9,16] [] En21 fun ac24 En25 => ?_
 refine then_normal ?_
 refine c_d (((i : Nat) : Int) < ((List.length l : Nat) : Int)) En25 (fun hc26 => ?_) (fun hc26 => ?_)
 ·
  refine wp_skip ?_
  refine then_normal ?_
  refine wp_seq ?_
  refine wp_block ?_
  have hb29 : i < List.length l := (by omega)
  obtain ⟨adr27, had28⟩ := some_of i_l.nz hb29
  have hb30 : i < List.length l := by omega
  obtain ⟨⟨a_x32, c_x32, x32⟩, hx31⟩ : ∃ x, (l)[i]? = some x := ⟨_, List.getElem?_eq_getElem hb30⟩
  obtain i_x32 := i_l.each _ (List.mem_of_getElem? hx31)
  replace i_x32 : InB w [] a_x32 c_x32 x32 := i_x32
  refine region_from ?_
  refine d_k [0,1,2,6,7,8,9,19,20,21] [] 3 En25 fun ac33 En34 => ?_
  refine f_o ?_
  refine q_v (x := Instr.indexAt 30 (.slice a_l (List.length l) c_l) (ni i)) (v := .pointer (some (Addr.add adr27 i))) En34 (Go.Dbr.run_indexsl (e := 23) (sz := 1) (j := i) (jo := i) had28 (by kernel_rfl) (by kernel_rfl) (by omega) hb29 (Nat.mul_one _) _) fun ac35 En36 => ?_
  refine f_o ?_
  refine op_loadf (d := some 23) (t := 23) (ad := adr27) (ao := a_l) (ys := List.flatMap (fun s : Sl UInt8 => s.f) l) (o := i) (v := .slice a_x32 (List.length x32) c_x32) En36 (by kernel_rfl) rfl (i_l.ro.ev Hv22).reads had28 ((flat_get1 (fun _ _ => rfl) hx31).trans rfl) (by kernel_rfl) ?_
  intro ac37 En38
  refine f_o ?_
  have hsm39 := i_x32.small
  have hfi := flat_take_le l i
  have hxs := flat_take_le l (i + 1)
  rw [flat_take_succ hx31, List.length_append] at hxs
  simp only at hxs
  refine op_append (d := some 24) (t := 23) (tx := 23) (ty := 23) (k := 0) (p := List.length (List.flatMap (fun s : Sl UInt8 => s.l) (List.take i l))) (m := List.length x32) (x := .slice a_x32 (List.length x32) c_x32) (bytes := 1) En38 (by kernel_rfl) Hv22 rfl (bys_len _) (Reads.src (size := 1) (tx := 23) (e' := 5) (by kernel_rfl) (i_x32.ev Hv22).reads (bys_len _) i_x32.nz (bys_one _)) (by kernel_rfl) (z := .int .u8 0) (by kernel_rfl) rfl (by decide) (by omega) (by unfold maxLen; omega) ?_
  intro ac44 wo45 ao40 cp41 En46 Hv47 hnz _
  clear hnz
  rw [← bys_append] at Hv47
  have ehz42 : (List.length (List.flatMap (fun s : Sl UInt8 => s.l) (List.take i l))) + (List.length x32) = List.length ((List.flatMap (fun s : Sl UInt8 => s.l) (List.take i l)) ++ x32) := (by first | (simp; done) | (simp; omega) | omega)
  rw [ehz42] at En46
  refine d_e [0,1,2,6,7,8,9] [] En46 fun ac48 En49 => ?_
  refine block_normal ?_
  refine then_normal ?_
  refine d_r [0,1,2,6,7,8,9] [(1, g_n (w_a i 1))] En49 fun ac50 En51 => ?_
  refine then_normal ?_
  have hfs : (List.flatMap (fun s : Sl UInt8 => s.l) (List.take (i + 1) l)) = (List.flatMap (fun s : Sl UInt8 => s.l) (List.take i l)) ++ x32 := by rw [flat_take_succ hx31]
  rw [← hfs] at Hv47
  have En52 := Env.fx (t := 8) (v := .slice ao40 (List.length ((List.flatMap (fun s : Sl UInt8 => s.l) (List.take i l)) ++ x32)) cp41) (u := .slice ao40 (List.length (List.flatMap (fun s : Sl UInt8 => s.l) (List.take (i + 1) l))) cp41) En51 (by rw [hfs])
  refine ⟨_, ⟨i + 1, ao40, cp41, rfl, En52.sb, Hv47.pk [0], by omega⟩, ?_⟩
  omega
 ·
  refine wp_exit ?_
  refine then_exit ?_
  refine then_exit ?_
  refine block_exit ?_
  refine then_normal ?_
  refine wp_seq ?_
  have hil : i = List.length l := by omega
  have hae : (List.flatMap (fun s : Sl UInt8 => s.l) (List.take i l)) = (List.flatMap (fun s : Sl UInt8 => s.l) l) := by rw [hil, List.take_length]
  have hfl := flat_len_le l
  rw [hae] at Hv22
  have En53 := Env.fx (t := 8) (v := .slice a1 (List.length (List.flatMap (fun s : Sl UInt8 => s.l) (List.take i l))) c1) (u := .slice a1 (List.length (List.flatMap (fun s : Sl UInt8 => s.l) l)) c1) En25 (by rw [hae])
  refine region_from ?_
  refine f_o ?_
  refine op_lit (d := some 25) (t := 23) (T := 5) (m := 0) (parts := #[]) (xs := bys []) (sz := 1) En53 (by kernel_rfl) (by kernel_rfl) rfl (by decide) Hv22 ?_
  intro ac55 wo56 bk54 En57 Hv58
  refine d_k [0,1,2,6,7,8,9,25,26] [] 2 En57 fun ac59 En60 => ?_
  refine f_o ?_
  have hsm61 := i_x.small
  refine op_append (d := some 27) (t := 23) (tx := 23) (ty := 23) (k := 1) (p := 0) (m := List.length x) (x := .slice a_x (List.length x) c_x) (bytes := 1) En60 (by kernel_rfl) Hv58 rfl rfl (Reads.src (size := 1) (tx := 23) (e' := 5) (by kernel_rfl) (i_x.ev Hv58).reads (bys_len _) i_x.nz (bys_one _)) (by kernel_rfl) (z := .int .u8 0) (by kernel_rfl) rfl (by decide) (by omega) (by unfold maxLen; omega) ?_
  intro ac66 wo67 ao62 cp63 En68 Hv69 hnz _
  clear hnz
  rw [bys_nil_append] at Hv69
  have ehz64 : 0 + (List.length x) = List.length x := (by first | (simp; done) | (simp; omega) | omega)
  rw [ehz64] at En68
  refine d_e [0,1,2,6,7,8,9,10] [] En68 fun ac70 En71 => ?_
  refine then_normal ?_
  refine wp_seq ?_
  refine region_from ?_
  refine d_k [0,1,2,6,7,8,9,10,28,29,30] [] 3 En71 fun ac72 En73 => ?_
  refine f_o ?_
  refine c_0 En73 Hv69 (macof_go _ h hh ao62 (List.length x) cp63 x (by first | rfl | (simp; done) | (simp; omega) | omega) (bys_in Hv69.heap (k := 1) rfl [] (by kernel_rfl) rfl (by first | omega | (simp; done) | (simp; omega))) a_l (List.length l) c_l l (by first | rfl | (simp; done) | (simp; omega) | omega) (i_l.go Hv69 [] (by kernel_rfl) (fun _ h => (InB.ev h Hv69).pick [] (by kernel_rfl))) ((gk32.ev Hv69).pick [] (by kernel_rfl)) ((gk64.ev Hv69).pick [] (by kernel_rfl))) ?_
  rintro _ wo76 ⟨aoq74, coq74, rfl, he77⟩
  refine ⟨_, _, _, rfl, he77, rfl, fun ac79 En80 Hv81 => ?_⟩
  refine d_e [0,1,2,6,7,8,9,10,11] [] En80 fun ac82 En83 => ?_
  refine then_normal ?_
  refine wp_seq ?_
  refine r_c (fun ac wo => Env ac 61 [(0, .int .i64 h), (1, .slice a_x (List.length x) c_x), (2, .slice a_l (List.length l) c_l), (6, .bool true), (8, .slice a1 (List.length (List.flatMap (fun s : Sl UInt8 => s.l) l)) c1), (9, ni i), (10, .slice ao62 (List.length x) cp63)] ∧ Ev w [] wo [.vec a1 c1 1 (bys (List.flatMap (fun s : Sl UInt8 => s.l) l)) 5, .vec ao62 cp63 1 (bys x) 5]) ?_ ?_
  ·
   refine h_s (fun wv => Ev w [] wv [.vec aoq74 coq74 1 (bys (macF h x (List.flatMap (fun s : Sl UInt8 => s.l) l))) 5, .vec ao62 cp63 1 (bys x) 5]) [] 30 ?_
   have wo84 := Hv81.trans (Ev.drew Hv81.heap)
   refine q_s [0,1,2] [] 27 En83 (wo84.pk [0, 2]) fun ac262 En263 => ?_
   refine q_r 3 (s := convert 23 9 (.slice aoq74 (List.length (macF h x (List.flatMap (fun s : Sl UInt8 => s.l) l))) coq74)) (v := .string (bstr (macF h x (List.flatMap (fun s : Sl UInt8 => s.l) l)))) En263 (fun w hS => run_str2 (e := 5) (bs := macF h x (List.flatMap (fun s : Sl UInt8 => s.l) l)) rfl (by kernel_rfl) (by kernel_rfl) (by kernel_rfl) (hS.heap.reads (k := 0) rfl) (bys_vnz hS.heap (k := 0) rfl)) (wo84.pk [0, 2]) fun ac264 En265 => ?_
   refine q_s [4,5,6] [] 23 En265 (wo84.pk [0, 2]) fun ac266 En267 => ?_
   refine q_t 7 ?_
   refine c_0 En267 wo84 (refof_go _ h hh a_x (List.length x) c_x x (by first | rfl | (simp; done) | (simp; omega) | omega) ((i_x.ev wo84).pick [] (by kernel_rfl)) a1 (List.length (List.flatMap (fun s : Sl UInt8 => s.l) l)) c1 (List.flatMap (fun s : Sl UInt8 => s.l) l) (by first | rfl | (simp; done) | (simp; omega) | omega) (bys_in wo84.heap (k := 1) rfl [] (by kernel_rfl) rfl (by first | omega | (simp; done) | (simp; omega))) (by first | omega | (simp; omega))) ?_
   rintro _ wo270 ⟨aoq268, coq268, rfl, he271⟩
   refine ⟨_, _, _, rfl, he271, rfl, fun ac273 En274 Hv275 => ?_⟩
   refine ⟨fun _ => Hv275.pk [1, 3], ?_⟩
   refine q_t 8 ?_
   refine op_str (d := some 40) (src := 23) (dst := 9) (e := 5) (ao := aoq268) (cap := coq268) (p := List.length (macF h x (List.flatMap (fun s : Sl UInt8 => s.l) l))) (bs := macF h x (List.flatMap (fun s : Sl UInt8 => s.l) l)) En274 (by kernel_rfl) rfl (by kernel_rfl) (by kernel_rfl) (by kernel_rfl) (Hv275.heap.reads (k := 0) rfl) (bys_vnz Hv275.heap (k := 0) rfl) ?_
   intro ac276 En277
   refine ⟨fun _ => Hv275.pk [1, 3], ?_⟩
   refine q_s [9,10,11,12,13,14,18] [(9, g_v (show (.bool (ByteArray.toList (bstr (macF h x (List.flatMap (fun s : Sl UInt8 => s.l) l))) == ByteArray.toList (bstr (macF h x (List.flatMap (fun s : Sl UInt8 => s.l) l)))) : Value) = .bool true by rw [Go.Dbr.bstr_eq (macF h x (List.flatMap (fun s : Sl UInt8 => s.l) l)) (macF h x (List.flatMap (fun s : Sl UInt8 => s.l) l)), show ((macF h x (List.flatMap (fun s : Sl UInt8 => s.l) l)) == (macF h x (List.flatMap (fun s : Sl UInt8 => s.l) l))) = true from (by simp)] <;> rfl))] 14 En277 (Hv275.pk [1, 3]) fun ac278 En279 => ?_
   refine q_r 19 (s := convert 23 9 (.slice aoq74 (List.length (macF h x (List.flatMap (fun s : Sl UInt8 => s.l) l))) coq74)) (v := .string (bstr (macF h x (List.flatMap (fun s : Sl UInt8 => s.l) l)))) En279 (fun w hS => run_str2 (e := 5) (bs := macF h x (List.flatMap (fun s : Sl UInt8 => s.l) l)) rfl (by kernel_rfl) (by kernel_rfl) (by kernel_rfl) (hS.heap.reads (k := 0) rfl) (bys_vnz hS.heap (k := 0) rfl)) (Hv275.pk [1, 3]) fun ac280 En281 => ?_
   refine q_t 15 ?_
   refine op_lit (d := some 47) (t := 30) (T := 23) (m := 1) (parts := #[(0, .slice a1 (List.length (List.flatMap (fun s : Sl UInt8 => s.l) l)) c1)]) (xs := [.slice a1 (List.length (List.flatMap (fun s : Sl UInt8 => s.l) l)) c1]) (sz := 1) En281 (by kernel_rfl) (by kernel_rfl) rfl (by decide) Hv275 ?_
   intro ac283 wo284 bk282 En285 Hv286
   refine ⟨fun _ => Hv286.pk [1, 3], ?_⟩
   refine q_t 16 ?_
   refine c_0 En285 Hv286 (macof_go _ h hh a_x (List.length x) c_x x (by first | rfl | (simp; done) | (simp; omega) | omega) ((i_x.ev Hv286).pick [] (by kernel_rfl)) (some ⟨bk282, 0, none⟩) 1 1 ([⟨a1, c1, (List.flatMap (fun s : Sl UInt8 => s.l) l)⟩] : List (Sl UInt8)) (by first | rfl | (simp; done) | (simp; omega) | omega) ⟨Hv286.heap.ro (k := 4) rfl [] (by kernel_rfl) rfl, (fun e => by cases e), (by simp), (by simp), (List.forall_mem_cons.2 ⟨(bys_in Hv286.heap (k := 2) rfl [] (by kernel_rfl) rfl (by first | decide | (dsimp only; omega) | (simp; done) | (simp; omega) | omega)), (fun x h => absurd h List.not_mem_nil)⟩)⟩ ((gk32.ev Hv286).pick [] (by kernel_rfl)) ((gk64.ev Hv286).pick [] (by kernel_rfl))) ?_
   rintro _ wo289 ⟨aoq287, coq287, rfl, he290⟩
   refine ⟨_, _, _, rfl, he290, rfl, fun ac292 En293 Hv294 => ?_⟩
   refine ⟨fun _ => Hv294.pk [2, 4], ?_⟩
   refine q_t 17 ?_
   refine op_str (d := some 49) (src := 23) (dst := 9) (e := 5) (ao := aoq287) (cap := coq287) (p := List.length (macF h x (List.flatMap (fun s : Sl UInt8 => s.l) ([⟨a1, c1, (List.flatMap (fun s : Sl UInt8 => s.l) l)⟩] : List (Sl UInt8))))) (bs := macF h x (List.flatMap (fun s : Sl UInt8 => s.l) ([⟨a1, c1, (List.flatMap (fun s : Sl UInt8 => s.l) l)⟩] : List (Sl UInt8)))) En293 (by kernel_rfl) rfl (by kernel_rfl) (by kernel_rfl) (by kernel_rfl) (Hv294.heap.reads (k := 0) rfl) (bys_vnz Hv294.heap (k := 0) rfl) ?_
   intro ac295 En296
   refine ⟨fun _ => Hv294.pk [2, 4], ?_⟩
   refine q_s [20,21,22,23] [(20, g_v (show (.bool (ByteArray.toList (bstr (macF h x (List.flatMap (fun s : Sl UInt8 => s.l) ([⟨a1, c1, (List.flatMap (fun s : Sl UInt8 => s.l) l)⟩] : List (Sl UInt8))))) == ByteArray.toList (bstr (macF h x (List.flatMap (fun s : Sl UInt8 => s.l) l)))) : Value) = .bool true by rw [Go.Dbr.bstr_eq (macF h x (List.flatMap (fun s : Sl UInt8 => s.l) ([⟨a1, c1, (List.flatMap (fun s : Sl UInt8 => s.l) l)⟩] : List (Sl UInt8)))) (macF h x (List.flatMap (fun s : Sl UInt8 => s.l) l)), show ((macF h x (List.flatMap (fun s : Sl UInt8 => s.l) ([⟨a1, c1, (List.flatMap (fun s : Sl UInt8 => s.l) l)⟩] : List (Sl UInt8)))) == (macF h x (List.flatMap (fun s : Sl UInt8 => s.l) l))) = true from (by simp)] <;> rfl))] 6 En296 (Hv294.pk [2, 4]) fun ac297 En298 => ?_
   refine q_r 24 (s := convert 23 9 (.slice ao62 (List.length x) cp63)) (v := .string (bstr x)) En298 (fun w hS => run_str2 (e := 5) (bs := x) rfl (by kernel_rfl) (by kernel_rfl) (by kernel_rfl) (hS.heap.reads (k := 1) rfl) (bys_vnz hS.heap (k := 1) rfl)) (Hv294.pk [2, 4]) fun ac299 En300 => ?_
   refine q_s [25] [] 4 En300 (Hv294.pk [2, 4]) fun ac301 En302 => ?_
   refine q_r 26 (s := convert 23 9 (.slice a_x (List.length x) c_x)) (v := .string (bstr x)) En302 (fun w hS => run_str2 (e := 5) (bs := x) rfl (by kernel_rfl) (by kernel_rfl) (by kernel_rfl) (i_x.ev hS).reads i_x.nz) (Hv294.pk [2, 4]) fun ac303 En304 => ?_
   refine q_s [27,28,29] [(27, g_v (show (.bool (ByteArray.toList (bstr x) == ByteArray.toList (bstr x)) : Value) = .bool true by rw [Go.Dbr.bstr_eq x x, show (x == x) = true from (by simp)] <;> rfl))] 0 En304 (Hv294.pk [2, 4]) fun ac305 En306 => ?_
   exact h_e ⟨En306.sb, Hv294.pk [3, 4]⟩
  rintro ac307 wo308 ⟨En309, Hv310⟩
  refine then_normal ?_
  refine wp_ret ?_
  refine d_ret1 (t := 6) (v := .bool true) En309 (by kernel_rfl) (by kernel_rfl) ?_
  exact ⟨rfl, Hv310.pk []⟩

theorem codes_bad (h : Int) (a_x : Option Addr) (c_x : Nat) (x : List UInt8) (a_l : Option Addr) (c_l : Nat) (l : List (Sl UInt8)) (w : World) (b_h : (-9223372036854775808 ≤ h ∧ h ≤ 9223372036854775807)) (i_x : InB w [] a_x c_x x) (i_l : InS (fun s : Sl UInt8 => s.f) 24 (fun x : Sl UInt8 => InB w [] x.a x.c x.l) w [] a_l c_l l) (hB : (List.length x) + ((List.map (fun x => List.length x.l + 1) l).sum) ≤ 1048576) (hh : ¬ (h = 1 ∨ h = 2 ∨ h = 3)) (gk32 : InU32 w [] (some ⟨0, 0, none⟩) 64 K32) (gk64 : InU64 w [] (some ⟨1, 0, none⟩) 80 K64) : Calls Tryd.prog 7 #[.int .i64 h, .slice a_x (List.length x) c_x, .slice a_l (List.length l) c_l] w fun e w' => e = .returned (.bool true) ∧ Ev w [] w' [] := by
 have hsx := i_x.small
 have hcx := i_x.cap
 have hsl2 := i_l.small
 have hcl := i_l.cap
 refine d_0 [(0, .int .i64 h), (1, .slice a_x (List.length x) c_x), (2, .slice a_l (List.length l) c_l)] 61 Go.Proofs.Tryd.func7 Go.Proofs.Tryd.ntmps7 (Heap.nil _) fun act0 En0 Hv0 => ?_
 refine wp_seq ?_
 refine d_r [0,1,2,6] [] En0 fun ac1 En2 => ?_
 refine then_normal ?_
 refine wp_seq ?_
 refine region_from ?_
 refine f_o ?_
 refine c_p En2 Hv0 (head6_ok _ ((gk32.ev Hv0).pick [] (by kernel_rfl)) ((gk64.ev Hv0).pick [] (by kernel_rfl))) fun ac7 wo4 En8 Hv9 => ?_
 refine d_e [0,1,2,6,7] [] En8 fun ac10 En11 => ?_
 refine then_normal ?_
 refine wp_seq ?_
 refine d_r [0,1,2,6,7,8] [] En11 fun ac12 En13 => ?_
 refine then_normal ?_
 refine wp_seq ?_
 refine wp_seq ?_
 refine d_r [0,1,2,6,7,8,9] [] En13 fun ac14 En15 => ?_
 refine then_normal ?_
 refine wp_block ?_
 have Hv16 := Ev.nil (sz := 1) (T := 5) Hv9
 refine loop_m (fun ms17 ac wo => ∃ (i : Nat) (a1 : Option Addr) (c1 : Nat), ms17 = (List.length l - i : Nat) ∧ Env ac 61 [(0, .int .i64 h), (1, .slice a_x (List.length x) c_x), (2, .slice a_l (List.length l) c_l), (6, .bool false), (7, .bool true), (8, .slice a1 (List.length (List.flatMap (fun s : Sl UInt8 => s.l) (List.take i l))) c1), (9, ni i)] ∧ Ev w [] wo [.vec a1 c1 1 (bys (List.flatMap (fun s : Sl UInt8 => s.l) (List.take i l))) 5] ∧ (i ≤ List.length l)) ⟨_, 0, none, 0, rfl, En15.sb, Hv16.pk [0], by omega⟩ ?_
 rintro mm23 ac19 wo20 ⟨i, a1, c1, rfl, En21, Hv22, hi⟩
 refine wp_seq ?_
 refine wp_seq ?_
 refine d_r [0,1,2,6,7,8,9,16] [] En21 fun ac24 En25 => ?_
 refine then_normal ?_
 refine c_d (((i : Nat) : Int) < ((List.length l : Nat) : Int)) En25 (fun hc26 => ?_) (fun hc26 => ?_)
 ·
  refine wp_skip ?_
  refine then_normal ?_
  refine wp_seq ?_
  refine wp_block ?_
  have hb29 : i < List.length l := (by omega)
  obtain ⟨adr27, had28⟩ := some_of i_l.nz hb29
  have hb30 : i < List.length l := by omega
  obtain ⟨⟨a_x32, c_x32, x32⟩, hx31⟩ : ∃ x, (l)[i]? = some x := ⟨_, List.getElem?_eq_getElem hb30⟩
  obtain i_x32 := i_l.each _ (List.mem_of_getElem? hx31)
  replace i_x32 : InB w [] a_x32 c_x32 x32 := i_x32
  refine region_from ?_
  refine d_k [0,1,2,6,7,8,9,19,20,21] [] 3 En25 fun ac33 En34 => ?_
  refine f_o ?_
  refine q_v (x := Instr.indexAt 30 (.slice a_l (List.length l) c_l) (ni i)) (v := .pointer (some (Addr.add adr27 i))) En34 (Go.Dbr.run_indexsl (e := 23) (sz := 1) (j := i) (jo := i) had28 (by kernel_rfl) (by kernel_rfl) (by omega) hb29 (Nat.mul_one _) _) fun ac35 En36 => ?_
  refine f_o ?_
  refine op_loadf (d := some 23) (t := 23) (ad := adr27) (ao := a_l) (ys := List.flatMap (fun s : Sl UInt8 => s.f) l) (o := i) (v := .slice a_x32 (List.length x32) c_x32) En36 (by kernel_rfl) rfl (i_l.ro.ev Hv22).reads had28 ((flat_get1 (fun _ _ => rfl) hx31).trans rfl) (by kernel_rfl) ?_
  intro ac37 En38
  refine f_o ?_
  have hsm39 := i_x32.small
  have hfi := flat_take_le l i
  have hxs := flat_take_le l (i + 1)
  rw [flat_take_succ hx31, List.length_append] at hxs
  simp only at hxs
  refine op_append (d := some 24) (t := 23) (tx := 23) (ty := 23) (k := 0) (p := List.length (List.flatMap (fun s : Sl UInt8 => s.l) (List.take i l))) (m := List.length x32) (x := .slice a_x32 (List.length x32) c_x32) (bytes := 1) En38 (by kernel_rfl) Hv22 rfl (bys_len _) (Reads.src (size := 1) (tx := 23) (e' := 5) (by kernel_rfl) (i_x32.ev Hv22).reads (bys_len _) i_x32.nz (bys_one _)) (by kernel_rfl) (z := .int .u8 0) (by kernel_rfl) rfl (by decide) (by omega) (by unfold maxLen; omega) ?_
  intro ac44 wo45 ao40 cp41 En46 Hv47 hnz _
  clear hnz
  rw [← bys_append] at Hv47
  have ehz42 : (List.length (List.flatMap (fun s : Sl UInt8 => s.l) (List.take i l))) + (List.length x32) = List.length ((List.flatMap (fun s : Sl UInt8 => s.l) (List.take i l)) ++ x32) := (by first | (simp; done) | (simp; omega) | omega)
  rw [ehz42] at En46
  refine d_e [0,1,2,6,7,8,9] [] En46 fun ac48 En49 => ?_
  refine block_normal ?_
  refine then_normal ?_
  refine d_r [0,1,2,6,7,8,9] [(1, g_n (w_a i 1))] En49 fun ac50 En51 => ?_
  refine then_normal ?_
  have hfs : (List.flatMap (fun s : Sl UInt8 => s.l) (List.take (i + 1) l)) = (List.flatMap (fun s : Sl UInt8 => s.l) (List.take i l)) ++ x32 := by rw [flat_take_succ hx31]
  rw [← hfs] at Hv47
  have En52 := Env.fx (t := 8) (v := .slice ao40 (List.length ((List.flatMap (fun s : Sl UInt8 => s.l) (List.take i l)) ++ x32)) cp41) (u := .slice ao40 (List.length (List.flatMap (fun s : Sl UInt8 => s.l) (List.take (i + 1) l))) cp41) En51 (by rw [hfs])
  refine ⟨_, ⟨i + 1, ao40, cp41, rfl, En52.sb, Hv47.pk [0], by omega⟩, ?_⟩
  omega
 ·
  refine wp_exit ?_
  refine then_exit ?_
  refine then_exit ?_
  refine block_exit ?_
  refine then_normal ?_
  refine wp_seq ?_
  have hil : i = List.length l := by omega
  have hae : (List.flatMap (fun s : Sl UInt8 => s.l) (List.take i l)) = (List.flatMap (fun s : Sl UInt8 => s.l) l) := by rw [hil, List.take_length]
  have hfl := flat_len_le l
  rw [hae] at Hv22
  have En53 := Env.fx (t := 8) (v := .slice a1 (List.length (List.flatMap (fun s : Sl UInt8 => s.l) (List.take i l))) c1) (u := .slice a1 (List.length (List.flatMap (fun s : Sl UInt8 => s.l) l)) c1) En25 (by rw [hae])
  refine region_from ?_
  refine f_o ?_
  refine op_lit (d := some 25) (t := 23) (T := 5) (m := 0) (parts := #[]) (xs := bys []) (sz := 1) En53 (by kernel_rfl) (by kernel_rfl) rfl (by decide) Hv22 ?_
  intro ac55 wo56 bk54 En57 Hv58
  refine d_k [0,1,2,6,7,8,9,25,26] [] 2 En57 fun ac59 En60 => ?_
  refine f_o ?_
  have hsm61 := i_x.small
  refine op_append (d := some 27) (t := 23) (tx := 23) (ty := 23) (k := 1) (p := 0) (m := List.length x) (x := .slice a_x (List.length x) c_x) (bytes := 1) En60 (by kernel_rfl) Hv58 rfl rfl (Reads.src (size := 1) (tx := 23) (e' := 5) (by kernel_rfl) (i_x.ev Hv58).reads (bys_len _) i_x.nz (bys_one _)) (by kernel_rfl) (z := .int .u8 0) (by kernel_rfl) rfl (by decide) (by omega) (by unfold maxLen; omega) ?_
  intro ac66 wo67 ao62 cp63 En68 Hv69 hnz _
  clear hnz
  rw [bys_nil_append] at Hv69
  have ehz64 : 0 + (List.length x) = List.length x := (by first | (simp; done) | (simp; omega) | omega)
  rw [ehz64] at En68
  refine d_e [0,1,2,6,7,8,9,10] [] En68 fun ac70 En71 => ?_
  refine then_normal ?_
  refine wp_seq ?_
  refine region_from ?_
  refine d_k [0,1,2,6,7,8,9,10,28,29,30] [] 3 En71 fun ac72 En73 => ?_
  refine f_o ?_
  refine c_p En73 Hv69 (macof_nil _ h hh ao62 (List.length x) cp63 x (by first | rfl | (simp; done) | (simp; omega) | omega) (bys_in Hv69.heap (k := 1) rfl [] (by kernel_rfl) rfl (by first | omega | (simp; done) | (simp; omega))) a_l (List.length l) c_l l (by first | rfl | (simp; done) | (simp; omega) | omega) (i_l.go Hv69 [] (by kernel_rfl) (fun _ h => (InB.ev h Hv69).pick [] (by kernel_rfl)))) fun ac79 wo76 En80 Hv81 => ?_
  refine d_e [0,1,2,6,7,8,9,10,11] [] En80 fun ac82 En83 => ?_
  refine then_normal ?_
  refine wp_seq ?_
  refine r_c (fun ac wo => Env ac 61 [(0, .int .i64 h), (1, .slice a_x (List.length x) c_x), (2, .slice a_l (List.length l) c_l), (6, .bool true), (8, .slice a1 (List.length (List.flatMap (fun s : Sl UInt8 => s.l) l)) c1), (9, ni i), (10, .slice ao62 (List.length x) cp63)] ∧ Ev w [] wo [.vec a1 c1 1 (bys (List.flatMap (fun s : Sl UInt8 => s.l) l)) 5, .vec ao62 cp63 1 (bys x) 5]) ?_ ?_
  ·
   refine h_s (fun wv => Ev w [] wv [.vec ao62 cp63 1 (bys x) 5]) [] 30 ?_
   have wo84 := Hv81.trans (Ev.drew Hv81.heap)
   refine q_s [0,1,2] [] 27 En83 (wo84.pk [1]) fun ac262 En263 => ?_
   refine q_r 3 (s := convert 23 9 (.slice none 0 0)) (v := .string (bstr [])) En263 (fun w hS => run_str2 (e := 5) (bs := []) rfl (by kernel_rfl) (by kernel_rfl) (by kernel_rfl) (rfl : bys [] = []) (fun _ => rfl)) (wo84.pk [1]) fun ac264 En265 => ?_
   refine q_s [4,5,6] [] 23 En265 (wo84.pk [1]) fun ac266 En267 => ?_
   refine q_t 7 ?_
   refine c_p En267 wo84 (refof_nil _ h hh a_x (List.length x) c_x x (by first | rfl | (simp; done) | (simp; omega) | omega) ((i_x.ev wo84).pick [] (by kernel_rfl)) a1 (List.length (List.flatMap (fun s : Sl UInt8 => s.l) l)) c1 (List.flatMap (fun s : Sl UInt8 => s.l) l) (by first | rfl | (simp; done) | (simp; omega) | omega) (bys_in wo84.heap (k := 0) rfl [] (by kernel_rfl) rfl (by first | omega | (simp; done) | (simp; omega)))) fun ac273 wo270 En274 Hv275 => ?_
   refine ⟨fun _ => Hv275.pk [1], ?_⟩
   refine q_r 8 (s := convert 23 9 (.slice none 0 0)) (v := .string (bstr [])) En274 (fun w hS => run_str2 (e := 5) (bs := []) rfl (by kernel_rfl) (by kernel_rfl) (by kernel_rfl) (rfl : bys [] = []) (fun _ => rfl)) (Hv275.pk [1]) fun ac276 En277 => ?_
   refine q_s [9,10,11,12,13,14,18] [(9, g_v (show (.bool (ByteArray.toList (bstr []) == ByteArray.toList (bstr [])) : Value) = .bool true by rw [Go.Dbr.bstr_eq [] [], show ([] == []) = true from (by simp)] <;> rfl))] 14 En277 (Hv275.pk [1]) fun ac278 En279 => ?_
   refine q_r 19 (s := convert 23 9 (.slice none 0 0)) (v := .string (bstr [])) En279 (fun w hS => run_str2 (e := 5) (bs := []) rfl (by kernel_rfl) (by kernel_rfl) (by kernel_rfl) (rfl : bys [] = []) (fun _ => rfl)) (Hv275.pk [1]) fun ac280 En281 => ?_
   refine q_t 15 ?_
   refine op_lit (d := some 47) (t := 30) (T := 23) (m := 1) (parts := #[(0, .slice a1 (List.length (List.flatMap (fun s : Sl UInt8 => s.l) l)) c1)]) (xs := [.slice a1 (List.length (List.flatMap (fun s : Sl UInt8 => s.l) l)) c1]) (sz := 1) En281 (by kernel_rfl) (by kernel_rfl) rfl (by decide) Hv275 ?_
   intro ac283 wo284 bk282 En285 Hv286
   refine ⟨fun _ => Hv286.pk [1], ?_⟩
   refine q_t 16 ?_
   refine c_p En285 Hv286 (macof_nil _ h hh a_x (List.length x) c_x x (by first | rfl | (simp; done) | (simp; omega) | omega) ((i_x.ev Hv286).pick [] (by kernel_rfl)) (some ⟨bk282, 0, none⟩) 1 1 ([⟨a1, c1, (List.flatMap (fun s : Sl UInt8 => s.l) l)⟩] : List (Sl UInt8)) (by first | rfl | (simp; done) | (simp; omega) | omega) ⟨Hv286.heap.ro (k := 2) rfl [] (by kernel_rfl) rfl, (fun e => by cases e), (by simp), (by simp), (List.forall_mem_cons.2 ⟨(bys_in Hv286.heap (k := 0) rfl [] (by kernel_rfl) rfl (by first | decide | (dsimp only; omega) | (simp; done) | (simp; omega) | omega)), (fun x h => absurd h List.not_mem_nil)⟩)⟩) fun ac292 wo289 En293 Hv294 => ?_
   refine ⟨fun _ => Hv294.pk [1], ?_⟩
   refine q_r 17 (s := convert 23 9 (.slice none 0 0)) (v := .string (bstr [])) En293 (fun w hS => run_str2 (e := 5) (bs := []) rfl (by kernel_rfl) (by kernel_rfl) (by kernel_rfl) (rfl : bys [] = []) (fun _ => rfl)) (Hv294.pk [1]) fun ac295 En296 => ?_
   refine q_s [20,21,22,23] [(20, g_v (show (.bool (ByteArray.toList (bstr []) == ByteArray.toList (bstr [])) : Value) = .bool true by rw [Go.Dbr.bstr_eq [] [], show ([] == []) = true from (by simp)] <;> rfl))] 6 En296 (Hv294.pk [1]) fun ac297 En298 => ?_
   refine q_r 24 (s := convert 23 9 (.slice ao62 (List.length x) cp63)) (v := .string (bstr x)) En298 (fun w hS => run_str2 (e := 5) (bs := x) rfl (by kernel_rfl) (by kernel_rfl) (by kernel_rfl) (hS.heap.reads (k := 0) rfl) (bys_vnz hS.heap (k := 0) rfl)) (Hv294.pk [1]) fun ac299 En300 => ?_
   refine q_s [25] [] 4 En300 (Hv294.pk [1]) fun ac301 En302 => ?_
   refine q_r 26 (s := convert 23 9 (.slice a_x (List.length x) c_x)) (v := .string (bstr x)) En302 (fun w hS => run_str2 (e := 5) (bs := x) rfl (by kernel_rfl) (by kernel_rfl) (by kernel_rfl) (i_x.ev hS).reads i_x.nz) (Hv294.pk [1]) fun ac303 En304 => ?_
   refine q_s [27,28,29] [(27, g_v (show (.bool (ByteArray.toList (bstr x) == ByteArray.toList (bstr x)) : Value) = .bool true by rw [Go.Dbr.bstr_eq x x, show (x == x) = true from (by simp)] <;> rfl))] 0 En304 (Hv294.pk [1]) fun ac305 En306 => ?_
   exact h_e ⟨En306.sb, Hv294.pk [0, 1]⟩
  rintro ac307 wo308 ⟨En309, Hv310⟩
  refine then_normal ?_
  refine wp_ret ?_
  refine d_ret1 (t := 6) (v := .bool true) En309 (by kernel_rfl) (by kernel_rfl) ?_
  exact ⟨rfl, Hv310.pk []⟩

theorem codes_walk (h : Int) (a_x : Option Addr) (c_x : Nat) (x : List UInt8) (a_l : Option Addr) (c_l : Nat) (l : List (Sl UInt8)) (w : World) (b_h : (-9223372036854775808 ≤ h ∧ h ≤ 9223372036854775807)) (i_x : InB w [] a_x c_x x) (i_l : InS (fun s : Sl UInt8 => s.f) 24 (fun x : Sl UInt8 => InB w [] x.a x.c x.l) w [] a_l c_l l) (hB : (List.length x) + ((List.map (fun x => List.length x.l + 1) l).sum) ≤ 1048576) (gk32 : InU32 w [] (some ⟨0, 0, none⟩) 64 K32) (gk64 : InU64 w [] (some ⟨1, 0, none⟩) 80 K64) : Calls Tryd.prog 7 #[.int .i64 h, .slice a_x (List.length x) c_x, .slice a_l (List.length l) c_l] w fun e w' => e = .returned (.bool true) ∧ Ev w [] w' [] := by
  by_cases hh : h = 1 ∨ h = 2 ∨ h = 3
  · exact codes_ok h a_x c_x x a_l c_l l w b_h i_x i_l hB hh gk32 gk64
  · exact codes_bad h a_x c_x x a_l c_l l w b_h i_x i_l hB hh gk32 gk64

end Go.Proofs.YtbpihljkkkeijaaDoor
