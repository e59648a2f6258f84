/- MacSame: its walk. -/
import Derived.Test.YtbpihljkkkeijaaDoorM6
import Derived.Test.YtbpihljkkkeijaaDoorGlob
namespace Go.Proofs.YtbpihljkkkeijaaDoor
open Go.Dbr
set_option maxRecDepth 100000
set_option maxHeartbeats 2000000
set_option linter.unusedVariables false
set_option linter.unusedSimpArgs false

def edF (l : List UInt8) (at1 : UInt16) (x : UInt8) : List UInt8 := if 0 < l.length then List.set l (at1.toNat % l.length) (List.getD l (at1.toNat % l.length) 0 ^^^ x) else l
theorem edF_len (l : List UInt8) (at1 : UInt16) (x : UInt8) : (edF l at1 x).length = l.length := by unfold edF; split <;> simp

theorem msame_walk (a_a : Option Addr) (c_a : Nat) (a : List UInt8) (a_b : Option Addr) (c_b : Nat) (b : List UInt8) (m : UInt16) (y : UInt8) (w : World) (i_a : InB w [] a_a c_a a) (i_b : InB w [] a_b c_b b) (gk32 : InU32 w [] (some ⟨0, 0, none⟩) 64 K32) (gk64 : InU64 w [] (some ⟨1, 0, none⟩) 80 K64) : Calls Tryd.prog 9 #[.slice a_a (List.length a) c_a, .slice a_b (List.length b) c_b, uv16 m, bv y] w fun e w' => e = .returned (.bool true) ∧ Ev w [] w' [] := by
 have hsa := i_a.small
 have hsb := i_b.small
 have hca := i_a.cap
 have hcb := i_b.cap
 refine d_0 [(0, .slice a_a (List.length a) c_a), (1, .slice a_b (List.length b) c_b), (2, uv16 m), (3, bv y)] 63 Go.Proofs.Tryd.func9 Go.Proofs.Tryd.ntmps9 (Heap.nil _) fun act0 En0 Hv0 => ?_
 refine wp_seq ?_
 refine d_r [0,1,2,3,8] [] En0 fun ac1 En2 => ?_
 refine then_normal ?_
 refine wp_seq ?_
 refine region_from ?_
 refine f_o ?_
 refine c_p En2 Hv0 (head6_ok _ ((gk32.ev Hv0).pick [] (by kernel_rfl)) ((gk64.ev Hv0).pick [] (by kernel_rfl))) fun ac7 wo4 En8 Hv9 => ?_
 refine d_e [0,1,2,3,8,9] [] En8 fun ac10 En11 => ?_
 refine then_normal ?_
 refine wp_seq ?_
 refine region_from ?_
 refine f_o ?_
 refine op_lit (d := some 13) (t := 23) (T := 5) (m := 0) (parts := #[]) (xs := bys []) (sz := 1) En11 (by kernel_rfl) (by kernel_rfl) rfl (by decide) Hv9 ?_
 intro ac13 wo14 bk12 En15 Hv16
 refine d_k [0,1,2,3,8,9,13,14] [] 2 En15 fun ac17 En18 => ?_
 refine f_o ?_
 have hsm19 := i_a.small
 refine op_append (d := some 15) (t := 23) (tx := 23) (ty := 23) (k := 0) (p := 0) (m := List.length a) (x := .slice a_a (List.length a) c_a) (bytes := 1) En18 (by kernel_rfl) Hv16 rfl rfl (Reads.src (size := 1) (tx := 23) (e' := 5) (by kernel_rfl) (i_a.ev Hv16).reads (bys_len _) i_a.nz (bys_one _)) (by kernel_rfl) (z := .int .u8 0) (by kernel_rfl) rfl (by decide) (by omega) (by unfold maxLen; omega) ?_
 intro ac24 wo25 ao20 cp21 En26 Hv27 hnz _
 clear hnz
 rw [bys_nil_append] at Hv27
 have ehz22 : 0 + (List.length a) = List.length a := (by first | (simp; done) | (simp; omega) | omega)
 rw [ehz22] at En26
 refine d_e [0,1,2,3,8,9,10] [] En26 fun ac28 En29 => ?_
 refine then_normal ?_
 refine wp_seq ?_
 refine wp_seq ?_
 refine d_r [0,1,2,3,8,9,10,18] [] En29 fun ac30 En31 => ?_
 refine then_normal ?_
 refine region_cut (F := fun ac wo => ∃ (s2 : List UInt8), Env ac 63 [(0, .slice a_a (List.length a) c_a), (1, .slice a_b (List.length b) c_b), (2, uv16 m), (3, bv y), (8, .bool false), (9, .bool true), (10, .slice ao20 (List.length s2) cp21)] ∧ Ev w [] wo [.vec ao20 cp21 1 (bys s2) 5] ∧ (s2 = edF a m y)) ?_ ?_
 ·
  refine c_d (((List.length a : Nat) : Int) > (0 : Int)) En31 (fun hc32 => ?_) (fun hc32 => ?_)
  ·
   refine wp_seq ?_
   refine region_from ?_
   refine d_k [0,1,2,3,8,9,10,20,22] [(1, g_i .i64 (Go.Dbr.u16_to_i64 (x := m) rfl))] 4 En31 fun ac33 En34 => ?_
   refine f_o ?_
   refine q_v En34 (Go.Dbr.run_rem_nat (UInt16.toNat m) (List.length a) (by omega) _) fun ac35 En36 => ?_
   refine d_e [0,1,2,3,8,9,10,11] [] En36 fun ac37 En38 => ?_
   have hml : UInt16.toNat m % List.length a < List.length a := Nat.mod_lt _ (by omega)
   refine then_normal ?_
   have hb41 : (UInt16.toNat m) % (List.length a) < List.length a := (by omega)
   obtain ⟨adr39, had40⟩ := some_of (bys_vnz Hv27.heap (k := 0) rfl) hb41
   refine region_from ?_
   refine d_k [0,1,2,3,8,9,10,24,25,26,27] [] 4 En38 fun ac42 En43 => ?_
   refine f_o ?_
   refine q_v (x := Instr.indexAt 23 (.slice ao20 (List.length a) cp21) (ni ((UInt16.toNat m) % (List.length a)))) (v := .pointer (some (Addr.add adr39 ((UInt16.toNat m) % (List.length a))))) En43 (Go.Dbr.run_indexsl (e := 5) (sz := 1) (j := (UInt16.toNat m) % (List.length a)) (jo := (UInt16.toNat m) % (List.length a)) had40 (by kernel_rfl) (by kernel_rfl) (by omega) hb41 (Nat.mul_one _) _) fun ac44 En45 => ?_
   refine f_o ?_
   have hb46 : (UInt16.toNat m) % (List.length a) < List.length a := by omega
   refine op_loadel (d := some 29) (t := 5) (ad := adr39) (ao := ao20) (xs := bys a) (j := (UInt16.toNat m) % (List.length a)) (v := bv (List.getD a ((UInt16.toNat m) % (List.length a)) 0)) En45 (by kernel_rfl) (Hv27.heap.reads (k := 0) rfl) had40 (bys_getD hb46) (by kernel_rfl) ?_
   intro ac47 En48
   have hb51 : (UInt16.toNat m) % (List.length a) < List.length a := (by omega)
   obtain ⟨adr49, had50⟩ := some_of (bys_vnz Hv27.heap (k := 0) rfl) hb51
   refine d_k [0,1,2,3,8,9,10,24,25,31] [(7, g_i .u8 (Go.Dbr.u8_xor (x := List.getD a ((UInt16.toNat m) % (List.length a)) 0) (y := y) rfl rfl))] 8 En48 fun ac52 En53 => ?_
   refine f_o ?_
   refine q_v (x := Instr.indexAt 23 (.slice ao20 (List.length a) cp21) (ni ((UInt16.toNat m) % (List.length a)))) (v := .pointer (some (Addr.add adr49 ((UInt16.toNat m) % (List.length a))))) En53 (Go.Dbr.run_indexsl (e := 5) (sz := 1) (j := (UInt16.toNat m) % (List.length a)) (jo := (UInt16.toNat m) % (List.length a)) had50 (by kernel_rfl) (by kernel_rfl) (by omega) hb51 (Nat.mul_one _) _) fun ac54 En55 => ?_
   refine f_o ?_
   refine op_storeel (d := none) (t := 5) (ad := adr49) (ao := ao20) (k := 0) (cap := cp21) (sz := 1) (j := (UInt16.toNat m) % (List.length a)) (xs := bys a) (v := bv ((List.getD a ((UInt16.toNat m) % (List.length a)) 0) ^^^ y)) En55 (by kernel_rfl) Hv27 rfl had50 (by rw [bys_length]; first | omega | (simp; done) | (simp; omega)) (by kernel_rfl) rfl ?_
   intro ac56 wo57  En58 Hv59
   rw [bys_set] at Hv59
   refine f_e ?_
   have hel2 : List.length a = List.length (List.set a ((UInt16.toNat m) % (List.length a)) ((List.getD a ((UInt16.toNat m) % (List.length a)) 0) ^^^ y)) := by simp
   have En60 := Env.fx (t := 10) (v := .slice ao20 (List.length a) cp21) (u := .slice ao20 (List.length (List.set a ((UInt16.toNat m) % (List.length a)) ((List.getD a ((UInt16.toNat m) % (List.length a)) 0) ^^^ y))) cp21) En58 (congrArg (fun n : Nat => Value.slice ao20 n cp21) hel2)
   exact ⟨rfl, ⟨(List.set a ((UInt16.toNat m) % (List.length a)) ((List.getD a ((UInt16.toNat m) % (List.length a)) 0) ^^^ y)), En60.sb, Hv59.pk [0], by unfold edF; rw [if_pos (by omega)]⟩⟩
  ·
   refine wp_skip ?_
   exact ⟨rfl, ⟨a, En31.sb, Hv27.pk [0], by unfold edF; rw [if_neg (by omega)]⟩⟩
 ·
  rintro ac61 wo62 ⟨s2, En63, Hv64, hs2⟩
  refine then_normal ?_
  refine wp_seq ?_
  have hl2 : List.length s2 = List.length a := by rw [hs2, edF_len]
  refine r_c (fun ac wo => Env ac 63 [(0, .slice a_a (List.length a) c_a), (2, uv16 m), (3, bv y), (8, .bool true), (10, .slice ao20 (List.length s2) cp21)] ∧ Ev w [] wo [.vec ao20 cp21 1 (bys s2) 5]) ?_ ?_
  ·
   refine h_s (fun wv => Ev w [] wv [.vec ao20 cp21 1 (bys s2) 5]) [] 31 ?_
   have wo65 := Hv64.trans (Ev.drew Hv64.heap)
   refine q_s [0,1,2,3,5] [] 26 En63 (wo65.pk [0]) fun ac322 En323 => ?_
   refine q_r 6 (s := convert 23 9 (.slice a_a (List.length a) c_a)) (v := .string (bstr a)) En323 (fun w hS => run_str2 (e := 5) (bs := a) rfl (by kernel_rfl) (by kernel_rfl) (by kernel_rfl) (i_a.ev hS).reads i_a.nz) (wo65.pk [0]) fun ac324 En325 => ?_
   refine q_s [7] [] 24 En325 (wo65.pk [0]) fun ac326 En327 => ?_
   refine q_r 8 (s := convert 23 9 (.slice a_b (List.length b) c_b)) (v := .string (bstr b)) En327 (fun w hS => run_str2 (e := 5) (bs := b) rfl (by kernel_rfl) (by kernel_rfl) (by kernel_rfl) (i_b.ev hS).reads i_b.nz) (wo65.pk [0]) fun ac328 En329 => ?_
   refine q_s [9] [(9, g_v (show (.bool (ByteArray.toList (bstr a) == ByteArray.toList (bstr b)) : Value) = .bool (a == b) by rw [Go.Dbr.bstr_eq a b] <;> rfl))] 22 En329 (wo65.pk [0]) fun ac330 En331 => ?_
   refine q_t 4 ?_
   refine c_p En331 wo65 (same_go _ a_a (List.length a) c_a a (by first | rfl | (simp; done) | (simp; omega) | omega) ((i_a.ev wo65).pick [] (by kernel_rfl)) a_b (List.length b) c_b b (by first | rfl | (simp; done) | (simp; omega) | omega) ((i_b.ev wo65).pick [] (by kernel_rfl))) fun ac336 wo333 En337 Hv338 => ?_
   refine ⟨fun _ => Hv338.pk [0], ?_⟩
   refine q_s [10,11,12,13,15] [(10, g_b (show ((a == b) == (a == b)) = true from (by simp)))] 16 En337 (Hv338.pk [0]) fun ac339 En340 => ?_
   refine q_t 14 ?_
   refine op_lit (d := some 47) (t := 23) (T := 5) (m := 0) (parts := #[]) (xs := bys []) (sz := 1) En340 (by kernel_rfl) (by kernel_rfl) rfl (by decide) Hv338 ?_
   intro ac342 wo343 bk341 En344 Hv345
   refine ⟨fun _ => Hv345.pk [0], ?_⟩
   refine q_t 16 ?_
   have hsm346 := i_a.small
   refine op_append (d := some 49) (t := 23) (tx := 23) (ty := 23) (k := 1) (p := 0) (m := List.length a) (x := .slice a_a (List.length a) c_a) (bytes := 1) En344 (by kernel_rfl) Hv345 rfl rfl (Reads.src (size := 1) (tx := 23) (e' := 5) (by kernel_rfl) (i_a.ev Hv345).reads (bys_len _) i_a.nz (bys_one _)) (by kernel_rfl) (z := .int .u8 0) (by kernel_rfl) rfl (by decide) (by omega) (by unfold maxLen; omega) ?_
   intro ac351 wo352 ao347 cp348 En353 Hv354 hnz _
   clear hnz
   rw [bys_nil_append] at Hv354
   have ehz349 : 0 + (List.length a) = List.length a := (by first | (simp; done) | (simp; omega) | omega)
   rw [ehz349] at En353
   refine ⟨fun _ => Hv354.pk [0], ?_⟩
   refine q_t 17 ?_
   refine c_p En353 Hv354 (same_yes _ a_a (List.length a) c_a a (by first | rfl | (simp; done) | (simp; omega) | omega) ((i_a.ev Hv354).pick [] (by kernel_rfl)) ao347 (List.length a) cp348 a (by first | rfl | (simp; done) | (simp; omega) | omega) (bys_in Hv354.heap (k := 1) rfl [] (by kernel_rfl) rfl (by first | omega | (simp; done) | (simp; omega))) (by simp)) fun ac359 wo356 En360 Hv361 => ?_
   refine ⟨fun _ => Hv361.pk [0], ?_⟩
   refine q_s [18,19,20,21,23] [] 8 En360 (Hv361.pk [0]) fun ac362 En363 => ?_
   refine q_r 24 (s := convert 23 9 (.slice a_a (List.length a) c_a)) (v := .string (bstr a)) En363 (fun w hS => run_str2 (e := 5) (bs := a) rfl (by kernel_rfl) (by kernel_rfl) (by kernel_rfl) (i_a.ev hS).reads i_a.nz) (Hv361.pk [0]) fun ac364 En365 => ?_
   refine q_s [25] [] 6 En365 (Hv361.pk [0]) fun ac366 En367 => ?_
   refine q_r 26 (s := convert 23 9 (.slice ao20 (List.length s2) cp21)) (v := .string (bstr s2)) En367 (fun w hS => run_str2 (e := 5) (bs := s2) rfl (by kernel_rfl) (by kernel_rfl) (by kernel_rfl) (hS.heap.reads (k := 0) rfl) (bys_vnz hS.heap (k := 0) rfl)) (Hv361.pk [0]) fun ac368 En369 => ?_
   refine q_s [27] [(27, g_v (show (.bool (ByteArray.toList (bstr a) == ByteArray.toList (bstr s2)) : Value) = .bool (a == s2) by rw [Go.Dbr.bstr_eq a s2] <;> rfl))] 4 En369 (Hv361.pk [0]) fun ac370 En371 => ?_
   refine q_t 22 ?_
   refine c_p En371 Hv361 (same_go _ a_a (List.length a) c_a a (by first | rfl | (simp; done) | (simp; omega) | omega) ((i_a.ev Hv361).pick [] (by kernel_rfl)) ao20 (List.length s2) cp21 s2 (by first | rfl | (simp; done) | (simp; omega) | omega) (bys_in Hv361.heap (k := 0) rfl [] (by kernel_rfl) rfl (by first | omega | (simp; done) | (simp; omega)))) fun ac376 wo373 En377 Hv378 => ?_
   refine ⟨fun _ => Hv378.pk [0], ?_⟩
   refine q_s [28,29,30] [(28, g_b (show ((a == s2) == (a == s2)) = true from (by simp)))] 0 En377 (Hv378.pk [0]) fun ac379 En380 => ?_
   exact h_e ⟨En380.sb, Hv378.pk [0]⟩
  rintro ac381 wo382 ⟨En383, Hv384⟩
  refine then_normal ?_
  refine wp_ret ?_
  refine d_ret1 (t := 8) (v := .bool true) En383 (by kernel_rfl) (by kernel_rfl) ?_
  exact ⟨rfl, Hv384.pk []⟩

end Go.Proofs.YtbpihljkkkeijaaDoor
