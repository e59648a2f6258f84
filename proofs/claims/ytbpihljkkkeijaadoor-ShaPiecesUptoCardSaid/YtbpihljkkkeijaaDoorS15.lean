/- Layer 5: a live answer; ShaSums: its walk. -/
import Derived.Test.YtbpihljkkkeijaaDoorS10
import Derived.Test.YtbpihljkkkeijaaDoorS14
namespace Go.Proofs.YtbpihljkkkeijaaDoor
open Go.Dbr
set_option maxRecDepth 100000
set_option maxHeartbeats 2000000
set_option linter.unusedVariables false
set_option linter.unusedSimpArgs false

theorem abc_sum : (List.getD (sumF 1 [97, 98, 99]) 0 0 = 186 ∧ List.getD (sumF 1 [97, 98, 99]) 1 0 = 120) ∧ List.getD (sumF 1 [97, 98, 99]) 31 0 = 173 := by decide +kernel
theorem rest_nil (h : Int) : restH h [] = [] := by unfold restH rest32 rest64; split <;> rfl
theorem parts_ok {h : Int} {lx : List (Sl UInt8)} (hb : ∀ x ∈ lx, x.l.length ≤ 140737488353280) : ∀ (k : Nat) (x : Sl UInt8), lx[k]? = some x → List.length (restH h (List.flatMap (fun s : Sl UInt8 => s.l) (List.take k lx))) + List.length x.l ≤ 140737488355200 := fun k x hx => by
  have h1 := restH_lt h (List.flatMap (fun s : Sl UInt8 => s.l) (List.take k lx))
  have h2 := hb x (List.mem_of_getElem? hx)
  omega
theorem one_ok {h : Int} {y : Sl UInt8} (hb : y.l.length ≤ 140737488353280) : ∀ (k : Nat) (x : Sl UInt8), [y][k]? = some x → List.length (restH h (List.flatMap (fun s : Sl UInt8 => s.l) (List.take k [y]))) + List.length x.l ≤ 140737488355200 := fun k x hx => by
  match k with
  | 0 =>
    have hy : y = x := by simpa using hx
    subst hy
    have := rest_nil h
    show List.length (restH h []) + _ ≤ _
    rw [this]
    simp only [List.length_nil, Nat.zero_add]
    omega
  | k + 1 => simp at hx

theorem head5_ok (w : World) (gk32 : InU32 w [] (some ⟨0, 0, none⟩) 64 K32) (gk64 : InU64 w [] (some ⟨1, 0, none⟩) 80 K64) : Calls Tryd.prog 12 #[] w fun e w' => e = .returned (.bool true) ∧ Ev w [] w' [] := by
 refine d_0 [] 33 Go.Proofs.Tryd.func12 Go.Proofs.Tryd.ntmps12 (Heap.nil _) fun act0 En0 Hv0 => ?_
 refine d_s [0] [] En0 fun ac1 En2 => ?_
 refine wp_seq ?_
 refine region_from ?_
 refine f_o ?_
 refine op_lit (d := some 2) (t := 23) (T := 5) (m := 1) (parts := #[(0, .int .u8 97)]) (xs := bys [(97 : UInt8)]) (sz := 1) En2 (by kernel_rfl) (by kernel_rfl) rfl (by decide) Hv0 ?_
 intro ac4 wo5 bk3 En6 Hv7
 refine f_o ?_
 refine op_marked (d := some 3) (t := 23) (e := 5) (k := 0) (cap := 1) (m := 1) (ad := ⟨bk3, 0, none⟩) (xs := bys [(97 : UInt8)]) (T := 5) En6 (by kernel_rfl) (by kernel_rfl) (by kernel_rfl) Hv7 rfl ?_
 intro ac8 wo9  En10 Hv11
 refine f_o ?_
 refine op_lit (d := some 4) (t := 23) (T := 5) (m := 2) (parts := #[(0, .int .u8 98), (1, .int .u8 99)]) (xs := bys [(98 : UInt8), (99 : UInt8)]) (sz := 1) En10 (by kernel_rfl) (by kernel_rfl) rfl (by decide) Hv11 ?_
 intro ac13 wo14 bk12 En15 Hv16
 refine f_o ?_
 refine op_marked (d := some 5) (t := 23) (e := 5) (k := 1) (cap := 2) (m := 2) (ad := ⟨bk12, 0, none⟩) (xs := bys [(98 : UInt8), (99 : UInt8)]) (T := 5) En15 (by kernel_rfl) (by kernel_rfl) (by kernel_rfl) Hv16 rfl ?_
 intro ac17 wo18  En19 Hv20
 refine f_o ?_
 refine op_lit (d := some 6) (t := 30) (T := 23) (m := 2) (parts := #[(0, .slice (some ⟨bk3, 0, none⟩) 1 1), (1, .slice (some ⟨bk12, 0, none⟩) 2 2)]) (xs := [.slice (some ⟨bk3, 0, none⟩) 1 1, .slice (some ⟨bk12, 0, none⟩) 2 2]) (sz := 1) En19 (by kernel_rfl) (by kernel_rfl) rfl (by decide) Hv20 ?_
 intro ac22 wo23 bk21 En24 Hv25
 refine f_o ?_
 refine c_0 En24 Hv25 (of_go _ 1 (.inl rfl) (some ⟨bk21, 0, none⟩) 2 2 ([⟨some ⟨bk3, 0, none⟩, 1, [(97 : UInt8)]⟩, ⟨some ⟨bk12, 0, none⟩, 2, [(98 : UInt8), (99 : UInt8)]⟩] : List (Sl UInt8)) (by first | rfl | (simp; done) | (simp; omega) | omega) ⟨Hv25.heap.ro (k := 2) rfl [] (by kernel_rfl) rfl, (fun e => by cases e), (by simp), (by simp), (List.forall_mem_cons.2 ⟨(bys_in Hv25.heap (k := 0) rfl [] (by kernel_rfl) rfl (by first | decide | (simp; done) | (simp; omega) | omega)), (List.forall_mem_cons.2 ⟨(bys_in Hv25.heap (k := 1) rfl [] (by kernel_rfl) rfl (by first | decide | (simp; done) | (simp; omega) | omega)), (fun x h => absurd h List.not_mem_nil)⟩)⟩)⟩ (parts_ok (by intro x hx; simp only [List.mem_cons, List.not_mem_nil, or_false] at hx; rcases hx with rfl | rfl <;> simp)) ((gk32.ev Hv25).pick [] (by kernel_rfl)) ((gk64.ev Hv25).pick [] (by kernel_rfl))) ?_
 rintro _ wo28 ⟨aoq26, coq26, rfl, he29⟩
 refine ⟨_, _, _, rfl, he29, rfl, fun ac31 En32 Hv33 => ?_⟩
 refine d_e [0,1] [] En32 fun ac34 En35 => ?_
 have hfe : sumF 1 (List.flatMap (fun s : Sl UInt8 => s.l) ([⟨some ⟨bk3, 0, none⟩, 1, [(97 : UInt8)]⟩, ⟨some ⟨bk12, 0, none⟩, 2, [(98 : UInt8), (99 : UInt8)]⟩] : List (Sl UInt8))) = sumF 1 ([97, 98, 99] : List UInt8) := rfl
 rw [hfe] at Hv33
 rw [hfe] at En35
 have hsl : List.length (sumF 1 ([97, 98, 99] : List UInt8)) = 32 := (sumF_len (.inl rfl) _).trans rfl
 refine then_normal ?_
 have hb38 : 0 < List.length (sumF 1 ([97, 98, 99] : List UInt8)) := (by omega)
 obtain ⟨adr36, had37⟩ := some_of (bys_vnz Hv33.heap (k := 0) rfl) hb38
 refine wp_seq ?_
 refine region_from ?_
 refine d_k [0,1,11,12] [(2, g_b (show (((List.length (sumF 1 ([97, 98, 99] : List UInt8)) : Nat) : Int) == (32 : Int)) = true from by rw [hsl]; rfl))] 5 En35 fun ac39 En40 => ?_
 refine f_o ?_
 refine q_v (x := Instr.indexAt 23 (.slice aoq26 (List.length (sumF 1 ([97, 98, 99] : List UInt8))) coq26) (.int .i64 0)) (v := .pointer (some (Addr.add adr36 0))) En40 (Go.Dbr.run_indexsl (e := 5) (sz := 1) (j := 0) (jo := 0) had37 (by kernel_rfl) (by kernel_rfl) (by omega) hb38 (Nat.mul_one _) _) fun ac41 En42 => ?_
 refine f_o ?_
 have hb43 : 0 < List.length (sumF 1 ([97, 98, 99] : List UInt8)) := by omega
 refine op_loadel (d := some 14) (t := 5) (ad := adr36) (ao := aoq26) (xs := bys (sumF 1 ([97, 98, 99] : List UInt8))) (j := 0) (v := bv (List.getD (sumF 1 ([97, 98, 99] : List UInt8)) 0 0)) En42 (by kernel_rfl) (Hv33.heap.reads (k := 0) rfl) had37 (bys_getD hb43) (by kernel_rfl) ?_
 intro ac44 En45
 have hb48 : 1 < List.length (sumF 1 ([97, 98, 99] : List UInt8)) := (by omega)
 obtain ⟨adr46, had47⟩ := some_of (bys_vnz Hv33.heap (k := 0) rfl) hb48
 refine d_k [0,1,17,18] [(7, g_b (show (((UInt8.toNat (List.getD (sumF 1 ([97, 98, 99] : List UInt8)) 0 0) : Nat) : Int) == (186 : Int)) = true from by rw [abc_sum.1.1]; rfl))] 11 En45 fun ac49 En50 => ?_
 refine f_o ?_
 refine q_v (x := Instr.indexAt 23 (.slice aoq26 (List.length (sumF 1 ([97, 98, 99] : List UInt8))) coq26) (.int .i64 1)) (v := .pointer (some (Addr.add adr46 1))) En50 (Go.Dbr.run_indexsl (e := 5) (sz := 1) (j := 1) (jo := 1) had47 (by kernel_rfl) (by kernel_rfl) (by omega) hb48 (Nat.mul_one _) _) fun ac51 En52 => ?_
 refine f_o ?_
 have hb53 : 1 < List.length (sumF 1 ([97, 98, 99] : List UInt8)) := by omega
 refine op_loadel (d := some 20) (t := 5) (ad := adr46) (ao := aoq26) (xs := bys (sumF 1 ([97, 98, 99] : List UInt8))) (j := 1) (v := bv (List.getD (sumF 1 ([97, 98, 99] : List UInt8)) 1 0)) En52 (by kernel_rfl) (Hv33.heap.reads (k := 0) rfl) had47 (bys_getD hb53) (by kernel_rfl) ?_
 intro ac54 En55
 have hb58 : 31 < List.length (sumF 1 ([97, 98, 99] : List UInt8)) := (by omega)
 obtain ⟨adr56, had57⟩ := some_of (bys_vnz Hv33.heap (k := 0) rfl) hb58
 refine d_k [0,23,24] [(13, g_b (show (((UInt8.toNat (List.getD (sumF 1 ([97, 98, 99] : List UInt8)) 1 0) : Nat) : Int) == (120 : Int)) = true from by rw [abc_sum.1.2]; rfl))] 17 En55 fun ac59 En60 => ?_
 refine f_o ?_
 refine q_v (x := Instr.indexAt 23 (.slice aoq26 (List.length (sumF 1 ([97, 98, 99] : List UInt8))) coq26) (.int .i64 31)) (v := .pointer (some (Addr.add adr56 31))) En60 (Go.Dbr.run_indexsl (e := 5) (sz := 1) (j := 31) (jo := 31) had57 (by kernel_rfl) (by kernel_rfl) (by omega) hb58 (Nat.mul_one _) _) fun ac61 En62 => ?_
 refine f_o ?_
 have hb63 : 31 < List.length (sumF 1 ([97, 98, 99] : List UInt8)) := by omega
 refine op_loadel (d := some 26) (t := 5) (ad := adr56) (ao := aoq26) (xs := bys (sumF 1 ([97, 98, 99] : List UInt8))) (j := 31) (v := bv (List.getD (sumF 1 ([97, 98, 99] : List UInt8)) 31 0)) En62 (by kernel_rfl) (Hv33.heap.reads (k := 0) rfl) had57 (bys_getD hb63) (by kernel_rfl) ?_
 intro ac64 En65
 refine d_k [0,29] [(19, g_b (show (((UInt8.toNat (List.getD (sumF 1 ([97, 98, 99] : List UInt8)) 31 0) : Nat) : Int) == (173 : Int)) = true from by rw [abc_sum.2]; rfl))] 22 En65 fun ac66 En67 => ?_
 refine f_o ?_
 refine c_p En67 Hv33 (new0 _ 0 (by decide)) fun ac72 wo69 En73 Hv74 => ?_
 refine d_e [0] [] En73 fun ac75 En76 => ?_
 refine then_normal ?_
 refine wp_ret ?_
 refine d_ret1 (t := 0) (v := .bool true) En76 (by kernel_rfl) (by kernel_rfl) ?_
 exact ⟨rfl, Hv74.pk []⟩

theorem sums_ok (h : Int) (a_b : Option Addr) (c_b : Nat) (b : List UInt8) (w : World) (b_h : (-9223372036854775808 ≤ h ∧ h ≤ 9223372036854775807)) (i_b : InB w [] a_b c_b b) (hh : (h = 1 ∨ h = 2 ∨ h = 3)) (gk32 : InU32 w [] (some ⟨0, 0, none⟩) 64 K32) (gk64 : InU64 w [] (some ⟨1, 0, none⟩) 80 K64) : Calls Tryd.prog 3 #[.int .i64 h, .slice a_b (List.length b) c_b] w fun e w' => e = .returned (.bool true) ∧ Ev w [] w' [] := by
 have hs := i_b.small
 have hcb := i_b.cap
 refine d_0 [(0, .int .i64 h), (1, .slice a_b (List.length b) c_b)] 51 Go.Proofs.Tryd.func3 Go.Proofs.Tryd.ntmps3 (Heap.nil _) fun act0 En0 Hv0 => ?_
 refine d_s [0,1,4] [] En0 fun ac1 En2 => ?_
 refine wp_seq ?_
 refine region_from ?_
 refine f_o ?_
 refine c_p En2 Hv0 (head5_ok _ ((gk32.ev Hv0).pick [] (by kernel_rfl)) ((gk64.ev Hv0).pick [] (by kernel_rfl))) fun ac7 wo4 En8 Hv9 => ?_
 refine d_e [0,1,4,5] [] En8 fun ac10 En11 => ?_
 refine then_normal ?_
 refine wp_seq ?_
 refine region_from ?_
 refine f_o ?_
 refine op_lit (d := some 11) (t := 23) (T := 5) (m := 0) (parts := #[]) (xs := bys []) (sz := 1) En11 (by kernel_rfl) (by kernel_rfl) rfl (by decide) Hv9 ?_
 intro ac13 wo14 bk12 En15 Hv16
 refine d_k [0,1,4,5,11,12] [] 2 En15 fun ac17 En18 => ?_
 refine f_o ?_
 have hsm19 := i_b.small
 refine op_append (d := some 13) (t := 23) (tx := 23) (ty := 23) (k := 0) (p := 0) (m := List.length b) (x := .slice a_b (List.length b) c_b) (bytes := 1) En18 (by kernel_rfl) Hv16 rfl rfl (Reads.src (size := 1) (tx := 23) (e' := 5) (by kernel_rfl) (i_b.ev Hv16).reads (bys_len _) i_b.nz (bys_one _)) (by kernel_rfl) (z := .int .u8 0) (by kernel_rfl) rfl (by decide) (by omega) (by unfold maxLen; omega) ?_
 intro ac24 wo25 ao20 cp21 En26 Hv27 hnz _
 clear hnz
 rw [bys_nil_append] at Hv27
 have ehz22 : 0 + (List.length b) = List.length b := (by first | (simp; done) | (simp; omega) | omega)
 rw [ehz22] at En26
 refine d_e [0,1,4,5,6] [] En26 fun ac28 En29 => ?_
 refine then_normal ?_
 refine wp_seq ?_
 refine region_from ?_
 refine d_k [0,1,4,5,6,14,15] [] 2 En29 fun ac30 En31 => ?_
 refine f_o ?_
 refine op_lit (d := some 16) (t := 30) (T := 23) (m := 1) (parts := #[(0, .slice ao20 (List.length b) cp21)]) (xs := [.slice ao20 (List.length b) cp21]) (sz := 1) En31 (by kernel_rfl) (by kernel_rfl) rfl (by decide) Hv27 ?_
 intro ac33 wo34 bk32 En35 Hv36
 refine f_o ?_
 refine c_0 En35 Hv36 (of_go _ h hh (some ⟨bk32, 0, none⟩) 1 1 ([⟨ao20, cp21, b⟩] : List (Sl UInt8)) (by first | rfl | (simp; done) | (simp; omega) | omega) ⟨Hv36.heap.ro (k := 1) rfl [] (by kernel_rfl) rfl, (fun e => by cases e), (by simp), (by simp), (List.forall_mem_cons.2 ⟨(bys_in Hv36.heap (k := 0) rfl [] (by kernel_rfl) rfl (by first | decide | (simp; done) | (simp; omega) | omega)), (fun x h => absurd h List.not_mem_nil)⟩)⟩ (one_ok (by first | omega | (simp; omega))) ((gk32.ev Hv36).pick [] (by kernel_rfl)) ((gk64.ev Hv36).pick [] (by kernel_rfl))) ?_
 rintro _ wo39 ⟨aoq37, coq37, rfl, he40⟩
 refine ⟨_, _, _, rfl, he40, rfl, fun ac42 En43 Hv44 => ?_⟩
 refine d_e [0,1,4,5,6,7] [] En43 fun ac45 En46 => ?_
 have hfe : sumF h (List.flatMap (fun s : Sl UInt8 => s.l) ([⟨ao20, cp21, b⟩] : List (Sl UInt8))) = sumF h b := by simp
 rw [hfe] at Hv44
 rw [hfe] at En46
 refine then_normal ?_
 refine wp_seq ?_
 refine region_from ?_
 refine d_k [0,1,4,5,6,7,18,19] [] 2 En46 fun ac47 En48 => ?_
 refine f_o ?_
 refine c_0 En48 Hv44 (docof_go _ h hh a_b (List.length b) c_b b (by first | rfl | (simp; done) | (simp; omega) | omega) ((i_b.ev Hv44).pick [] (by kernel_rfl))) ?_
 rintro _ wo51 ⟨aoq49, coq49, rfl, he52⟩
 refine ⟨_, _, _, rfl, he52, rfl, fun ac54 En55 Hv56 => ?_⟩
 refine d_e [0,1,4,5,6,7,8] [] En55 fun ac57 En58 => ?_
 refine then_normal ?_
 refine wp_seq ?_
 refine region_from ?_
 refine d_k [0,1,4,5,6,7,8,21] [] 1 En58 fun ac59 En60 => ?_
 refine f_o ?_
 refine c_p En60 Hv56 (size_go _ h) fun ac65 wo62 En66 Hv67 => ?_
 refine d_k [0,1,4,5,6,7,8,22,23] [] 3 En66 fun ac68 En69 => ?_
 refine f_o ?_
 refine c_p En69 Hv67 (dsize_go _ h) fun ac74 wo71 En75 Hv76 => ?_
 refine d_k [0,1,4,5,6,7,8,26,27] [(4, g_b (show (((sizeOfH h : Nat) : Int) == ((sizeOfH h : Nat) : Int)) = true from (by simp)))] 7 En75 fun ac77 En78 => ?_
 refine f_o ?_
 refine c_p En78 Hv76 (block_go _ h) fun ac83 wo80 En84 Hv85 => ?_
 refine d_k [0,1,4,5,6,7,8,26,28,29] [] 9 En84 fun ac86 En87 => ?_
 refine f_o ?_
 refine c_p En87 Hv85 (dblock_go _ h) fun ac92 wo89 En93 Hv94 => ?_
 refine d_e [0,1,4,5,6,7,8,9] [(10, g_b (show (((blockOf h : Nat) : Int) == ((blockOf h : Nat) : Int)) = true from (by simp)))] En93 fun ac95 En96 => ?_
 refine then_normal ?_
 refine wp_seq ?_
 refine region_from ?_
 refine d_k [0,1,4,6,8,9,34,35] [] 3 En96 fun ac97 En98 => ?_
 refine f_o ?_
 refine op_str (d := some 36) (src := 23) (dst := 9) (e := 5) (ao := aoq37) (cap := coq37) (p := List.length (sumF h b)) (bs := sumF h b) En98 (by kernel_rfl) rfl (by kernel_rfl) (by kernel_rfl) (by kernel_rfl) (Hv94.heap.reads (k := 1) rfl) (bys_vnz Hv94.heap (k := 1) rfl) ?_
 intro ac99 En100
 refine d_k [0,1,4,6,9,34,36,37] [] 5 En100 fun ac101 En102 => ?_
 refine f_o ?_
 refine op_str (d := some 38) (src := 23) (dst := 9) (e := 5) (ao := aoq49) (cap := coq49) (p := List.length (sumF h b)) (bs := sumF h b) En102 (by kernel_rfl) rfl (by kernel_rfl) (by kernel_rfl) (by kernel_rfl) (Hv94.heap.reads (k := 0) rfl) (bys_vnz Hv94.heap (k := 0) rfl) ?_
 intro ac103 En104
 refine d_k [0,1,4,6,44,45] [(6, g_v (show (.bool (ByteArray.toList (bstr (sumF h b)) == ByteArray.toList (bstr (sumF h b))) : Value) = .bool true by rw [Go.Dbr.bstr_eq (sumF h b) (sumF h b), show ((sumF h b) == (sumF h b)) = true from (by simp)]))] 13 En104 fun ac105 En106 => ?_
 refine f_o ?_
 refine op_str (d := some 46) (src := 23) (dst := 9) (e := 5) (ao := ao20) (cap := cp21) (p := List.length b) (bs := b) En106 (by kernel_rfl) rfl (by kernel_rfl) (by kernel_rfl) (by kernel_rfl) (Hv94.heap.reads (k := 2) rfl) (bys_vnz Hv94.heap (k := 2) rfl) ?_
 intro ac107 En108
 refine d_k [0,1,4,6,44,46,47] [] 15 En108 fun ac109 En110 => ?_
 refine f_o ?_
 refine op_str (d := some 48) (src := 23) (dst := 9) (e := 5) (ao := a_b) (cap := c_b) (p := List.length b) (bs := b) En110 (by kernel_rfl) rfl (by kernel_rfl) (by kernel_rfl) (by kernel_rfl) (i_b.ev Hv94).reads i_b.nz ?_
 intro ac111 En112
 refine d_e [0,1,4,6] [(16, g_v (show (.bool (ByteArray.toList (bstr b) == ByteArray.toList (bstr b)) : Value) = .bool true by rw [Go.Dbr.bstr_eq b b, show (b == b) = true from (by simp)]))] En112 fun ac113 En114 => ?_
 refine then_normal ?_
 refine wp_ret ?_
 refine d_ret1 (t := 4) (v := .bool true) En114 (by kernel_rfl) (by kernel_rfl) ?_
 exact ⟨rfl, Hv94.pk []⟩

theorem sums_bad (h : Int) (a_b : Option Addr) (c_b : Nat) (b : List UInt8) (w : World) (b_h : (-9223372036854775808 ≤ h ∧ h ≤ 9223372036854775807)) (i_b : InB w [] a_b c_b b) (hh : ¬ (h = 1 ∨ h = 2 ∨ h = 3)) (gk32 : InU32 w [] (some ⟨0, 0, none⟩) 64 K32) (gk64 : InU64 w [] (some ⟨1, 0, none⟩) 80 K64) : Calls Tryd.prog 3 #[.int .i64 h, .slice a_b (List.length b) c_b] w fun e w' => e = .returned (.bool true) ∧ Ev w [] w' [] := by
 have hs := i_b.small
 have hcb := i_b.cap
 refine d_0 [(0, .int .i64 h), (1, .slice a_b (List.length b) c_b)] 51 Go.Proofs.Tryd.func3 Go.Proofs.Tryd.ntmps3 (Heap.nil _) fun act0 En0 Hv0 => ?_
 refine d_s [0,1,4] [] En0 fun ac1 En2 => ?_
 refine wp_seq ?_
 refine region_from ?_
 refine f_o ?_
 refine c_p En2 Hv0 (head5_ok _ ((gk32.ev Hv0).pick [] (by kernel_rfl)) ((gk64.ev Hv0).pick [] (by kernel_rfl))) fun ac7 wo4 En8 Hv9 => ?_
 refine d_e [0,1,4,5] [] En8 fun ac10 En11 => ?_
 refine then_normal ?_
 refine wp_seq ?_
 refine region_from ?_
 refine f_o ?_
 refine op_lit (d := some 11) (t := 23) (T := 5) (m := 0) (parts := #[]) (xs := bys []) (sz := 1) En11 (by kernel_rfl) (by kernel_rfl) rfl (by decide) Hv9 ?_
 intro ac13 wo14 bk12 En15 Hv16
 refine d_k [0,1,4,5,11,12] [] 2 En15 fun ac17 En18 => ?_
 refine f_o ?_
 have hsm19 := i_b.small
 refine op_append (d := some 13) (t := 23) (tx := 23) (ty := 23) (k := 0) (p := 0) (m := List.length b) (x := .slice a_b (List.length b) c_b) (bytes := 1) En18 (by kernel_rfl) Hv16 rfl rfl (Reads.src (size := 1) (tx := 23) (e' := 5) (by kernel_rfl) (i_b.ev Hv16).reads (bys_len _) i_b.nz (bys_one _)) (by kernel_rfl) (z := .int .u8 0) (by kernel_rfl) rfl (by decide) (by omega) (by unfold maxLen; omega) ?_
 intro ac24 wo25 ao20 cp21 En26 Hv27 hnz _
 clear hnz
 rw [bys_nil_append] at Hv27
 have ehz22 : 0 + (List.length b) = List.length b := (by first | (simp; done) | (simp; omega) | omega)
 rw [ehz22] at En26
 refine d_e [0,1,4,5,6] [] En26 fun ac28 En29 => ?_
 refine then_normal ?_
 refine wp_seq ?_
 refine region_from ?_
 refine d_k [0,1,4,5,6,14,15] [] 2 En29 fun ac30 En31 => ?_
 refine f_o ?_
 refine op_lit (d := some 16) (t := 30) (T := 23) (m := 1) (parts := #[(0, .slice ao20 (List.length b) cp21)]) (xs := [.slice ao20 (List.length b) cp21]) (sz := 1) En31 (by kernel_rfl) (by kernel_rfl) rfl (by decide) Hv27 ?_
 intro ac33 wo34 bk32 En35 Hv36
 refine f_o ?_
 refine c_p En35 Hv36 (of_nil _ h hh (some ⟨bk32, 0, none⟩) 1 1 ([⟨ao20, cp21, b⟩] : List (Sl UInt8)) (by first | rfl | (simp; done) | (simp; omega) | omega) ⟨Hv36.heap.ro (k := 1) rfl [] (by kernel_rfl) rfl, (fun e => by cases e), (by simp), (by simp), (List.forall_mem_cons.2 ⟨(bys_in Hv36.heap (k := 0) rfl [] (by kernel_rfl) rfl (by first | decide | (simp; done) | (simp; omega) | omega)), (fun x h => absurd h List.not_mem_nil)⟩)⟩) fun ac42 wo39 En43 Hv44 => ?_
 refine d_e [0,1,4,5,6,7] [] En43 fun ac45 En46 => ?_
 refine then_normal ?_
 refine wp_seq ?_
 refine region_from ?_
 refine d_k [0,1,4,5,6,7,18,19] [] 2 En46 fun ac47 En48 => ?_
 refine f_o ?_
 refine c_p En48 Hv44 (docof_nil _ h hh a_b (List.length b) c_b b (by first | rfl | (simp; done) | (simp; omega) | omega) ((i_b.ev Hv44).pick [] (by kernel_rfl))) fun ac54 wo51 En55 Hv56 => ?_
 refine d_e [0,1,4,5,6,7,8] [] En55 fun ac57 En58 => ?_
 refine then_normal ?_
 refine wp_seq ?_
 refine region_from ?_
 refine d_k [0,1,4,5,6,7,8,21] [] 1 En58 fun ac59 En60 => ?_
 refine f_o ?_
 refine c_p En60 Hv56 (size_go _ h) fun ac65 wo62 En66 Hv67 => ?_
 refine d_k [0,1,4,5,6,7,8,22,23] [] 3 En66 fun ac68 En69 => ?_
 refine f_o ?_
 refine c_p En69 Hv67 (dsize_go _ h) fun ac74 wo71 En75 Hv76 => ?_
 refine d_k [0,1,4,5,6,7,8,26,27] [(4, g_b (show (((sizeOfH h : Nat) : Int) == ((sizeOfH h : Nat) : Int)) = true from (by simp)))] 7 En75 fun ac77 En78 => ?_
 refine f_o ?_
 refine c_p En78 Hv76 (block_go _ h) fun ac83 wo80 En84 Hv85 => ?_
 refine d_k [0,1,4,5,6,7,8,26,28,29] [] 9 En84 fun ac86 En87 => ?_
 refine f_o ?_
 refine c_p En87 Hv85 (dblock_go _ h) fun ac92 wo89 En93 Hv94 => ?_
 refine d_e [0,1,4,5,6,7,8,9] [(10, g_b (show (((blockOf h : Nat) : Int) == ((blockOf h : Nat) : Int)) = true from (by simp)))] En93 fun ac95 En96 => ?_
 refine then_normal ?_
 refine wp_seq ?_
 refine region_from ?_
 refine d_k [0,1,4,6,8,9,34,35] [] 3 En96 fun ac97 En98 => ?_
 refine f_o ?_
 refine op_str (d := some 36) (src := 23) (dst := 9) (e := 5) (ao := none) (cap := 0) (p := 0) (bs := []) En98 (by kernel_rfl) rfl (by kernel_rfl) (by kernel_rfl) (by kernel_rfl) (rfl : bys [] = []) (fun _ => rfl) ?_
 intro ac99 En100
 refine d_k [0,1,4,6,9,34,36,37] [] 5 En100 fun ac101 En102 => ?_
 refine f_o ?_
 refine op_str (d := some 38) (src := 23) (dst := 9) (e := 5) (ao := none) (cap := 0) (p := 0) (bs := []) En102 (by kernel_rfl) rfl (by kernel_rfl) (by kernel_rfl) (by kernel_rfl) (rfl : bys [] = []) (fun _ => rfl) ?_
 intro ac103 En104
 refine d_k [0,1,4,6,44,45] [(6, g_v (show (.bool (ByteArray.toList (bstr []) == ByteArray.toList (bstr [])) : Value) = .bool true by rw [Go.Dbr.bstr_eq [] [], show ([] == []) = true from (by simp)]))] 13 En104 fun ac105 En106 => ?_
 refine f_o ?_
 refine op_str (d := some 46) (src := 23) (dst := 9) (e := 5) (ao := ao20) (cap := cp21) (p := List.length b) (bs := b) En106 (by kernel_rfl) rfl (by kernel_rfl) (by kernel_rfl) (by kernel_rfl) (Hv94.heap.reads (k := 0) rfl) (bys_vnz Hv94.heap (k := 0) rfl) ?_
 intro ac107 En108
 refine d_k [0,1,4,6,44,46,47] [] 15 En108 fun ac109 En110 => ?_
 refine f_o ?_
 refine op_str (d := some 48) (src := 23) (dst := 9) (e := 5) (ao := a_b) (cap := c_b) (p := List.length b) (bs := b) En110 (by kernel_rfl) rfl (by kernel_rfl) (by kernel_rfl) (by kernel_rfl) (i_b.ev Hv94).reads i_b.nz ?_
 intro ac111 En112
 refine d_e [0,1,4,6] [(16, g_v (show (.bool (ByteArray.toList (bstr b) == ByteArray.toList (bstr b)) : Value) = .bool true by rw [Go.Dbr.bstr_eq b b, show (b == b) = true from (by simp)]))] En112 fun ac113 En114 => ?_
 refine then_normal ?_
 refine wp_ret ?_
 refine d_ret1 (t := 4) (v := .bool true) En114 (by kernel_rfl) (by kernel_rfl) ?_
 exact ⟨rfl, Hv94.pk []⟩

end Go.Proofs.YtbpihljkkkeijaaDoor
