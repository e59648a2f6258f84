/- Layer 6: keys made of secrets: the walk. -/
import Derived.Test.YtbpihljkkkeijaaDoorM4
namespace Go.Proofs.YtbpihljkkkeijaaDoor
open Go.Dbr
set_option maxRecDepth 100000
set_option maxHeartbeats 2000000
set_option linter.unusedVariables false
set_option linter.unusedSimpArgs false

theorem ofNat_succ8 (n : Nat) : UInt8.ofNat n + 1 = UInt8.ofNat (n + 1) := by
  rw [UInt8.ofNat_add]
  rfl
theorem wrap_u8_nat (n : Nat) : IntKind.wrap .u8 ((n : Nat) : Int) = ((UInt8.toNat (UInt8.ofNat n) : Nat) : Int) := by
  rw [wrap_u8]
  show _ = (((BitVec.ofNat 8 n).toNat : Nat) : Int)
  rw [BitVec.toNat_ofNat]
  omega

theorem exp_go (w : World) (h : Int) (hh : h = 1 ∨ h = 2 ∨ h = 3) (ak : Option Addr) (nk ck : Nat) (lk : List UInt8) (ek : nk = List.length lk) (ik : InB w [] ak ck lk) (az : Option Addr) (nz cz : Nat) (lz : List UInt8) (ez : nz = List.length lz) (iz : InB w [] az cz lz) (m : Nat) (hm : m ≤ 255 * sizeOfH h) (gk32 : InU32 w [] (some ⟨0, 0, none⟩) 64 K32) (gk64 : InU64 w [] (some ⟨1, 0, none⟩) 80 K64) : Calls Tryd.prog 31 #[.int .i64 h, .slice ak nk ck, .slice az nz cz, ni m] w fun e w' => ∃ ao co, e = .returned (.tuple #[.slice ao m co, .int .i64 0]) ∧ Ev w [] w' [.vec ao co 1 (bys (expF h lk lz m)) 5] := by
 subst ek
 subst ez
 have hs := ik.small
 have hck := ik.cap
 have hs2 := iz.small
 have hci := iz.cap
 have hbg := block_ge hh
 have hsz64 := size_le h
 have hsz : sizeOfH h ≠ 0 := by rcases hh with rfl | rfl | rfl <;> decide
 refine d_0 [(0, .int .i64 h), (1, .slice ak (List.length lk) ck), (2, .slice az (List.length lz) cz), (3, ni m)] 52 Go.Proofs.Tryd.func31 Go.Proofs.Tryd.ntmps31 (Heap.nil _) fun act0 En0 Hv0 => ?_
 refine wp_seq ?_
 refine d_r [0,1,2,3,8,9] [] En0 fun ac1 En2 => ?_
 refine then_normal ?_
 refine wp_seq ?_
 refine region_from ?_
 refine d_k [0,1,2,3,8,9,15] [] 1 En2 fun ac3 En4 => ?_
 refine f_o ?_
 refine c_p En4 Hv0 (size_go _ h) fun ac9 wo6 En10 Hv11 => ?_
 refine d_e [0,1,2,3,8,9,10] [] En10 fun ac12 En13 => ?_
 refine then_normal ?_
 refine wp_seq ?_
 refine wp_seq ?_
 refine d_r [0,1,2,3,8,9,28] [(1, g_b (show (((sizeOfH h : Nat) : Int) == (0 : Int)) = false from (beq_eq_false_iff_ne.2 (by omega)))), (4, g_b (show (decide (((m : Nat) : Int) < (0 : Int))) = false from (decide_eq_false (by omega)))), (9, g_n (w_m 255 (sizeOfH h))), (10, g_b (show (decide (((m : Nat) : Int) > ((255 * (sizeOfH h) : Nat) : Int))) = false from (decide_eq_false (by omega))))] En13 fun ac14 En15 => ?_
 refine then_normal ?_
 refine c_f En15 ?_
 refine wp_skip ?_
 refine then_normal ?_
 refine wp_seq ?_
 refine region_from ?_
 refine d_k [0,2,3,8,9,29,30] [] 2 En15 fun ac16 En17 => ?_
 refine f_o ?_
 refine c_0 En17 Hv11 (keyed_go _ h hh ak (List.length lk) ck lk (by first | rfl | (simp; done) | (simp; omega) | omega) ((ik.ev Hv11).pick [] (by kernel_rfl)) ((gk32.ev Hv11).pick [] (by kernel_rfl)) ((gk64.ev Hv11).pick [] (by kernel_rfl))) ?_
 rintro _ wo20 ⟨biq18, boq18, dxq18, dyq18, axq18, cxq18, ayq18, cyq18, rfl, he21⟩
 refine ⟨_, _, _, rfl, he21, rfl, fun ac23 En24 Hv25 => ?_⟩
 refine d_e [0,2,3,8,9,11] [] En24 fun ac26 En27 => ?_
 refine then_normal ?_
 refine wp_seq ?_
 refine d_r [0,2,3,8,9,11,12,13] [] En27 fun ac28 En29 => ?_
 refine then_normal ?_
 refine wp_seq ?_
 refine wp_seq ?_
 refine d_r [0,2,3,8,9,11,12,13,14] [] En29 fun ac30 En31 => ?_
 refine then_normal ?_
 refine wp_block ?_
 have Hv32 := Ev.nil (sz := 1) (T := 5) Hv25
 have Hv33 := Ev.nil (sz := 1) (T := 5) Hv32
 refine loop_m (fun ms34 ac wo => ∃ (i : Nat) (a1 : Option Addr) (c1 : Nat) (a2 : Option Addr) (c2 : Nat), ms34 = (m + sizeOfH h - List.length (outF h lk lz i) : Nat) ∧ Env ac 52 [(0, .int .i64 h), (2, .slice az (List.length lz) cz), (3, ni m), (8, .slice none 0 0), (9, .int .i64 0), (11, .func (.func 46) #[] #[pt biq18, pt boq18]), (12, .slice a1 (List.length (outF h lk lz i)) c1), (13, .slice a2 (List.length (tF h lk lz i)) c2), (14, bv (UInt8.ofNat (i + 1)))] ∧ Ev w [] wo [.vec a1 c1 1 (bys (outF h lk lz i)) 5, .vec a2 c2 1 (bys (tF h lk lz i)) 5, .box biq18 [pt dxq18] 31, .box boq18 [pt dyq18] 31, .box dxq18 (([.int .i64 h] : List Value) ++ ((u32s (S32 h (inK h lk))) ++ ((u64s (S64 h (inK h lk))) ++ ([.slice axq18 (List.length (restH h (inK h lk))) cxq18, uv64 (UInt64.ofNat (List.length (inK h lk)))] : List Value)))) 58, .vec axq18 cxq18 1 (bys (restH h (inK h lk))) 5, .box dyq18 (([.int .i64 h] : List Value) ++ ((u32s (S32 h (outK h lk))) ++ ((u64s (S64 h (outK h lk))) ++ ([.slice ayq18 (List.length (restH h (outK h lk))) cyq18, uv64 (UInt64.ofNat (List.length (outK h lk)))] : List Value)))) 58, .vec ayq18 cyq18 1 (bys (restH h (outK h lk))) 5] ∧ (List.length (outF h lk lz i) < m + sizeOfH h)) ⟨_, 0, none, 0, none, 0, rfl, En31.sb, Hv33.pk [6, 7, 0, 1, 2, 3, 4, 5], by show 0 < m + sizeOfH h; omega⟩ ?_
 rintro mm40 ac36 wo37 ⟨i, a1, c1, a2, c2, rfl, En38, Hv39, hi⟩
 refine wp_seq ?_
 refine wp_seq ?_
 have hi3 : 32 * i ≤ List.length (outF h lk lz i) := by rw [outF_len hh]; exact Nat.mul_le_mul_right i (by omega)
 refine d_r [0,2,3,8,9,11,12,13,14,35] [] En38 fun ac41 En42 => ?_
 refine then_normal ?_
 refine c_d (((List.length (outF h lk lz i) : Nat) : Int) < ((m : Nat) : Int)) En42 (fun hc43 => ?_) (fun hc43 => ?_)
 ·
  refine wp_skip ?_
  refine then_normal ?_
  refine wp_seq ?_
  refine wp_block ?_
  refine wp_seq ?_
  have hL1 : List.length (outF h lk lz (i + 1)) = List.length (outF h lk lz i) + sizeOfH h := by rw [outF_len hh, outF_len hh, Nat.mul_succ]
  have ht0 := tF_le hh lk lz i
  have ht1 := tF_len hh lk lz i
  refine region_from ?_
  refine d_k [0,2,3,8,9,11,12,13,14,38,39,40,41] [] 4 En42 fun ac44 En45 => ?_
  refine f_o ?_
  refine op_lit (d := some 42) (t := 23) (T := 5) (m := 1) (parts := #[(0, bv (UInt8.ofNat (i + 1)))]) (xs := bys [UInt8.ofNat (i + 1)]) (sz := 1) En45 (by kernel_rfl) (by kernel_rfl) rfl (by decide) Hv39 ?_
  intro ac47 wo48 bk46 En49 Hv50
  refine f_o ?_
  refine op_lit (d := some 43) (t := 30) (T := 23) (m := 3) (parts := #[(0, .slice a2 (List.length (tF h lk lz i)) c2), (1, .slice az (List.length lz) cz), (2, .slice (some ⟨bk46, 0, none⟩) 1 1)]) (xs := [.slice a2 (List.length (tF h lk lz i)) c2, .slice az (List.length lz) cz, .slice (some ⟨bk46, 0, none⟩) 1 1]) (sz := 1) En49 (by kernel_rfl) (by kernel_rfl) rfl (by decide) Hv50 ?_
  intro ac52 wo53 bk51 En54 Hv55
  refine f_o ?_
  refine c_l [2,3,4,5,6,7] (M := [.box biq18 [pt dxq18] 31, .box boq18 [pt dyq18] 31, .box dxq18 (([.int .i64 h] : List Value) ++ ((u32s (S32 h (inK h lk))) ++ ((u64s (S64 h (inK h lk))) ++ ([.slice axq18 (List.length (restH h (inK h lk))) cxq18, uv64 (UInt64.ofNat (List.length (inK h lk)))] : List Value)))) 58, .vec axq18 cxq18 1 (bys (restH h (inK h lk))) 5, .box dyq18 (([.int .i64 h] : List Value) ++ ((u32s (S32 h (outK h lk))) ++ ((u64s (S64 h (outK h lk))) ++ ([.slice ayq18 (List.length (restH h (outK h lk))) cyq18, uv64 (UInt64.ofNat (List.length (outK h lk)))] : List Value)))) 58, .vec ayq18 cyq18 1 (bys (restH h (outK h lk))) 5]) En54 Hv55 (fun hM57 => code_go _ biq18 boq18 dxq18 dyq18 h hh (inK h lk) (outK h lk) axq18 cxq18 ayq18 cyq18 (some ⟨bk51, 0, none⟩) 3 3 ([⟨a2, c2, tF h lk lz i⟩, ⟨az, cz, lz⟩, ⟨some ⟨bk46, 0, none⟩, 1, [UInt8.ofNat (i + 1)]⟩] : List (Sl UInt8)) (by first | rfl | (simp; done) | (simp; omega) | omega) ⟨Hv55.heap.ro (k := 9) rfl [2, 3, 4, 5, 6, 7] (by kernel_rfl) rfl, (fun e => by cases e), (by simp), (by simp), (List.forall_mem_cons.2 ⟨(bys_in Hv55.heap (k := 1) rfl [2, 3, 4, 5, 6, 7] (by kernel_rfl) rfl (by first | decide | (simp; done) | (simp; omega) | omega)), (List.forall_mem_cons.2 ⟨((iz.ev Hv55).pick [2, 3, 4, 5, 6, 7] (by kernel_rfl)), (List.forall_mem_cons.2 ⟨(bys_in Hv55.heap (k := 8) rfl [2, 3, 4, 5, 6, 7] (by kernel_rfl) rfl (by first | decide | (simp; done) | (simp; omega) | omega)), (fun x h => absurd h List.not_mem_nil)⟩)⟩)⟩)⟩ ((gk32.ev Hv55).pick [2, 3, 4, 5, 6, 7] (by kernel_rfl)) ((gk64.ev Hv55).pick [2, 3, 4, 5, 6, 7] (by kernel_rfl)) hM57) ?_
  rintro _ wo58 ⟨aoq56, coq56, rfl, he59⟩
  refine ⟨_, _, [.box biq18 [pt dxq18] 31, .box boq18 [pt dyq18] 31, .box dxq18 (([.int .i64 h] : List Value) ++ ((u32s (S32 h (inK h lk))) ++ ((u64s (S64 h (inK h lk))) ++ ([.slice axq18 (List.length (restH h (inK h lk))) cxq18, uv64 (UInt64.ofNat (List.length (inK h lk)))] : List Value)))) 58, .vec axq18 cxq18 1 (bys (restH h (inK h lk))) 5, .box dyq18 (([.int .i64 h] : List Value) ++ ((u32s (S32 h (outK h lk))) ++ ((u64s (S64 h (outK h lk))) ++ ([.slice ayq18 (List.length (restH h (outK h lk))) cyq18, uv64 (UInt64.ofNat (List.length (outK h lk)))] : List Value)))) 58, .vec ayq18 cyq18 1 (bys (restH h (outK h lk))) 5, .vec aoq56 coq56 1 (bys (sumF h ((outK h lk) ++ sumF h ((inK h lk) ++ (List.flatMap (fun s : Sl UInt8 => s.l) ([⟨a2, c2, tF h lk lz i⟩, ⟨az, cz, lz⟩, ⟨some ⟨bk46, 0, none⟩, 1, [UInt8.ofNat (i + 1)]⟩] : List (Sl UInt8))))))) 5, .vec a1 c1 1 (bys (outF h lk lz i)) 5, .vec a2 c2 1 (bys (tF h lk lz i)) 5, .vec (some ⟨bk46, 0, none⟩) 1 1 (bys [UInt8.ofNat (i + 1)]) 5, .vec (some ⟨bk51, 0, none⟩) 3 1 [.slice a2 (List.length (tF h lk lz i)) c2, .slice az (List.length lz) cz, .slice (some ⟨bk46, 0, none⟩) 1 1] 23], rfl, he59, by kernel_rfl, fun ac61 En62 Hv63 => ?_⟩
  refine d_e [0,2,3,8,9,11,12,13,14] [] En62 fun ac64 En65 => ?_
  have hfl : sumF h ((outK h lk) ++ sumF h ((inK h lk) ++ (List.flatMap (fun s : Sl UInt8 => s.l) ([⟨a2, c2, tF h lk lz i⟩, ⟨az, cz, lz⟩, ⟨some ⟨bk46, 0, none⟩, 1, [UInt8.ofNat (i + 1)]⟩] : List (Sl UInt8))))) = tF h lk lz (i + 1) := by simp [tF, macF, List.append_assoc]
  rw [hfl] at Hv63
  rw [hfl] at En65
  refine then_normal ?_
  refine region_from ?_
  refine d_k [0,2,3,8,9,11,12,13,14,45,46] [] 2 En65 fun ac66 En67 => ?_
  refine f_o ?_
  refine op_append (d := some 47) (t := 23) (tx := 23) (ty := 23) (k := 7) (p := List.length (outF h lk lz i)) (m := List.length (tF h lk lz (i + 1))) (x := .slice aoq56 (List.length (tF h lk lz (i + 1))) coq56) (bytes := 1) En67 (by kernel_rfl) Hv63 rfl (bys_len _) (Reads.src (size := 1) (tx := 23) (e' := 5) (by kernel_rfl) (Hv63.heap.reads (k := 6) rfl) (bys_len _) (bys_vnz Hv63.heap (k := 6) rfl) (bys_one _)) (by kernel_rfl) (z := .int .u8 0) (by kernel_rfl) rfl (by decide) (by omega) (by unfold maxLen; omega) ?_
  intro ac72 wo73 ao68 cp69 En74 Hv75 hnz _
  clear hnz
  rw [← bys_append] at Hv75
  have ehz70 : (List.length (outF h lk lz i)) + (List.length (tF h lk lz (i + 1))) = List.length ((outF h lk lz i) ++ (tF h lk lz (i + 1))) := (by first | (simp; done) | (simp; omega) | omega)
  rw [ehz70] at En74
  refine d_e [0,2,3,8,9,11,12,13,14] [] En74 fun ac76 En77 => ?_
  have hfo : (outF h lk lz i) ++ (tF h lk lz (i + 1)) = outF h lk lz (i + 1) := rfl
  rw [hfo] at Hv75
  rw [hfo] at En77
  refine block_normal ?_
  refine then_normal ?_
  have hi3 : 32 * i ≤ List.length (outF h lk lz i) := by rw [outF_len hh]; exact Nat.mul_le_mul_right i (by omega)
  refine d_r [0,2,3,8,9,11,12,13,14] [(1, g_v (show (.int .u8 (IntKind.wrap .u8 (((UInt8.toNat (UInt8.ofNat (i + 1)) : Nat) : Int) + (1 : Int))) : Value) = bv (UInt8.ofNat (i + 1 + 1)) by rw [Go.Dbr.u8_add (a := ((UInt8.toNat (UInt8.ofNat (i + 1)) : Nat) : Int)) (b := (1 : Int)) (x := UInt8.ofNat (i + 1)) (y := (1 : UInt8)) rfl rfl, congrArg (fun x : UInt8 => ((UInt8.toNat x : Nat) : Int)) (ofNat_succ8 (i + 1))] <;> rfl))] En77 fun ac78 En79 => ?_
  refine then_normal ?_
  refine ⟨_, ⟨i + 1, ao68, cp69, aoq56, coq56, rfl, En79.sb, Hv75.pk [7, 6, 0, 1, 2, 3, 4, 5], by omega⟩, ?_⟩
  omega
 ·
  refine wp_exit ?_
  refine then_exit ?_
  refine then_exit ?_
  refine block_exit ?_
  refine then_normal ?_
  refine wp_seq ?_
  have hoi := outF_len hh lk lz i
  have hxp := expF_of hh lk lz (n := m) (i := i) (by omega)
  refine region_from ?_
  refine d_k [0,2,3,8,9,11,12,13,14,48,49] [] 2 En42 fun ac80 En81 => ?_
  refine f_o ?_
  have hcap82 := bys_vcap Hv39.heap (k := 0) rfl
  refine op_slice0 (d := some 50) (t := 23) (e := 5) (sz := 1) (len := List.length (outF h lk lz i)) (cap := c1) (hi := m) (ao := a1) (lov := none) (hiv := (some (ni m))) En81 (by kernel_rfl) (by kernel_rfl) (by kernel_rfl) (by omega) (.inl ⟨rfl, rfl⟩) (.inr ⟨.i64, rfl⟩) ?_
  intro ac83 En84
  have Hv85 : Ev w [] wo37 [.vec a1 c1 1 (bys (List.take m (outF h lk lz i))) 5, .vec a2 c2 1 (bys (tF h lk lz i)) 5, .box biq18 [pt dxq18] 31, .box boq18 [pt dyq18] 31, .box dxq18 (([.int .i64 h] : List Value) ++ ((u32s (S32 h (inK h lk))) ++ ((u64s (S64 h (inK h lk))) ++ ([.slice axq18 (List.length (restH h (inK h lk))) cxq18, uv64 (UInt64.ofNat (List.length (inK h lk)))] : List Value)))) 58, .vec axq18 cxq18 1 (bys (restH h (inK h lk))) 5, .box dyq18 (([.int .i64 h] : List Value) ++ ((u32s (S32 h (outK h lk))) ++ ((u64s (S64 h (outK h lk))) ++ ([.slice ayq18 (List.length (restH h (outK h lk))) cyq18, uv64 (UInt64.ofNat (List.length (outK h lk)))] : List Value)))) 58, .vec ayq18 cyq18 1 (bys (restH h (outK h lk))) 5] := by
   have h := Ev.cut (k := 0) (n := List.length (outF h lk lz i)) (sz := 1) Hv39 rfl (bys_len _) (by omega) 0 m (by omega) (by omega)
   rw [cutAt_zero] at h
   rw [bys_cut0] at h
   exact h
  refine f_o ?_
  have Hv86 : Ev w [] wo37 [.vec a1 c1 1 (bys (List.take m (outF h lk lz i))) 5, .vec a2 c2 1 (bys (tF h lk lz i)) 5, .box biq18 [pt dxq18] 31, .box boq18 [pt dyq18] 31, .box dxq18 (([.int .i64 h] : List Value) ++ ((u32s (S32 h (inK h lk))) ++ ((u64s (S64 h (inK h lk))) ++ ([.slice axq18 (List.length (restH h (inK h lk))) cxq18, uv64 (UInt64.ofNat (List.length (inK h lk)))] : List Value)))) 58, .vec axq18 cxq18 1 (bys (restH h (inK h lk))) 5, .box dyq18 (([.int .i64 h] : List Value) ++ ((u32s (S32 h (outK h lk))) ++ ((u64s (S64 h (outK h lk))) ++ ([.slice ayq18 (List.length (restH h (outK h lk))) cyq18, uv64 (UInt64.ofNat (List.length (outK h lk)))] : List Value)))) 58, .vec ayq18 cyq18 1 (bys (restH h (outK h lk))) 5, .vec none 0 1 (bys []) 5] := Ev.nil (sz := 1) (T := 5) Hv85
  refine op_append (d := some 51) (t := 23) (tx := 23) (ty := 23) (k := 8) (p := 0) (m := m) (x := .slice a1 m c1) (bytes := 1) En84 (by kernel_rfl) Hv86 rfl (bys_lenn (by simp)) (Reads.src (size := 1) (tx := 23) (e' := 5) (by kernel_rfl) (Hv86.heap.reads (k := 0) rfl) (bys_lenn (by simp; omega)) (fun e => by have h := (bys_vnz Hv86.heap (k := 0) rfl) e; first | omega | (rw [List.length_take] at h; omega) | (simp at h; omega)) (bys_one _)) (by kernel_rfl) (z := .int .u8 0) (by kernel_rfl) rfl (by decide) (by omega) (by unfold maxLen; omega) ?_
  intro ac91 wo92 ao87 cp88 En93 Hv94 hnz _
  clear hnz
  rw [bys_nil_append] at Hv94
  have ehz89 : 0 + m = List.length (List.take m (outF h lk lz i)) := (by first | (simp; done) | (simp; omega) | omega)
  rw [ehz89] at En93
  refine d_e [0,2,3,8,9,11,12,13,14] [] En93 fun ac95 En96 => ?_
  refine then_normal ?_
  refine wp_ret ?_
  refine d_ret2 (t := 8) (u := 9) (v := .slice ao87 (List.length (List.take m (outF h lk lz i))) cp88) (x := .int .i64 0) En96 (by kernel_rfl) (by kernel_rfl) (by kernel_rfl) ?_
  have Hf97 := Hv94.pk [8] (M := [.vec ao87 cp88 1 (bys (List.take m (outF h lk lz i))) 5])
  have hfe : List.take m (outF h lk lz i) = expF h lk lz m := by simpa using hxp
  rw [hfe] at Hf97
  exact ⟨_, _, by first | rfl | (rw [hfe, expF_len hh]) | (simp [expF_len hh]; done), Hf97⟩

theorem refexp_go (w : World) (h : Int) (hh : h = 1 ∨ h = 2 ∨ h = 3) (ak : Option Addr) (nk ck : Nat) (lk : List UInt8) (ek : nk = List.length lk) (ik : InB w [] ak ck lk) (az : Option Addr) (nz cz : Nat) (lz : List UInt8) (ez : nz = List.length lz) (iz : InB w [] az cz lz) (hbi : List.length lz ≤ 140737488351232) (m : Nat) (hm : m ≤ 255 * sizeOfH h) : Calls Tryd.prog 32 #[.int .i64 h, .slice ak nk ck, .slice az nz cz, ni m] w fun e w' => ∃ ao co, e = .returned (.tuple #[.slice ao m co, .int .i64 0]) ∧ Ev w [] w' [.vec ao co 1 (bys (expF h lk lz m)) 5] := by
 subst ek
 subst ez
 have hs := ik.small
 have hck := ik.cap
 have hs2 := iz.small
 have hci := iz.cap
 have hbg := block_ge hh
 have hsz64 := size_le h
 have hsz : sizeOfH h ≠ 0 := by rcases hh with rfl | rfl | rfl <;> decide
 refine d_0 [(0, .int .i64 h), (1, .slice ak (List.length lk) ck), (2, .slice az (List.length lz) cz), (3, ni m)] 54 Go.Proofs.Tryd.func32 Go.Proofs.Tryd.ntmps32 (Heap.nil _) fun act0 En0 Hv0 => ?_
 refine wp_seq ?_
 refine d_r [0,1,2,3,8,9] [] En0 fun ac1 En2 => ?_
 refine then_normal ?_
 refine wp_seq ?_
 refine region_from ?_
 refine d_k [0,1,2,3,8,9,15] [] 1 En2 fun ac3 En4 => ?_
 refine f_o ?_
 refine c_p En4 Hv0 (dsize_go _ h) fun ac9 wo6 En10 Hv11 => ?_
 refine d_e [0,1,2,3,8,9,10] [] En10 fun ac12 En13 => ?_
 refine then_normal ?_
 refine wp_seq ?_
 refine wp_seq ?_
 refine d_r [0,1,2,3,8,9,28] [(1, g_b (show (((sizeOfH h : Nat) : Int) == (0 : Int)) = false from (beq_eq_false_iff_ne.2 (by omega)))), (4, g_b (show (decide (((m : Nat) : Int) < (0 : Int))) = false from (decide_eq_false (by omega)))), (9, g_n (w_m 255 (sizeOfH h))), (10, g_b (show (decide (((m : Nat) : Int) > ((255 * (sizeOfH h) : Nat) : Int))) = false from (decide_eq_false (by omega))))] En13 fun ac14 En15 => ?_
 refine then_normal ?_
 refine c_f En15 ?_
 refine wp_skip ?_
 refine then_normal ?_
 refine wp_seq ?_
 refine d_r [0,1,2,3,8,9,11] [] En15 fun ac16 En17 => ?_
 refine then_normal ?_
 refine wp_seq ?_
 refine d_r [0,1,2,3,8,9,11,12] [] En17 fun ac18 En19 => ?_
 refine then_normal ?_
 refine wp_seq ?_
 refine wp_seq ?_
 refine d_r [0,1,2,3,8,9,11,12,13] [] En19 fun ac20 En21 => ?_
 refine then_normal ?_
 refine wp_block ?_
 have Hv22 := Ev.nil (sz := 1) (T := 5) Hv11
 have Hv23 := Ev.nil (sz := 1) (T := 5) Hv22
 refine loop_m (fun ms24 ac wo => ∃ (i : Nat) (a1 : Option Addr) (c1 : Nat) (a2 : Option Addr) (c2 : Nat), ms24 = (m + sizeOfH h - List.length (outF h lk lz i) : Nat) ∧ Env ac 54 [(0, .int .i64 h), (1, .slice ak (List.length lk) ck), (2, .slice az (List.length lz) cz), (3, ni m), (8, .slice none 0 0), (9, .int .i64 0), (11, .slice a1 (List.length (outF h lk lz i)) c1), (12, .slice a2 (List.length (tF h lk lz i)) c2), (13, ni (i + 1))] ∧ Ev w [] wo [.vec a1 c1 1 (bys (outF h lk lz i)) 5, .vec a2 c2 1 (bys (tF h lk lz i)) 5] ∧ (List.length (outF h lk lz i) < m + sizeOfH h)) ⟨_, 0, none, 0, none, 0, rfl, En21.sb, Hv23.pk [0, 1], by show 0 < m + sizeOfH h; omega⟩ ?_
 rintro mm30 ac26 wo27 ⟨i, a1, c1, a2, c2, rfl, En28, Hv29, hi⟩
 refine wp_seq ?_
 refine wp_seq ?_
 have hi3 : 32 * i ≤ List.length (outF h lk lz i) := by rw [outF_len hh]; exact Nat.mul_le_mul_right i (by omega)
 refine d_r [0,1,2,3,8,9,11,12,13,32] [] En28 fun ac31 En32 => ?_
 refine then_normal ?_
 refine c_d (((List.length (outF h lk lz i) : Nat) : Int) < ((m : Nat) : Int)) En32 (fun hc33 => ?_) (fun hc33 => ?_)
 ·
  refine wp_skip ?_
  refine then_normal ?_
  refine wp_seq ?_
  refine wp_block ?_
  refine wp_seq ?_
  have hL1 : List.length (outF h lk lz (i + 1)) = List.length (outF h lk lz i) + sizeOfH h := by rw [outF_len hh, outF_len hh, Nat.mul_succ]
  have ht0 := tF_le hh lk lz i
  have ht1 := tF_len hh lk lz i
  refine region_from ?_
  refine f_o ?_
  refine op_lit (d := some 35) (t := 23) (T := 5) (m := 0) (parts := #[]) (xs := bys []) (sz := 1) En32 (by kernel_rfl) (by kernel_rfl) rfl (by decide) Hv29 ?_
  intro ac35 wo36 bk34 En37 Hv38
  refine d_k [0,1,2,3,8,9,11,12,13,35,36] [] 2 En37 fun ac39 En40 => ?_
  refine f_o ?_
  refine op_append (d := some 37) (t := 23) (tx := 23) (ty := 23) (k := 2) (p := 0) (m := List.length (tF h lk lz i)) (x := .slice a2 (List.length (tF h lk lz i)) c2) (bytes := 1) En40 (by kernel_rfl) Hv38 rfl rfl (Reads.src (size := 1) (tx := 23) (e' := 5) (by kernel_rfl) (Hv38.heap.reads (k := 1) rfl) (bys_len _) (bys_vnz Hv38.heap (k := 1) rfl) (bys_one _)) (by kernel_rfl) (z := .int .u8 0) (by kernel_rfl) rfl (by decide) (by omega) (by unfold maxLen; omega) ?_
  intro ac45 wo46 ao41 cp42 En47 Hv48 hnz _
  clear hnz
  rw [bys_nil_append] at Hv48
  have ehz43 : 0 + (List.length (tF h lk lz i)) = List.length (tF h lk lz i) := (by first | (simp; done) | (simp; omega) | omega)
  rw [ehz43] at En47
  refine d_k [0,1,2,3,8,9,11,12,13,37,38] [] 4 En47 fun ac49 En50 => ?_
  refine f_o ?_
  have hsm51 := iz.small
  refine op_append (d := some 39) (t := 23) (tx := 23) (ty := 23) (k := 2) (p := List.length (tF h lk lz i)) (m := List.length lz) (x := .slice az (List.length lz) cz) (bytes := 1) En50 (by kernel_rfl) Hv48 rfl (bys_len _) (Reads.src (size := 1) (tx := 23) (e' := 5) (by kernel_rfl) (iz.ev Hv48).reads (bys_len _) iz.nz (bys_one _)) (by kernel_rfl) (z := .int .u8 0) (by kernel_rfl) rfl (by decide) (by omega) (by unfold maxLen; omega) ?_
  intro ac56 wo57 ao52 cp53 En58 Hv59 hnz _
  clear hnz
  rw [← bys_append] at Hv59
  have ehz54 : (List.length (tF h lk lz i)) + (List.length lz) = List.length ((tF h lk lz i) ++ lz) := (by first | (simp; done) | (simp; omega) | omega)
  rw [ehz54] at En58
  refine d_e [0,1,2,3,8,9,11,12,13,14] [] En58 fun ac60 En61 => ?_
  refine then_normal ?_
  refine wp_seq ?_
  refine region_from ?_
  refine d_k [0,1,2,3,8,9,11,12,13,40,41,42,44] [(4, g_i .u8 (wrap_u8_nat (i + 1)))] 5 En61 fun ac62 En63 => ?_
  refine f_o ?_
  refine op_lit (d := some 45) (t := 23) (T := 5) (m := 1) (parts := #[(0, bv (UInt8.ofNat (i + 1)))]) (xs := bys [UInt8.ofNat (i + 1)]) (sz := 1) En63 (by kernel_rfl) (by kernel_rfl) rfl (by decide) Hv59 ?_
  intro ac65 wo66 bk64 En67 Hv68
  refine f_o ?_
  refine op_append (d := some 46) (t := 23) (tx := 23) (ty := 23) (k := 2) (p := List.length ((tF h lk lz i) ++ lz)) (m := 1) (x := .slice (some ⟨bk64, 0, none⟩) 1 1) (bytes := 1) En67 (by kernel_rfl) Hv68 rfl (bys_len _) (Reads.src (size := 1) (tx := 23) (e' := 5) (by kernel_rfl) (Hv68.heap.reads (k := 3) rfl) rfl (fun e => by cases e) (bys_one _)) (by kernel_rfl) (z := .int .u8 0) (by kernel_rfl) rfl (by decide) (by omega) (by unfold maxLen; omega) ?_
  intro ac73 wo74 ao69 cp70 En75 Hv76 hnz _
  clear hnz
  rw [← bys_append] at Hv76
  have ehz71 : (List.length ((tF h lk lz i) ++ lz)) + 1 = List.length (((tF h lk lz i) ++ lz) ++ [UInt8.ofNat (i + 1)]) := (by first | (simp; done) | (simp; omega) | omega)
  rw [ehz71] at En75
  refine f_o ?_
  refine c_0 En75 Hv76 (refof_go _ h hh ak (List.length lk) ck lk (by first | rfl | (simp; done) | (simp; omega) | omega) ((ik.ev Hv76).pick [] (by kernel_rfl)) ao69 (List.length (((tF h lk lz i) ++ lz) ++ [UInt8.ofNat (i + 1)])) cp70 (((tF h lk lz i) ++ lz) ++ [UInt8.ofNat (i + 1)]) (by first | rfl | (simp; done) | (simp; omega) | omega) (bys_in Hv76.heap (k := 2) rfl [] (by kernel_rfl) rfl (by first | omega | (simp; done) | (simp; omega))) (by first | omega | (simp; omega))) ?_
  rintro _ wo79 ⟨aoq77, coq77, rfl, he80⟩
  refine ⟨_, _, _, rfl, he80, rfl, fun ac82 En83 Hv84 => ?_⟩
  refine d_e [0,1,2,3,8,9,11,12,13] [] En83 fun ac85 En86 => ?_
  have hfl : macF h lk (((tF h lk lz i) ++ lz) ++ [UInt8.ofNat (i + 1)]) = tF h lk lz (i + 1) := by simp [tF, macF, List.append_assoc]
  rw [hfl] at Hv84
  rw [hfl] at En86
  refine then_normal ?_
  refine region_from ?_
  refine d_k [0,1,2,3,8,9,11,12,13,48,49] [] 2 En86 fun ac87 En88 => ?_
  refine f_o ?_
  refine op_append (d := some 50) (t := 23) (tx := 23) (ty := 23) (k := 1) (p := List.length (outF h lk lz i)) (m := List.length (tF h lk lz (i + 1))) (x := .slice aoq77 (List.length (tF h lk lz (i + 1))) coq77) (bytes := 1) En88 (by kernel_rfl) Hv84 rfl (bys_len _) (Reads.src (size := 1) (tx := 23) (e' := 5) (by kernel_rfl) (Hv84.heap.reads (k := 0) rfl) (bys_len _) (bys_vnz Hv84.heap (k := 0) rfl) (bys_one _)) (by kernel_rfl) (z := .int .u8 0) (by kernel_rfl) rfl (by decide) (by omega) (by unfold maxLen; omega) ?_
  intro ac93 wo94 ao89 cp90 En95 Hv96 hnz _
  clear hnz
  rw [← bys_append] at Hv96
  have ehz91 : (List.length (outF h lk lz i)) + (List.length (tF h lk lz (i + 1))) = List.length ((outF h lk lz i) ++ (tF h lk lz (i + 1))) := (by first | (simp; done) | (simp; omega) | omega)
  rw [ehz91] at En95
  refine d_e [0,1,2,3,8,9,11,12,13] [] En95 fun ac97 En98 => ?_
  have hfo : (outF h lk lz i) ++ (tF h lk lz (i + 1)) = outF h lk lz (i + 1) := rfl
  rw [hfo] at Hv96
  rw [hfo] at En98
  refine block_normal ?_
  refine then_normal ?_
  have hi3 : 32 * i ≤ List.length (outF h lk lz i) := by rw [outF_len hh]; exact Nat.mul_le_mul_right i (by omega)
  refine d_r [0,1,2,3,8,9,11,12,13] [(1, g_n (w_a (i + 1) 1))] En98 fun ac99 En100 => ?_
  refine then_normal ?_
  refine ⟨_, ⟨i + 1, ao89, cp90, aoq77, coq77, rfl, En100.sb, Hv96.pk [1, 0], by omega⟩, ?_⟩
  omega
 ·
  refine wp_exit ?_
  refine then_exit ?_
  refine then_exit ?_
  refine block_exit ?_
  refine then_normal ?_
  refine wp_seq ?_
  have hoi := outF_len hh lk lz i
  have hxp := expF_of hh lk lz (n := m) (i := i) (by omega)
  refine region_from ?_
  refine d_k [0,1,2,3,8,9,11,12,13,51,52] [] 2 En32 fun ac101 En102 => ?_
  refine f_o ?_
  have hcap103 := bys_vcap Hv29.heap (k := 0) rfl
  refine op_slice0 (d := some 53) (t := 23) (e := 5) (sz := 1) (len := List.length (outF h lk lz i)) (cap := c1) (hi := m) (ao := a1) (lov := none) (hiv := (some (ni m))) En102 (by kernel_rfl) (by kernel_rfl) (by kernel_rfl) (by omega) (.inl ⟨rfl, rfl⟩) (.inr ⟨.i64, rfl⟩) ?_
  intro ac104 En105
  have Hv106 : Ev w [] wo27 [.vec a1 c1 1 (bys (List.take m (outF h lk lz i))) 5, .vec a2 c2 1 (bys (tF h lk lz i)) 5] := by
   have h := Ev.cut (k := 0) (n := List.length (outF h lk lz i)) (sz := 1) Hv29 rfl (bys_len _) (by omega) 0 m (by omega) (by omega)
   rw [cutAt_zero] at h
   rw [bys_cut0] at h
   exact h
  refine d_e [0,1,2,3,8,9,11,12,13] [] En105 fun ac107 En108 => ?_
  refine then_normal ?_
  refine wp_ret ?_
  refine d_ret2 (t := 8) (u := 9) (v := .slice a1 m c1) (x := .int .i64 0) En108 (by kernel_rfl) (by kernel_rfl) (by kernel_rfl) ?_
  have Hf109 := Hv106.pk [0] (M := [.vec a1 c1 1 (bys (List.take m (outF h lk lz i))) 5])
  have hfe : List.take m (outF h lk lz i) = expF h lk lz m := by simpa using hxp
  rw [hfe] at Hf109
  exact ⟨_, _, by first | rfl | (rw [hfe, expF_len hh]) | (simp [expF_len hh]; done), Hf109⟩

theorem exp_bad0 (w : World) (h : Int) (hh : ¬ (h = 1 ∨ h = 2 ∨ h = 3)) (ak : Option Addr) (nk ck : Nat) (lk : List UInt8) (ek : nk = List.length lk) (ik : InB w [] ak ck lk) (az : Option Addr) (nz cz : Nat) (lz : List UInt8) (ez : nz = List.length lz) (iz : InB w [] az cz lz) (n : Int) : Calls Tryd.prog 31 #[.int .i64 h, .slice ak nk ck, .slice az nz cz, .int .i64 n] w fun e w' => e = .returned (.tuple #[.slice none 0 0, .int .i64 1]) ∧ Ev w [] w' [] := by
 subst ek
 subst ez
 have hsz : sizeOfH h = 0 := by unfold sizeOfH; rw [if_neg (by omega), if_neg (by omega), if_neg (by omega)]
 refine d_0 [(0, .int .i64 h), (1, .slice ak (List.length lk) ck), (2, .slice az (List.length lz) cz), (3, .int .i64 n)] 52 Go.Proofs.Tryd.func31 Go.Proofs.Tryd.ntmps31 (Heap.nil _) fun act0 En0 Hv0 => ?_
 refine d_s [0,1,2,3,8,9] [] En0 fun ac1 En2 => ?_
 refine wp_seq ?_
 refine region_from ?_
 refine d_k [0,1,2,3,8,9,15] [] 1 En2 fun ac3 En4 => ?_
 refine f_o ?_
 refine c_p En4 Hv0 (size_go _ h) fun ac9 wo6 En10 Hv11 => ?_
 refine d_e [0,1,2,3,8,9,10] [] En10 fun ac12 En13 => ?_
 refine then_normal ?_
 refine wp_seq ?_
 refine d_s [0,1,2,3,8,9,28] [(1, g_b (show (((sizeOfH h : Nat) : Int) == (0 : Int)) = true from (by rw [hsz]; rfl)))] En13 fun ac14 En15 => ?_
 refine c_t En15 ?_
 refine d_s [0,1,2,3,8,9] [] En15 fun ac16 En17 => ?_
 refine wp_ret ?_
 refine then_ret ?_
 refine d_ret2 (t := 8) (u := 9) (v := .slice none 0 0) (x := .int .i64 1) En17 (by kernel_rfl) (by kernel_rfl) (by kernel_rfl) ?_
 exact ⟨rfl, Hv11.pk []⟩

theorem exp_bad1 (w : World) (h : Int) (hh : h = 1 ∨ h = 2 ∨ h = 3) (ak : Option Addr) (nk ck : Nat) (lk : List UInt8) (ek : nk = List.length lk) (ik : InB w [] ak ck lk) (az : Option Addr) (nz cz : Nat) (lz : List UInt8) (ez : nz = List.length lz) (iz : InB w [] az cz lz) (n : Int) (hn : n < 0 ∨ 255 * (sizeOfH h : Int) < n) : Calls Tryd.prog 31 #[.int .i64 h, .slice ak nk ck, .slice az nz cz, .int .i64 n] w fun e w' => e = .returned (.tuple #[.slice none 0 0, .int .i64 1]) ∧ Ev w [] w' [] := by
 subst ek
 subst ez
 have hs := ik.small
 have hck := ik.cap
 have hs2 := iz.small
 have hci := iz.cap
 have hbg := block_ge hh
 have hsz64 := size_le h
 have hsz : sizeOfH h ≠ 0 := by rcases hh with rfl | rfl | rfl <;> decide
 refine d_0 [(0, .int .i64 h), (1, .slice ak (List.length lk) ck), (2, .slice az (List.length lz) cz), (3, .int .i64 n)] 52 Go.Proofs.Tryd.func31 Go.Proofs.Tryd.ntmps31 (Heap.nil _) fun act0 En0 Hv0 => ?_
 refine d_s [0,1,2,3,8,9] [] En0 fun ac1 En2 => ?_
 refine wp_seq ?_
 refine region_from ?_
 refine d_k [0,1,2,3,8,9,15] [] 1 En2 fun ac3 En4 => ?_
 refine f_o ?_
 refine c_p En4 Hv0 (size_go _ h) fun ac9 wo6 En10 Hv11 => ?_
 refine d_e [0,1,2,3,8,9,10] [] En10 fun ac12 En13 => ?_
 refine then_normal ?_
 refine wp_seq ?_
 refine wp_seq ?_
 refine region_from ?_
 refine d_k [0,1,2,3,8,9,10,23] [(1, g_b (show (((sizeOfH h : Nat) : Int) == (0 : Int)) = false from (beq_eq_false_iff_ne.2 (by omega))))] 7 En13 fun ac14 En15 => ?_
 rcases Bool.eq_false_or_eq_true (decide (n < (0 : Int))) with hb16 | hb16
 ·
  have En17 := En15.fx (t := 23) (congrArg Value.bool hb16)
  have hp18 : n < (0 : Int) := of_decide_eq_true hb16
  refine d_e [0,1,2,3,8,9,28] [] En17 fun ac19 En20 => ?_
  refine then_normal ?_
  refine c_t En20 ?_
  refine d_s [0,1,2,3,8,9] [] En20 fun ac21 En22 => ?_
  refine wp_ret ?_
  refine then_ret ?_
  refine d_ret2 (t := 8) (u := 9) (v := .slice none 0 0) (x := .int .i64 1) En22 (by kernel_rfl) (by kernel_rfl) (by kernel_rfl) ?_
  exact ⟨rfl, Hv11.pk []⟩
 ·
  have En23 := En15.fx (t := 23) (congrArg Value.bool hb16)
  have hp24 : ¬ (n < (0 : Int)) := of_decide_eq_false hb16
  refine d_e [0,1,2,3,8,9,28] [(9, g_n (w_m 255 (sizeOfH h)))] En23 fun ac25 En26 => ?_
  refine then_normal ?_
  refine c_d (n > ((255 * (sizeOfH h) : Nat) : Int)) En26 (fun hc27 => ?_) (fun hc27 => ?_)
  ·
   refine d_s [0,1,2,3,8,9] [] En26 fun ac28 En29 => ?_
   refine wp_ret ?_
   refine then_ret ?_
   refine d_ret2 (t := 8) (u := 9) (v := .slice none 0 0) (x := .int .i64 1) En29 (by kernel_rfl) (by kernel_rfl) (by kernel_rfl) ?_
   exact ⟨rfl, Hv11.pk []⟩
  ·
   exfalso; omega

theorem refexp_bad0 (w : World) (h : Int) (hh : ¬ (h = 1 ∨ h = 2 ∨ h = 3)) (ak : Option Addr) (nk ck : Nat) (lk : List UInt8) (ek : nk = List.length lk) (ik : InB w [] ak ck lk) (az : Option Addr) (nz cz : Nat) (lz : List UInt8) (ez : nz = List.length lz) (iz : InB w [] az cz lz) (n : Int) : Calls Tryd.prog 32 #[.int .i64 h, .slice ak nk ck, .slice az nz cz, .int .i64 n] w fun e w' => e = .returned (.tuple #[.slice none 0 0, .int .i64 1]) ∧ Ev w [] w' [] := by
 subst ek
 subst ez
 have hsz : sizeOfH h = 0 := by unfold sizeOfH; rw [if_neg (by omega), if_neg (by omega), if_neg (by omega)]
 refine d_0 [(0, .int .i64 h), (1, .slice ak (List.length lk) ck), (2, .slice az (List.length lz) cz), (3, .int .i64 n)] 54 Go.Proofs.Tryd.func32 Go.Proofs.Tryd.ntmps32 (Heap.nil _) fun act0 En0 Hv0 => ?_
 refine d_s [0,1,2,3,8,9] [] En0 fun ac1 En2 => ?_
 refine wp_seq ?_
 refine region_from ?_
 refine d_k [0,1,2,3,8,9,15] [] 1 En2 fun ac3 En4 => ?_
 refine f_o ?_
 refine c_p En4 Hv0 (dsize_go _ h) fun ac9 wo6 En10 Hv11 => ?_
 refine d_e [0,1,2,3,8,9,10] [] En10 fun ac12 En13 => ?_
 refine then_normal ?_
 refine wp_seq ?_
 refine d_s [0,1,2,3,8,9,28] [(1, g_b (show (((sizeOfH h : Nat) : Int) == (0 : Int)) = true from (by rw [hsz]; rfl)))] En13 fun ac14 En15 => ?_
 refine c_t En15 ?_
 refine d_s [0,1,2,3,8,9] [] En15 fun ac16 En17 => ?_
 refine wp_ret ?_
 refine then_ret ?_
 refine d_ret2 (t := 8) (u := 9) (v := .slice none 0 0) (x := .int .i64 1) En17 (by kernel_rfl) (by kernel_rfl) (by kernel_rfl) ?_
 exact ⟨rfl, Hv11.pk []⟩

theorem refexp_bad1 (w : World) (h : Int) (hh : h = 1 ∨ h = 2 ∨ h = 3) (ak : Option Addr) (nk ck : Nat) (lk : List UInt8) (ek : nk = List.length lk) (ik : InB w [] ak ck lk) (az : Option Addr) (nz cz : Nat) (lz : List UInt8) (ez : nz = List.length lz) (iz : InB w [] az cz lz) (n : Int) (hn : n < 0 ∨ 255 * (sizeOfH h : Int) < n) : Calls Tryd.prog 32 #[.int .i64 h, .slice ak nk ck, .slice az nz cz, .int .i64 n] w fun e w' => e = .returned (.tuple #[.slice none 0 0, .int .i64 1]) ∧ Ev w [] w' [] := by
 subst ek
 subst ez
 have hs := ik.small
 have hck := ik.cap
 have hs2 := iz.small
 have hci := iz.cap
 have hbg := block_ge hh
 have hsz64 := size_le h
 have hsz : sizeOfH h ≠ 0 := by rcases hh with rfl | rfl | rfl <;> decide
 refine d_0 [(0, .int .i64 h), (1, .slice ak (List.length lk) ck), (2, .slice az (List.length lz) cz), (3, .int .i64 n)] 54 Go.Proofs.Tryd.func32 Go.Proofs.Tryd.ntmps32 (Heap.nil _) fun act0 En0 Hv0 => ?_
 refine d_s [0,1,2,3,8,9] [] En0 fun ac1 En2 => ?_
 refine wp_seq ?_
 refine region_from ?_
 refine d_k [0,1,2,3,8,9,15] [] 1 En2 fun ac3 En4 => ?_
 refine f_o ?_
 refine c_p En4 Hv0 (dsize_go _ h) fun ac9 wo6 En10 Hv11 => ?_
 refine d_e [0,1,2,3,8,9,10] [] En10 fun ac12 En13 => ?_
 refine then_normal ?_
 refine wp_seq ?_
 refine wp_seq ?_
 refine region_from ?_
 refine d_k [0,1,2,3,8,9,10,23] [(1, g_b (show (((sizeOfH h : Nat) : Int) == (0 : Int)) = false from (beq_eq_false_iff_ne.2 (by omega))))] 7 En13 fun ac14 En15 => ?_
 rcases Bool.eq_false_or_eq_true (decide (n < (0 : Int))) with hb16 | hb16
 ·
  have En17 := En15.fx (t := 23) (congrArg Value.bool hb16)
  have hp18 : n < (0 : Int) := of_decide_eq_true hb16
  refine d_e [0,1,2,3,8,9,28] [] En17 fun ac19 En20 => ?_
  refine then_normal ?_
  refine c_t En20 ?_
  refine d_s [0,1,2,3,8,9] [] En20 fun ac21 En22 => ?_
  refine wp_ret ?_
  refine then_ret ?_
  refine d_ret2 (t := 8) (u := 9) (v := .slice none 0 0) (x := .int .i64 1) En22 (by kernel_rfl) (by kernel_rfl) (by kernel_rfl) ?_
  exact ⟨rfl, Hv11.pk []⟩
 ·
  have En23 := En15.fx (t := 23) (congrArg Value.bool hb16)
  have hp24 : ¬ (n < (0 : Int)) := of_decide_eq_false hb16
  refine d_e [0,1,2,3,8,9,28] [(9, g_n (w_m 255 (sizeOfH h)))] En23 fun ac25 En26 => ?_
  refine then_normal ?_
  refine c_d (n > ((255 * (sizeOfH h) : Nat) : Int)) En26 (fun hc27 => ?_) (fun hc27 => ?_)
  ·
   refine d_s [0,1,2,3,8,9] [] En26 fun ac28 En29 => ?_
   refine wp_ret ?_
   refine then_ret ?_
   refine d_ret2 (t := 8) (u := 9) (v := .slice none 0 0) (x := .int .i64 1) En29 (by kernel_rfl) (by kernel_rfl) (by kernel_rfl) ?_
   exact ⟨rfl, Hv11.pk []⟩
  ·
   exfalso; omega

end Go.Proofs.YtbpihljkkkeijaaDoor
