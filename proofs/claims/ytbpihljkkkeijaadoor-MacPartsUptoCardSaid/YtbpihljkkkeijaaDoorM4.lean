/- Layer 6: codes, by the program and by the document: the walk. -/
import Derived.Test.YtbpihljkkkeijaaDoorM3
import Derived.Test.YtbpihljkkkeijaaDoorS14
namespace Go.Proofs.YtbpihljkkkeijaaDoor
open Go.Dbr
set_option maxRecDepth 100000
set_option maxHeartbeats 2000000
set_option linter.unusedVariables false
set_option linter.unusedSimpArgs false

theorem macof_go (w : World) (h : Int) (hh : h = 1 ∨ h = 2 ∨ h = 3) (ak : Option Addr) (nk ck : Nat) (lk : List UInt8) (ek : nk = List.length lk) (ik : InB w [] ak ck lk) (ax : Option Addr) (nx cx : Nat) (lx : List (Sl UInt8)) (ex : nx = List.length lx) (ix : InS (fun s : Sl UInt8 => s.f) 24 (fun x : Sl UInt8 => InB w [] x.a x.c x.l) w [] ax cx lx) (gk32 : InU32 w [] (some ⟨0, 0, none⟩) 64 K32) (gk64 : InU64 w [] (some ⟨1, 0, none⟩) 80 K64) : Calls Tryd.prog 26 #[.int .i64 h, .slice ak nk ck, .slice ax nx cx] w fun e w' => ∃ ao co, e = .returned (.slice ao (List.length (macF h lk (List.flatMap (fun s : Sl UInt8 => s.l) lx))) co) ∧ Ev w [] w' [.vec ao co 1 (bys (macF h lk (List.flatMap (fun s : Sl UInt8 => s.l) lx))) 5] := by
 subst ek
 subst ex
 have hsz : sizeOfH h ≠ 0 := by rcases hh with rfl | rfl | rfl <;> decide
 refine d_0 [(0, .int .i64 h), (1, .slice ak (List.length lk) ck), (2, .slice ax (List.length lx) cx)] 15 Go.Proofs.Tryd.func26 Go.Proofs.Tryd.ntmps26 (Heap.nil _) fun act0 En0 Hv0 => ?_
 refine d_s [0,1,2,6] [] En0 fun ac1 En2 => ?_
 refine wp_seq ?_
 refine wp_seq ?_
 refine region_from ?_
 refine d_k [0,1,2,6,7] [] 1 En2 fun ac3 En4 => ?_
 refine f_o ?_
 refine c_p En4 Hv0 (size_go _ h) fun ac9 wo6 En10 Hv11 => ?_
 refine d_e [0,1,2,6,9] [(2, g_b (show (((sizeOfH h : Nat) : Int) == (0 : Int)) = false from (beq_eq_false_iff_ne.2 (by omega))))] En10 fun ac12 En13 => ?_
 refine then_normal ?_
 refine c_f En13 ?_
 refine wp_skip ?_
 refine then_normal ?_
 refine wp_seq ?_
 refine region_from ?_
 refine d_k [0,2,6,10,11] [] 2 En13 fun ac14 En15 => ?_
 refine f_o ?_
 refine c_0 En15 Hv11 (keyed_go _ h hh ak (List.length lk) ck lk (by first | rfl | (simp; done) | (simp; omega) | omega) ((ik.ev Hv11).pick [] (by kernel_rfl)) ((gk32.ev Hv11).pick [] (by kernel_rfl)) ((gk64.ev Hv11).pick [] (by kernel_rfl))) ?_
 rintro _ wo18 ⟨biq16, boq16, dxq16, dyq16, axq16, cxq16, ayq16, cyq16, rfl, he19⟩
 refine ⟨_, _, _, rfl, he19, rfl, fun ac21 En22 Hv23 => ?_⟩
 refine d_k [0,6,12,13] [] 4 En22 fun ac24 En25 => ?_
 refine f_o ?_
 refine c_l [0,1,2,3,4,5] (M := [.box biq16 [pt dxq16] 31, .box boq16 [pt dyq16] 31, .box dxq16 (([.int .i64 h] : List Value) ++ ((u32s (S32 h (inK h lk))) ++ ((u64s (S64 h (inK h lk))) ++ ([.slice axq16 (List.length (restH h (inK h lk))) cxq16, uv64 (UInt64.ofNat (List.length (inK h lk)))] : List Value)))) 58, .vec axq16 cxq16 1 (bys (restH h (inK h lk))) 5, .box dyq16 (([.int .i64 h] : List Value) ++ ((u32s (S32 h (outK h lk))) ++ ((u64s (S64 h (outK h lk))) ++ ([.slice ayq16 (List.length (restH h (outK h lk))) cyq16, uv64 (UInt64.ofNat (List.length (outK h lk)))] : List Value)))) 58, .vec ayq16 cyq16 1 (bys (restH h (outK h lk))) 5]) En25 Hv23 (fun hM27 => code_go _ biq16 boq16 dxq16 dyq16 h hh (inK h lk) (outK h lk) axq16 cxq16 ayq16 cyq16 ax (List.length lx) cx lx (by first | rfl | (simp; done) | (simp; omega) | omega) (ix.go Hv23 [0, 1, 2, 3, 4, 5] (by kernel_rfl) (fun _ h => (InB.ev h Hv23).pick [0, 1, 2, 3, 4, 5] (by kernel_rfl))) ((gk32.ev Hv23).pick [0, 1, 2, 3, 4, 5] (by kernel_rfl)) ((gk64.ev Hv23).pick [0, 1, 2, 3, 4, 5] (by kernel_rfl)) hM27) ?_
 rintro _ wo28 ⟨aoq26, coq26, rfl, he29⟩
 refine ⟨_, _, [.box biq16 [pt dxq16] 31, .box boq16 [pt dyq16] 31, .box dxq16 (([.int .i64 h] : List Value) ++ ((u32s (S32 h (inK h lk))) ++ ((u64s (S64 h (inK h lk))) ++ ([.slice axq16 (List.length (restH h (inK h lk))) cxq16, uv64 (UInt64.ofNat (List.length (inK h lk)))] : List Value)))) 58, .vec axq16 cxq16 1 (bys (restH h (inK h lk))) 5, .box dyq16 (([.int .i64 h] : List Value) ++ ((u32s (S32 h (outK h lk))) ++ ((u64s (S64 h (outK h lk))) ++ ([.slice ayq16 (List.length (restH h (outK h lk))) cyq16, uv64 (UInt64.ofNat (List.length (outK h lk)))] : List Value)))) 58, .vec ayq16 cyq16 1 (bys (restH h (outK h lk))) 5, .vec aoq26 coq26 1 (bys (sumF h ((outK h lk) ++ sumF h ((inK h lk) ++ (List.flatMap (fun s : Sl UInt8 => s.l) lx))))) 5], rfl, he29, by kernel_rfl, fun ac31 En32 Hv33 => ?_⟩
 refine d_e [0,6] [] En32 fun ac34 En35 => ?_
 refine then_normal ?_
 refine wp_ret ?_
 refine d_ret1 (t := 6) (v := .slice aoq26 (List.length (sumF h ((outK h lk) ++ sumF h ((inK h lk) ++ (List.flatMap (fun s : Sl UInt8 => s.l) lx))))) coq26) En35 (by kernel_rfl) (by kernel_rfl) ?_
 have Hf36 := Hv33.pk [6] (M := [.vec aoq26 coq26 1 (bys (macF h lk (List.flatMap (fun s : Sl UInt8 => s.l) lx))) 5])
 exact ⟨_, _, rfl, Hf36⟩

theorem macof_nil (w : World) (h : Int) (hh : ¬ (h = 1 ∨ h = 2 ∨ h = 3)) (ak : Option Addr) (nk ck : Nat) (lk : List UInt8) (ek : nk = List.length lk) (ik : InB w [] ak ck lk) (ax : Option Addr) (nx cx : Nat) (lx : List (Sl UInt8)) (ex : nx = List.length lx) (ix : InS (fun s : Sl UInt8 => s.f) 24 (fun x : Sl UInt8 => InB w [] x.a x.c x.l) w [] ax cx lx) : Calls Tryd.prog 26 #[.int .i64 h, .slice ak nk ck, .slice ax nx cx] w fun e w' => e = .returned (.slice none 0 0) ∧ Ev w [] w' [] := by
 subst ek
 subst ex
 have hsz : sizeOfH h = 0 := by unfold sizeOfH; rw [if_neg (by omega), if_neg (by omega), if_neg (by omega)]
 refine d_0 [(0, .int .i64 h), (1, .slice ak (List.length lk) ck), (2, .slice ax (List.length lx) cx)] 15 Go.Proofs.Tryd.func26 Go.Proofs.Tryd.ntmps26 (Heap.nil _) fun act0 En0 Hv0 => ?_
 refine d_s [0,1,2,6] [] En0 fun ac1 En2 => ?_
 refine wp_seq ?_
 refine wp_seq ?_
 refine region_from ?_
 refine d_k [0,1,2,6,7] [] 1 En2 fun ac3 En4 => ?_
 refine f_o ?_
 refine c_p En4 Hv0 (size_go _ h) fun ac9 wo6 En10 Hv11 => ?_
 refine d_e [0,1,2,6,9] [(2, g_b (show (((sizeOfH h : Nat) : Int) == (0 : Int)) = true from (by rw [hsz]; rfl)))] En10 fun ac12 En13 => ?_
 refine then_normal ?_
 refine c_t En13 ?_
 refine d_s [0,1,2,6] [] En13 fun ac14 En15 => ?_
 refine wp_ret ?_
 refine then_ret ?_
 refine d_ret1 (t := 6) (v := .slice none 0 0) En15 (by kernel_rfl) (by kernel_rfl) ?_
 exact ⟨rfl, Hv11.pk []⟩

theorem refof_go (w : World) (h : Int) (hh : h = 1 ∨ h = 2 ∨ h = 3) (ak : Option Addr) (nk ck : Nat) (lk : List UInt8) (ek : nk = List.length lk) (ik : InB w [] ak ck lk) (ax : Option Addr) (nx cx : Nat) (lx : List UInt8) (ex : nx = List.length lx) (ix : InB w [] ax cx lx) (hbx : List.length lx ≤ 140737488353000) : Calls Tryd.prog 27 #[.int .i64 h, .slice ak nk ck, .slice ax nx cx] w fun e w' => ∃ ao co, e = .returned (.slice ao (List.length (macF h lk lx)) co) ∧ Ev w [] w' [.vec ao co 1 (bys (macF h lk lx)) 5] := by
 subst ek
 subst ex
 have hs := ik.small
 have hck := ik.cap
 have hs2 := ix.small
 have hcx := ix.cap
 have hbg := block_ge hh
 refine d_0 [(0, .int .i64 h), (1, .slice ak (List.length lk) ck), (2, .slice ax (List.length lx) cx)] 60 Go.Proofs.Tryd.func27 Go.Proofs.Tryd.ntmps27 (Heap.nil _) fun act0 En0 Hv0 => ?_
 refine wp_seq ?_
 refine d_r [0,1,2,6] [] En0 fun ac1 En2 => ?_
 refine then_normal ?_
 refine wp_seq ?_
 refine region_from ?_
 refine d_k [0,1,2,6,12] [] 1 En2 fun ac3 En4 => ?_
 refine f_o ?_
 refine c_p En4 Hv0 (dblock_go _ h) fun ac9 wo6 En10 Hv11 => ?_
 refine d_e [0,1,2,6,7] [] En10 fun ac12 En13 => ?_
 refine then_normal ?_
 refine wp_seq ?_
 refine wp_seq ?_
 refine d_r [0,1,2,6,7,15] [(1, g_b (show (((blockOf h : Nat) : Int) == (0 : Int)) = false from (beq_eq_false_iff_ne.2 (by omega))))] En13 fun ac14 En15 => ?_
 refine then_normal ?_
 refine c_f En15 ?_
 refine wp_skip ?_
 refine then_normal ?_
 refine wp_seq ?_
 refine wp_seq ?_
 refine d_r [0,1,2,6,7,19] [] En15 fun ac16 En17 => ?_
 refine then_normal ?_
 refine c_d (((List.length lk : Nat) : Int) > ((blockOf h : Nat) : Int)) En17 (fun hc18 => ?_) (fun hc18 => ?_)
 ·
  refine region_from ?_
  refine d_k [0,1,2,6,7,20,21] [] 2 En17 fun ac19 En20 => ?_
  refine f_o ?_
  refine c_0 En20 Hv11 (docof_go _ h hh ak (List.length lk) ck lk (by first | rfl | (simp; done) | (simp; omega) | omega) ((ik.ev Hv11).pick [] (by kernel_rfl))) ?_
  rintro _ wo23 ⟨aoq21, coq21, rfl, he24⟩
  refine ⟨_, _, _, rfl, he24, rfl, fun ac26 En27 Hv28 => ?_⟩
  refine d_e [0,1,2,6,7] [] En27 fun ac29 En30 => ?_
  have hsl := sumF_len hh lk
  refine then_normal ?_
  refine wp_seq ?_
  refine region_from ?_
  refine d_k [0,1,2,6,7,23] [] 1 En30 fun ac31 En32 => ?_
  refine f_o ?_
  refine op_makeslice (d := some 24) (t := 23) (T := 5) (m := blockOf h) (kl := .i64) (kc := .i64) (z := .int .u8 0) (bytes := 1) En32 (by kernel_rfl) Hv28 (by kernel_rfl) (by kernel_rfl) (by kernel_rfl) (by omega) (by unfold maxLen; omega) ?_
  intro ac34 wo35 bk33 En36 Hv37
  rw [show List.replicate (blockOf h) (Value.int .u8 0) = bys (List.replicate (blockOf h) 0) from (bys_replicate _).symm] at Hv37
  refine d_e [0,1,2,6,7,8] [] En36 fun ac38 En39 => ?_
  refine then_normal ?_
  refine wp_seq ?_
  refine region_from ?_
  refine d_k [0,1,2,6,7,8,25] [] 1 En39 fun ac40 En41 => ?_
  refine f_o ?_
  refine op_makeslice (d := some 26) (t := 23) (T := 5) (m := blockOf h) (kl := .i64) (kc := .i64) (z := .int .u8 0) (bytes := 1) En41 (by kernel_rfl) Hv37 (by kernel_rfl) (by kernel_rfl) (by kernel_rfl) (by omega) (by unfold maxLen; omega) ?_
  intro ac43 wo44 bk42 En45 Hv46
  rw [show List.replicate (blockOf h) (Value.int .u8 0) = bys (List.replicate (blockOf h) 0) from (bys_replicate _).symm] at Hv46
  refine d_e [0,1,2,6,7,8,9] [] En45 fun ac47 En48 => ?_
  refine then_normal ?_
  refine wp_seq ?_
  refine wp_seq ?_
  refine d_r [0,1,2,6,7,8,9,10] [] En48 fun ac49 En50 => ?_
  refine then_normal ?_
  refine wp_block ?_
  have hz8 : List.replicate (blockOf h) 0 = xk (sumF h lk) 92 0 ++ List.replicate (blockOf h - 0) 0 := rfl
  have hz9 : List.replicate (blockOf h) 0 = xk (sumF h lk) 54 0 ++ List.replicate (blockOf h - 0) 0 := rfl
  refine loop_m (fun ms51 ac wo => ∃ (i : Nat), ms51 = (blockOf h - i : Nat) ∧ Env ac 60 [(0, .int .i64 h), (1, .slice aoq21 (List.length (sumF h lk)) coq21), (2, .slice ax (List.length lx) cx), (6, .slice none 0 0), (7, ni (blockOf h)), (8, .slice (some ⟨bk33, 0, none⟩) (blockOf h) (blockOf h)), (9, .slice (some ⟨bk42, 0, none⟩) (blockOf h) (blockOf h)), (10, ni i)] ∧ Ev w [] wo [.vec (some ⟨bk33, 0, none⟩) (blockOf h) 1 (bys (xk (sumF h lk) 92 i ++ List.replicate (blockOf h - i) 0)) 5, .vec (some ⟨bk42, 0, none⟩) (blockOf h) 1 (bys (xk (sumF h lk) 54 i ++ List.replicate (blockOf h - i) 0)) 5, .vec aoq21 coq21 1 (bys (sumF h lk)) 5] ∧ (i ≤ blockOf h)) ⟨_, 0, rfl, En50.sb, Hv46.pk [1, 2, 0], by omega⟩ ?_
  rintro mm57 ac53 wo54 ⟨i, rfl, En55, Hv56, hi⟩
  refine wp_seq ?_
  refine wp_seq ?_
  refine d_r [0,1,2,6,7,8,9,10,29] [] En55 fun ac58 En59 => ?_
  refine then_normal ?_
  refine c_d (((i : Nat) : Int) < ((blockOf h : Nat) : Int)) En59 (fun hc60 => ?_) (fun hc60 => ?_)
  ·
   refine wp_skip ?_
   refine then_normal ?_
   refine wp_seq ?_
   refine wp_block ?_
   refine wp_seq ?_
   have hlen92 : List.length (xk (sumF h lk) 92 i ++ List.replicate (blockOf h - i) 0) = blockOf h := by rw [List.length_append, xk_len, List.length_replicate]; omega
   have hlen54 : List.length (xk (sumF h lk) 54 i ++ List.replicate (blockOf h - i) 0) = blockOf h := by rw [List.length_append, xk_len, List.length_replicate]; omega
   refine d_r [0,1,2,6,7,8,9,10,11] [] En59 fun ac61 En62 => ?_
   refine then_normal ?_
   refine wp_seq ?_
   refine wp_seq ?_
   refine d_r [0,1,2,6,7,8,9,10,11,35] [] En62 fun ac63 En64 => ?_
   refine then_normal ?_
   refine region_cut (F := fun ac wo => ∃ (cc : UInt8), Env ac 60 [(0, .int .i64 h), (1, .slice aoq21 (List.length (sumF h lk)) coq21), (2, .slice ax (List.length lx) cx), (6, .slice none 0 0), (7, ni (blockOf h)), (8, .slice (some ⟨bk33, 0, none⟩) (blockOf h) (blockOf h)), (9, .slice (some ⟨bk42, 0, none⟩) (blockOf h) (blockOf h)), (10, ni i), (11, bv cc)] ∧ Ev w [] wo [.vec (some ⟨bk33, 0, none⟩) (blockOf h) 1 (bys (xk (sumF h lk) 92 i ++ List.replicate (blockOf h - i) 0)) 5, .vec (some ⟨bk42, 0, none⟩) (blockOf h) 1 (bys (xk (sumF h lk) 54 i ++ List.replicate (blockOf h - i) 0)) 5, .vec aoq21 coq21 1 (bys (sumF h lk)) 5] ∧ (cc = List.getD (sumF h lk) i 0)) ?_ ?_
   ·
    refine c_d (((i : Nat) : Int) < ((List.length (sumF h lk) : Nat) : Int)) En64 (fun hc65 => ?_) (fun hc65 => ?_)
    ·
     have hb68 : i < List.length (sumF h lk) := (by omega)
     obtain ⟨adr66, had67⟩ := some_of (bys_vnz Hv56.heap (k := 2) rfl) hb68
     refine region_from ?_
     refine d_k [0,1,2,6,7,8,9,10,11,36,37] [] 2 En64 fun ac69 En70 => ?_
     refine f_o ?_
     refine q_v (x := Instr.indexAt 23 (.slice aoq21 (List.length (sumF h lk)) coq21) (ni i)) (v := .pointer (some (Addr.add adr66 i))) En70 (Go.Dbr.run_indexsl (e := 5) (sz := 1) (j := i) (jo := i) had67 (by kernel_rfl) (by kernel_rfl) (by omega) hb68 (Nat.mul_one _) _) fun ac71 En72 => ?_
     refine f_o ?_
     have hb73 : i < List.length (sumF h lk) := by omega
     refine op_loadel (d := some 39) (t := 5) (ad := adr66) (ao := aoq21) (xs := bys (sumF h lk)) (j := i) (v := bv (List.getD (sumF h lk) i 0)) En72 (by kernel_rfl) (Hv56.heap.reads (k := 2) rfl) had67 (bys_getD hb73) (by kernel_rfl) ?_
     intro ac74 En75
     refine d_e [0,1,2,6,7,8,9,10,11] [] En75 fun ac76 En77 => ?_
     exact ⟨rfl, ⟨(List.getD (sumF h lk) i 0), En77.sb, Hv56.pk [0, 1, 2], by first | rfl | exact (getD_over (by omega)).symm⟩⟩
    ·
     refine wp_skip ?_
     exact ⟨rfl, ⟨(0 : UInt8), En64.sb, Hv56.pk [0, 1, 2], by first | rfl | exact (getD_over (by omega)).symm⟩⟩
   ·
    rintro ac78 wo79 ⟨cc, En80, Hv81, hcc⟩
    refine then_normal ?_
    refine wp_seq ?_
    have hb84 : i < blockOf h := (by omega)
    refine region_from ?_
    refine d_k [0,1,2,6,7,8,9,10,11,40,41,43] [(3, g_i .u8 (Go.Dbr.u8_xor (x := cc) (y := (92 : UInt8)) rfl rfl))] 4 En80 fun ac85 En86 => ?_
    refine f_o ?_
    refine q_v (x := Instr.indexAt 23 (.slice (some ⟨bk33, 0, none⟩) (blockOf h) (blockOf h)) (ni i)) (v := .pointer (some (Addr.add ⟨bk33, 0, none⟩ i))) En86 (Go.Dbr.run_indexsl (e := 5) (sz := 1) (j := i) (jo := i) rfl (by kernel_rfl) (by kernel_rfl) (by omega) hb84 (Nat.mul_one _) _) fun ac87 En88 => ?_
    refine f_o ?_
    refine op_storeel (d := none) (t := 5) (ad := ⟨bk33, 0, none⟩) (ao := some ⟨bk33, 0, none⟩) (k := 0) (cap := blockOf h) (sz := 1) (j := i) (xs := bys (xk (sumF h lk) 92 i ++ List.replicate (blockOf h - i) 0)) (v := bv (cc ^^^ (92 : UInt8))) En88 (by kernel_rfl) Hv81 rfl rfl (by rw [bys_length]; first | omega | (simp; done) | (simp; omega)) (by kernel_rfl) rfl ?_
    intro ac89 wo90  En91 Hv92
    rw [bys_set] at Hv92
    refine f_e ?_
    have hs8 : List.set (xk (sumF h lk) 92 i ++ List.replicate (blockOf h - i) 0) i (cc ^^^ (92 : UInt8)) = xk (sumF h lk) 92 (i + 1) ++ List.replicate (blockOf h - (i + 1)) 0 := by rw [hcc]; exact set_fill (by omega)
    rw [hs8] at Hv92
    refine then_normal ?_
    have hb95 : i < blockOf h := (by omega)
    refine region_from ?_
    refine d_k [0,1,2,6,7,8,9,10,11,45,46,48] [(3, g_i .u8 (Go.Dbr.u8_xor (x := cc) (y := (54 : UInt8)) rfl rfl))] 4 En91 fun ac96 En97 => ?_
    refine f_o ?_
    refine q_v (x := Instr.indexAt 23 (.slice (some ⟨bk42, 0, none⟩) (blockOf h) (blockOf h)) (ni i)) (v := .pointer (some (Addr.add ⟨bk42, 0, none⟩ i))) En97 (Go.Dbr.run_indexsl (e := 5) (sz := 1) (j := i) (jo := i) rfl (by kernel_rfl) (by kernel_rfl) (by omega) hb95 (Nat.mul_one _) _) fun ac98 En99 => ?_
    refine f_o ?_
    refine op_storeel (d := none) (t := 5) (ad := ⟨bk42, 0, none⟩) (ao := some ⟨bk42, 0, none⟩) (k := 1) (cap := blockOf h) (sz := 1) (j := i) (xs := bys (xk (sumF h lk) 54 i ++ List.replicate (blockOf h - i) 0)) (v := bv (cc ^^^ (54 : UInt8))) En99 (by kernel_rfl) Hv92 rfl rfl (by rw [bys_length]; first | omega | (simp; done) | (simp; omega)) (by kernel_rfl) rfl ?_
    intro ac100 wo101  En102 Hv103
    rw [bys_set] at Hv103
    refine f_e ?_
    have hs9 : List.set (xk (sumF h lk) 54 i ++ List.replicate (blockOf h - i) 0) i (cc ^^^ (54 : UInt8)) = xk (sumF h lk) 54 (i + 1) ++ List.replicate (blockOf h - (i + 1)) 0 := by rw [hcc]; exact set_fill (by omega)
    rw [hs9] at Hv103
    refine block_normal ?_
    refine then_normal ?_
    refine d_r [0,1,2,6,7,8,9,10,11] [(1, g_n (w_a i 1))] En102 fun ac104 En105 => ?_
    refine then_normal ?_
    refine ⟨_, ⟨i + 1, rfl, En105.sb, Hv103.pk [0, 1, 2], by omega⟩, ?_⟩
    omega
  ·
   refine wp_exit ?_
   refine then_exit ?_
   refine then_exit ?_
   refine block_exit ?_
   refine then_normal ?_
   refine wp_seq ?_
   have hib : i = blockOf h := by omega
   have hkk : keyOf h lk = sumF h lk := key_long (by omega)
   have ho8 : xk (sumF h lk) 92 i ++ List.replicate (blockOf h - i) 0 = outK h lk := by unfold outK; rw [hkk, hib, Nat.sub_self, List.replicate_zero, List.append_nil]
   rw [ho8] at Hv56
   have hl8 : List.length (outK h lk) = blockOf h := xk_len _ _ _
   have En106 := Env.fx (t := 8) (v := .slice (some ⟨bk33, 0, none⟩) (blockOf h) (blockOf h)) (u := .slice (some ⟨bk33, 0, none⟩) (List.length (outK h lk)) (blockOf h)) En59 (by rw [hl8])
   have ho9 : xk (sumF h lk) 54 i ++ List.replicate (blockOf h - i) 0 = inK h lk := by unfold inK; rw [hkk, hib, Nat.sub_self, List.replicate_zero, List.append_nil]
   rw [ho9] at Hv56
   have hl9 : List.length (inK h lk) = blockOf h := xk_len _ _ _
   have En107 := Env.fx (t := 9) (v := .slice (some ⟨bk42, 0, none⟩) (blockOf h) (blockOf h)) (u := .slice (some ⟨bk42, 0, none⟩) (List.length (inK h lk)) (blockOf h)) En106 (by rw [hl9])
   have hsl2 := sumF_len hh (inK h lk ++ lx)
   have hsz64 := size_le h
   refine region_from ?_
   refine d_k [0,1,6,7,8,9,10,50,51] [] 2 En107 fun ac108 En109 => ?_
   refine f_o ?_
   have hsm110 := ix.small
   refine op_append (d := some 52) (t := 23) (tx := 23) (ty := 23) (k := 1) (p := List.length (inK h lk)) (m := List.length lx) (x := .slice ax (List.length lx) cx) (bytes := 1) En109 (by kernel_rfl) Hv56 rfl (bys_len _) (Reads.src (size := 1) (tx := 23) (e' := 5) (by kernel_rfl) (ix.ev Hv56).reads (bys_len _) ix.nz (bys_one _)) (by kernel_rfl) (z := .int .u8 0) (by kernel_rfl) rfl (by decide) (by omega) (by unfold maxLen; omega) ?_
   intro ac115 wo116 ao111 cp112 En117 Hv118 hnz _
   clear hnz
   rw [← bys_append] at Hv118
   have ehz113 : (List.length (inK h lk)) + (List.length lx) = List.length ((inK h lk) ++ lx) := (by first | (simp; done) | (simp; omega) | omega)
   rw [ehz113] at En117
   refine d_e [0,1,6,7,8,9,10] [] En117 fun ac119 En120 => ?_
   refine then_normal ?_
   refine wp_seq ?_
   refine region_from ?_
   refine d_k [0,1,6,7,8,9,10,53,54,55,56] [] 4 En120 fun ac121 En122 => ?_
   refine f_o ?_
   refine c_0 En122 Hv118 (docof_go _ h hh ao111 (List.length ((inK h lk) ++ lx)) cp112 ((inK h lk) ++ lx) (by first | rfl | (simp; done) | (simp; omega) | omega) (bys_in Hv118.heap (k := 1) rfl [] (by kernel_rfl) rfl (by first | omega | (simp; done) | (simp; omega)))) ?_
   rintro _ wo125 ⟨aoq123, coq123, rfl, he126⟩
   refine ⟨_, _, _, rfl, he126, rfl, fun ac128 En129 Hv130 => ?_⟩
   refine f_o ?_
   refine op_append (d := some 58) (t := 23) (tx := 23) (ty := 23) (k := 1) (p := List.length (outK h lk)) (m := List.length (sumF h ((inK h lk) ++ lx))) (x := .slice aoq123 (List.length (sumF h ((inK h lk) ++ lx))) coq123) (bytes := 1) En129 (by kernel_rfl) Hv130 rfl (bys_len _) (Reads.src (size := 1) (tx := 23) (e' := 5) (by kernel_rfl) (Hv130.heap.reads (k := 0) rfl) (bys_len _) (bys_vnz Hv130.heap (k := 0) rfl) (bys_one _)) (by kernel_rfl) (z := .int .u8 0) (by kernel_rfl) rfl (by decide) (by omega) (by unfold maxLen; omega) ?_
   intro ac135 wo136 ao131 cp132 En137 Hv138 hnz _
   clear hnz
   rw [← bys_append] at Hv138
   have ehz133 : (List.length (outK h lk)) + (List.length (sumF h ((inK h lk) ++ lx))) = List.length ((outK h lk) ++ (sumF h ((inK h lk) ++ lx))) := (by first | (simp; done) | (simp; omega) | omega)
   rw [ehz133] at En137
   refine f_o ?_
   refine c_0 En137 Hv138 (docof_go _ h hh ao131 (List.length ((outK h lk) ++ (sumF h ((inK h lk) ++ lx)))) cp132 ((outK h lk) ++ (sumF h ((inK h lk) ++ lx))) (by first | rfl | (simp; done) | (simp; omega) | omega) (bys_in Hv138.heap (k := 1) rfl [] (by kernel_rfl) rfl (by first | omega | (simp; done) | (simp; omega)))) ?_
   rintro _ wo141 ⟨aoq139, coq139, rfl, he142⟩
   refine ⟨_, _, _, rfl, he142, rfl, fun ac144 En145 Hv146 => ?_⟩
   refine d_e [0,1,6,7,8,9,10] [] En145 fun ac147 En148 => ?_
   refine then_normal ?_
   refine wp_ret ?_
   refine d_ret1 (t := 6) (v := .slice aoq139 (List.length (sumF h ((outK h lk) ++ (sumF h ((inK h lk) ++ lx))))) coq139) En148 (by kernel_rfl) (by kernel_rfl) ?_
   have Hf149 := Hv146.pk [0] (M := [.vec aoq139 coq139 1 (bys (macF h lk lx)) 5])
   exact ⟨_, _, rfl, Hf149⟩
 ·
  refine wp_skip ?_
  refine then_normal ?_
  refine wp_seq ?_
  refine region_from ?_
  refine d_k [0,1,2,6,7,23] [] 1 En17 fun ac150 En151 => ?_
  refine f_o ?_
  refine op_makeslice (d := some 24) (t := 23) (T := 5) (m := blockOf h) (kl := .i64) (kc := .i64) (z := .int .u8 0) (bytes := 1) En151 (by kernel_rfl) Hv11 (by kernel_rfl) (by kernel_rfl) (by kernel_rfl) (by omega) (by unfold maxLen; omega) ?_
  intro ac153 wo154 bk152 En155 Hv156
  rw [show List.replicate (blockOf h) (Value.int .u8 0) = bys (List.replicate (blockOf h) 0) from (bys_replicate _).symm] at Hv156
  refine d_e [0,1,2,6,7,8] [] En155 fun ac157 En158 => ?_
  refine then_normal ?_
  refine wp_seq ?_
  refine region_from ?_
  refine d_k [0,1,2,6,7,8,25] [] 1 En158 fun ac159 En160 => ?_
  refine f_o ?_
  refine op_makeslice (d := some 26) (t := 23) (T := 5) (m := blockOf h) (kl := .i64) (kc := .i64) (z := .int .u8 0) (bytes := 1) En160 (by kernel_rfl) Hv156 (by kernel_rfl) (by kernel_rfl) (by kernel_rfl) (by omega) (by unfold maxLen; omega) ?_
  intro ac162 wo163 bk161 En164 Hv165
  rw [show List.replicate (blockOf h) (Value.int .u8 0) = bys (List.replicate (blockOf h) 0) from (bys_replicate _).symm] at Hv165
  refine d_e [0,1,2,6,7,8,9] [] En164 fun ac166 En167 => ?_
  refine then_normal ?_
  refine wp_seq ?_
  refine wp_seq ?_
  refine d_r [0,1,2,6,7,8,9,10] [] En167 fun ac168 En169 => ?_
  refine then_normal ?_
  refine wp_block ?_
  have hz8 : List.replicate (blockOf h) 0 = xk lk 92 0 ++ List.replicate (blockOf h - 0) 0 := rfl
  have hz9 : List.replicate (blockOf h) 0 = xk lk 54 0 ++ List.replicate (blockOf h - 0) 0 := rfl
  refine loop_m (fun ms170 ac wo => ∃ (i : Nat), ms170 = (blockOf h - i : Nat) ∧ Env ac 60 [(0, .int .i64 h), (1, .slice ak (List.length lk) ck), (2, .slice ax (List.length lx) cx), (6, .slice none 0 0), (7, ni (blockOf h)), (8, .slice (some ⟨bk152, 0, none⟩) (blockOf h) (blockOf h)), (9, .slice (some ⟨bk161, 0, none⟩) (blockOf h) (blockOf h)), (10, ni i)] ∧ Ev w [] wo [.vec (some ⟨bk152, 0, none⟩) (blockOf h) 1 (bys (xk lk 92 i ++ List.replicate (blockOf h - i) 0)) 5, .vec (some ⟨bk161, 0, none⟩) (blockOf h) 1 (bys (xk lk 54 i ++ List.replicate (blockOf h - i) 0)) 5] ∧ (i ≤ blockOf h)) ⟨_, 0, rfl, En169.sb, Hv165.pk [0, 1], by omega⟩ ?_
  rintro mm176 ac172 wo173 ⟨i, rfl, En174, Hv175, hi⟩
  refine wp_seq ?_
  refine wp_seq ?_
  refine d_r [0,1,2,6,7,8,9,10,29] [] En174 fun ac177 En178 => ?_
  refine then_normal ?_
  refine c_d (((i : Nat) : Int) < ((blockOf h : Nat) : Int)) En178 (fun hc179 => ?_) (fun hc179 => ?_)
  ·
   refine wp_skip ?_
   refine then_normal ?_
   refine wp_seq ?_
   refine wp_block ?_
   refine wp_seq ?_
   have hlen92 : List.length (xk lk 92 i ++ List.replicate (blockOf h - i) 0) = blockOf h := by rw [List.length_append, xk_len, List.length_replicate]; omega
   have hlen54 : List.length (xk lk 54 i ++ List.replicate (blockOf h - i) 0) = blockOf h := by rw [List.length_append, xk_len, List.length_replicate]; omega
   refine d_r [0,1,2,6,7,8,9,10,11] [] En178 fun ac180 En181 => ?_
   refine then_normal ?_
   refine wp_seq ?_
   refine wp_seq ?_
   refine d_r [0,1,2,6,7,8,9,10,11,35] [] En181 fun ac182 En183 => ?_
   refine then_normal ?_
   refine region_cut (F := fun ac wo => ∃ (cc : UInt8), Env ac 60 [(0, .int .i64 h), (1, .slice ak (List.length lk) ck), (2, .slice ax (List.length lx) cx), (6, .slice none 0 0), (7, ni (blockOf h)), (8, .slice (some ⟨bk152, 0, none⟩) (blockOf h) (blockOf h)), (9, .slice (some ⟨bk161, 0, none⟩) (blockOf h) (blockOf h)), (10, ni i), (11, bv cc)] ∧ Ev w [] wo [.vec (some ⟨bk152, 0, none⟩) (blockOf h) 1 (bys (xk lk 92 i ++ List.replicate (blockOf h - i) 0)) 5, .vec (some ⟨bk161, 0, none⟩) (blockOf h) 1 (bys (xk lk 54 i ++ List.replicate (blockOf h - i) 0)) 5] ∧ (cc = List.getD lk i 0)) ?_ ?_
   ·
    refine c_d (((i : Nat) : Int) < ((List.length lk : Nat) : Int)) En183 (fun hc184 => ?_) (fun hc184 => ?_)
    ·
     have hb187 : i < List.length lk := (by omega)
     obtain ⟨adr185, had186⟩ := some_of ik.nz hb187
     refine region_from ?_
     refine d_k [0,1,2,6,7,8,9,10,11,36,37] [] 2 En183 fun ac188 En189 => ?_
     refine f_o ?_
     refine q_v (x := Instr.indexAt 23 (.slice ak (List.length lk) ck) (ni i)) (v := .pointer (some (Addr.add adr185 i))) En189 (Go.Dbr.run_indexsl (e := 5) (sz := 1) (j := i) (jo := i) had186 (by kernel_rfl) (by kernel_rfl) (by omega) hb187 (Nat.mul_one _) _) fun ac190 En191 => ?_
     refine f_o ?_
     have hb192 : i < List.length lk := by omega
     refine op_loadel (d := some 39) (t := 5) (ad := adr185) (ao := ak) (xs := bys lk) (j := i) (v := bv (List.getD lk i 0)) En191 (by kernel_rfl) (ik.ev Hv175).reads had186 (bys_getD hb192) (by kernel_rfl) ?_
     intro ac193 En194
     refine d_e [0,1,2,6,7,8,9,10,11] [] En194 fun ac195 En196 => ?_
     exact ⟨rfl, ⟨(List.getD lk i 0), En196.sb, Hv175.pk [0, 1], by first | rfl | exact (getD_over (by omega)).symm⟩⟩
    ·
     refine wp_skip ?_
     exact ⟨rfl, ⟨(0 : UInt8), En183.sb, Hv175.pk [0, 1], by first | rfl | exact (getD_over (by omega)).symm⟩⟩
   ·
    rintro ac197 wo198 ⟨cc, En199, Hv200, hcc⟩
    refine then_normal ?_
    refine wp_seq ?_
    have hb203 : i < blockOf h := (by omega)
    refine region_from ?_
    refine d_k [0,1,2,6,7,8,9,10,11,40,41,43] [(3, g_i .u8 (Go.Dbr.u8_xor (x := cc) (y := (92 : UInt8)) rfl rfl))] 4 En199 fun ac204 En205 => ?_
    refine f_o ?_
    refine q_v (x := Instr.indexAt 23 (.slice (some ⟨bk152, 0, none⟩) (blockOf h) (blockOf h)) (ni i)) (v := .pointer (some (Addr.add ⟨bk152, 0, none⟩ i))) En205 (Go.Dbr.run_indexsl (e := 5) (sz := 1) (j := i) (jo := i) rfl (by kernel_rfl) (by kernel_rfl) (by omega) hb203 (Nat.mul_one _) _) fun ac206 En207 => ?_
    refine f_o ?_
    refine op_storeel (d := none) (t := 5) (ad := ⟨bk152, 0, none⟩) (ao := some ⟨bk152, 0, none⟩) (k := 0) (cap := blockOf h) (sz := 1) (j := i) (xs := bys (xk lk 92 i ++ List.replicate (blockOf h - i) 0)) (v := bv (cc ^^^ (92 : UInt8))) En207 (by kernel_rfl) Hv200 rfl rfl (by rw [bys_length]; first | omega | (simp; done) | (simp; omega)) (by kernel_rfl) rfl ?_
    intro ac208 wo209  En210 Hv211
    rw [bys_set] at Hv211
    refine f_e ?_
    have hs8 : List.set (xk lk 92 i ++ List.replicate (blockOf h - i) 0) i (cc ^^^ (92 : UInt8)) = xk lk 92 (i + 1) ++ List.replicate (blockOf h - (i + 1)) 0 := by rw [hcc]; exact set_fill (by omega)
    rw [hs8] at Hv211
    refine then_normal ?_
    have hb214 : i < blockOf h := (by omega)
    refine region_from ?_
    refine d_k [0,1,2,6,7,8,9,10,11,45,46,48] [(3, g_i .u8 (Go.Dbr.u8_xor (x := cc) (y := (54 : UInt8)) rfl rfl))] 4 En210 fun ac215 En216 => ?_
    refine f_o ?_
    refine q_v (x := Instr.indexAt 23 (.slice (some ⟨bk161, 0, none⟩) (blockOf h) (blockOf h)) (ni i)) (v := .pointer (some (Addr.add ⟨bk161, 0, none⟩ i))) En216 (Go.Dbr.run_indexsl (e := 5) (sz := 1) (j := i) (jo := i) rfl (by kernel_rfl) (by kernel_rfl) (by omega) hb214 (Nat.mul_one _) _) fun ac217 En218 => ?_
    refine f_o ?_
    refine op_storeel (d := none) (t := 5) (ad := ⟨bk161, 0, none⟩) (ao := some ⟨bk161, 0, none⟩) (k := 1) (cap := blockOf h) (sz := 1) (j := i) (xs := bys (xk lk 54 i ++ List.replicate (blockOf h - i) 0)) (v := bv (cc ^^^ (54 : UInt8))) En218 (by kernel_rfl) Hv211 rfl rfl (by rw [bys_length]; first | omega | (simp; done) | (simp; omega)) (by kernel_rfl) rfl ?_
    intro ac219 wo220  En221 Hv222
    rw [bys_set] at Hv222
    refine f_e ?_
    have hs9 : List.set (xk lk 54 i ++ List.replicate (blockOf h - i) 0) i (cc ^^^ (54 : UInt8)) = xk lk 54 (i + 1) ++ List.replicate (blockOf h - (i + 1)) 0 := by rw [hcc]; exact set_fill (by omega)
    rw [hs9] at Hv222
    refine block_normal ?_
    refine then_normal ?_
    refine d_r [0,1,2,6,7,8,9,10,11] [(1, g_n (w_a i 1))] En221 fun ac223 En224 => ?_
    refine then_normal ?_
    refine ⟨_, ⟨i + 1, rfl, En224.sb, Hv222.pk [0, 1], by omega⟩, ?_⟩
    omega
  ·
   refine wp_exit ?_
   refine then_exit ?_
   refine then_exit ?_
   refine block_exit ?_
   refine then_normal ?_
   refine wp_seq ?_
   have hib : i = blockOf h := by omega
   have hkk : keyOf h lk = lk := key_short (by omega)
   have ho8 : xk lk 92 i ++ List.replicate (blockOf h - i) 0 = outK h lk := by unfold outK; rw [hkk, hib, Nat.sub_self, List.replicate_zero, List.append_nil]
   rw [ho8] at Hv175
   have hl8 : List.length (outK h lk) = blockOf h := xk_len _ _ _
   have En225 := Env.fx (t := 8) (v := .slice (some ⟨bk152, 0, none⟩) (blockOf h) (blockOf h)) (u := .slice (some ⟨bk152, 0, none⟩) (List.length (outK h lk)) (blockOf h)) En178 (by rw [hl8])
   have ho9 : xk lk 54 i ++ List.replicate (blockOf h - i) 0 = inK h lk := by unfold inK; rw [hkk, hib, Nat.sub_self, List.replicate_zero, List.append_nil]
   rw [ho9] at Hv175
   have hl9 : List.length (inK h lk) = blockOf h := xk_len _ _ _
   have En226 := Env.fx (t := 9) (v := .slice (some ⟨bk161, 0, none⟩) (blockOf h) (blockOf h)) (u := .slice (some ⟨bk161, 0, none⟩) (List.length (inK h lk)) (blockOf h)) En225 (by rw [hl9])
   have hsl2 := sumF_len hh (inK h lk ++ lx)
   have hsz64 := size_le h
   refine region_from ?_
   refine d_k [0,1,6,7,8,9,10,50,51] [] 2 En226 fun ac227 En228 => ?_
   refine f_o ?_
   have hsm229 := ix.small
   refine op_append (d := some 52) (t := 23) (tx := 23) (ty := 23) (k := 1) (p := List.length (inK h lk)) (m := List.length lx) (x := .slice ax (List.length lx) cx) (bytes := 1) En228 (by kernel_rfl) Hv175 rfl (bys_len _) (Reads.src (size := 1) (tx := 23) (e' := 5) (by kernel_rfl) (ix.ev Hv175).reads (bys_len _) ix.nz (bys_one _)) (by kernel_rfl) (z := .int .u8 0) (by kernel_rfl) rfl (by decide) (by omega) (by unfold maxLen; omega) ?_
   intro ac234 wo235 ao230 cp231 En236 Hv237 hnz _
   clear hnz
   rw [← bys_append] at Hv237
   have ehz232 : (List.length (inK h lk)) + (List.length lx) = List.length ((inK h lk) ++ lx) := (by first | (simp; done) | (simp; omega) | omega)
   rw [ehz232] at En236
   refine d_e [0,1,6,7,8,9,10] [] En236 fun ac238 En239 => ?_
   refine then_normal ?_
   refine wp_seq ?_
   refine region_from ?_
   refine d_k [0,1,6,7,8,9,10,53,54,55,56] [] 4 En239 fun ac240 En241 => ?_
   refine f_o ?_
   refine c_0 En241 Hv237 (docof_go _ h hh ao230 (List.length ((inK h lk) ++ lx)) cp231 ((inK h lk) ++ lx) (by first | rfl | (simp; done) | (simp; omega) | omega) (bys_in Hv237.heap (k := 1) rfl [] (by kernel_rfl) rfl (by first | omega | (simp; done) | (simp; omega)))) ?_
   rintro _ wo244 ⟨aoq242, coq242, rfl, he245⟩
   refine ⟨_, _, _, rfl, he245, rfl, fun ac247 En248 Hv249 => ?_⟩
   refine f_o ?_
   refine op_append (d := some 58) (t := 23) (tx := 23) (ty := 23) (k := 1) (p := List.length (outK h lk)) (m := List.length (sumF h ((inK h lk) ++ lx))) (x := .slice aoq242 (List.length (sumF h ((inK h lk) ++ lx))) coq242) (bytes := 1) En248 (by kernel_rfl) Hv249 rfl (bys_len _) (Reads.src (size := 1) (tx := 23) (e' := 5) (by kernel_rfl) (Hv249.heap.reads (k := 0) rfl) (bys_len _) (bys_vnz Hv249.heap (k := 0) rfl) (bys_one _)) (by kernel_rfl) (z := .int .u8 0) (by kernel_rfl) rfl (by decide) (by omega) (by unfold maxLen; omega) ?_
   intro ac254 wo255 ao250 cp251 En256 Hv257 hnz _
   clear hnz
   rw [← bys_append] at Hv257
   have ehz252 : (List.length (outK h lk)) + (List.length (sumF h ((inK h lk) ++ lx))) = List.length ((outK h lk) ++ (sumF h ((inK h lk) ++ lx))) := (by first | (simp; done) | (simp; omega) | omega)
   rw [ehz252] at En256
   refine f_o ?_
   refine c_0 En256 Hv257 (docof_go _ h hh ao250 (List.length ((outK h lk) ++ (sumF h ((inK h lk) ++ lx)))) cp251 ((outK h lk) ++ (sumF h ((inK h lk) ++ lx))) (by first | rfl | (simp; done) | (simp; omega) | omega) (bys_in Hv257.heap (k := 1) rfl [] (by kernel_rfl) rfl (by first | omega | (simp; done) | (simp; omega)))) ?_
   rintro _ wo260 ⟨aoq258, coq258, rfl, he261⟩
   refine ⟨_, _, _, rfl, he261, rfl, fun ac263 En264 Hv265 => ?_⟩
   refine d_e [0,1,6,7,8,9,10] [] En264 fun ac266 En267 => ?_
   refine then_normal ?_
   refine wp_ret ?_
   refine d_ret1 (t := 6) (v := .slice aoq258 (List.length (sumF h ((outK h lk) ++ (sumF h ((inK h lk) ++ lx))))) coq258) En267 (by kernel_rfl) (by kernel_rfl) ?_
   have Hf268 := Hv265.pk [0] (M := [.vec aoq258 coq258 1 (bys (macF h lk lx)) 5])
   exact ⟨_, _, rfl, Hf268⟩

theorem refof_nil (w : World) (h : Int) (hh : ¬ (h = 1 ∨ h = 2 ∨ h = 3)) (ak : Option Addr) (nk ck : Nat) (lk : List UInt8) (ek : nk = List.length lk) (ik : InB w [] ak ck lk) (ax : Option Addr) (nx cx : Nat) (lx : List UInt8) (ex : nx = List.length lx) (ix : InB w [] ax cx lx) : Calls Tryd.prog 27 #[.int .i64 h, .slice ak nk ck, .slice ax nx cx] w fun e w' => e = .returned (.slice none 0 0) ∧ Ev w [] w' [] := by
 subst ek
 subst ex
 have hbk : blockOf h = 0 := by unfold blockOf; rw [if_neg (by omega), if_neg (by omega), if_neg (by omega)]
 refine d_0 [(0, .int .i64 h), (1, .slice ak (List.length lk) ck), (2, .slice ax (List.length lx) cx)] 60 Go.Proofs.Tryd.func27 Go.Proofs.Tryd.ntmps27 (Heap.nil _) fun act0 En0 Hv0 => ?_
 refine d_s [0,1,2,6] [] En0 fun ac1 En2 => ?_
 refine wp_seq ?_
 refine region_from ?_
 refine d_k [0,1,2,6,12] [] 1 En2 fun ac3 En4 => ?_
 refine f_o ?_
 refine c_p En4 Hv0 (dblock_go _ h) fun ac9 wo6 En10 Hv11 => ?_
 refine d_e [0,1,2,6,7] [] En10 fun ac12 En13 => ?_
 refine then_normal ?_
 refine wp_seq ?_
 refine d_s [0,1,2,6,7,15] [(1, g_b (show (((blockOf h : Nat) : Int) == (0 : Int)) = true from (by rw [hbk]; rfl)))] En13 fun ac14 En15 => ?_
 refine c_t En15 ?_
 refine d_s [0,1,2,6,7] [] En15 fun ac16 En17 => ?_
 refine wp_ret ?_
 refine then_ret ?_
 refine d_ret1 (t := 6) (v := .slice none 0 0) En17 (by kernel_rfl) (by kernel_rfl) ?_
 exact ⟨rfl, Hv11.pk []⟩

end Go.Proofs.YtbpihljkkkeijaaDoor
