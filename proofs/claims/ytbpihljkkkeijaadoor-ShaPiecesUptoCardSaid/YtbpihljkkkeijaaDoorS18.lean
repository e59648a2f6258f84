/- ShaClones: its walk. -/
import Derived.Test.YtbpihljkkkeijaaDoorS17
import Derived.Test.YtbpihljkkkeijaaDoorGlob
namespace Go.Proofs.YtbpihljkkkeijaaDoor
open Go.Dbr
set_option maxRecDepth 100000
set_option maxHeartbeats 2000000
set_option linter.unusedVariables false
set_option linter.unusedSimpArgs false

theorem hash_go (w : World) (bd : Nat) (h : Int) (al : List UInt8) (ar : Option Addr) (cr : Nat) (hH : Heap w [.box bd (([.int .i64 h] : List Value) ++ ((u32s (S32 h al)) ++ ((u64s (S64 h al)) ++ ([.slice ar (List.length (restH h al)) cr, uv64 (UInt64.ofNat (List.length al))] : List Value)))) 58, .vec ar cr 1 (bys (restH h al)) 5]) : Calls Tryd.prog 23 #[pt bd] w fun e w' => e = .returned (.int .i64 h) ∧ Ev w [.box bd (([.int .i64 h] : List Value) ++ ((u32s (S32 h al)) ++ ((u64s (S64 h al)) ++ ([.slice ar (List.length (restH h al)) cr, uv64 (UInt64.ofNat (List.length al))] : List Value)))) 58, .vec ar cr 1 (bys (restH h al)) 5] w' [.box bd (([.int .i64 h] : List Value) ++ ((u32s (S32 h al)) ++ ((u64s (S64 h al)) ++ ([.slice ar (List.length (restH h al)) cr, uv64 (UInt64.ofNat (List.length al))] : List Value)))) 58, .vec ar cr 1 (bys (restH h al)) 5] := by
 refine d_0 [(0, pt bd)] 7 Go.Proofs.Tryd.func23 Go.Proofs.Tryd.ntmps23 (hH) fun act0 En0 Hv0 => ?_
 refine d_s [0,2] [] En0 fun ac1 En2 => ?_
 refine wp_seq ?_
 refine region_from ?_
 refine d_k [2,5] [] 3 En2 fun ac3 En4 => ?_
 refine f_o ?_
 refine m_v 0 0 (.int .i64 h) En4 Hv0 rfl (seg_in rfl) fun ac5 En6 => ?_
 refine d_e [2] [] En6 fun ac7 En8 => ?_
 refine then_normal ?_
 refine wp_ret ?_
 refine d_ret1 (t := 2) (v := .int .i64 h) En8 (by kernel_rfl) (by kernel_rfl) ?_
 exact ⟨rfl, Hv0.pk [0, 1]⟩

theorem clones_ok (h : Int) (a_a : Option Addr) (c_a : Nat) (a : List UInt8) (a_b : Option Addr) (c_b : Nat) (b : List UInt8) (a_c : Option Addr) (c_c : Nat) (c : List UInt8) (w : World) (b_h : (-9223372036854775808 ≤ h ∧ h ≤ 9223372036854775807)) (i_a : InB w [] a_a c_a a) (i_b : InB w [] a_b c_b b) (i_c : InB w [] a_c c_c c) (hh : (h = 1 ∨ h = 2 ∨ h = 3)) (gk32 : InU32 w [] (some ⟨0, 0, none⟩) 64 K32) (gk64 : InU64 w [] (some ⟨1, 0, none⟩) 80 K64) : Calls Tryd.prog 6 #[.int .i64 h, .slice a_a (List.length a) c_a, .slice a_b (List.length b) c_b, .slice a_c (List.length c) c_c] w fun e w' => e = .returned (.bool true) ∧ Ev w [] w' [] := by
 have hsz : sizeOfH h ≠ 0 := by rcases hh with rfl | rfl | rfl <;> decide
 have hsa := i_a.small
 have hsb := i_b.small
 have hsc := i_c.small
 have hca := i_a.cap
 have hcb := i_b.cap
 have hcc := i_c.cap
 have r0 := restH_lt h []
 have r1 := restH_lt h ([] ++ a)
 have r2 := restH_lt h ([] ++ a ++ c)
 refine d_0 [(0, .int .i64 h), (1, .slice a_a (List.length a) c_a), (2, .slice a_b (List.length b) c_b), (3, .slice a_c (List.length c) c_c)] 101 Go.Proofs.Tryd.func6 Go.Proofs.Tryd.ntmps6 (Heap.nil _) fun act0 En0 Hv0 => ?_
 refine d_s [0,1,2,3,8] [] En0 fun ac1 En2 => ?_
 refine wp_seq ?_
 refine region_from ?_
 refine f_o ?_
 refine c_p En2 Hv0 (head5_ok _ ((gk32.ev Hv0).pick [] (by kernel_rfl)) ((gk64.ev Hv0).pick [] (by kernel_rfl))) fun ac7 wo4 En8 Hv9 => ?_
 refine d_e [0,1,2,3,8,9] [] En8 fun ac10 En11 => ?_
 refine then_normal ?_
 refine wp_seq ?_
 refine region_from ?_
 refine d_k [0,1,2,3,8,9,17] [] 1 En11 fun ac12 En13 => ?_
 refine f_o ?_
 refine c_0 En13 Hv9 (new_dig _ h hh) ?_
 rintro _ wo16 ⟨bq14, rfl, he17⟩
 refine ⟨_, _, _, rfl, he17, rfl, fun ac19 En20 Hv21 => ?_⟩
 refine d_e [0,1,2,3,8,9,10] [] En20 fun ac22 En23 => ?_
 refine then_normal ?_
 refine wp_seq ?_
 refine wp_seq ?_
 refine region_from ?_
 refine d_k [0,1,2,3,8,10,21,23,24] [] 6 En23 fun ac24 En25 => ?_
 refine f_o ?_
 refine c_p En25 Hv21 (size_go _ h) fun ac30 wo27 En31 Hv32 => ?_
 refine d_e [0,1,2,3,8,10,28] [(7, g_b (show (((sizeOfH h : Nat) : Int) == (0 : Int)) = false from (by first | (rw [hsz]; rfl) | exact beq_eq_false_iff_ne.2 (by omega))))] En31 fun ac33 En34 => ?_
 refine then_normal ?_
 refine c_f En34 ?_
 refine wp_skip ?_
 refine then_normal ?_
 refine wp_seq ?_
 refine d_s [0,1,2,3,8,10,30] [] En34 fun ac35 En36 => ?_
 refine c_f En36 ?_
 refine wp_skip ?_
 refine then_normal ?_
 refine wp_seq ?_
 refine region_from ?_
 refine d_k [0,1,2,3,8,10,31,32] [] 2 En36 fun ac37 En38 => ?_
 refine f_o ?_
 refine c_l [0,1] (M := [.box bq14 (([.int .i64 h] : List Value) ++ ((u32s (S32 h ([] : List UInt8))) ++ ((u64s (S64 h ([] : List UInt8))) ++ ([.slice none (List.length (restH h ([] : List UInt8))) 0, uv64 (UInt64.ofNat (List.length ([] : List UInt8)))] : List Value)))) 58, .vec none 0 1 (bys (restH h ([] : List UInt8))) 5]) En38 Hv32 (fun hM40 => write_go _ bq14 h hh ([] : List UInt8) none 0 a_a (List.length a) c_a a (by first | rfl | (simp; done) | (simp; omega) | omega) ((i_a.ev Hv32).pick [0, 1] (by kernel_rfl)) (by omega) ((gk32.ev Hv32).pick [0, 1] (by kernel_rfl)) ((gk64.ev Hv32).pick [0, 1] (by kernel_rfl)) hM40) ?_
 rintro _ wo41 ⟨aoq39, coq39, rfl, he42⟩
 refine ⟨_, _, [.box bq14 (([.int .i64 h] : List Value) ++ ((u32s (S32 h (([] : List UInt8) ++ a))) ++ ((u64s (S64 h (([] : List UInt8) ++ a))) ++ ([.slice aoq39 (List.length (restH h (([] : List UInt8) ++ a))) coq39, uv64 (UInt64.ofNat (List.length (([] : List UInt8) ++ a)))] : List Value)))) 58, .vec aoq39 coq39 1 (bys (restH h (([] : List UInt8) ++ a))) 5], rfl, he42, by kernel_rfl, fun ac44 En45 Hv46 => ?_⟩
 refine f_e ?_
 refine then_normal ?_
 refine wp_seq ?_
 refine region_from ?_
 refine d_k [0,1,2,3,8,10,34] [] 1 En45 fun ac47 En48 => ?_
 refine f_o ?_
 refine c_l [0,1] (M := [.box bq14 (([.int .i64 h] : List Value) ++ ((u32s (S32 h (([] : List UInt8) ++ a))) ++ ((u64s (S64 h (([] : List UInt8) ++ a))) ++ ([.slice aoq39 (List.length (restH h (([] : List UInt8) ++ a))) coq39, uv64 (UInt64.ofNat (List.length (([] : List UInt8) ++ a)))] : List Value)))) 58, .vec aoq39 coq39 1 (bys (restH h (([] : List UInt8) ++ a))) 5]) En48 Hv46 (fun hM50 => clone_go _ bq14 h (([] : List UInt8) ++ a) aoq39 coq39 hM50) ?_
 rintro _ wo51 ⟨bq49, aoq49, coq49, rfl, he52⟩
 refine ⟨_, _, [.box bq14 (([.int .i64 h] : List Value) ++ ((u32s (S32 h (([] : List UInt8) ++ a))) ++ ((u64s (S64 h (([] : List UInt8) ++ a))) ++ ([.slice aoq39 (List.length (restH h (([] : List UInt8) ++ a))) coq39, uv64 (UInt64.ofNat (List.length (([] : List UInt8) ++ a)))] : List Value)))) 58, .vec aoq39 coq39 1 (bys (restH h (([] : List UInt8) ++ a))) 5, .box bq49 (([.int .i64 h] : List Value) ++ ((u32s (S32 h (([] : List UInt8) ++ a))) ++ ((u64s (S64 h (([] : List UInt8) ++ a))) ++ ([.slice aoq49 (List.length (restH h (([] : List UInt8) ++ a))) coq49, uv64 (UInt64.ofNat (List.length (([] : List UInt8) ++ a)))] : List Value)))) 58, .vec aoq49 coq49 1 (bys (restH h (([] : List UInt8) ++ a))) 5], rfl, he52, by kernel_rfl, fun ac54 En55 Hv56 => ?_⟩
 refine d_e [0,1,2,3,8,10,11] [] En55 fun ac57 En58 => ?_
 refine then_normal ?_
 refine wp_seq ?_
 refine d_s [0,1,2,3,8,10,11,37] [] En58 fun ac59 En60 => ?_
 refine c_f En60 ?_
 refine wp_skip ?_
 refine then_normal ?_
 refine wp_seq ?_
 refine region_from ?_
 refine d_k [0,1,2,3,8,10,11,38,39] [] 2 En60 fun ac61 En62 => ?_
 refine f_o ?_
 refine c_l [0,1] (M := [.box bq14 (([.int .i64 h] : List Value) ++ ((u32s (S32 h (([] : List UInt8) ++ a))) ++ ((u64s (S64 h (([] : List UInt8) ++ a))) ++ ([.slice aoq39 (List.length (restH h (([] : List UInt8) ++ a))) coq39, uv64 (UInt64.ofNat (List.length (([] : List UInt8) ++ a)))] : List Value)))) 58, .vec aoq39 coq39 1 (bys (restH h (([] : List UInt8) ++ a))) 5]) En62 Hv56 (fun hM64 => write_go _ bq14 h hh (([] : List UInt8) ++ a) aoq39 coq39 a_b (List.length b) c_b b (by first | rfl | (simp; done) | (simp; omega) | omega) ((i_b.ev Hv56).pick [0, 1] (by kernel_rfl)) (by omega) ((gk32.ev Hv56).pick [0, 1] (by kernel_rfl)) ((gk64.ev Hv56).pick [0, 1] (by kernel_rfl)) hM64) ?_
 rintro _ wo65 ⟨aoq63, coq63, rfl, he66⟩
 refine ⟨_, _, [.box bq14 (([.int .i64 h] : List Value) ++ ((u32s (S32 h ((([] : List UInt8) ++ a) ++ b))) ++ ((u64s (S64 h ((([] : List UInt8) ++ a) ++ b))) ++ ([.slice aoq63 (List.length (restH h ((([] : List UInt8) ++ a) ++ b))) coq63, uv64 (UInt64.ofNat (List.length ((([] : List UInt8) ++ a) ++ b)))] : List Value)))) 58, .vec aoq63 coq63 1 (bys (restH h ((([] : List UInt8) ++ a) ++ b))) 5, .box bq49 (([.int .i64 h] : List Value) ++ ((u32s (S32 h (([] : List UInt8) ++ a))) ++ ((u64s (S64 h (([] : List UInt8) ++ a))) ++ ([.slice aoq49 (List.length (restH h (([] : List UInt8) ++ a))) coq49, uv64 (UInt64.ofNat (List.length (([] : List UInt8) ++ a)))] : List Value)))) 58, .vec aoq49 coq49 1 (bys (restH h (([] : List UInt8) ++ a))) 5], rfl, he66, by kernel_rfl, fun ac68 En69 Hv70 => ?_⟩
 refine f_e ?_
 refine then_normal ?_
 refine wp_seq ?_
 refine region_from ?_
 refine d_k [0,1,2,3,8,10,11,41,42] [] 2 En69 fun ac71 En72 => ?_
 refine f_o ?_
 refine c_l [2,3] (M := [.box bq49 (([.int .i64 h] : List Value) ++ ((u32s (S32 h (([] : List UInt8) ++ a))) ++ ((u64s (S64 h (([] : List UInt8) ++ a))) ++ ([.slice aoq49 (List.length (restH h (([] : List UInt8) ++ a))) coq49, uv64 (UInt64.ofNat (List.length (([] : List UInt8) ++ a)))] : List Value)))) 58, .vec aoq49 coq49 1 (bys (restH h (([] : List UInt8) ++ a))) 5]) En72 Hv70 (fun hM74 => write_go _ bq49 h hh (([] : List UInt8) ++ a) aoq49 coq49 a_c (List.length c) c_c c (by first | rfl | (simp; done) | (simp; omega) | omega) ((i_c.ev Hv70).pick [2, 3] (by kernel_rfl)) (by omega) ((gk32.ev Hv70).pick [2, 3] (by kernel_rfl)) ((gk64.ev Hv70).pick [2, 3] (by kernel_rfl)) hM74) ?_
 rintro _ wo75 ⟨aoq73, coq73, rfl, he76⟩
 refine ⟨_, _, [.box bq49 (([.int .i64 h] : List Value) ++ ((u32s (S32 h ((([] : List UInt8) ++ a) ++ c))) ++ ((u64s (S64 h ((([] : List UInt8) ++ a) ++ c))) ++ ([.slice aoq73 (List.length (restH h ((([] : List UInt8) ++ a) ++ c))) coq73, uv64 (UInt64.ofNat (List.length ((([] : List UInt8) ++ a) ++ c)))] : List Value)))) 58, .vec aoq73 coq73 1 (bys (restH h ((([] : List UInt8) ++ a) ++ c))) 5, .box bq14 (([.int .i64 h] : List Value) ++ ((u32s (S32 h ((([] : List UInt8) ++ a) ++ b))) ++ ((u64s (S64 h ((([] : List UInt8) ++ a) ++ b))) ++ ([.slice aoq63 (List.length (restH h ((([] : List UInt8) ++ a) ++ b))) coq63, uv64 (UInt64.ofNat (List.length ((([] : List UInt8) ++ a) ++ b)))] : List Value)))) 58, .vec aoq63 coq63 1 (bys (restH h ((([] : List UInt8) ++ a) ++ b))) 5], rfl, he76, by kernel_rfl, fun ac78 En79 Hv80 => ?_⟩
 refine f_e ?_
 refine then_normal ?_
 refine wp_seq ?_
 refine region_from ?_
 refine d_k [0,1,2,3,8,10,11,44] [] 1 En79 fun ac81 En82 => ?_
 refine f_o ?_
 refine c_l [0,1] (M := [.box bq49 (([.int .i64 h] : List Value) ++ ((u32s (S32 h ((([] : List UInt8) ++ a) ++ c))) ++ ((u64s (S64 h ((([] : List UInt8) ++ a) ++ c))) ++ ([.slice aoq73 (List.length (restH h ((([] : List UInt8) ++ a) ++ c))) coq73, uv64 (UInt64.ofNat (List.length ((([] : List UInt8) ++ a) ++ c)))] : List Value)))) 58, .vec aoq73 coq73 1 (bys (restH h ((([] : List UInt8) ++ a) ++ c))) 5]) En82 Hv80 (fun hM84 => clone_go _ bq49 h ((([] : List UInt8) ++ a) ++ c) aoq73 coq73 hM84) ?_
 rintro _ wo85 ⟨bq83, aoq83, coq83, rfl, he86⟩
 refine ⟨_, _, [.box bq49 (([.int .i64 h] : List Value) ++ ((u32s (S32 h ((([] : List UInt8) ++ a) ++ c))) ++ ((u64s (S64 h ((([] : List UInt8) ++ a) ++ c))) ++ ([.slice aoq73 (List.length (restH h ((([] : List UInt8) ++ a) ++ c))) coq73, uv64 (UInt64.ofNat (List.length ((([] : List UInt8) ++ a) ++ c)))] : List Value)))) 58, .vec aoq73 coq73 1 (bys (restH h ((([] : List UInt8) ++ a) ++ c))) 5, .box bq83 (([.int .i64 h] : List Value) ++ ((u32s (S32 h ((([] : List UInt8) ++ a) ++ c))) ++ ((u64s (S64 h ((([] : List UInt8) ++ a) ++ c))) ++ ([.slice aoq83 (List.length (restH h ((([] : List UInt8) ++ a) ++ c))) coq83, uv64 (UInt64.ofNat (List.length ((([] : List UInt8) ++ a) ++ c)))] : List Value)))) 58, .vec aoq83 coq83 1 (bys (restH h ((([] : List UInt8) ++ a) ++ c))) 5, .box bq14 (([.int .i64 h] : List Value) ++ ((u32s (S32 h ((([] : List UInt8) ++ a) ++ b))) ++ ((u64s (S64 h ((([] : List UInt8) ++ a) ++ b))) ++ ([.slice aoq63 (List.length (restH h ((([] : List UInt8) ++ a) ++ b))) coq63, uv64 (UInt64.ofNat (List.length ((([] : List UInt8) ++ a) ++ b)))] : List Value)))) 58, .vec aoq63 coq63 1 (bys (restH h ((([] : List UInt8) ++ a) ++ b))) 5], rfl, he86, by kernel_rfl, fun ac88 En89 Hv90 => ?_⟩
 refine d_e [0,1,2,3,8,10,11,12] [] En89 fun ac91 En92 => ?_
 refine then_normal ?_
 refine wp_seq ?_
 refine region_from ?_
 refine d_k [0,1,2,3,8,10,11,12,46,47] [] 2 En92 fun ac93 En94 => ?_
 refine f_o ?_
 refine c_l [2,3] (M := [.box bq83 (([.int .i64 h] : List Value) ++ ((u32s (S32 h ((([] : List UInt8) ++ a) ++ c))) ++ ((u64s (S64 h ((([] : List UInt8) ++ a) ++ c))) ++ ([.slice aoq83 (List.length (restH h ((([] : List UInt8) ++ a) ++ c))) coq83, uv64 (UInt64.ofNat (List.length ((([] : List UInt8) ++ a) ++ c)))] : List Value)))) 58, .vec aoq83 coq83 1 (bys (restH h ((([] : List UInt8) ++ a) ++ c))) 5]) En94 Hv90 (fun hM96 => write_go _ bq83 h hh ((([] : List UInt8) ++ a) ++ c) aoq83 coq83 a_b (List.length b) c_b b (by first | rfl | (simp; done) | (simp; omega) | omega) ((i_b.ev Hv90).pick [2, 3] (by kernel_rfl)) (by omega) ((gk32.ev Hv90).pick [2, 3] (by kernel_rfl)) ((gk64.ev Hv90).pick [2, 3] (by kernel_rfl)) hM96) ?_
 rintro _ wo97 ⟨aoq95, coq95, rfl, he98⟩
 refine ⟨_, _, [.box bq83 (([.int .i64 h] : List Value) ++ ((u32s (S32 h (((([] : List UInt8) ++ a) ++ c) ++ b))) ++ ((u64s (S64 h (((([] : List UInt8) ++ a) ++ c) ++ b))) ++ ([.slice aoq95 (List.length (restH h (((([] : List UInt8) ++ a) ++ c) ++ b))) coq95, uv64 (UInt64.ofNat (List.length (((([] : List UInt8) ++ a) ++ c) ++ b)))] : List Value)))) 58, .vec aoq95 coq95 1 (bys (restH h (((([] : List UInt8) ++ a) ++ c) ++ b))) 5, .box bq49 (([.int .i64 h] : List Value) ++ ((u32s (S32 h ((([] : List UInt8) ++ a) ++ c))) ++ ((u64s (S64 h ((([] : List UInt8) ++ a) ++ c))) ++ ([.slice aoq73 (List.length (restH h ((([] : List UInt8) ++ a) ++ c))) coq73, uv64 (UInt64.ofNat (List.length ((([] : List UInt8) ++ a) ++ c)))] : List Value)))) 58, .vec aoq73 coq73 1 (bys (restH h ((([] : List UInt8) ++ a) ++ c))) 5, .box bq14 (([.int .i64 h] : List Value) ++ ((u32s (S32 h ((([] : List UInt8) ++ a) ++ b))) ++ ((u64s (S64 h ((([] : List UInt8) ++ a) ++ b))) ++ ([.slice aoq63 (List.length (restH h ((([] : List UInt8) ++ a) ++ b))) coq63, uv64 (UInt64.ofNat (List.length ((([] : List UInt8) ++ a) ++ b)))] : List Value)))) 58, .vec aoq63 coq63 1 (bys (restH h ((([] : List UInt8) ++ a) ++ b))) 5], rfl, he98, by kernel_rfl, fun ac100 En101 Hv102 => ?_⟩
 refine f_e ?_
 refine then_normal ?_
 refine wp_seq ?_
 refine r_c (fun ac wo => Env ac 101 [(0, .int .i64 h), (1, .slice a_a (List.length a) c_a), (2, .slice a_b (List.length b) c_b), (3, .slice a_c (List.length c) c_c), (8, .bool false), (10, pt bq14), (11, pt bq49), (12, pt bq83), (13, .bool true)] ∧ Ev w [] wo [.box bq14 (([.int .i64 h] : List Value) ++ ((u32s (S32 h ((([] : List UInt8) ++ a) ++ b))) ++ ((u64s (S64 h ((([] : List UInt8) ++ a) ++ b))) ++ ([.slice aoq63 (List.length (restH h ((([] : List UInt8) ++ a) ++ b))) coq63, uv64 (UInt64.ofNat (List.length ((([] : List UInt8) ++ a) ++ b)))] : List Value)))) 58, .vec aoq63 coq63 1 (bys (restH h ((([] : List UInt8) ++ a) ++ b))) 5, .box bq83 (([.int .i64 h] : List Value) ++ ((u32s (S32 h (((([] : List UInt8) ++ a) ++ c) ++ b))) ++ ((u64s (S64 h (((([] : List UInt8) ++ a) ++ c) ++ b))) ++ ([.slice aoq95 (List.length (restH h (((([] : List UInt8) ++ a) ++ c) ++ b))) coq95, uv64 (UInt64.ofNat (List.length (((([] : List UInt8) ++ a) ++ c) ++ b)))] : List Value)))) 58, .vec aoq95 coq95 1 (bys (restH h (((([] : List UInt8) ++ a) ++ c) ++ b))) 5, .box bq49 (([.int .i64 h] : List Value) ++ ((u32s (S32 h ((([] : List UInt8) ++ a) ++ c))) ++ ((u64s (S64 h ((([] : List UInt8) ++ a) ++ c))) ++ ([.slice aoq73 (List.length (restH h ((([] : List UInt8) ++ a) ++ c))) coq73, uv64 (UInt64.ofNat (List.length ((([] : List UInt8) ++ a) ++ c)))] : List Value)))) 58, .vec aoq73 coq73 1 (bys (restH h ((([] : List UInt8) ++ a) ++ c))) 5]) ?_ ?_
 ·
  refine h_s (fun wv => Ev w [] wv []) [] 11 ?_
  have wo103 := Hv102.trans (Ev.drew Hv102.heap)
  refine h_name fun G hG => ?_
  have nd286 : ∀ (ac : Act) (wo : World) (aoq243 : _) (coq243 : _), Env ac 101 [(0, .int .i64 h), (1, .slice a_a (List.length a) c_a), (2, .slice a_b (List.length b) c_b), (3, .slice a_c (List.length c) c_c), (8, .bool false), (10, pt bq14), (11, pt bq49), (12, pt bq83), (51, .string (bstr (sumF h ((([] : List UInt8) ++ a) ++ b)))), (56, .slice aoq243 (List.length (sumF h (List.flatMap (fun s : Sl UInt8 => s.l) ([⟨a_a, c_a, a⟩, ⟨a_b, c_b, b⟩] : List (Sl UInt8))))) coq243)] → Ev w [] wo [.vec aoq243 coq243 1 (bys (sumF h (List.flatMap (fun s : Sl UInt8 => s.l) ([⟨a_a, c_a, a⟩, ⟨a_b, c_b, b⟩] : List (Sl UInt8))))) 5, .box bq14 (([.int .i64 h] : List Value) ++ ((u32s (S32 h ((([] : List UInt8) ++ a) ++ b))) ++ ((u64s (S64 h ((([] : List UInt8) ++ a) ++ b))) ++ ([.slice aoq63 (List.length (restH h ((([] : List UInt8) ++ a) ++ b))) coq63, uv64 (UInt64.ofNat (List.length ((([] : List UInt8) ++ a) ++ b)))] : List Value)))) 58, .vec aoq63 coq63 1 (bys (restH h ((([] : List UInt8) ++ a) ++ b))) 5, .box bq83 (([.int .i64 h] : List Value) ++ ((u32s (S32 h (((([] : List UInt8) ++ a) ++ c) ++ b))) ++ ((u64s (S64 h (((([] : List UInt8) ++ a) ++ c) ++ b))) ++ ([.slice aoq95 (List.length (restH h (((([] : List UInt8) ++ a) ++ c) ++ b))) coq95, uv64 (UInt64.ofNat (List.length (((([] : List UInt8) ++ a) ++ c) ++ b)))] : List Value)))) 58, .vec aoq95 coq95 1 (bys (restH h (((([] : List UInt8) ++ a) ++ c) ++ b))) 5, .box bq49 (([.int .i64 h] : List Value) ++ ((u32s (S32 h ((([] : List UInt8) ++ a) ++ c))) ++ ((u64s (S64 h ((([] : List UInt8) ++ a) ++ c))) ++ ([.slice aoq73 (List.length (restH h ((([] : List UInt8) ++ a) ++ c))) coq73, uv64 (UInt64.ofNat (List.length ((([] : List UInt8) ++ a) ++ c)))] : List Value)))) 58, .vec aoq73 coq73 1 (bys (restH h ((([] : List UInt8) ++ a) ++ c))) 5] → G 3 #[true, true, true, true, true, true, true, true, false, false, false] ac wo := by
   intro ac287 wo288 aoq243 coq243 En289 Hv290
   refine h_from hG ?_
   refine q_t 8 ?_
   refine op_str (d := some 57) (src := 23) (dst := 9) (e := 5) (ao := aoq243) (cap := coq243) (p := List.length (sumF h (List.flatMap (fun s : Sl UInt8 => s.l) ([⟨a_a, c_a, a⟩, ⟨a_b, c_b, b⟩] : List (Sl UInt8))))) (bs := sumF h (List.flatMap (fun s : Sl UInt8 => s.l) ([⟨a_a, c_a, a⟩, ⟨a_b, c_b, b⟩] : List (Sl UInt8)))) En289 (by kernel_rfl) rfl (by kernel_rfl) (by kernel_rfl) (by kernel_rfl) (Hv290.heap.reads (k := 0) rfl) (bys_vnz Hv290.heap (k := 0) rfl) ?_
   intro ac291 En292
   refine ⟨fun _ => Hv290.pk [], ?_⟩
   refine q_s [9,10] [(9, g_v (show (.bool (ByteArray.toList (bstr (sumF h ((([] : List UInt8) ++ a) ++ b))) == ByteArray.toList (bstr (sumF h (List.flatMap (fun s : Sl UInt8 => s.l) ([⟨a_a, c_a, a⟩, ⟨a_b, c_b, b⟩] : List (Sl UInt8)))))) : Value) = .bool true by rw [Go.Dbr.bstr_eq (sumF h ((([] : List UInt8) ++ a) ++ b)) (sumF h (List.flatMap (fun s : Sl UInt8 => s.l) ([⟨a_a, c_a, a⟩, ⟨a_b, c_b, b⟩] : List (Sl UInt8)))), show ((sumF h ((([] : List UInt8) ++ a) ++ b)) == (sumF h (List.flatMap (fun s : Sl UInt8 => s.l) ([⟨a_a, c_a, a⟩, ⟨a_b, c_b, b⟩] : List (Sl UInt8))))) = true from (by simp)]))] 0 En292 (Hv290.pk []) fun ac293 En294 => ?_
   exact h_e ⟨En294.sb, Hv290.pk [1, 2, 3, 4, 5, 6]⟩
  have nd295 : ∀ (ac : Act) (wo : World) (aoq197 : _) (coq197 : _), Env ac 101 [(0, .int .i64 h), (1, .slice a_a (List.length a) c_a), (2, .slice a_b (List.length b) c_b), (3, .slice a_c (List.length c) c_c), (8, .bool false), (10, pt bq14), (11, pt bq49), (12, pt bq83), (50, .slice aoq197 (List.length (sumF h ((([] : List UInt8) ++ a) ++ b))) coq197), (57, .string (bstr (sumF h (List.flatMap (fun s : Sl UInt8 => s.l) ([⟨a_a, c_a, a⟩, ⟨a_b, c_b, b⟩] : List (Sl UInt8))))))] → Ev w [] wo [.box bq14 (([.int .i64 h] : List Value) ++ ((u32s (S32 h ((([] : List UInt8) ++ a) ++ b))) ++ ((u64s (S64 h ((([] : List UInt8) ++ a) ++ b))) ++ ([.slice aoq63 (List.length (restH h ((([] : List UInt8) ++ a) ++ b))) coq63, uv64 (UInt64.ofNat (List.length ((([] : List UInt8) ++ a) ++ b)))] : List Value)))) 58, .vec aoq63 coq63 1 (bys (restH h ((([] : List UInt8) ++ a) ++ b))) 5, .vec aoq197 coq197 1 (bys (sumF h ((([] : List UInt8) ++ a) ++ b))) 5, .box bq83 (([.int .i64 h] : List Value) ++ ((u32s (S32 h (((([] : List UInt8) ++ a) ++ c) ++ b))) ++ ((u64s (S64 h (((([] : List UInt8) ++ a) ++ c) ++ b))) ++ ([.slice aoq95 (List.length (restH h (((([] : List UInt8) ++ a) ++ c) ++ b))) coq95, uv64 (UInt64.ofNat (List.length (((([] : List UInt8) ++ a) ++ c) ++ b)))] : List Value)))) 58, .vec aoq95 coq95 1 (bys (restH h (((([] : List UInt8) ++ a) ++ c) ++ b))) 5, .box bq49 (([.int .i64 h] : List Value) ++ ((u32s (S32 h ((([] : List UInt8) ++ a) ++ c))) ++ ((u64s (S64 h ((([] : List UInt8) ++ a) ++ c))) ++ ([.slice aoq73 (List.length (restH h ((([] : List UInt8) ++ a) ++ c))) coq73, uv64 (UInt64.ofNat (List.length ((([] : List UInt8) ++ a) ++ c)))] : List Value)))) 58, .vec aoq73 coq73 1 (bys (restH h ((([] : List UInt8) ++ a) ++ c))) 5] → G 3 #[true, true, false, true, true, true, true, true, true, false, false] ac wo := by
   intro ac296 wo297 aoq197 coq197 En298 Hv299
   refine h_from hG ?_
   refine q_t 2 ?_
   refine op_str (d := some 51) (src := 23) (dst := 9) (e := 5) (ao := aoq197) (cap := coq197) (p := List.length (sumF h ((([] : List UInt8) ++ a) ++ b))) (bs := sumF h ((([] : List UInt8) ++ a) ++ b)) En298 (by kernel_rfl) rfl (by kernel_rfl) (by kernel_rfl) (by kernel_rfl) (Hv299.heap.reads (k := 2) rfl) (bys_vnz Hv299.heap (k := 2) rfl) ?_
   intro ac300 En301
   refine ⟨fun _ => Hv299.pk [], ?_⟩
   refine q_s [9,10] [(9, g_v (show (.bool (ByteArray.toList (bstr (sumF h ((([] : List UInt8) ++ a) ++ b))) == ByteArray.toList (bstr (sumF h (List.flatMap (fun s : Sl UInt8 => s.l) ([⟨a_a, c_a, a⟩, ⟨a_b, c_b, b⟩] : List (Sl UInt8)))))) : Value) = .bool true by rw [Go.Dbr.bstr_eq (sumF h ((([] : List UInt8) ++ a) ++ b)) (sumF h (List.flatMap (fun s : Sl UInt8 => s.l) ([⟨a_a, c_a, a⟩, ⟨a_b, c_b, b⟩] : List (Sl UInt8)))), show ((sumF h ((([] : List UInt8) ++ a) ++ b)) == (sumF h (List.flatMap (fun s : Sl UInt8 => s.l) ([⟨a_a, c_a, a⟩, ⟨a_b, c_b, b⟩] : List (Sl UInt8))))) = true from (by simp)]))] 0 En301 (Hv299.pk []) fun ac302 En303 => ?_
   exact h_e ⟨En303.sb, Hv299.pk [0, 1, 3, 4, 5, 6]⟩
  have nd304 : ∀ (ac : Act) (wo : World) (bk224 : Nat), Env ac 101 [(0, .int .i64 h), (1, .slice a_a (List.length a) c_a), (2, .slice a_b (List.length b) c_b), (3, .slice a_c (List.length c) c_c), (8, .bool false), (10, pt bq14), (11, pt bq49), (12, pt bq83), (51, .string (bstr (sumF h ((([] : List UInt8) ++ a) ++ b)))), (52, .int .i64 h), (55, .slice (some ⟨bk224, 0, none⟩) 2 2)] → Ev w [] wo [.box bq14 (([.int .i64 h] : List Value) ++ ((u32s (S32 h ((([] : List UInt8) ++ a) ++ b))) ++ ((u64s (S64 h ((([] : List UInt8) ++ a) ++ b))) ++ ([.slice aoq63 (List.length (restH h ((([] : List UInt8) ++ a) ++ b))) coq63, uv64 (UInt64.ofNat (List.length ((([] : List UInt8) ++ a) ++ b)))] : List Value)))) 58, .vec aoq63 coq63 1 (bys (restH h ((([] : List UInt8) ++ a) ++ b))) 5, .box bq83 (([.int .i64 h] : List Value) ++ ((u32s (S32 h (((([] : List UInt8) ++ a) ++ c) ++ b))) ++ ((u64s (S64 h (((([] : List UInt8) ++ a) ++ c) ++ b))) ++ ([.slice aoq95 (List.length (restH h (((([] : List UInt8) ++ a) ++ c) ++ b))) coq95, uv64 (UInt64.ofNat (List.length (((([] : List UInt8) ++ a) ++ c) ++ b)))] : List Value)))) 58, .vec aoq95 coq95 1 (bys (restH h (((([] : List UInt8) ++ a) ++ c) ++ b))) 5, .box bq49 (([.int .i64 h] : List Value) ++ ((u32s (S32 h ((([] : List UInt8) ++ a) ++ c))) ++ ((u64s (S64 h ((([] : List UInt8) ++ a) ++ c))) ++ ([.slice aoq73 (List.length (restH h ((([] : List UInt8) ++ a) ++ c))) coq73, uv64 (UInt64.ofNat (List.length ((([] : List UInt8) ++ a) ++ c)))] : List Value)))) 58, .vec aoq73 coq73 1 (bys (restH h ((([] : List UInt8) ++ a) ++ c))) 5, .vec (some ⟨bk224, 0, none⟩) 2 1 [.slice a_a (List.length a) c_a, .slice a_b (List.length b) c_b] 23] → G 4 #[true, true, true, true, true, true, true, false, false, false, false] ac wo := by
   intro ac305 wo306 bk224 En307 Hv308
   refine h_from hG ?_
   refine q_t 7 ?_
   refine c_0 En307 Hv308 (of_all _ h hh (some ⟨bk224, 0, none⟩) 2 2 ([⟨a_a, c_a, a⟩, ⟨a_b, c_b, b⟩] : List (Sl UInt8)) (by first | rfl | (simp; done) | (simp; omega) | omega) ⟨Hv308.heap.ro (k := 6) rfl [] (by kernel_rfl) rfl, (fun e => by cases e), (by simp), (by simp), (List.forall_mem_cons.2 ⟨((i_a.ev Hv308).pick [] (by kernel_rfl)), (List.forall_mem_cons.2 ⟨((i_b.ev Hv308).pick [] (by kernel_rfl)), (fun x h => absurd h List.not_mem_nil)⟩)⟩)⟩ ((gk32.ev Hv308).pick [] (by kernel_rfl)) ((gk64.ev Hv308).pick [] (by kernel_rfl))) ?_
   rintro _ wo311 ⟨aoq309, coq309, rfl, he312⟩
   refine ⟨_, _, _, rfl, he312, rfl, fun ac314 En315 Hv316 => ?_⟩
   refine ⟨fun _ => Hv316.pk [], ?_⟩
   refine q_t 8 ?_
   refine op_str (d := some 57) (src := 23) (dst := 9) (e := 5) (ao := aoq309) (cap := coq309) (p := List.length (sumF h (List.flatMap (fun s : Sl UInt8 => s.l) ([⟨a_a, c_a, a⟩, ⟨a_b, c_b, b⟩] : List (Sl UInt8))))) (bs := sumF h (List.flatMap (fun s : Sl UInt8 => s.l) ([⟨a_a, c_a, a⟩, ⟨a_b, c_b, b⟩] : List (Sl UInt8)))) En315 (by kernel_rfl) rfl (by kernel_rfl) (by kernel_rfl) (by kernel_rfl) (Hv316.heap.reads (k := 0) rfl) (bys_vnz Hv316.heap (k := 0) rfl) ?_
   intro ac317 En318
   refine ⟨fun _ => Hv316.pk [], ?_⟩
   refine q_s [9,10] [(9, g_v (show (.bool (ByteArray.toList (bstr (sumF h ((([] : List UInt8) ++ a) ++ b))) == ByteArray.toList (bstr (sumF h (List.flatMap (fun s : Sl UInt8 => s.l) ([⟨a_a, c_a, a⟩, ⟨a_b, c_b, b⟩] : List (Sl UInt8)))))) : Value) = .bool true by rw [Go.Dbr.bstr_eq (sumF h ((([] : List UInt8) ++ a) ++ b)) (sumF h (List.flatMap (fun s : Sl UInt8 => s.l) ([⟨a_a, c_a, a⟩, ⟨a_b, c_b, b⟩] : List (Sl UInt8)))), show ((sumF h ((([] : List UInt8) ++ a) ++ b)) == (sumF h (List.flatMap (fun s : Sl UInt8 => s.l) ([⟨a_a, c_a, a⟩, ⟨a_b, c_b, b⟩] : List (Sl UInt8))))) = true from (by simp)]))] 0 En318 (Hv316.pk []) fun ac319 En320 => ?_
   exact h_e ⟨En320.sb, Hv316.pk [1, 2, 3, 4, 5, 6]⟩
  have nd321 : ∀ (ac : Act) (wo : World) (aoq197 : _) (coq197 : _) (aoq243 : _) (coq243 : _), Env ac 101 [(0, .int .i64 h), (1, .slice a_a (List.length a) c_a), (2, .slice a_b (List.length b) c_b), (3, .slice a_c (List.length c) c_c), (8, .bool false), (10, pt bq14), (11, pt bq49), (12, pt bq83), (50, .slice aoq197 (List.length (sumF h ((([] : List UInt8) ++ a) ++ b))) coq197), (56, .slice aoq243 (List.length (sumF h (List.flatMap (fun s : Sl UInt8 => s.l) ([⟨a_a, c_a, a⟩, ⟨a_b, c_b, b⟩] : List (Sl UInt8))))) coq243)] → Ev w [] wo [.vec aoq243 coq243 1 (bys (sumF h (List.flatMap (fun s : Sl UInt8 => s.l) ([⟨a_a, c_a, a⟩, ⟨a_b, c_b, b⟩] : List (Sl UInt8))))) 5, .box bq14 (([.int .i64 h] : List Value) ++ ((u32s (S32 h ((([] : List UInt8) ++ a) ++ b))) ++ ((u64s (S64 h ((([] : List UInt8) ++ a) ++ b))) ++ ([.slice aoq63 (List.length (restH h ((([] : List UInt8) ++ a) ++ b))) coq63, uv64 (UInt64.ofNat (List.length ((([] : List UInt8) ++ a) ++ b)))] : List Value)))) 58, .vec aoq63 coq63 1 (bys (restH h ((([] : List UInt8) ++ a) ++ b))) 5, .vec aoq197 coq197 1 (bys (sumF h ((([] : List UInt8) ++ a) ++ b))) 5, .box bq83 (([.int .i64 h] : List Value) ++ ((u32s (S32 h (((([] : List UInt8) ++ a) ++ c) ++ b))) ++ ((u64s (S64 h (((([] : List UInt8) ++ a) ++ c) ++ b))) ++ ([.slice aoq95 (List.length (restH h (((([] : List UInt8) ++ a) ++ c) ++ b))) coq95, uv64 (UInt64.ofNat (List.length (((([] : List UInt8) ++ a) ++ c) ++ b)))] : List Value)))) 58, .vec aoq95 coq95 1 (bys (restH h (((([] : List UInt8) ++ a) ++ c) ++ b))) 5, .box bq49 (([.int .i64 h] : List Value) ++ ((u32s (S32 h ((([] : List UInt8) ++ a) ++ c))) ++ ((u64s (S64 h ((([] : List UInt8) ++ a) ++ c))) ++ ([.slice aoq73 (List.length (restH h ((([] : List UInt8) ++ a) ++ c))) coq73, uv64 (UInt64.ofNat (List.length ((([] : List UInt8) ++ a) ++ c)))] : List Value)))) 58, .vec aoq73 coq73 1 (bys (restH h ((([] : List UInt8) ++ a) ++ c))) 5] → G 4 #[true, true, false, true, true, true, true, true, false, false, false] ac wo := by
   intro ac322 wo323 aoq197 coq197 aoq243 coq243 En324 Hv325
   refine h_from hG ?_
   refine h_ways [2, 8] (by kernel_rfl) rfl ?_
   refine ⟨?_, ?_, trivial⟩
   ·
    rintro _ rfl
    refine op_str (d := some 51) (src := 23) (dst := 9) (e := 5) (ao := aoq197) (cap := coq197) (p := List.length (sumF h ((([] : List UInt8) ++ a) ++ b))) (bs := sumF h ((([] : List UInt8) ++ a) ++ b)) En324 (by kernel_rfl) rfl (by kernel_rfl) (by kernel_rfl) (by kernel_rfl) (Hv325.heap.reads (k := 3) rfl) (bys_vnz Hv325.heap (k := 3) rfl) ?_
    intro ac326 En327
    refine ⟨fun _ => Hv325.pk [], ?_⟩
    exact h_to hG (by kernel_rfl) (nd286 _ _ aoq243 coq243 (En327.sb) (Hv325.pk [0, 1, 2, 4, 5, 6, 7]))
   ·
    rintro _ rfl
    refine op_str (d := some 57) (src := 23) (dst := 9) (e := 5) (ao := aoq243) (cap := coq243) (p := List.length (sumF h (List.flatMap (fun s : Sl UInt8 => s.l) ([⟨a_a, c_a, a⟩, ⟨a_b, c_b, b⟩] : List (Sl UInt8))))) (bs := sumF h (List.flatMap (fun s : Sl UInt8 => s.l) ([⟨a_a, c_a, a⟩, ⟨a_b, c_b, b⟩] : List (Sl UInt8)))) En324 (by kernel_rfl) rfl (by kernel_rfl) (by kernel_rfl) (by kernel_rfl) (Hv325.heap.reads (k := 0) rfl) (bys_vnz Hv325.heap (k := 0) rfl) ?_
    intro ac328 En329
    refine ⟨fun _ => Hv325.pk [], ?_⟩
    exact h_to hG (by kernel_rfl) (nd295 _ _ aoq197 coq197 (En329.sb) (Hv325.pk [1, 2, 3, 4, 5, 6, 7]))
  have nd330 : ∀ (ac : Act) (wo : World), Env ac 101 [(0, .int .i64 h), (1, .slice a_a (List.length a) c_a), (2, .slice a_b (List.length b) c_b), (3, .slice a_c (List.length c) c_c), (8, .bool false), (10, pt bq14), (11, pt bq49), (12, pt bq83), (51, .string (bstr (sumF h ((([] : List UInt8) ++ a) ++ b)))), (52, .int .i64 h), (53, .slice a_a (List.length a) c_a), (54, .slice a_b (List.length b) c_b)] → Ev w [] wo [.box bq14 (([.int .i64 h] : List Value) ++ ((u32s (S32 h ((([] : List UInt8) ++ a) ++ b))) ++ ((u64s (S64 h ((([] : List UInt8) ++ a) ++ b))) ++ ([.slice aoq63 (List.length (restH h ((([] : List UInt8) ++ a) ++ b))) coq63, uv64 (UInt64.ofNat (List.length ((([] : List UInt8) ++ a) ++ b)))] : List Value)))) 58, .vec aoq63 coq63 1 (bys (restH h ((([] : List UInt8) ++ a) ++ b))) 5, .box bq83 (([.int .i64 h] : List Value) ++ ((u32s (S32 h (((([] : List UInt8) ++ a) ++ c) ++ b))) ++ ((u64s (S64 h (((([] : List UInt8) ++ a) ++ c) ++ b))) ++ ([.slice aoq95 (List.length (restH h (((([] : List UInt8) ++ a) ++ c) ++ b))) coq95, uv64 (UInt64.ofNat (List.length (((([] : List UInt8) ++ a) ++ c) ++ b)))] : List Value)))) 58, .vec aoq95 coq95 1 (bys (restH h (((([] : List UInt8) ++ a) ++ c) ++ b))) 5, .box bq49 (([.int .i64 h] : List Value) ++ ((u32s (S32 h ((([] : List UInt8) ++ a) ++ c))) ++ ((u64s (S64 h ((([] : List UInt8) ++ a) ++ c))) ++ ([.slice aoq73 (List.length (restH h ((([] : List UInt8) ++ a) ++ c))) coq73, uv64 (UInt64.ofNat (List.length ((([] : List UInt8) ++ a) ++ c)))] : List Value)))) 58, .vec aoq73 coq73 1 (bys (restH h ((([] : List UInt8) ++ a) ++ c))) 5] → G 5 #[true, true, true, true, true, true, false, false, false, false, false] ac wo := by
   intro ac331 wo332 En333 Hv334
   refine h_from hG ?_
   refine q_t 6 ?_
   refine op_lit (d := some 55) (t := 30) (T := 23) (m := 2) (parts := #[(0, .slice a_a (List.length a) c_a), (1, .slice a_b (List.length b) c_b)]) (xs := [.slice a_a (List.length a) c_a, .slice a_b (List.length b) c_b]) (sz := 1) En333 (by kernel_rfl) (by kernel_rfl) rfl (by decide) Hv334 ?_
   intro ac336 wo337 bk335 En338 Hv339
   refine ⟨fun _ => Hv339.pk [], ?_⟩
   refine q_t 7 ?_
   refine c_0 En338 Hv339 (of_all _ h hh (some ⟨bk335, 0, none⟩) 2 2 ([⟨a_a, c_a, a⟩, ⟨a_b, c_b, b⟩] : List (Sl UInt8)) (by first | rfl | (simp; done) | (simp; omega) | omega) ⟨Hv339.heap.ro (k := 6) rfl [] (by kernel_rfl) rfl, (fun e => by cases e), (by simp), (by simp), (List.forall_mem_cons.2 ⟨((i_a.ev Hv339).pick [] (by kernel_rfl)), (List.forall_mem_cons.2 ⟨((i_b.ev Hv339).pick [] (by kernel_rfl)), (fun x h => absurd h List.not_mem_nil)⟩)⟩)⟩ ((gk32.ev Hv339).pick [] (by kernel_rfl)) ((gk64.ev Hv339).pick [] (by kernel_rfl))) ?_
   rintro _ wo342 ⟨aoq340, coq340, rfl, he343⟩
   refine ⟨_, _, _, rfl, he343, rfl, fun ac345 En346 Hv347 => ?_⟩
   refine ⟨fun _ => Hv347.pk [], ?_⟩
   refine q_t 8 ?_
   refine op_str (d := some 57) (src := 23) (dst := 9) (e := 5) (ao := aoq340) (cap := coq340) (p := List.length (sumF h (List.flatMap (fun s : Sl UInt8 => s.l) ([⟨a_a, c_a, a⟩, ⟨a_b, c_b, b⟩] : List (Sl UInt8))))) (bs := sumF h (List.flatMap (fun s : Sl UInt8 => s.l) ([⟨a_a, c_a, a⟩, ⟨a_b, c_b, b⟩] : List (Sl UInt8)))) En346 (by kernel_rfl) rfl (by kernel_rfl) (by kernel_rfl) (by kernel_rfl) (Hv347.heap.reads (k := 0) rfl) (bys_vnz Hv347.heap (k := 0) rfl) ?_
   intro ac348 En349
   refine ⟨fun _ => Hv347.pk [], ?_⟩
   refine q_s [9,10] [(9, g_v (show (.bool (ByteArray.toList (bstr (sumF h ((([] : List UInt8) ++ a) ++ b))) == ByteArray.toList (bstr (sumF h (List.flatMap (fun s : Sl UInt8 => s.l) ([⟨a_a, c_a, a⟩, ⟨a_b, c_b, b⟩] : List (Sl UInt8)))))) : Value) = .bool true by rw [Go.Dbr.bstr_eq (sumF h ((([] : List UInt8) ++ a) ++ b)) (sumF h (List.flatMap (fun s : Sl UInt8 => s.l) ([⟨a_a, c_a, a⟩, ⟨a_b, c_b, b⟩] : List (Sl UInt8)))), show ((sumF h ((([] : List UInt8) ++ a) ++ b)) == (sumF h (List.flatMap (fun s : Sl UInt8 => s.l) ([⟨a_a, c_a, a⟩, ⟨a_b, c_b, b⟩] : List (Sl UInt8))))) = true from (by simp)]))] 0 En349 (Hv347.pk []) fun ac350 En351 => ?_
   exact h_e ⟨En351.sb, Hv347.pk [1, 2, 3, 4, 5, 6]⟩
  have nd352 : ∀ (ac : Act) (wo : World) (aoq197 : _) (coq197 : _) (bk224 : Nat), Env ac 101 [(0, .int .i64 h), (1, .slice a_a (List.length a) c_a), (2, .slice a_b (List.length b) c_b), (3, .slice a_c (List.length c) c_c), (8, .bool false), (10, pt bq14), (11, pt bq49), (12, pt bq83), (50, .slice aoq197 (List.length (sumF h ((([] : List UInt8) ++ a) ++ b))) coq197), (52, .int .i64 h), (55, .slice (some ⟨bk224, 0, none⟩) 2 2)] → Ev w [] wo [.box bq14 (([.int .i64 h] : List Value) ++ ((u32s (S32 h ((([] : List UInt8) ++ a) ++ b))) ++ ((u64s (S64 h ((([] : List UInt8) ++ a) ++ b))) ++ ([.slice aoq63 (List.length (restH h ((([] : List UInt8) ++ a) ++ b))) coq63, uv64 (UInt64.ofNat (List.length ((([] : List UInt8) ++ a) ++ b)))] : List Value)))) 58, .vec aoq63 coq63 1 (bys (restH h ((([] : List UInt8) ++ a) ++ b))) 5, .vec aoq197 coq197 1 (bys (sumF h ((([] : List UInt8) ++ a) ++ b))) 5, .box bq83 (([.int .i64 h] : List Value) ++ ((u32s (S32 h (((([] : List UInt8) ++ a) ++ c) ++ b))) ++ ((u64s (S64 h (((([] : List UInt8) ++ a) ++ c) ++ b))) ++ ([.slice aoq95 (List.length (restH h (((([] : List UInt8) ++ a) ++ c) ++ b))) coq95, uv64 (UInt64.ofNat (List.length (((([] : List UInt8) ++ a) ++ c) ++ b)))] : List Value)))) 58, .vec aoq95 coq95 1 (bys (restH h (((([] : List UInt8) ++ a) ++ c) ++ b))) 5, .box bq49 (([.int .i64 h] : List Value) ++ ((u32s (S32 h ((([] : List UInt8) ++ a) ++ c))) ++ ((u64s (S64 h ((([] : List UInt8) ++ a) ++ c))) ++ ([.slice aoq73 (List.length (restH h ((([] : List UInt8) ++ a) ++ c))) coq73, uv64 (UInt64.ofNat (List.length ((([] : List UInt8) ++ a) ++ c)))] : List Value)))) 58, .vec aoq73 coq73 1 (bys (restH h ((([] : List UInt8) ++ a) ++ c))) 5, .vec (some ⟨bk224, 0, none⟩) 2 1 [.slice a_a (List.length a) c_a, .slice a_b (List.length b) c_b] 23] → G 5 #[true, true, false, true, true, true, true, false, false, false, false] ac wo := by
   intro ac353 wo354 aoq197 coq197 bk224 En355 Hv356
   refine h_from hG ?_
   refine h_ways [2, 7] (by kernel_rfl) rfl ?_
   refine ⟨?_, ?_, trivial⟩
   ·
    rintro _ rfl
    refine op_str (d := some 51) (src := 23) (dst := 9) (e := 5) (ao := aoq197) (cap := coq197) (p := List.length (sumF h ((([] : List UInt8) ++ a) ++ b))) (bs := sumF h ((([] : List UInt8) ++ a) ++ b)) En355 (by kernel_rfl) rfl (by kernel_rfl) (by kernel_rfl) (by kernel_rfl) (Hv356.heap.reads (k := 2) rfl) (bys_vnz Hv356.heap (k := 2) rfl) ?_
    intro ac357 En358
    refine ⟨fun _ => Hv356.pk [], ?_⟩
    exact h_to hG (by kernel_rfl) (nd304 _ _ bk224 (En358.sb) (Hv356.pk [0, 1, 3, 4, 5, 6, 7]))
   ·
    rintro _ rfl
    refine c_0 En355 Hv356 (of_all _ h hh (some ⟨bk224, 0, none⟩) 2 2 ([⟨a_a, c_a, a⟩, ⟨a_b, c_b, b⟩] : List (Sl UInt8)) (by first | rfl | (simp; done) | (simp; omega) | omega) ⟨Hv356.heap.ro (k := 7) rfl [] (by kernel_rfl) rfl, (fun e => by cases e), (by simp), (by simp), (List.forall_mem_cons.2 ⟨((i_a.ev Hv356).pick [] (by kernel_rfl)), (List.forall_mem_cons.2 ⟨((i_b.ev Hv356).pick [] (by kernel_rfl)), (fun x h => absurd h List.not_mem_nil)⟩)⟩)⟩ ((gk32.ev Hv356).pick [] (by kernel_rfl)) ((gk64.ev Hv356).pick [] (by kernel_rfl))) ?_
    rintro _ wo361 ⟨aoq359, coq359, rfl, he362⟩
    refine ⟨_, _, _, rfl, he362, rfl, fun ac364 En365 Hv366 => ?_⟩
    refine ⟨fun _ => Hv366.pk [], ?_⟩
    exact h_to hG (by kernel_rfl) (nd321 _ _ aoq197 coq197 aoq359 coq359 (En365.sb) (Hv366.pk [0, 1, 2, 3, 4, 5, 6, 7]))
  have nd367 : ∀ (ac : Act) (wo : World) (aoq197 : _) (coq197 : _), Env ac 101 [(0, .int .i64 h), (1, .slice a_a (List.length a) c_a), (2, .slice a_b (List.length b) c_b), (3, .slice a_c (List.length c) c_c), (8, .bool false), (10, pt bq14), (11, pt bq49), (12, pt bq83), (50, .slice aoq197 (List.length (sumF h ((([] : List UInt8) ++ a) ++ b))) coq197), (52, .int .i64 h), (53, .slice a_a (List.length a) c_a), (54, .slice a_b (List.length b) c_b)] → Ev w [] wo [.box bq14 (([.int .i64 h] : List Value) ++ ((u32s (S32 h ((([] : List UInt8) ++ a) ++ b))) ++ ((u64s (S64 h ((([] : List UInt8) ++ a) ++ b))) ++ ([.slice aoq63 (List.length (restH h ((([] : List UInt8) ++ a) ++ b))) coq63, uv64 (UInt64.ofNat (List.length ((([] : List UInt8) ++ a) ++ b)))] : List Value)))) 58, .vec aoq63 coq63 1 (bys (restH h ((([] : List UInt8) ++ a) ++ b))) 5, .vec aoq197 coq197 1 (bys (sumF h ((([] : List UInt8) ++ a) ++ b))) 5, .box bq83 (([.int .i64 h] : List Value) ++ ((u32s (S32 h (((([] : List UInt8) ++ a) ++ c) ++ b))) ++ ((u64s (S64 h (((([] : List UInt8) ++ a) ++ c) ++ b))) ++ ([.slice aoq95 (List.length (restH h (((([] : List UInt8) ++ a) ++ c) ++ b))) coq95, uv64 (UInt64.ofNat (List.length (((([] : List UInt8) ++ a) ++ c) ++ b)))] : List Value)))) 58, .vec aoq95 coq95 1 (bys (restH h (((([] : List UInt8) ++ a) ++ c) ++ b))) 5, .box bq49 (([.int .i64 h] : List Value) ++ ((u32s (S32 h ((([] : List UInt8) ++ a) ++ c))) ++ ((u64s (S64 h ((([] : List UInt8) ++ a) ++ c))) ++ ([.slice aoq73 (List.length (restH h ((([] : List UInt8) ++ a) ++ c))) coq73, uv64 (UInt64.ofNat (List.length ((([] : List UInt8) ++ a) ++ c)))] : List Value)))) 58, .vec aoq73 coq73 1 (bys (restH h ((([] : List UInt8) ++ a) ++ c))) 5] → G 6 #[true, true, false, true, true, true, false, false, false, false, false] ac wo := by
   intro ac368 wo369 aoq197 coq197 En370 Hv371
   refine h_from hG ?_
   refine h_ways [2, 6] (by kernel_rfl) rfl ?_
   refine ⟨?_, ?_, trivial⟩
   ·
    rintro _ rfl
    refine op_str (d := some 51) (src := 23) (dst := 9) (e := 5) (ao := aoq197) (cap := coq197) (p := List.length (sumF h ((([] : List UInt8) ++ a) ++ b))) (bs := sumF h ((([] : List UInt8) ++ a) ++ b)) En370 (by kernel_rfl) rfl (by kernel_rfl) (by kernel_rfl) (by kernel_rfl) (Hv371.heap.reads (k := 2) rfl) (bys_vnz Hv371.heap (k := 2) rfl) ?_
    intro ac372 En373
    refine ⟨fun _ => Hv371.pk [], ?_⟩
    exact h_to hG (by kernel_rfl) (nd330 _ _ (En373.sb) (Hv371.pk [0, 1, 3, 4, 5, 6]))
   ·
    rintro _ rfl
    refine op_lit (d := some 55) (t := 30) (T := 23) (m := 2) (parts := #[(0, .slice a_a (List.length a) c_a), (1, .slice a_b (List.length b) c_b)]) (xs := [.slice a_a (List.length a) c_a, .slice a_b (List.length b) c_b]) (sz := 1) En370 (by kernel_rfl) (by kernel_rfl) rfl (by decide) Hv371 ?_
    intro ac375 wo376 bk374 En377 Hv378
    refine ⟨fun _ => Hv378.pk [], ?_⟩
    exact h_to hG (by kernel_rfl) (nd352 _ _ aoq197 coq197 bk374 (En377.sb) (Hv378.pk [0, 1, 2, 3, 4, 5, 6, 7]))
  have nd379 : ∀ (ac : Act) (wo : World) (bk263 : Nat), Env ac 101 [(0, .int .i64 h), (1, .slice a_a (List.length a) c_a), (2, .slice a_b (List.length b) c_b), (3, .slice a_c (List.length c) c_c), (8, .bool false), (10, pt bq14), (11, pt bq49), (12, pt bq83), (49, pt bq14), (52, .int .i64 h), (55, .slice (some ⟨bk263, 0, none⟩) 2 2)] → Ev w [] wo [.box bq83 (([.int .i64 h] : List Value) ++ ((u32s (S32 h (((([] : List UInt8) ++ a) ++ c) ++ b))) ++ ((u64s (S64 h (((([] : List UInt8) ++ a) ++ c) ++ b))) ++ ([.slice aoq95 (List.length (restH h (((([] : List UInt8) ++ a) ++ c) ++ b))) coq95, uv64 (UInt64.ofNat (List.length (((([] : List UInt8) ++ a) ++ c) ++ b)))] : List Value)))) 58, .vec aoq95 coq95 1 (bys (restH h (((([] : List UInt8) ++ a) ++ c) ++ b))) 5, .box bq49 (([.int .i64 h] : List Value) ++ ((u32s (S32 h ((([] : List UInt8) ++ a) ++ c))) ++ ((u64s (S64 h ((([] : List UInt8) ++ a) ++ c))) ++ ([.slice aoq73 (List.length (restH h ((([] : List UInt8) ++ a) ++ c))) coq73, uv64 (UInt64.ofNat (List.length ((([] : List UInt8) ++ a) ++ c)))] : List Value)))) 58, .vec aoq73 coq73 1 (bys (restH h ((([] : List UInt8) ++ a) ++ c))) 5, .box bq14 (([.int .i64 h] : List Value) ++ ((u32s (S32 h ((([] : List UInt8) ++ a) ++ b))) ++ ((u64s (S64 h ((([] : List UInt8) ++ a) ++ b))) ++ ([.slice aoq63 (List.length (restH h ((([] : List UInt8) ++ a) ++ b))) coq63, uv64 (UInt64.ofNat (List.length ((([] : List UInt8) ++ a) ++ b)))] : List Value)))) 58, .vec aoq63 coq63 1 (bys (restH h ((([] : List UInt8) ++ a) ++ b))) 5, .vec (some ⟨bk263, 0, none⟩) 2 1 [.slice a_a (List.length a) c_a, .slice a_b (List.length b) c_b] 23] → G 6 #[true, false, false, true, true, true, true, false, false, false, false] ac wo := by
   intro ac380 wo381 bk263 En382 Hv383
   refine h_from hG ?_
   refine q_t 1 ?_
   refine c_l [4,5] (M := [.box bq14 (([.int .i64 h] : List Value) ++ ((u32s (S32 h ((([] : List UInt8) ++ a) ++ b))) ++ ((u64s (S64 h ((([] : List UInt8) ++ a) ++ b))) ++ ([.slice aoq63 (List.length (restH h ((([] : List UInt8) ++ a) ++ b))) coq63, uv64 (UInt64.ofNat (List.length ((([] : List UInt8) ++ a) ++ b)))] : List Value)))) 58, .vec aoq63 coq63 1 (bys (restH h ((([] : List UInt8) ++ a) ++ b))) 5]) En382 Hv383 (fun hM385 => sum_go _ bq14 h hh ((([] : List UInt8) ++ a) ++ b) aoq63 coq63 ((gk32.ev Hv383).pick [4, 5] (by kernel_rfl)) ((gk64.ev Hv383).pick [4, 5] (by kernel_rfl)) hM385) ?_
   rintro _ wo386 ⟨aoq384, coq384, rfl, he387⟩
   refine ⟨_, _, [.box bq14 (([.int .i64 h] : List Value) ++ ((u32s (S32 h ((([] : List UInt8) ++ a) ++ b))) ++ ((u64s (S64 h ((([] : List UInt8) ++ a) ++ b))) ++ ([.slice aoq63 (List.length (restH h ((([] : List UInt8) ++ a) ++ b))) coq63, uv64 (UInt64.ofNat (List.length ((([] : List UInt8) ++ a) ++ b)))] : List Value)))) 58, .vec aoq63 coq63 1 (bys (restH h ((([] : List UInt8) ++ a) ++ b))) 5, .vec aoq384 coq384 1 (bys (sumF h ((([] : List UInt8) ++ a) ++ b))) 5, .box bq83 (([.int .i64 h] : List Value) ++ ((u32s (S32 h (((([] : List UInt8) ++ a) ++ c) ++ b))) ++ ((u64s (S64 h (((([] : List UInt8) ++ a) ++ c) ++ b))) ++ ([.slice aoq95 (List.length (restH h (((([] : List UInt8) ++ a) ++ c) ++ b))) coq95, uv64 (UInt64.ofNat (List.length (((([] : List UInt8) ++ a) ++ c) ++ b)))] : List Value)))) 58, .vec aoq95 coq95 1 (bys (restH h (((([] : List UInt8) ++ a) ++ c) ++ b))) 5, .box bq49 (([.int .i64 h] : List Value) ++ ((u32s (S32 h ((([] : List UInt8) ++ a) ++ c))) ++ ((u64s (S64 h ((([] : List UInt8) ++ a) ++ c))) ++ ([.slice aoq73 (List.length (restH h ((([] : List UInt8) ++ a) ++ c))) coq73, uv64 (UInt64.ofNat (List.length ((([] : List UInt8) ++ a) ++ c)))] : List Value)))) 58, .vec aoq73 coq73 1 (bys (restH h ((([] : List UInt8) ++ a) ++ c))) 5, .vec (some ⟨bk263, 0, none⟩) 2 1 [.slice a_a (List.length a) c_a, .slice a_b (List.length b) c_b] 23], rfl, he387, by kernel_rfl, fun ac389 En390 Hv391 => ?_⟩
   refine ⟨fun _ => Hv391.pk [], ?_⟩
   refine h_ways [2, 7] (by kernel_rfl) rfl ?_
   refine ⟨?_, ?_, trivial⟩
   ·
    rintro _ rfl
    refine op_str (d := some 51) (src := 23) (dst := 9) (e := 5) (ao := aoq384) (cap := coq384) (p := List.length (sumF h ((([] : List UInt8) ++ a) ++ b))) (bs := sumF h ((([] : List UInt8) ++ a) ++ b)) En390 (by kernel_rfl) rfl (by kernel_rfl) (by kernel_rfl) (by kernel_rfl) (Hv391.heap.reads (k := 2) rfl) (bys_vnz Hv391.heap (k := 2) rfl) ?_
    intro ac392 En393
    refine ⟨fun _ => Hv391.pk [], ?_⟩
    exact h_to hG (by kernel_rfl) (nd304 _ _ bk263 (En393.sb) (Hv391.pk [0, 1, 3, 4, 5, 6, 7]))
   ·
    rintro _ rfl
    refine c_0 En390 Hv391 (of_all _ h hh (some ⟨bk263, 0, none⟩) 2 2 ([⟨a_a, c_a, a⟩, ⟨a_b, c_b, b⟩] : List (Sl UInt8)) (by first | rfl | (simp; done) | (simp; omega) | omega) ⟨Hv391.heap.ro (k := 7) rfl [] (by kernel_rfl) rfl, (fun e => by cases e), (by simp), (by simp), (List.forall_mem_cons.2 ⟨((i_a.ev Hv391).pick [] (by kernel_rfl)), (List.forall_mem_cons.2 ⟨((i_b.ev Hv391).pick [] (by kernel_rfl)), (fun x h => absurd h List.not_mem_nil)⟩)⟩)⟩ ((gk32.ev Hv391).pick [] (by kernel_rfl)) ((gk64.ev Hv391).pick [] (by kernel_rfl))) ?_
    rintro _ wo396 ⟨aoq394, coq394, rfl, he397⟩
    refine ⟨_, _, _, rfl, he397, rfl, fun ac399 En400 Hv401 => ?_⟩
    refine ⟨fun _ => Hv401.pk [], ?_⟩
    exact h_to hG (by kernel_rfl) (nd321 _ _ aoq384 coq384 aoq394 coq394 (En400.sb) (Hv401.pk [0, 1, 2, 3, 4, 5, 6, 7]))
  refine h_from hG ?_
  refine q_s [0,3,4,5] [] 7 En101 (wo103.pk []) fun ac402 En403 => ?_
  refine h_ways [1, 6] (by kernel_rfl) rfl ?_
  refine ⟨?_, ?_, trivial⟩
  ·
   rintro _ rfl
   refine c_l [4,5] (M := [.box bq14 (([.int .i64 h] : List Value) ++ ((u32s (S32 h ((([] : List UInt8) ++ a) ++ b))) ++ ((u64s (S64 h ((([] : List UInt8) ++ a) ++ b))) ++ ([.slice aoq63 (List.length (restH h ((([] : List UInt8) ++ a) ++ b))) coq63, uv64 (UInt64.ofNat (List.length ((([] : List UInt8) ++ a) ++ b)))] : List Value)))) 58, .vec aoq63 coq63 1 (bys (restH h ((([] : List UInt8) ++ a) ++ b))) 5]) En403 wo103 (fun hM405 => sum_go _ bq14 h hh ((([] : List UInt8) ++ a) ++ b) aoq63 coq63 ((gk32.ev wo103).pick [4, 5] (by kernel_rfl)) ((gk64.ev wo103).pick [4, 5] (by kernel_rfl)) hM405) ?_
   rintro _ wo406 ⟨aoq404, coq404, rfl, he407⟩
   refine ⟨_, _, [.box bq14 (([.int .i64 h] : List Value) ++ ((u32s (S32 h ((([] : List UInt8) ++ a) ++ b))) ++ ((u64s (S64 h ((([] : List UInt8) ++ a) ++ b))) ++ ([.slice aoq63 (List.length (restH h ((([] : List UInt8) ++ a) ++ b))) coq63, uv64 (UInt64.ofNat (List.length ((([] : List UInt8) ++ a) ++ b)))] : List Value)))) 58, .vec aoq63 coq63 1 (bys (restH h ((([] : List UInt8) ++ a) ++ b))) 5, .vec aoq404 coq404 1 (bys (sumF h ((([] : List UInt8) ++ a) ++ b))) 5, .box bq83 (([.int .i64 h] : List Value) ++ ((u32s (S32 h (((([] : List UInt8) ++ a) ++ c) ++ b))) ++ ((u64s (S64 h (((([] : List UInt8) ++ a) ++ c) ++ b))) ++ ([.slice aoq95 (List.length (restH h (((([] : List UInt8) ++ a) ++ c) ++ b))) coq95, uv64 (UInt64.ofNat (List.length (((([] : List UInt8) ++ a) ++ c) ++ b)))] : List Value)))) 58, .vec aoq95 coq95 1 (bys (restH h (((([] : List UInt8) ++ a) ++ c) ++ b))) 5, .box bq49 (([.int .i64 h] : List Value) ++ ((u32s (S32 h ((([] : List UInt8) ++ a) ++ c))) ++ ((u64s (S64 h ((([] : List UInt8) ++ a) ++ c))) ++ ([.slice aoq73 (List.length (restH h ((([] : List UInt8) ++ a) ++ c))) coq73, uv64 (UInt64.ofNat (List.length ((([] : List UInt8) ++ a) ++ c)))] : List Value)))) 58, .vec aoq73 coq73 1 (bys (restH h ((([] : List UInt8) ++ a) ++ c))) 5], rfl, he407, by kernel_rfl, fun ac409 En410 Hv411 => ?_⟩
   refine ⟨fun _ => Hv411.pk [], ?_⟩
   exact h_to hG (by kernel_rfl) (nd367 _ _ aoq404 coq404 (En410.sb) (Hv411.pk [0, 1, 2, 3, 4, 5, 6]))
  ·
   rintro _ rfl
   refine op_lit (d := some 55) (t := 30) (T := 23) (m := 2) (parts := #[(0, .slice a_a (List.length a) c_a), (1, .slice a_b (List.length b) c_b)]) (xs := [.slice a_a (List.length a) c_a, .slice a_b (List.length b) c_b]) (sz := 1) En403 (by kernel_rfl) (by kernel_rfl) rfl (by decide) wo103 ?_
   intro ac413 wo414 bk412 En415 Hv416
   refine ⟨fun _ => Hv416.pk [], ?_⟩
   exact h_to hG (by kernel_rfl) (nd379 _ _ bk412 (En415.sb) (Hv416.pk [0, 1, 2, 3, 4, 5, 6]))
 rintro ac417 wo418 ⟨En419, Hv420⟩
 refine then_normal ?_
 refine wp_seq ?_
 refine r_c (fun ac wo => Env ac 101 [(0, .int .i64 h), (1, .slice a_a (List.length a) c_a), (2, .slice a_b (List.length b) c_b), (3, .slice a_c (List.length c) c_c), (8, .bool false), (10, pt bq14), (11, pt bq49), (12, pt bq83), (13, .bool true), (14, .bool true)] ∧ Ev w [] wo [.box bq49 (([.int .i64 h] : List Value) ++ ((u32s (S32 h ((([] : List UInt8) ++ a) ++ c))) ++ ((u64s (S64 h ((([] : List UInt8) ++ a) ++ c))) ++ ([.slice aoq73 (List.length (restH h ((([] : List UInt8) ++ a) ++ c))) coq73, uv64 (UInt64.ofNat (List.length ((([] : List UInt8) ++ a) ++ c)))] : List Value)))) 58, .vec aoq73 coq73 1 (bys (restH h ((([] : List UInt8) ++ a) ++ c))) 5, .box bq14 (([.int .i64 h] : List Value) ++ ((u32s (S32 h ((([] : List UInt8) ++ a) ++ b))) ++ ((u64s (S64 h ((([] : List UInt8) ++ a) ++ b))) ++ ([.slice aoq63 (List.length (restH h ((([] : List UInt8) ++ a) ++ b))) coq63, uv64 (UInt64.ofNat (List.length ((([] : List UInt8) ++ a) ++ b)))] : List Value)))) 58, .vec aoq63 coq63 1 (bys (restH h ((([] : List UInt8) ++ a) ++ b))) 5, .box bq83 (([.int .i64 h] : List Value) ++ ((u32s (S32 h (((([] : List UInt8) ++ a) ++ c) ++ b))) ++ ((u64s (S64 h (((([] : List UInt8) ++ a) ++ c) ++ b))) ++ ([.slice aoq95 (List.length (restH h (((([] : List UInt8) ++ a) ++ c) ++ b))) coq95, uv64 (UInt64.ofNat (List.length (((([] : List UInt8) ++ a) ++ c) ++ b)))] : List Value)))) 58, .vec aoq95 coq95 1 (bys (restH h (((([] : List UInt8) ++ a) ++ c) ++ b))) 5]) ?_ ?_
 ·
  refine h_s (fun wv => Ev w [] wv []) [] 11 ?_
  have wo421 := Hv420.trans (Ev.drew Hv420.heap)
  refine h_name fun G hG => ?_
  have nd604 : ∀ (ac : Act) (wo : World) (aoq561 : _) (coq561 : _), Env ac 101 [(0, .int .i64 h), (1, .slice a_a (List.length a) c_a), (2, .slice a_b (List.length b) c_b), (3, .slice a_c (List.length c) c_c), (8, .bool false), (10, pt bq14), (11, pt bq49), (12, pt bq83), (13, .bool true), (61, .string (bstr (sumF h ((([] : List UInt8) ++ a) ++ c)))), (66, .slice aoq561 (List.length (sumF h (List.flatMap (fun s : Sl UInt8 => s.l) ([⟨a_a, c_a, a⟩, ⟨a_c, c_c, c⟩] : List (Sl UInt8))))) coq561)] → Ev w [] wo [.vec aoq561 coq561 1 (bys (sumF h (List.flatMap (fun s : Sl UInt8 => s.l) ([⟨a_a, c_a, a⟩, ⟨a_c, c_c, c⟩] : List (Sl UInt8))))) 5, .box bq49 (([.int .i64 h] : List Value) ++ ((u32s (S32 h ((([] : List UInt8) ++ a) ++ c))) ++ ((u64s (S64 h ((([] : List UInt8) ++ a) ++ c))) ++ ([.slice aoq73 (List.length (restH h ((([] : List UInt8) ++ a) ++ c))) coq73, uv64 (UInt64.ofNat (List.length ((([] : List UInt8) ++ a) ++ c)))] : List Value)))) 58, .vec aoq73 coq73 1 (bys (restH h ((([] : List UInt8) ++ a) ++ c))) 5, .box bq14 (([.int .i64 h] : List Value) ++ ((u32s (S32 h ((([] : List UInt8) ++ a) ++ b))) ++ ((u64s (S64 h ((([] : List UInt8) ++ a) ++ b))) ++ ([.slice aoq63 (List.length (restH h ((([] : List UInt8) ++ a) ++ b))) coq63, uv64 (UInt64.ofNat (List.length ((([] : List UInt8) ++ a) ++ b)))] : List Value)))) 58, .vec aoq63 coq63 1 (bys (restH h ((([] : List UInt8) ++ a) ++ b))) 5, .box bq83 (([.int .i64 h] : List Value) ++ ((u32s (S32 h (((([] : List UInt8) ++ a) ++ c) ++ b))) ++ ((u64s (S64 h (((([] : List UInt8) ++ a) ++ c) ++ b))) ++ ([.slice aoq95 (List.length (restH h (((([] : List UInt8) ++ a) ++ c) ++ b))) coq95, uv64 (UInt64.ofNat (List.length (((([] : List UInt8) ++ a) ++ c) ++ b)))] : List Value)))) 58, .vec aoq95 coq95 1 (bys (restH h (((([] : List UInt8) ++ a) ++ c) ++ b))) 5] → G 3 #[true, true, true, true, true, true, true, true, false, false, false] ac wo := by
   intro ac605 wo606 aoq561 coq561 En607 Hv608
   refine h_from hG ?_
   refine q_t 8 ?_
   refine op_str (d := some 67) (src := 23) (dst := 9) (e := 5) (ao := aoq561) (cap := coq561) (p := List.length (sumF h (List.flatMap (fun s : Sl UInt8 => s.l) ([⟨a_a, c_a, a⟩, ⟨a_c, c_c, c⟩] : List (Sl UInt8))))) (bs := sumF h (List.flatMap (fun s : Sl UInt8 => s.l) ([⟨a_a, c_a, a⟩, ⟨a_c, c_c, c⟩] : List (Sl UInt8)))) En607 (by kernel_rfl) rfl (by kernel_rfl) (by kernel_rfl) (by kernel_rfl) (Hv608.heap.reads (k := 0) rfl) (bys_vnz Hv608.heap (k := 0) rfl) ?_
   intro ac609 En610
   refine ⟨fun _ => Hv608.pk [], ?_⟩
   refine q_s [9,10] [(9, g_v (show (.bool (ByteArray.toList (bstr (sumF h ((([] : List UInt8) ++ a) ++ c))) == ByteArray.toList (bstr (sumF h (List.flatMap (fun s : Sl UInt8 => s.l) ([⟨a_a, c_a, a⟩, ⟨a_c, c_c, c⟩] : List (Sl UInt8)))))) : Value) = .bool true by rw [Go.Dbr.bstr_eq (sumF h ((([] : List UInt8) ++ a) ++ c)) (sumF h (List.flatMap (fun s : Sl UInt8 => s.l) ([⟨a_a, c_a, a⟩, ⟨a_c, c_c, c⟩] : List (Sl UInt8)))), show ((sumF h ((([] : List UInt8) ++ a) ++ c)) == (sumF h (List.flatMap (fun s : Sl UInt8 => s.l) ([⟨a_a, c_a, a⟩, ⟨a_c, c_c, c⟩] : List (Sl UInt8))))) = true from (by simp)]))] 0 En610 (Hv608.pk []) fun ac611 En612 => ?_
   exact h_e ⟨En612.sb, Hv608.pk [1, 2, 3, 4, 5, 6]⟩
  have nd613 : ∀ (ac : Act) (wo : World) (aoq515 : _) (coq515 : _), Env ac 101 [(0, .int .i64 h), (1, .slice a_a (List.length a) c_a), (2, .slice a_b (List.length b) c_b), (3, .slice a_c (List.length c) c_c), (8, .bool false), (10, pt bq14), (11, pt bq49), (12, pt bq83), (13, .bool true), (60, .slice aoq515 (List.length (sumF h ((([] : List UInt8) ++ a) ++ c))) coq515), (67, .string (bstr (sumF h (List.flatMap (fun s : Sl UInt8 => s.l) ([⟨a_a, c_a, a⟩, ⟨a_c, c_c, c⟩] : List (Sl UInt8))))))] → Ev w [] wo [.box bq49 (([.int .i64 h] : List Value) ++ ((u32s (S32 h ((([] : List UInt8) ++ a) ++ c))) ++ ((u64s (S64 h ((([] : List UInt8) ++ a) ++ c))) ++ ([.slice aoq73 (List.length (restH h ((([] : List UInt8) ++ a) ++ c))) coq73, uv64 (UInt64.ofNat (List.length ((([] : List UInt8) ++ a) ++ c)))] : List Value)))) 58, .vec aoq73 coq73 1 (bys (restH h ((([] : List UInt8) ++ a) ++ c))) 5, .vec aoq515 coq515 1 (bys (sumF h ((([] : List UInt8) ++ a) ++ c))) 5, .box bq14 (([.int .i64 h] : List Value) ++ ((u32s (S32 h ((([] : List UInt8) ++ a) ++ b))) ++ ((u64s (S64 h ((([] : List UInt8) ++ a) ++ b))) ++ ([.slice aoq63 (List.length (restH h ((([] : List UInt8) ++ a) ++ b))) coq63, uv64 (UInt64.ofNat (List.length ((([] : List UInt8) ++ a) ++ b)))] : List Value)))) 58, .vec aoq63 coq63 1 (bys (restH h ((([] : List UInt8) ++ a) ++ b))) 5, .box bq83 (([.int .i64 h] : List Value) ++ ((u32s (S32 h (((([] : List UInt8) ++ a) ++ c) ++ b))) ++ ((u64s (S64 h (((([] : List UInt8) ++ a) ++ c) ++ b))) ++ ([.slice aoq95 (List.length (restH h (((([] : List UInt8) ++ a) ++ c) ++ b))) coq95, uv64 (UInt64.ofNat (List.length (((([] : List UInt8) ++ a) ++ c) ++ b)))] : List Value)))) 58, .vec aoq95 coq95 1 (bys (restH h (((([] : List UInt8) ++ a) ++ c) ++ b))) 5] → G 3 #[true, true, false, true, true, true, true, true, true, false, false] ac wo := by
   intro ac614 wo615 aoq515 coq515 En616 Hv617
   refine h_from hG ?_
   refine q_t 2 ?_
   refine op_str (d := some 61) (src := 23) (dst := 9) (e := 5) (ao := aoq515) (cap := coq515) (p := List.length (sumF h ((([] : List UInt8) ++ a) ++ c))) (bs := sumF h ((([] : List UInt8) ++ a) ++ c)) En616 (by kernel_rfl) rfl (by kernel_rfl) (by kernel_rfl) (by kernel_rfl) (Hv617.heap.reads (k := 2) rfl) (bys_vnz Hv617.heap (k := 2) rfl) ?_
   intro ac618 En619
   refine ⟨fun _ => Hv617.pk [], ?_⟩
   refine q_s [9,10] [(9, g_v (show (.bool (ByteArray.toList (bstr (sumF h ((([] : List UInt8) ++ a) ++ c))) == ByteArray.toList (bstr (sumF h (List.flatMap (fun s : Sl UInt8 => s.l) ([⟨a_a, c_a, a⟩, ⟨a_c, c_c, c⟩] : List (Sl UInt8)))))) : Value) = .bool true by rw [Go.Dbr.bstr_eq (sumF h ((([] : List UInt8) ++ a) ++ c)) (sumF h (List.flatMap (fun s : Sl UInt8 => s.l) ([⟨a_a, c_a, a⟩, ⟨a_c, c_c, c⟩] : List (Sl UInt8)))), show ((sumF h ((([] : List UInt8) ++ a) ++ c)) == (sumF h (List.flatMap (fun s : Sl UInt8 => s.l) ([⟨a_a, c_a, a⟩, ⟨a_c, c_c, c⟩] : List (Sl UInt8))))) = true from (by simp)]))] 0 En619 (Hv617.pk []) fun ac620 En621 => ?_
   exact h_e ⟨En621.sb, Hv617.pk [0, 1, 3, 4, 5, 6]⟩
  have nd622 : ∀ (ac : Act) (wo : World) (bk542 : Nat), Env ac 101 [(0, .int .i64 h), (1, .slice a_a (List.length a) c_a), (2, .slice a_b (List.length b) c_b), (3, .slice a_c (List.length c) c_c), (8, .bool false), (10, pt bq14), (11, pt bq49), (12, pt bq83), (13, .bool true), (61, .string (bstr (sumF h ((([] : List UInt8) ++ a) ++ c)))), (62, .int .i64 h), (65, .slice (some ⟨bk542, 0, none⟩) 2 2)] → Ev w [] wo [.box bq49 (([.int .i64 h] : List Value) ++ ((u32s (S32 h ((([] : List UInt8) ++ a) ++ c))) ++ ((u64s (S64 h ((([] : List UInt8) ++ a) ++ c))) ++ ([.slice aoq73 (List.length (restH h ((([] : List UInt8) ++ a) ++ c))) coq73, uv64 (UInt64.ofNat (List.length ((([] : List UInt8) ++ a) ++ c)))] : List Value)))) 58, .vec aoq73 coq73 1 (bys (restH h ((([] : List UInt8) ++ a) ++ c))) 5, .box bq14 (([.int .i64 h] : List Value) ++ ((u32s (S32 h ((([] : List UInt8) ++ a) ++ b))) ++ ((u64s (S64 h ((([] : List UInt8) ++ a) ++ b))) ++ ([.slice aoq63 (List.length (restH h ((([] : List UInt8) ++ a) ++ b))) coq63, uv64 (UInt64.ofNat (List.length ((([] : List UInt8) ++ a) ++ b)))] : List Value)))) 58, .vec aoq63 coq63 1 (bys (restH h ((([] : List UInt8) ++ a) ++ b))) 5, .box bq83 (([.int .i64 h] : List Value) ++ ((u32s (S32 h (((([] : List UInt8) ++ a) ++ c) ++ b))) ++ ((u64s (S64 h (((([] : List UInt8) ++ a) ++ c) ++ b))) ++ ([.slice aoq95 (List.length (restH h (((([] : List UInt8) ++ a) ++ c) ++ b))) coq95, uv64 (UInt64.ofNat (List.length (((([] : List UInt8) ++ a) ++ c) ++ b)))] : List Value)))) 58, .vec aoq95 coq95 1 (bys (restH h (((([] : List UInt8) ++ a) ++ c) ++ b))) 5, .vec (some ⟨bk542, 0, none⟩) 2 1 [.slice a_a (List.length a) c_a, .slice a_c (List.length c) c_c] 23] → G 4 #[true, true, true, true, true, true, true, false, false, false, false] ac wo := by
   intro ac623 wo624 bk542 En625 Hv626
   refine h_from hG ?_
   refine q_t 7 ?_
   refine c_0 En625 Hv626 (of_all _ h hh (some ⟨bk542, 0, none⟩) 2 2 ([⟨a_a, c_a, a⟩, ⟨a_c, c_c, c⟩] : List (Sl UInt8)) (by first | rfl | (simp; done) | (simp; omega) | omega) ⟨Hv626.heap.ro (k := 6) rfl [] (by kernel_rfl) rfl, (fun e => by cases e), (by simp), (by simp), (List.forall_mem_cons.2 ⟨((i_a.ev Hv626).pick [] (by kernel_rfl)), (List.forall_mem_cons.2 ⟨((i_c.ev Hv626).pick [] (by kernel_rfl)), (fun x h => absurd h List.not_mem_nil)⟩)⟩)⟩ ((gk32.ev Hv626).pick [] (by kernel_rfl)) ((gk64.ev Hv626).pick [] (by kernel_rfl))) ?_
   rintro _ wo629 ⟨aoq627, coq627, rfl, he630⟩
   refine ⟨_, _, _, rfl, he630, rfl, fun ac632 En633 Hv634 => ?_⟩
   refine ⟨fun _ => Hv634.pk [], ?_⟩
   refine q_t 8 ?_
   refine op_str (d := some 67) (src := 23) (dst := 9) (e := 5) (ao := aoq627) (cap := coq627) (p := List.length (sumF h (List.flatMap (fun s : Sl UInt8 => s.l) ([⟨a_a, c_a, a⟩, ⟨a_c, c_c, c⟩] : List (Sl UInt8))))) (bs := sumF h (List.flatMap (fun s : Sl UInt8 => s.l) ([⟨a_a, c_a, a⟩, ⟨a_c, c_c, c⟩] : List (Sl UInt8)))) En633 (by kernel_rfl) rfl (by kernel_rfl) (by kernel_rfl) (by kernel_rfl) (Hv634.heap.reads (k := 0) rfl) (bys_vnz Hv634.heap (k := 0) rfl) ?_
   intro ac635 En636
   refine ⟨fun _ => Hv634.pk [], ?_⟩
   refine q_s [9,10] [(9, g_v (show (.bool (ByteArray.toList (bstr (sumF h ((([] : List UInt8) ++ a) ++ c))) == ByteArray.toList (bstr (sumF h (List.flatMap (fun s : Sl UInt8 => s.l) ([⟨a_a, c_a, a⟩, ⟨a_c, c_c, c⟩] : List (Sl UInt8)))))) : Value) = .bool true by rw [Go.Dbr.bstr_eq (sumF h ((([] : List UInt8) ++ a) ++ c)) (sumF h (List.flatMap (fun s : Sl UInt8 => s.l) ([⟨a_a, c_a, a⟩, ⟨a_c, c_c, c⟩] : List (Sl UInt8)))), show ((sumF h ((([] : List UInt8) ++ a) ++ c)) == (sumF h (List.flatMap (fun s : Sl UInt8 => s.l) ([⟨a_a, c_a, a⟩, ⟨a_c, c_c, c⟩] : List (Sl UInt8))))) = true from (by simp)]))] 0 En636 (Hv634.pk []) fun ac637 En638 => ?_
   exact h_e ⟨En638.sb, Hv634.pk [1, 2, 3, 4, 5, 6]⟩
  have nd639 : ∀ (ac : Act) (wo : World) (aoq515 : _) (coq515 : _) (aoq561 : _) (coq561 : _), Env ac 101 [(0, .int .i64 h), (1, .slice a_a (List.length a) c_a), (2, .slice a_b (List.length b) c_b), (3, .slice a_c (List.length c) c_c), (8, .bool false), (10, pt bq14), (11, pt bq49), (12, pt bq83), (13, .bool true), (60, .slice aoq515 (List.length (sumF h ((([] : List UInt8) ++ a) ++ c))) coq515), (66, .slice aoq561 (List.length (sumF h (List.flatMap (fun s : Sl UInt8 => s.l) ([⟨a_a, c_a, a⟩, ⟨a_c, c_c, c⟩] : List (Sl UInt8))))) coq561)] → Ev w [] wo [.vec aoq561 coq561 1 (bys (sumF h (List.flatMap (fun s : Sl UInt8 => s.l) ([⟨a_a, c_a, a⟩, ⟨a_c, c_c, c⟩] : List (Sl UInt8))))) 5, .box bq49 (([.int .i64 h] : List Value) ++ ((u32s (S32 h ((([] : List UInt8) ++ a) ++ c))) ++ ((u64s (S64 h ((([] : List UInt8) ++ a) ++ c))) ++ ([.slice aoq73 (List.length (restH h ((([] : List UInt8) ++ a) ++ c))) coq73, uv64 (UInt64.ofNat (List.length ((([] : List UInt8) ++ a) ++ c)))] : List Value)))) 58, .vec aoq73 coq73 1 (bys (restH h ((([] : List UInt8) ++ a) ++ c))) 5, .vec aoq515 coq515 1 (bys (sumF h ((([] : List UInt8) ++ a) ++ c))) 5, .box bq14 (([.int .i64 h] : List Value) ++ ((u32s (S32 h ((([] : List UInt8) ++ a) ++ b))) ++ ((u64s (S64 h ((([] : List UInt8) ++ a) ++ b))) ++ ([.slice aoq63 (List.length (restH h ((([] : List UInt8) ++ a) ++ b))) coq63, uv64 (UInt64.ofNat (List.length ((([] : List UInt8) ++ a) ++ b)))] : List Value)))) 58, .vec aoq63 coq63 1 (bys (restH h ((([] : List UInt8) ++ a) ++ b))) 5, .box bq83 (([.int .i64 h] : List Value) ++ ((u32s (S32 h (((([] : List UInt8) ++ a) ++ c) ++ b))) ++ ((u64s (S64 h (((([] : List UInt8) ++ a) ++ c) ++ b))) ++ ([.slice aoq95 (List.length (restH h (((([] : List UInt8) ++ a) ++ c) ++ b))) coq95, uv64 (UInt64.ofNat (List.length (((([] : List UInt8) ++ a) ++ c) ++ b)))] : List Value)))) 58, .vec aoq95 coq95 1 (bys (restH h (((([] : List UInt8) ++ a) ++ c) ++ b))) 5] → G 4 #[true, true, false, true, true, true, true, true, false, false, false] ac wo := by
   intro ac640 wo641 aoq515 coq515 aoq561 coq561 En642 Hv643
   refine h_from hG ?_
   refine h_ways [2, 8] (by kernel_rfl) rfl ?_
   refine ⟨?_, ?_, trivial⟩
   ·
    rintro _ rfl
    refine op_str (d := some 61) (src := 23) (dst := 9) (e := 5) (ao := aoq515) (cap := coq515) (p := List.length (sumF h ((([] : List UInt8) ++ a) ++ c))) (bs := sumF h ((([] : List UInt8) ++ a) ++ c)) En642 (by kernel_rfl) rfl (by kernel_rfl) (by kernel_rfl) (by kernel_rfl) (Hv643.heap.reads (k := 3) rfl) (bys_vnz Hv643.heap (k := 3) rfl) ?_
    intro ac644 En645
    refine ⟨fun _ => Hv643.pk [], ?_⟩
    exact h_to hG (by kernel_rfl) (nd604 _ _ aoq561 coq561 (En645.sb) (Hv643.pk [0, 1, 2, 4, 5, 6, 7]))
   ·
    rintro _ rfl
    refine op_str (d := some 67) (src := 23) (dst := 9) (e := 5) (ao := aoq561) (cap := coq561) (p := List.length (sumF h (List.flatMap (fun s : Sl UInt8 => s.l) ([⟨a_a, c_a, a⟩, ⟨a_c, c_c, c⟩] : List (Sl UInt8))))) (bs := sumF h (List.flatMap (fun s : Sl UInt8 => s.l) ([⟨a_a, c_a, a⟩, ⟨a_c, c_c, c⟩] : List (Sl UInt8)))) En642 (by kernel_rfl) rfl (by kernel_rfl) (by kernel_rfl) (by kernel_rfl) (Hv643.heap.reads (k := 0) rfl) (bys_vnz Hv643.heap (k := 0) rfl) ?_
    intro ac646 En647
    refine ⟨fun _ => Hv643.pk [], ?_⟩
    exact h_to hG (by kernel_rfl) (nd613 _ _ aoq515 coq515 (En647.sb) (Hv643.pk [1, 2, 3, 4, 5, 6, 7]))
  have nd648 : ∀ (ac : Act) (wo : World), Env ac 101 [(0, .int .i64 h), (1, .slice a_a (List.length a) c_a), (2, .slice a_b (List.length b) c_b), (3, .slice a_c (List.length c) c_c), (8, .bool false), (10, pt bq14), (11, pt bq49), (12, pt bq83), (13, .bool true), (61, .string (bstr (sumF h ((([] : List UInt8) ++ a) ++ c)))), (62, .int .i64 h), (63, .slice a_a (List.length a) c_a), (64, .slice a_c (List.length c) c_c)] → Ev w [] wo [.box bq49 (([.int .i64 h] : List Value) ++ ((u32s (S32 h ((([] : List UInt8) ++ a) ++ c))) ++ ((u64s (S64 h ((([] : List UInt8) ++ a) ++ c))) ++ ([.slice aoq73 (List.length (restH h ((([] : List UInt8) ++ a) ++ c))) coq73, uv64 (UInt64.ofNat (List.length ((([] : List UInt8) ++ a) ++ c)))] : List Value)))) 58, .vec aoq73 coq73 1 (bys (restH h ((([] : List UInt8) ++ a) ++ c))) 5, .box bq14 (([.int .i64 h] : List Value) ++ ((u32s (S32 h ((([] : List UInt8) ++ a) ++ b))) ++ ((u64s (S64 h ((([] : List UInt8) ++ a) ++ b))) ++ ([.slice aoq63 (List.length (restH h ((([] : List UInt8) ++ a) ++ b))) coq63, uv64 (UInt64.ofNat (List.length ((([] : List UInt8) ++ a) ++ b)))] : List Value)))) 58, .vec aoq63 coq63 1 (bys (restH h ((([] : List UInt8) ++ a) ++ b))) 5, .box bq83 (([.int .i64 h] : List Value) ++ ((u32s (S32 h (((([] : List UInt8) ++ a) ++ c) ++ b))) ++ ((u64s (S64 h (((([] : List UInt8) ++ a) ++ c) ++ b))) ++ ([.slice aoq95 (List.length (restH h (((([] : List UInt8) ++ a) ++ c) ++ b))) coq95, uv64 (UInt64.ofNat (List.length (((([] : List UInt8) ++ a) ++ c) ++ b)))] : List Value)))) 58, .vec aoq95 coq95 1 (bys (restH h (((([] : List UInt8) ++ a) ++ c) ++ b))) 5] → G 5 #[true, true, true, true, true, true, false, false, false, false, false] ac wo := by
   intro ac649 wo650 En651 Hv652
   refine h_from hG ?_
   refine q_t 6 ?_
   refine op_lit (d := some 65) (t := 30) (T := 23) (m := 2) (parts := #[(0, .slice a_a (List.length a) c_a), (1, .slice a_c (List.length c) c_c)]) (xs := [.slice a_a (List.length a) c_a, .slice a_c (List.length c) c_c]) (sz := 1) En651 (by kernel_rfl) (by kernel_rfl) rfl (by decide) Hv652 ?_
   intro ac654 wo655 bk653 En656 Hv657
   refine ⟨fun _ => Hv657.pk [], ?_⟩
   refine q_t 7 ?_
   refine c_0 En656 Hv657 (of_all _ h hh (some ⟨bk653, 0, none⟩) 2 2 ([⟨a_a, c_a, a⟩, ⟨a_c, c_c, c⟩] : List (Sl UInt8)) (by first | rfl | (simp; done) | (simp; omega) | omega) ⟨Hv657.heap.ro (k := 6) rfl [] (by kernel_rfl) rfl, (fun e => by cases e), (by simp), (by simp), (List.forall_mem_cons.2 ⟨((i_a.ev Hv657).pick [] (by kernel_rfl)), (List.forall_mem_cons.2 ⟨((i_c.ev Hv657).pick [] (by kernel_rfl)), (fun x h => absurd h List.not_mem_nil)⟩)⟩)⟩ ((gk32.ev Hv657).pick [] (by kernel_rfl)) ((gk64.ev Hv657).pick [] (by kernel_rfl))) ?_
   rintro _ wo660 ⟨aoq658, coq658, rfl, he661⟩
   refine ⟨_, _, _, rfl, he661, rfl, fun ac663 En664 Hv665 => ?_⟩
   refine ⟨fun _ => Hv665.pk [], ?_⟩
   refine q_t 8 ?_
   refine op_str (d := some 67) (src := 23) (dst := 9) (e := 5) (ao := aoq658) (cap := coq658) (p := List.length (sumF h (List.flatMap (fun s : Sl UInt8 => s.l) ([⟨a_a, c_a, a⟩, ⟨a_c, c_c, c⟩] : List (Sl UInt8))))) (bs := sumF h (List.flatMap (fun s : Sl UInt8 => s.l) ([⟨a_a, c_a, a⟩, ⟨a_c, c_c, c⟩] : List (Sl UInt8)))) En664 (by kernel_rfl) rfl (by kernel_rfl) (by kernel_rfl) (by kernel_rfl) (Hv665.heap.reads (k := 0) rfl) (bys_vnz Hv665.heap (k := 0) rfl) ?_
   intro ac666 En667
   refine ⟨fun _ => Hv665.pk [], ?_⟩
   refine q_s [9,10] [(9, g_v (show (.bool (ByteArray.toList (bstr (sumF h ((([] : List UInt8) ++ a) ++ c))) == ByteArray.toList (bstr (sumF h (List.flatMap (fun s : Sl UInt8 => s.l) ([⟨a_a, c_a, a⟩, ⟨a_c, c_c, c⟩] : List (Sl UInt8)))))) : Value) = .bool true by rw [Go.Dbr.bstr_eq (sumF h ((([] : List UInt8) ++ a) ++ c)) (sumF h (List.flatMap (fun s : Sl UInt8 => s.l) ([⟨a_a, c_a, a⟩, ⟨a_c, c_c, c⟩] : List (Sl UInt8)))), show ((sumF h ((([] : List UInt8) ++ a) ++ c)) == (sumF h (List.flatMap (fun s : Sl UInt8 => s.l) ([⟨a_a, c_a, a⟩, ⟨a_c, c_c, c⟩] : List (Sl UInt8))))) = true from (by simp)]))] 0 En667 (Hv665.pk []) fun ac668 En669 => ?_
   exact h_e ⟨En669.sb, Hv665.pk [1, 2, 3, 4, 5, 6]⟩
  have nd670 : ∀ (ac : Act) (wo : World) (aoq515 : _) (coq515 : _) (bk542 : Nat), Env ac 101 [(0, .int .i64 h), (1, .slice a_a (List.length a) c_a), (2, .slice a_b (List.length b) c_b), (3, .slice a_c (List.length c) c_c), (8, .bool false), (10, pt bq14), (11, pt bq49), (12, pt bq83), (13, .bool true), (60, .slice aoq515 (List.length (sumF h ((([] : List UInt8) ++ a) ++ c))) coq515), (62, .int .i64 h), (65, .slice (some ⟨bk542, 0, none⟩) 2 2)] → Ev w [] wo [.box bq49 (([.int .i64 h] : List Value) ++ ((u32s (S32 h ((([] : List UInt8) ++ a) ++ c))) ++ ((u64s (S64 h ((([] : List UInt8) ++ a) ++ c))) ++ ([.slice aoq73 (List.length (restH h ((([] : List UInt8) ++ a) ++ c))) coq73, uv64 (UInt64.ofNat (List.length ((([] : List UInt8) ++ a) ++ c)))] : List Value)))) 58, .vec aoq73 coq73 1 (bys (restH h ((([] : List UInt8) ++ a) ++ c))) 5, .vec aoq515 coq515 1 (bys (sumF h ((([] : List UInt8) ++ a) ++ c))) 5, .box bq14 (([.int .i64 h] : List Value) ++ ((u32s (S32 h ((([] : List UInt8) ++ a) ++ b))) ++ ((u64s (S64 h ((([] : List UInt8) ++ a) ++ b))) ++ ([.slice aoq63 (List.length (restH h ((([] : List UInt8) ++ a) ++ b))) coq63, uv64 (UInt64.ofNat (List.length ((([] : List UInt8) ++ a) ++ b)))] : List Value)))) 58, .vec aoq63 coq63 1 (bys (restH h ((([] : List UInt8) ++ a) ++ b))) 5, .box bq83 (([.int .i64 h] : List Value) ++ ((u32s (S32 h (((([] : List UInt8) ++ a) ++ c) ++ b))) ++ ((u64s (S64 h (((([] : List UInt8) ++ a) ++ c) ++ b))) ++ ([.slice aoq95 (List.length (restH h (((([] : List UInt8) ++ a) ++ c) ++ b))) coq95, uv64 (UInt64.ofNat (List.length (((([] : List UInt8) ++ a) ++ c) ++ b)))] : List Value)))) 58, .vec aoq95 coq95 1 (bys (restH h (((([] : List UInt8) ++ a) ++ c) ++ b))) 5, .vec (some ⟨bk542, 0, none⟩) 2 1 [.slice a_a (List.length a) c_a, .slice a_c (List.length c) c_c] 23] → G 5 #[true, true, false, true, true, true, true, false, false, false, false] ac wo := by
   intro ac671 wo672 aoq515 coq515 bk542 En673 Hv674
   refine h_from hG ?_
   refine h_ways [2, 7] (by kernel_rfl) rfl ?_
   refine ⟨?_, ?_, trivial⟩
   ·
    rintro _ rfl
    refine op_str (d := some 61) (src := 23) (dst := 9) (e := 5) (ao := aoq515) (cap := coq515) (p := List.length (sumF h ((([] : List UInt8) ++ a) ++ c))) (bs := sumF h ((([] : List UInt8) ++ a) ++ c)) En673 (by kernel_rfl) rfl (by kernel_rfl) (by kernel_rfl) (by kernel_rfl) (Hv674.heap.reads (k := 2) rfl) (bys_vnz Hv674.heap (k := 2) rfl) ?_
    intro ac675 En676
    refine ⟨fun _ => Hv674.pk [], ?_⟩
    exact h_to hG (by kernel_rfl) (nd622 _ _ bk542 (En676.sb) (Hv674.pk [0, 1, 3, 4, 5, 6, 7]))
   ·
    rintro _ rfl
    refine c_0 En673 Hv674 (of_all _ h hh (some ⟨bk542, 0, none⟩) 2 2 ([⟨a_a, c_a, a⟩, ⟨a_c, c_c, c⟩] : List (Sl UInt8)) (by first | rfl | (simp; done) | (simp; omega) | omega) ⟨Hv674.heap.ro (k := 7) rfl [] (by kernel_rfl) rfl, (fun e => by cases e), (by simp), (by simp), (List.forall_mem_cons.2 ⟨((i_a.ev Hv674).pick [] (by kernel_rfl)), (List.forall_mem_cons.2 ⟨((i_c.ev Hv674).pick [] (by kernel_rfl)), (fun x h => absurd h List.not_mem_nil)⟩)⟩)⟩ ((gk32.ev Hv674).pick [] (by kernel_rfl)) ((gk64.ev Hv674).pick [] (by kernel_rfl))) ?_
    rintro _ wo679 ⟨aoq677, coq677, rfl, he680⟩
    refine ⟨_, _, _, rfl, he680, rfl, fun ac682 En683 Hv684 => ?_⟩
    refine ⟨fun _ => Hv684.pk [], ?_⟩
    exact h_to hG (by kernel_rfl) (nd639 _ _ aoq515 coq515 aoq677 coq677 (En683.sb) (Hv684.pk [0, 1, 2, 3, 4, 5, 6, 7]))
  have nd685 : ∀ (ac : Act) (wo : World) (aoq515 : _) (coq515 : _), Env ac 101 [(0, .int .i64 h), (1, .slice a_a (List.length a) c_a), (2, .slice a_b (List.length b) c_b), (3, .slice a_c (List.length c) c_c), (8, .bool false), (10, pt bq14), (11, pt bq49), (12, pt bq83), (13, .bool true), (60, .slice aoq515 (List.length (sumF h ((([] : List UInt8) ++ a) ++ c))) coq515), (62, .int .i64 h), (63, .slice a_a (List.length a) c_a), (64, .slice a_c (List.length c) c_c)] → Ev w [] wo [.box bq49 (([.int .i64 h] : List Value) ++ ((u32s (S32 h ((([] : List UInt8) ++ a) ++ c))) ++ ((u64s (S64 h ((([] : List UInt8) ++ a) ++ c))) ++ ([.slice aoq73 (List.length (restH h ((([] : List UInt8) ++ a) ++ c))) coq73, uv64 (UInt64.ofNat (List.length ((([] : List UInt8) ++ a) ++ c)))] : List Value)))) 58, .vec aoq73 coq73 1 (bys (restH h ((([] : List UInt8) ++ a) ++ c))) 5, .vec aoq515 coq515 1 (bys (sumF h ((([] : List UInt8) ++ a) ++ c))) 5, .box bq14 (([.int .i64 h] : List Value) ++ ((u32s (S32 h ((([] : List UInt8) ++ a) ++ b))) ++ ((u64s (S64 h ((([] : List UInt8) ++ a) ++ b))) ++ ([.slice aoq63 (List.length (restH h ((([] : List UInt8) ++ a) ++ b))) coq63, uv64 (UInt64.ofNat (List.length ((([] : List UInt8) ++ a) ++ b)))] : List Value)))) 58, .vec aoq63 coq63 1 (bys (restH h ((([] : List UInt8) ++ a) ++ b))) 5, .box bq83 (([.int .i64 h] : List Value) ++ ((u32s (S32 h (((([] : List UInt8) ++ a) ++ c) ++ b))) ++ ((u64s (S64 h (((([] : List UInt8) ++ a) ++ c) ++ b))) ++ ([.slice aoq95 (List.length (restH h (((([] : List UInt8) ++ a) ++ c) ++ b))) coq95, uv64 (UInt64.ofNat (List.length (((([] : List UInt8) ++ a) ++ c) ++ b)))] : List Value)))) 58, .vec aoq95 coq95 1 (bys (restH h (((([] : List UInt8) ++ a) ++ c) ++ b))) 5] → G 6 #[true, true, false, true, true, true, false, false, false, false, false] ac wo := by
   intro ac686 wo687 aoq515 coq515 En688 Hv689
   refine h_from hG ?_
   refine h_ways [2, 6] (by kernel_rfl) rfl ?_
   refine ⟨?_, ?_, trivial⟩
   ·
    rintro _ rfl
    refine op_str (d := some 61) (src := 23) (dst := 9) (e := 5) (ao := aoq515) (cap := coq515) (p := List.length (sumF h ((([] : List UInt8) ++ a) ++ c))) (bs := sumF h ((([] : List UInt8) ++ a) ++ c)) En688 (by kernel_rfl) rfl (by kernel_rfl) (by kernel_rfl) (by kernel_rfl) (Hv689.heap.reads (k := 2) rfl) (bys_vnz Hv689.heap (k := 2) rfl) ?_
    intro ac690 En691
    refine ⟨fun _ => Hv689.pk [], ?_⟩
    exact h_to hG (by kernel_rfl) (nd648 _ _ (En691.sb) (Hv689.pk [0, 1, 3, 4, 5, 6]))
   ·
    rintro _ rfl
    refine op_lit (d := some 65) (t := 30) (T := 23) (m := 2) (parts := #[(0, .slice a_a (List.length a) c_a), (1, .slice a_c (List.length c) c_c)]) (xs := [.slice a_a (List.length a) c_a, .slice a_c (List.length c) c_c]) (sz := 1) En688 (by kernel_rfl) (by kernel_rfl) rfl (by decide) Hv689 ?_
    intro ac693 wo694 bk692 En695 Hv696
    refine ⟨fun _ => Hv696.pk [], ?_⟩
    exact h_to hG (by kernel_rfl) (nd670 _ _ aoq515 coq515 bk692 (En695.sb) (Hv696.pk [0, 1, 2, 3, 4, 5, 6, 7]))
  have nd697 : ∀ (ac : Act) (wo : World) (bk581 : Nat), Env ac 101 [(0, .int .i64 h), (1, .slice a_a (List.length a) c_a), (2, .slice a_b (List.length b) c_b), (3, .slice a_c (List.length c) c_c), (8, .bool false), (10, pt bq14), (11, pt bq49), (12, pt bq83), (13, .bool true), (59, pt bq49), (62, .int .i64 h), (65, .slice (some ⟨bk581, 0, none⟩) 2 2)] → Ev w [] wo [.box bq14 (([.int .i64 h] : List Value) ++ ((u32s (S32 h ((([] : List UInt8) ++ a) ++ b))) ++ ((u64s (S64 h ((([] : List UInt8) ++ a) ++ b))) ++ ([.slice aoq63 (List.length (restH h ((([] : List UInt8) ++ a) ++ b))) coq63, uv64 (UInt64.ofNat (List.length ((([] : List UInt8) ++ a) ++ b)))] : List Value)))) 58, .vec aoq63 coq63 1 (bys (restH h ((([] : List UInt8) ++ a) ++ b))) 5, .box bq83 (([.int .i64 h] : List Value) ++ ((u32s (S32 h (((([] : List UInt8) ++ a) ++ c) ++ b))) ++ ((u64s (S64 h (((([] : List UInt8) ++ a) ++ c) ++ b))) ++ ([.slice aoq95 (List.length (restH h (((([] : List UInt8) ++ a) ++ c) ++ b))) coq95, uv64 (UInt64.ofNat (List.length (((([] : List UInt8) ++ a) ++ c) ++ b)))] : List Value)))) 58, .vec aoq95 coq95 1 (bys (restH h (((([] : List UInt8) ++ a) ++ c) ++ b))) 5, .box bq49 (([.int .i64 h] : List Value) ++ ((u32s (S32 h ((([] : List UInt8) ++ a) ++ c))) ++ ((u64s (S64 h ((([] : List UInt8) ++ a) ++ c))) ++ ([.slice aoq73 (List.length (restH h ((([] : List UInt8) ++ a) ++ c))) coq73, uv64 (UInt64.ofNat (List.length ((([] : List UInt8) ++ a) ++ c)))] : List Value)))) 58, .vec aoq73 coq73 1 (bys (restH h ((([] : List UInt8) ++ a) ++ c))) 5, .vec (some ⟨bk581, 0, none⟩) 2 1 [.slice a_a (List.length a) c_a, .slice a_c (List.length c) c_c] 23] → G 6 #[true, false, false, true, true, true, true, false, false, false, false] ac wo := by
   intro ac698 wo699 bk581 En700 Hv701
   refine h_from hG ?_
   refine q_t 1 ?_
   refine c_l [4,5] (M := [.box bq49 (([.int .i64 h] : List Value) ++ ((u32s (S32 h ((([] : List UInt8) ++ a) ++ c))) ++ ((u64s (S64 h ((([] : List UInt8) ++ a) ++ c))) ++ ([.slice aoq73 (List.length (restH h ((([] : List UInt8) ++ a) ++ c))) coq73, uv64 (UInt64.ofNat (List.length ((([] : List UInt8) ++ a) ++ c)))] : List Value)))) 58, .vec aoq73 coq73 1 (bys (restH h ((([] : List UInt8) ++ a) ++ c))) 5]) En700 Hv701 (fun hM703 => sum_go _ bq49 h hh ((([] : List UInt8) ++ a) ++ c) aoq73 coq73 ((gk32.ev Hv701).pick [4, 5] (by kernel_rfl)) ((gk64.ev Hv701).pick [4, 5] (by kernel_rfl)) hM703) ?_
   rintro _ wo704 ⟨aoq702, coq702, rfl, he705⟩
   refine ⟨_, _, [.box bq49 (([.int .i64 h] : List Value) ++ ((u32s (S32 h ((([] : List UInt8) ++ a) ++ c))) ++ ((u64s (S64 h ((([] : List UInt8) ++ a) ++ c))) ++ ([.slice aoq73 (List.length (restH h ((([] : List UInt8) ++ a) ++ c))) coq73, uv64 (UInt64.ofNat (List.length ((([] : List UInt8) ++ a) ++ c)))] : List Value)))) 58, .vec aoq73 coq73 1 (bys (restH h ((([] : List UInt8) ++ a) ++ c))) 5, .vec aoq702 coq702 1 (bys (sumF h ((([] : List UInt8) ++ a) ++ c))) 5, .box bq14 (([.int .i64 h] : List Value) ++ ((u32s (S32 h ((([] : List UInt8) ++ a) ++ b))) ++ ((u64s (S64 h ((([] : List UInt8) ++ a) ++ b))) ++ ([.slice aoq63 (List.length (restH h ((([] : List UInt8) ++ a) ++ b))) coq63, uv64 (UInt64.ofNat (List.length ((([] : List UInt8) ++ a) ++ b)))] : List Value)))) 58, .vec aoq63 coq63 1 (bys (restH h ((([] : List UInt8) ++ a) ++ b))) 5, .box bq83 (([.int .i64 h] : List Value) ++ ((u32s (S32 h (((([] : List UInt8) ++ a) ++ c) ++ b))) ++ ((u64s (S64 h (((([] : List UInt8) ++ a) ++ c) ++ b))) ++ ([.slice aoq95 (List.length (restH h (((([] : List UInt8) ++ a) ++ c) ++ b))) coq95, uv64 (UInt64.ofNat (List.length (((([] : List UInt8) ++ a) ++ c) ++ b)))] : List Value)))) 58, .vec aoq95 coq95 1 (bys (restH h (((([] : List UInt8) ++ a) ++ c) ++ b))) 5, .vec (some ⟨bk581, 0, none⟩) 2 1 [.slice a_a (List.length a) c_a, .slice a_c (List.length c) c_c] 23], rfl, he705, by kernel_rfl, fun ac707 En708 Hv709 => ?_⟩
   refine ⟨fun _ => Hv709.pk [], ?_⟩
   refine h_ways [2, 7] (by kernel_rfl) rfl ?_
   refine ⟨?_, ?_, trivial⟩
   ·
    rintro _ rfl
    refine op_str (d := some 61) (src := 23) (dst := 9) (e := 5) (ao := aoq702) (cap := coq702) (p := List.length (sumF h ((([] : List UInt8) ++ a) ++ c))) (bs := sumF h ((([] : List UInt8) ++ a) ++ c)) En708 (by kernel_rfl) rfl (by kernel_rfl) (by kernel_rfl) (by kernel_rfl) (Hv709.heap.reads (k := 2) rfl) (bys_vnz Hv709.heap (k := 2) rfl) ?_
    intro ac710 En711
    refine ⟨fun _ => Hv709.pk [], ?_⟩
    exact h_to hG (by kernel_rfl) (nd622 _ _ bk581 (En711.sb) (Hv709.pk [0, 1, 3, 4, 5, 6, 7]))
   ·
    rintro _ rfl
    refine c_0 En708 Hv709 (of_all _ h hh (some ⟨bk581, 0, none⟩) 2 2 ([⟨a_a, c_a, a⟩, ⟨a_c, c_c, c⟩] : List (Sl UInt8)) (by first | rfl | (simp; done) | (simp; omega) | omega) ⟨Hv709.heap.ro (k := 7) rfl [] (by kernel_rfl) rfl, (fun e => by cases e), (by simp), (by simp), (List.forall_mem_cons.2 ⟨((i_a.ev Hv709).pick [] (by kernel_rfl)), (List.forall_mem_cons.2 ⟨((i_c.ev Hv709).pick [] (by kernel_rfl)), (fun x h => absurd h List.not_mem_nil)⟩)⟩)⟩ ((gk32.ev Hv709).pick [] (by kernel_rfl)) ((gk64.ev Hv709).pick [] (by kernel_rfl))) ?_
    rintro _ wo714 ⟨aoq712, coq712, rfl, he715⟩
    refine ⟨_, _, _, rfl, he715, rfl, fun ac717 En718 Hv719 => ?_⟩
    refine ⟨fun _ => Hv719.pk [], ?_⟩
    exact h_to hG (by kernel_rfl) (nd639 _ _ aoq702 coq702 aoq712 coq712 (En718.sb) (Hv719.pk [0, 1, 2, 3, 4, 5, 6, 7]))
  refine h_from hG ?_
  refine q_s [0,3,4,5] [] 7 En419 (wo421.pk []) fun ac720 En721 => ?_
  refine h_ways [1, 6] (by kernel_rfl) rfl ?_
  refine ⟨?_, ?_, trivial⟩
  ·
   rintro _ rfl
   refine c_l [4,5] (M := [.box bq49 (([.int .i64 h] : List Value) ++ ((u32s (S32 h ((([] : List UInt8) ++ a) ++ c))) ++ ((u64s (S64 h ((([] : List UInt8) ++ a) ++ c))) ++ ([.slice aoq73 (List.length (restH h ((([] : List UInt8) ++ a) ++ c))) coq73, uv64 (UInt64.ofNat (List.length ((([] : List UInt8) ++ a) ++ c)))] : List Value)))) 58, .vec aoq73 coq73 1 (bys (restH h ((([] : List UInt8) ++ a) ++ c))) 5]) En721 wo421 (fun hM723 => sum_go _ bq49 h hh ((([] : List UInt8) ++ a) ++ c) aoq73 coq73 ((gk32.ev wo421).pick [4, 5] (by kernel_rfl)) ((gk64.ev wo421).pick [4, 5] (by kernel_rfl)) hM723) ?_
   rintro _ wo724 ⟨aoq722, coq722, rfl, he725⟩
   refine ⟨_, _, [.box bq49 (([.int .i64 h] : List Value) ++ ((u32s (S32 h ((([] : List UInt8) ++ a) ++ c))) ++ ((u64s (S64 h ((([] : List UInt8) ++ a) ++ c))) ++ ([.slice aoq73 (List.length (restH h ((([] : List UInt8) ++ a) ++ c))) coq73, uv64 (UInt64.ofNat (List.length ((([] : List UInt8) ++ a) ++ c)))] : List Value)))) 58, .vec aoq73 coq73 1 (bys (restH h ((([] : List UInt8) ++ a) ++ c))) 5, .vec aoq722 coq722 1 (bys (sumF h ((([] : List UInt8) ++ a) ++ c))) 5, .box bq14 (([.int .i64 h] : List Value) ++ ((u32s (S32 h ((([] : List UInt8) ++ a) ++ b))) ++ ((u64s (S64 h ((([] : List UInt8) ++ a) ++ b))) ++ ([.slice aoq63 (List.length (restH h ((([] : List UInt8) ++ a) ++ b))) coq63, uv64 (UInt64.ofNat (List.length ((([] : List UInt8) ++ a) ++ b)))] : List Value)))) 58, .vec aoq63 coq63 1 (bys (restH h ((([] : List UInt8) ++ a) ++ b))) 5, .box bq83 (([.int .i64 h] : List Value) ++ ((u32s (S32 h (((([] : List UInt8) ++ a) ++ c) ++ b))) ++ ((u64s (S64 h (((([] : List UInt8) ++ a) ++ c) ++ b))) ++ ([.slice aoq95 (List.length (restH h (((([] : List UInt8) ++ a) ++ c) ++ b))) coq95, uv64 (UInt64.ofNat (List.length (((([] : List UInt8) ++ a) ++ c) ++ b)))] : List Value)))) 58, .vec aoq95 coq95 1 (bys (restH h (((([] : List UInt8) ++ a) ++ c) ++ b))) 5], rfl, he725, by kernel_rfl, fun ac727 En728 Hv729 => ?_⟩
   refine ⟨fun _ => Hv729.pk [], ?_⟩
   exact h_to hG (by kernel_rfl) (nd685 _ _ aoq722 coq722 (En728.sb) (Hv729.pk [0, 1, 2, 3, 4, 5, 6]))
  ·
   rintro _ rfl
   refine op_lit (d := some 65) (t := 30) (T := 23) (m := 2) (parts := #[(0, .slice a_a (List.length a) c_a), (1, .slice a_c (List.length c) c_c)]) (xs := [.slice a_a (List.length a) c_a, .slice a_c (List.length c) c_c]) (sz := 1) En721 (by kernel_rfl) (by kernel_rfl) rfl (by decide) wo421 ?_
   intro ac731 wo732 bk730 En733 Hv734
   refine ⟨fun _ => Hv734.pk [], ?_⟩
   exact h_to hG (by kernel_rfl) (nd697 _ _ bk730 (En733.sb) (Hv734.pk [0, 1, 2, 3, 4, 5, 6]))
 rintro ac735 wo736 ⟨En737, Hv738⟩
 refine then_normal ?_
 refine wp_seq ?_
 refine r_c (fun ac wo => Env ac 101 [(0, .int .i64 h), (1, .slice a_a (List.length a) c_a), (2, .slice a_b (List.length b) c_b), (3, .slice a_c (List.length c) c_c), (8, .bool false), (10, pt bq14), (11, pt bq49), (12, pt bq83), (13, .bool true), (14, .bool true), (15, .bool true)] ∧ Ev w [] wo [.box bq83 (([.int .i64 h] : List Value) ++ ((u32s (S32 h (((([] : List UInt8) ++ a) ++ c) ++ b))) ++ ((u64s (S64 h (((([] : List UInt8) ++ a) ++ c) ++ b))) ++ ([.slice aoq95 (List.length (restH h (((([] : List UInt8) ++ a) ++ c) ++ b))) coq95, uv64 (UInt64.ofNat (List.length (((([] : List UInt8) ++ a) ++ c) ++ b)))] : List Value)))) 58, .vec aoq95 coq95 1 (bys (restH h (((([] : List UInt8) ++ a) ++ c) ++ b))) 5, .box bq49 (([.int .i64 h] : List Value) ++ ((u32s (S32 h ((([] : List UInt8) ++ a) ++ c))) ++ ((u64s (S64 h ((([] : List UInt8) ++ a) ++ c))) ++ ([.slice aoq73 (List.length (restH h ((([] : List UInt8) ++ a) ++ c))) coq73, uv64 (UInt64.ofNat (List.length ((([] : List UInt8) ++ a) ++ c)))] : List Value)))) 58, .vec aoq73 coq73 1 (bys (restH h ((([] : List UInt8) ++ a) ++ c))) 5, .box bq14 (([.int .i64 h] : List Value) ++ ((u32s (S32 h ((([] : List UInt8) ++ a) ++ b))) ++ ((u64s (S64 h ((([] : List UInt8) ++ a) ++ b))) ++ ([.slice aoq63 (List.length (restH h ((([] : List UInt8) ++ a) ++ b))) coq63, uv64 (UInt64.ofNat (List.length ((([] : List UInt8) ++ a) ++ b)))] : List Value)))) 58, .vec aoq63 coq63 1 (bys (restH h ((([] : List UInt8) ++ a) ++ b))) 5]) ?_ ?_
 ·
  refine h_s (fun wv => Ev w [] wv []) [] 12 ?_
  have wo739 := Hv738.trans (Ev.drew Hv738.heap)
  refine h_name fun G hG => ?_
  have nd922 : ∀ (ac : Act) (wo : World) (aoq879 : _) (coq879 : _), Env ac 101 [(0, .int .i64 h), (1, .slice a_a (List.length a) c_a), (2, .slice a_b (List.length b) c_b), (3, .slice a_c (List.length c) c_c), (8, .bool false), (10, pt bq14), (11, pt bq49), (12, pt bq83), (13, .bool true), (14, .bool true), (71, .string (bstr (sumF h (((([] : List UInt8) ++ a) ++ c) ++ b)))), (77, .slice aoq879 (List.length (sumF h (List.flatMap (fun s : Sl UInt8 => s.l) ([⟨a_a, c_a, a⟩, ⟨a_c, c_c, c⟩, ⟨a_b, c_b, b⟩] : List (Sl UInt8))))) coq879)] → Ev w [] wo [.vec aoq879 coq879 1 (bys (sumF h (List.flatMap (fun s : Sl UInt8 => s.l) ([⟨a_a, c_a, a⟩, ⟨a_c, c_c, c⟩, ⟨a_b, c_b, b⟩] : List (Sl UInt8))))) 5, .box bq83 (([.int .i64 h] : List Value) ++ ((u32s (S32 h (((([] : List UInt8) ++ a) ++ c) ++ b))) ++ ((u64s (S64 h (((([] : List UInt8) ++ a) ++ c) ++ b))) ++ ([.slice aoq95 (List.length (restH h (((([] : List UInt8) ++ a) ++ c) ++ b))) coq95, uv64 (UInt64.ofNat (List.length (((([] : List UInt8) ++ a) ++ c) ++ b)))] : List Value)))) 58, .vec aoq95 coq95 1 (bys (restH h (((([] : List UInt8) ++ a) ++ c) ++ b))) 5, .box bq49 (([.int .i64 h] : List Value) ++ ((u32s (S32 h ((([] : List UInt8) ++ a) ++ c))) ++ ((u64s (S64 h ((([] : List UInt8) ++ a) ++ c))) ++ ([.slice aoq73 (List.length (restH h ((([] : List UInt8) ++ a) ++ c))) coq73, uv64 (UInt64.ofNat (List.length ((([] : List UInt8) ++ a) ++ c)))] : List Value)))) 58, .vec aoq73 coq73 1 (bys (restH h ((([] : List UInt8) ++ a) ++ c))) 5, .box bq14 (([.int .i64 h] : List Value) ++ ((u32s (S32 h ((([] : List UInt8) ++ a) ++ b))) ++ ((u64s (S64 h ((([] : List UInt8) ++ a) ++ b))) ++ ([.slice aoq63 (List.length (restH h ((([] : List UInt8) ++ a) ++ b))) coq63, uv64 (UInt64.ofNat (List.length ((([] : List UInt8) ++ a) ++ b)))] : List Value)))) 58, .vec aoq63 coq63 1 (bys (restH h ((([] : List UInt8) ++ a) ++ b))) 5] → G 3 #[true, true, true, true, true, true, true, true, true, false, false, false] ac wo := by
   intro ac923 wo924 aoq879 coq879 En925 Hv926
   refine h_from hG ?_
   refine q_t 9 ?_
   refine op_str (d := some 78) (src := 23) (dst := 9) (e := 5) (ao := aoq879) (cap := coq879) (p := List.length (sumF h (List.flatMap (fun s : Sl UInt8 => s.l) ([⟨a_a, c_a, a⟩, ⟨a_c, c_c, c⟩, ⟨a_b, c_b, b⟩] : List (Sl UInt8))))) (bs := sumF h (List.flatMap (fun s : Sl UInt8 => s.l) ([⟨a_a, c_a, a⟩, ⟨a_c, c_c, c⟩, ⟨a_b, c_b, b⟩] : List (Sl UInt8)))) En925 (by kernel_rfl) rfl (by kernel_rfl) (by kernel_rfl) (by kernel_rfl) (Hv926.heap.reads (k := 0) rfl) (bys_vnz Hv926.heap (k := 0) rfl) ?_
   intro ac927 En928
   refine ⟨fun _ => Hv926.pk [], ?_⟩
   refine q_s [10,11] [(10, g_v (show (.bool (ByteArray.toList (bstr (sumF h (((([] : List UInt8) ++ a) ++ c) ++ b))) == ByteArray.toList (bstr (sumF h (List.flatMap (fun s : Sl UInt8 => s.l) ([⟨a_a, c_a, a⟩, ⟨a_c, c_c, c⟩, ⟨a_b, c_b, b⟩] : List (Sl UInt8)))))) : Value) = .bool true by rw [Go.Dbr.bstr_eq (sumF h (((([] : List UInt8) ++ a) ++ c) ++ b)) (sumF h (List.flatMap (fun s : Sl UInt8 => s.l) ([⟨a_a, c_a, a⟩, ⟨a_c, c_c, c⟩, ⟨a_b, c_b, b⟩] : List (Sl UInt8)))), show ((sumF h (((([] : List UInt8) ++ a) ++ c) ++ b)) == (sumF h (List.flatMap (fun s : Sl UInt8 => s.l) ([⟨a_a, c_a, a⟩, ⟨a_c, c_c, c⟩, ⟨a_b, c_b, b⟩] : List (Sl UInt8))))) = true from (by simp [List.append_assoc])]))] 0 En928 (Hv926.pk []) fun ac929 En930 => ?_
   exact h_e ⟨En930.sb, Hv926.pk [1, 2, 3, 4, 5, 6]⟩
  have nd931 : ∀ (ac : Act) (wo : World) (aoq833 : _) (coq833 : _), Env ac 101 [(0, .int .i64 h), (1, .slice a_a (List.length a) c_a), (2, .slice a_b (List.length b) c_b), (3, .slice a_c (List.length c) c_c), (8, .bool false), (10, pt bq14), (11, pt bq49), (12, pt bq83), (13, .bool true), (14, .bool true), (70, .slice aoq833 (List.length (sumF h (((([] : List UInt8) ++ a) ++ c) ++ b))) coq833), (78, .string (bstr (sumF h (List.flatMap (fun s : Sl UInt8 => s.l) ([⟨a_a, c_a, a⟩, ⟨a_c, c_c, c⟩, ⟨a_b, c_b, b⟩] : List (Sl UInt8))))))] → Ev w [] wo [.box bq83 (([.int .i64 h] : List Value) ++ ((u32s (S32 h (((([] : List UInt8) ++ a) ++ c) ++ b))) ++ ((u64s (S64 h (((([] : List UInt8) ++ a) ++ c) ++ b))) ++ ([.slice aoq95 (List.length (restH h (((([] : List UInt8) ++ a) ++ c) ++ b))) coq95, uv64 (UInt64.ofNat (List.length (((([] : List UInt8) ++ a) ++ c) ++ b)))] : List Value)))) 58, .vec aoq95 coq95 1 (bys (restH h (((([] : List UInt8) ++ a) ++ c) ++ b))) 5, .vec aoq833 coq833 1 (bys (sumF h (((([] : List UInt8) ++ a) ++ c) ++ b))) 5, .box bq49 (([.int .i64 h] : List Value) ++ ((u32s (S32 h ((([] : List UInt8) ++ a) ++ c))) ++ ((u64s (S64 h ((([] : List UInt8) ++ a) ++ c))) ++ ([.slice aoq73 (List.length (restH h ((([] : List UInt8) ++ a) ++ c))) coq73, uv64 (UInt64.ofNat (List.length ((([] : List UInt8) ++ a) ++ c)))] : List Value)))) 58, .vec aoq73 coq73 1 (bys (restH h ((([] : List UInt8) ++ a) ++ c))) 5, .box bq14 (([.int .i64 h] : List Value) ++ ((u32s (S32 h ((([] : List UInt8) ++ a) ++ b))) ++ ((u64s (S64 h ((([] : List UInt8) ++ a) ++ b))) ++ ([.slice aoq63 (List.length (restH h ((([] : List UInt8) ++ a) ++ b))) coq63, uv64 (UInt64.ofNat (List.length ((([] : List UInt8) ++ a) ++ b)))] : List Value)))) 58, .vec aoq63 coq63 1 (bys (restH h ((([] : List UInt8) ++ a) ++ b))) 5] → G 3 #[true, true, false, true, true, true, true, true, true, true, false, false] ac wo := by
   intro ac932 wo933 aoq833 coq833 En934 Hv935
   refine h_from hG ?_
   refine q_t 2 ?_
   refine op_str (d := some 71) (src := 23) (dst := 9) (e := 5) (ao := aoq833) (cap := coq833) (p := List.length (sumF h (((([] : List UInt8) ++ a) ++ c) ++ b))) (bs := sumF h (((([] : List UInt8) ++ a) ++ c) ++ b)) En934 (by kernel_rfl) rfl (by kernel_rfl) (by kernel_rfl) (by kernel_rfl) (Hv935.heap.reads (k := 2) rfl) (bys_vnz Hv935.heap (k := 2) rfl) ?_
   intro ac936 En937
   refine ⟨fun _ => Hv935.pk [], ?_⟩
   refine q_s [10,11] [(10, g_v (show (.bool (ByteArray.toList (bstr (sumF h (((([] : List UInt8) ++ a) ++ c) ++ b))) == ByteArray.toList (bstr (sumF h (List.flatMap (fun s : Sl UInt8 => s.l) ([⟨a_a, c_a, a⟩, ⟨a_c, c_c, c⟩, ⟨a_b, c_b, b⟩] : List (Sl UInt8)))))) : Value) = .bool true by rw [Go.Dbr.bstr_eq (sumF h (((([] : List UInt8) ++ a) ++ c) ++ b)) (sumF h (List.flatMap (fun s : Sl UInt8 => s.l) ([⟨a_a, c_a, a⟩, ⟨a_c, c_c, c⟩, ⟨a_b, c_b, b⟩] : List (Sl UInt8)))), show ((sumF h (((([] : List UInt8) ++ a) ++ c) ++ b)) == (sumF h (List.flatMap (fun s : Sl UInt8 => s.l) ([⟨a_a, c_a, a⟩, ⟨a_c, c_c, c⟩, ⟨a_b, c_b, b⟩] : List (Sl UInt8))))) = true from (by simp [List.append_assoc])]))] 0 En937 (Hv935.pk []) fun ac938 En939 => ?_
   exact h_e ⟨En939.sb, Hv935.pk [0, 1, 3, 4, 5, 6]⟩
  have nd940 : ∀ (ac : Act) (wo : World) (bk860 : Nat), Env ac 101 [(0, .int .i64 h), (1, .slice a_a (List.length a) c_a), (2, .slice a_b (List.length b) c_b), (3, .slice a_c (List.length c) c_c), (8, .bool false), (10, pt bq14), (11, pt bq49), (12, pt bq83), (13, .bool true), (14, .bool true), (71, .string (bstr (sumF h (((([] : List UInt8) ++ a) ++ c) ++ b)))), (72, .int .i64 h), (76, .slice (some ⟨bk860, 0, none⟩) 3 3)] → Ev w [] wo [.box bq83 (([.int .i64 h] : List Value) ++ ((u32s (S32 h (((([] : List UInt8) ++ a) ++ c) ++ b))) ++ ((u64s (S64 h (((([] : List UInt8) ++ a) ++ c) ++ b))) ++ ([.slice aoq95 (List.length (restH h (((([] : List UInt8) ++ a) ++ c) ++ b))) coq95, uv64 (UInt64.ofNat (List.length (((([] : List UInt8) ++ a) ++ c) ++ b)))] : List Value)))) 58, .vec aoq95 coq95 1 (bys (restH h (((([] : List UInt8) ++ a) ++ c) ++ b))) 5, .box bq49 (([.int .i64 h] : List Value) ++ ((u32s (S32 h ((([] : List UInt8) ++ a) ++ c))) ++ ((u64s (S64 h ((([] : List UInt8) ++ a) ++ c))) ++ ([.slice aoq73 (List.length (restH h ((([] : List UInt8) ++ a) ++ c))) coq73, uv64 (UInt64.ofNat (List.length ((([] : List UInt8) ++ a) ++ c)))] : List Value)))) 58, .vec aoq73 coq73 1 (bys (restH h ((([] : List UInt8) ++ a) ++ c))) 5, .box bq14 (([.int .i64 h] : List Value) ++ ((u32s (S32 h ((([] : List UInt8) ++ a) ++ b))) ++ ((u64s (S64 h ((([] : List UInt8) ++ a) ++ b))) ++ ([.slice aoq63 (List.length (restH h ((([] : List UInt8) ++ a) ++ b))) coq63, uv64 (UInt64.ofNat (List.length ((([] : List UInt8) ++ a) ++ b)))] : List Value)))) 58, .vec aoq63 coq63 1 (bys (restH h ((([] : List UInt8) ++ a) ++ b))) 5, .vec (some ⟨bk860, 0, none⟩) 3 1 [.slice a_a (List.length a) c_a, .slice a_c (List.length c) c_c, .slice a_b (List.length b) c_b] 23] → G 4 #[true, true, true, true, true, true, true, true, false, false, false, false] ac wo := by
   intro ac941 wo942 bk860 En943 Hv944
   refine h_from hG ?_
   refine q_t 8 ?_
   refine c_0 En943 Hv944 (of_all _ h hh (some ⟨bk860, 0, none⟩) 3 3 ([⟨a_a, c_a, a⟩, ⟨a_c, c_c, c⟩, ⟨a_b, c_b, b⟩] : List (Sl UInt8)) (by first | rfl | (simp; done) | (simp; omega) | omega) ⟨Hv944.heap.ro (k := 6) rfl [] (by kernel_rfl) rfl, (fun e => by cases e), (by simp), (by simp), (List.forall_mem_cons.2 ⟨((i_a.ev Hv944).pick [] (by kernel_rfl)), (List.forall_mem_cons.2 ⟨((i_c.ev Hv944).pick [] (by kernel_rfl)), (List.forall_mem_cons.2 ⟨((i_b.ev Hv944).pick [] (by kernel_rfl)), (fun x h => absurd h List.not_mem_nil)⟩)⟩)⟩)⟩ ((gk32.ev Hv944).pick [] (by kernel_rfl)) ((gk64.ev Hv944).pick [] (by kernel_rfl))) ?_
   rintro _ wo947 ⟨aoq945, coq945, rfl, he948⟩
   refine ⟨_, _, _, rfl, he948, rfl, fun ac950 En951 Hv952 => ?_⟩
   refine ⟨fun _ => Hv952.pk [], ?_⟩
   refine q_t 9 ?_
   refine op_str (d := some 78) (src := 23) (dst := 9) (e := 5) (ao := aoq945) (cap := coq945) (p := List.length (sumF h (List.flatMap (fun s : Sl UInt8 => s.l) ([⟨a_a, c_a, a⟩, ⟨a_c, c_c, c⟩, ⟨a_b, c_b, b⟩] : List (Sl UInt8))))) (bs := sumF h (List.flatMap (fun s : Sl UInt8 => s.l) ([⟨a_a, c_a, a⟩, ⟨a_c, c_c, c⟩, ⟨a_b, c_b, b⟩] : List (Sl UInt8)))) En951 (by kernel_rfl) rfl (by kernel_rfl) (by kernel_rfl) (by kernel_rfl) (Hv952.heap.reads (k := 0) rfl) (bys_vnz Hv952.heap (k := 0) rfl) ?_
   intro ac953 En954
   refine ⟨fun _ => Hv952.pk [], ?_⟩
   refine q_s [10,11] [(10, g_v (show (.bool (ByteArray.toList (bstr (sumF h (((([] : List UInt8) ++ a) ++ c) ++ b))) == ByteArray.toList (bstr (sumF h (List.flatMap (fun s : Sl UInt8 => s.l) ([⟨a_a, c_a, a⟩, ⟨a_c, c_c, c⟩, ⟨a_b, c_b, b⟩] : List (Sl UInt8)))))) : Value) = .bool true by rw [Go.Dbr.bstr_eq (sumF h (((([] : List UInt8) ++ a) ++ c) ++ b)) (sumF h (List.flatMap (fun s : Sl UInt8 => s.l) ([⟨a_a, c_a, a⟩, ⟨a_c, c_c, c⟩, ⟨a_b, c_b, b⟩] : List (Sl UInt8)))), show ((sumF h (((([] : List UInt8) ++ a) ++ c) ++ b)) == (sumF h (List.flatMap (fun s : Sl UInt8 => s.l) ([⟨a_a, c_a, a⟩, ⟨a_c, c_c, c⟩, ⟨a_b, c_b, b⟩] : List (Sl UInt8))))) = true from (by simp [List.append_assoc])]))] 0 En954 (Hv952.pk []) fun ac955 En956 => ?_
   exact h_e ⟨En956.sb, Hv952.pk [1, 2, 3, 4, 5, 6]⟩
  have nd957 : ∀ (ac : Act) (wo : World) (aoq833 : _) (coq833 : _) (aoq879 : _) (coq879 : _), Env ac 101 [(0, .int .i64 h), (1, .slice a_a (List.length a) c_a), (2, .slice a_b (List.length b) c_b), (3, .slice a_c (List.length c) c_c), (8, .bool false), (10, pt bq14), (11, pt bq49), (12, pt bq83), (13, .bool true), (14, .bool true), (70, .slice aoq833 (List.length (sumF h (((([] : List UInt8) ++ a) ++ c) ++ b))) coq833), (77, .slice aoq879 (List.length (sumF h (List.flatMap (fun s : Sl UInt8 => s.l) ([⟨a_a, c_a, a⟩, ⟨a_c, c_c, c⟩, ⟨a_b, c_b, b⟩] : List (Sl UInt8))))) coq879)] → Ev w [] wo [.vec aoq879 coq879 1 (bys (sumF h (List.flatMap (fun s : Sl UInt8 => s.l) ([⟨a_a, c_a, a⟩, ⟨a_c, c_c, c⟩, ⟨a_b, c_b, b⟩] : List (Sl UInt8))))) 5, .box bq83 (([.int .i64 h] : List Value) ++ ((u32s (S32 h (((([] : List UInt8) ++ a) ++ c) ++ b))) ++ ((u64s (S64 h (((([] : List UInt8) ++ a) ++ c) ++ b))) ++ ([.slice aoq95 (List.length (restH h (((([] : List UInt8) ++ a) ++ c) ++ b))) coq95, uv64 (UInt64.ofNat (List.length (((([] : List UInt8) ++ a) ++ c) ++ b)))] : List Value)))) 58, .vec aoq95 coq95 1 (bys (restH h (((([] : List UInt8) ++ a) ++ c) ++ b))) 5, .vec aoq833 coq833 1 (bys (sumF h (((([] : List UInt8) ++ a) ++ c) ++ b))) 5, .box bq49 (([.int .i64 h] : List Value) ++ ((u32s (S32 h ((([] : List UInt8) ++ a) ++ c))) ++ ((u64s (S64 h ((([] : List UInt8) ++ a) ++ c))) ++ ([.slice aoq73 (List.length (restH h ((([] : List UInt8) ++ a) ++ c))) coq73, uv64 (UInt64.ofNat (List.length ((([] : List UInt8) ++ a) ++ c)))] : List Value)))) 58, .vec aoq73 coq73 1 (bys (restH h ((([] : List UInt8) ++ a) ++ c))) 5, .box bq14 (([.int .i64 h] : List Value) ++ ((u32s (S32 h ((([] : List UInt8) ++ a) ++ b))) ++ ((u64s (S64 h ((([] : List UInt8) ++ a) ++ b))) ++ ([.slice aoq63 (List.length (restH h ((([] : List UInt8) ++ a) ++ b))) coq63, uv64 (UInt64.ofNat (List.length ((([] : List UInt8) ++ a) ++ b)))] : List Value)))) 58, .vec aoq63 coq63 1 (bys (restH h ((([] : List UInt8) ++ a) ++ b))) 5] → G 4 #[true, true, false, true, true, true, true, true, true, false, false, false] ac wo := by
   intro ac958 wo959 aoq833 coq833 aoq879 coq879 En960 Hv961
   refine h_from hG ?_
   refine h_ways [2, 9] (by kernel_rfl) rfl ?_
   refine ⟨?_, ?_, trivial⟩
   ·
    rintro _ rfl
    refine op_str (d := some 71) (src := 23) (dst := 9) (e := 5) (ao := aoq833) (cap := coq833) (p := List.length (sumF h (((([] : List UInt8) ++ a) ++ c) ++ b))) (bs := sumF h (((([] : List UInt8) ++ a) ++ c) ++ b)) En960 (by kernel_rfl) rfl (by kernel_rfl) (by kernel_rfl) (by kernel_rfl) (Hv961.heap.reads (k := 3) rfl) (bys_vnz Hv961.heap (k := 3) rfl) ?_
    intro ac962 En963
    refine ⟨fun _ => Hv961.pk [], ?_⟩
    exact h_to hG (by kernel_rfl) (nd922 _ _ aoq879 coq879 (En963.sb) (Hv961.pk [0, 1, 2, 4, 5, 6, 7]))
   ·
    rintro _ rfl
    refine op_str (d := some 78) (src := 23) (dst := 9) (e := 5) (ao := aoq879) (cap := coq879) (p := List.length (sumF h (List.flatMap (fun s : Sl UInt8 => s.l) ([⟨a_a, c_a, a⟩, ⟨a_c, c_c, c⟩, ⟨a_b, c_b, b⟩] : List (Sl UInt8))))) (bs := sumF h (List.flatMap (fun s : Sl UInt8 => s.l) ([⟨a_a, c_a, a⟩, ⟨a_c, c_c, c⟩, ⟨a_b, c_b, b⟩] : List (Sl UInt8)))) En960 (by kernel_rfl) rfl (by kernel_rfl) (by kernel_rfl) (by kernel_rfl) (Hv961.heap.reads (k := 0) rfl) (bys_vnz Hv961.heap (k := 0) rfl) ?_
    intro ac964 En965
    refine ⟨fun _ => Hv961.pk [], ?_⟩
    exact h_to hG (by kernel_rfl) (nd931 _ _ aoq833 coq833 (En965.sb) (Hv961.pk [1, 2, 3, 4, 5, 6, 7]))
  have nd966 : ∀ (ac : Act) (wo : World), Env ac 101 [(0, .int .i64 h), (1, .slice a_a (List.length a) c_a), (2, .slice a_b (List.length b) c_b), (3, .slice a_c (List.length c) c_c), (8, .bool false), (10, pt bq14), (11, pt bq49), (12, pt bq83), (13, .bool true), (14, .bool true), (71, .string (bstr (sumF h (((([] : List UInt8) ++ a) ++ c) ++ b)))), (72, .int .i64 h), (73, .slice a_a (List.length a) c_a), (74, .slice a_c (List.length c) c_c), (75, .slice a_b (List.length b) c_b)] → Ev w [] wo [.box bq83 (([.int .i64 h] : List Value) ++ ((u32s (S32 h (((([] : List UInt8) ++ a) ++ c) ++ b))) ++ ((u64s (S64 h (((([] : List UInt8) ++ a) ++ c) ++ b))) ++ ([.slice aoq95 (List.length (restH h (((([] : List UInt8) ++ a) ++ c) ++ b))) coq95, uv64 (UInt64.ofNat (List.length (((([] : List UInt8) ++ a) ++ c) ++ b)))] : List Value)))) 58, .vec aoq95 coq95 1 (bys (restH h (((([] : List UInt8) ++ a) ++ c) ++ b))) 5, .box bq49 (([.int .i64 h] : List Value) ++ ((u32s (S32 h ((([] : List UInt8) ++ a) ++ c))) ++ ((u64s (S64 h ((([] : List UInt8) ++ a) ++ c))) ++ ([.slice aoq73 (List.length (restH h ((([] : List UInt8) ++ a) ++ c))) coq73, uv64 (UInt64.ofNat (List.length ((([] : List UInt8) ++ a) ++ c)))] : List Value)))) 58, .vec aoq73 coq73 1 (bys (restH h ((([] : List UInt8) ++ a) ++ c))) 5, .box bq14 (([.int .i64 h] : List Value) ++ ((u32s (S32 h ((([] : List UInt8) ++ a) ++ b))) ++ ((u64s (S64 h ((([] : List UInt8) ++ a) ++ b))) ++ ([.slice aoq63 (List.length (restH h ((([] : List UInt8) ++ a) ++ b))) coq63, uv64 (UInt64.ofNat (List.length ((([] : List UInt8) ++ a) ++ b)))] : List Value)))) 58, .vec aoq63 coq63 1 (bys (restH h ((([] : List UInt8) ++ a) ++ b))) 5] → G 5 #[true, true, true, true, true, true, true, false, false, false, false, false] ac wo := by
   intro ac967 wo968 En969 Hv970
   refine h_from hG ?_
   refine q_t 7 ?_
   refine op_lit (d := some 76) (t := 30) (T := 23) (m := 3) (parts := #[(0, .slice a_a (List.length a) c_a), (1, .slice a_c (List.length c) c_c), (2, .slice a_b (List.length b) c_b)]) (xs := [.slice a_a (List.length a) c_a, .slice a_c (List.length c) c_c, .slice a_b (List.length b) c_b]) (sz := 1) En969 (by kernel_rfl) (by kernel_rfl) rfl (by decide) Hv970 ?_
   intro ac972 wo973 bk971 En974 Hv975
   refine ⟨fun _ => Hv975.pk [], ?_⟩
   refine q_t 8 ?_
   refine c_0 En974 Hv975 (of_all _ h hh (some ⟨bk971, 0, none⟩) 3 3 ([⟨a_a, c_a, a⟩, ⟨a_c, c_c, c⟩, ⟨a_b, c_b, b⟩] : List (Sl UInt8)) (by first | rfl | (simp; done) | (simp; omega) | omega) ⟨Hv975.heap.ro (k := 6) rfl [] (by kernel_rfl) rfl, (fun e => by cases e), (by simp), (by simp), (List.forall_mem_cons.2 ⟨((i_a.ev Hv975).pick [] (by kernel_rfl)), (List.forall_mem_cons.2 ⟨((i_c.ev Hv975).pick [] (by kernel_rfl)), (List.forall_mem_cons.2 ⟨((i_b.ev Hv975).pick [] (by kernel_rfl)), (fun x h => absurd h List.not_mem_nil)⟩)⟩)⟩)⟩ ((gk32.ev Hv975).pick [] (by kernel_rfl)) ((gk64.ev Hv975).pick [] (by kernel_rfl))) ?_
   rintro _ wo978 ⟨aoq976, coq976, rfl, he979⟩
   refine ⟨_, _, _, rfl, he979, rfl, fun ac981 En982 Hv983 => ?_⟩
   refine ⟨fun _ => Hv983.pk [], ?_⟩
   refine q_t 9 ?_
   refine op_str (d := some 78) (src := 23) (dst := 9) (e := 5) (ao := aoq976) (cap := coq976) (p := List.length (sumF h (List.flatMap (fun s : Sl UInt8 => s.l) ([⟨a_a, c_a, a⟩, ⟨a_c, c_c, c⟩, ⟨a_b, c_b, b⟩] : List (Sl UInt8))))) (bs := sumF h (List.flatMap (fun s : Sl UInt8 => s.l) ([⟨a_a, c_a, a⟩, ⟨a_c, c_c, c⟩, ⟨a_b, c_b, b⟩] : List (Sl UInt8)))) En982 (by kernel_rfl) rfl (by kernel_rfl) (by kernel_rfl) (by kernel_rfl) (Hv983.heap.reads (k := 0) rfl) (bys_vnz Hv983.heap (k := 0) rfl) ?_
   intro ac984 En985
   refine ⟨fun _ => Hv983.pk [], ?_⟩
   refine q_s [10,11] [(10, g_v (show (.bool (ByteArray.toList (bstr (sumF h (((([] : List UInt8) ++ a) ++ c) ++ b))) == ByteArray.toList (bstr (sumF h (List.flatMap (fun s : Sl UInt8 => s.l) ([⟨a_a, c_a, a⟩, ⟨a_c, c_c, c⟩, ⟨a_b, c_b, b⟩] : List (Sl UInt8)))))) : Value) = .bool true by rw [Go.Dbr.bstr_eq (sumF h (((([] : List UInt8) ++ a) ++ c) ++ b)) (sumF h (List.flatMap (fun s : Sl UInt8 => s.l) ([⟨a_a, c_a, a⟩, ⟨a_c, c_c, c⟩, ⟨a_b, c_b, b⟩] : List (Sl UInt8)))), show ((sumF h (((([] : List UInt8) ++ a) ++ c) ++ b)) == (sumF h (List.flatMap (fun s : Sl UInt8 => s.l) ([⟨a_a, c_a, a⟩, ⟨a_c, c_c, c⟩, ⟨a_b, c_b, b⟩] : List (Sl UInt8))))) = true from (by simp [List.append_assoc])]))] 0 En985 (Hv983.pk []) fun ac986 En987 => ?_
   exact h_e ⟨En987.sb, Hv983.pk [1, 2, 3, 4, 5, 6]⟩
  have nd988 : ∀ (ac : Act) (wo : World) (aoq833 : _) (coq833 : _) (bk860 : Nat), Env ac 101 [(0, .int .i64 h), (1, .slice a_a (List.length a) c_a), (2, .slice a_b (List.length b) c_b), (3, .slice a_c (List.length c) c_c), (8, .bool false), (10, pt bq14), (11, pt bq49), (12, pt bq83), (13, .bool true), (14, .bool true), (70, .slice aoq833 (List.length (sumF h (((([] : List UInt8) ++ a) ++ c) ++ b))) coq833), (72, .int .i64 h), (76, .slice (some ⟨bk860, 0, none⟩) 3 3)] → Ev w [] wo [.box bq83 (([.int .i64 h] : List Value) ++ ((u32s (S32 h (((([] : List UInt8) ++ a) ++ c) ++ b))) ++ ((u64s (S64 h (((([] : List UInt8) ++ a) ++ c) ++ b))) ++ ([.slice aoq95 (List.length (restH h (((([] : List UInt8) ++ a) ++ c) ++ b))) coq95, uv64 (UInt64.ofNat (List.length (((([] : List UInt8) ++ a) ++ c) ++ b)))] : List Value)))) 58, .vec aoq95 coq95 1 (bys (restH h (((([] : List UInt8) ++ a) ++ c) ++ b))) 5, .vec aoq833 coq833 1 (bys (sumF h (((([] : List UInt8) ++ a) ++ c) ++ b))) 5, .box bq49 (([.int .i64 h] : List Value) ++ ((u32s (S32 h ((([] : List UInt8) ++ a) ++ c))) ++ ((u64s (S64 h ((([] : List UInt8) ++ a) ++ c))) ++ ([.slice aoq73 (List.length (restH h ((([] : List UInt8) ++ a) ++ c))) coq73, uv64 (UInt64.ofNat (List.length ((([] : List UInt8) ++ a) ++ c)))] : List Value)))) 58, .vec aoq73 coq73 1 (bys (restH h ((([] : List UInt8) ++ a) ++ c))) 5, .box bq14 (([.int .i64 h] : List Value) ++ ((u32s (S32 h ((([] : List UInt8) ++ a) ++ b))) ++ ((u64s (S64 h ((([] : List UInt8) ++ a) ++ b))) ++ ([.slice aoq63 (List.length (restH h ((([] : List UInt8) ++ a) ++ b))) coq63, uv64 (UInt64.ofNat (List.length ((([] : List UInt8) ++ a) ++ b)))] : List Value)))) 58, .vec aoq63 coq63 1 (bys (restH h ((([] : List UInt8) ++ a) ++ b))) 5, .vec (some ⟨bk860, 0, none⟩) 3 1 [.slice a_a (List.length a) c_a, .slice a_c (List.length c) c_c, .slice a_b (List.length b) c_b] 23] → G 5 #[true, true, false, true, true, true, true, true, false, false, false, false] ac wo := by
   intro ac989 wo990 aoq833 coq833 bk860 En991 Hv992
   refine h_from hG ?_
   refine h_ways [2, 8] (by kernel_rfl) rfl ?_
   refine ⟨?_, ?_, trivial⟩
   ·
    rintro _ rfl
    refine op_str (d := some 71) (src := 23) (dst := 9) (e := 5) (ao := aoq833) (cap := coq833) (p := List.length (sumF h (((([] : List UInt8) ++ a) ++ c) ++ b))) (bs := sumF h (((([] : List UInt8) ++ a) ++ c) ++ b)) En991 (by kernel_rfl) rfl (by kernel_rfl) (by kernel_rfl) (by kernel_rfl) (Hv992.heap.reads (k := 2) rfl) (bys_vnz Hv992.heap (k := 2) rfl) ?_
    intro ac993 En994
    refine ⟨fun _ => Hv992.pk [], ?_⟩
    exact h_to hG (by kernel_rfl) (nd940 _ _ bk860 (En994.sb) (Hv992.pk [0, 1, 3, 4, 5, 6, 7]))
   ·
    rintro _ rfl
    refine c_0 En991 Hv992 (of_all _ h hh (some ⟨bk860, 0, none⟩) 3 3 ([⟨a_a, c_a, a⟩, ⟨a_c, c_c, c⟩, ⟨a_b, c_b, b⟩] : List (Sl UInt8)) (by first | rfl | (simp; done) | (simp; omega) | omega) ⟨Hv992.heap.ro (k := 7) rfl [] (by kernel_rfl) rfl, (fun e => by cases e), (by simp), (by simp), (List.forall_mem_cons.2 ⟨((i_a.ev Hv992).pick [] (by kernel_rfl)), (List.forall_mem_cons.2 ⟨((i_c.ev Hv992).pick [] (by kernel_rfl)), (List.forall_mem_cons.2 ⟨((i_b.ev Hv992).pick [] (by kernel_rfl)), (fun x h => absurd h List.not_mem_nil)⟩)⟩)⟩)⟩ ((gk32.ev Hv992).pick [] (by kernel_rfl)) ((gk64.ev Hv992).pick [] (by kernel_rfl))) ?_
    rintro _ wo997 ⟨aoq995, coq995, rfl, he998⟩
    refine ⟨_, _, _, rfl, he998, rfl, fun ac1000 En1001 Hv1002 => ?_⟩
    refine ⟨fun _ => Hv1002.pk [], ?_⟩
    exact h_to hG (by kernel_rfl) (nd957 _ _ aoq833 coq833 aoq995 coq995 (En1001.sb) (Hv1002.pk [0, 1, 2, 3, 4, 5, 6, 7]))
  have nd1003 : ∀ (ac : Act) (wo : World) (aoq833 : _) (coq833 : _), Env ac 101 [(0, .int .i64 h), (1, .slice a_a (List.length a) c_a), (2, .slice a_b (List.length b) c_b), (3, .slice a_c (List.length c) c_c), (8, .bool false), (10, pt bq14), (11, pt bq49), (12, pt bq83), (13, .bool true), (14, .bool true), (70, .slice aoq833 (List.length (sumF h (((([] : List UInt8) ++ a) ++ c) ++ b))) coq833), (72, .int .i64 h), (73, .slice a_a (List.length a) c_a), (74, .slice a_c (List.length c) c_c), (75, .slice a_b (List.length b) c_b)] → Ev w [] wo [.box bq83 (([.int .i64 h] : List Value) ++ ((u32s (S32 h (((([] : List UInt8) ++ a) ++ c) ++ b))) ++ ((u64s (S64 h (((([] : List UInt8) ++ a) ++ c) ++ b))) ++ ([.slice aoq95 (List.length (restH h (((([] : List UInt8) ++ a) ++ c) ++ b))) coq95, uv64 (UInt64.ofNat (List.length (((([] : List UInt8) ++ a) ++ c) ++ b)))] : List Value)))) 58, .vec aoq95 coq95 1 (bys (restH h (((([] : List UInt8) ++ a) ++ c) ++ b))) 5, .vec aoq833 coq833 1 (bys (sumF h (((([] : List UInt8) ++ a) ++ c) ++ b))) 5, .box bq49 (([.int .i64 h] : List Value) ++ ((u32s (S32 h ((([] : List UInt8) ++ a) ++ c))) ++ ((u64s (S64 h ((([] : List UInt8) ++ a) ++ c))) ++ ([.slice aoq73 (List.length (restH h ((([] : List UInt8) ++ a) ++ c))) coq73, uv64 (UInt64.ofNat (List.length ((([] : List UInt8) ++ a) ++ c)))] : List Value)))) 58, .vec aoq73 coq73 1 (bys (restH h ((([] : List UInt8) ++ a) ++ c))) 5, .box bq14 (([.int .i64 h] : List Value) ++ ((u32s (S32 h ((([] : List UInt8) ++ a) ++ b))) ++ ((u64s (S64 h ((([] : List UInt8) ++ a) ++ b))) ++ ([.slice aoq63 (List.length (restH h ((([] : List UInt8) ++ a) ++ b))) coq63, uv64 (UInt64.ofNat (List.length ((([] : List UInt8) ++ a) ++ b)))] : List Value)))) 58, .vec aoq63 coq63 1 (bys (restH h ((([] : List UInt8) ++ a) ++ b))) 5] → G 6 #[true, true, false, true, true, true, true, false, false, false, false, false] ac wo := by
   intro ac1004 wo1005 aoq833 coq833 En1006 Hv1007
   refine h_from hG ?_
   refine h_ways [2, 7] (by kernel_rfl) rfl ?_
   refine ⟨?_, ?_, trivial⟩
   ·
    rintro _ rfl
    refine op_str (d := some 71) (src := 23) (dst := 9) (e := 5) (ao := aoq833) (cap := coq833) (p := List.length (sumF h (((([] : List UInt8) ++ a) ++ c) ++ b))) (bs := sumF h (((([] : List UInt8) ++ a) ++ c) ++ b)) En1006 (by kernel_rfl) rfl (by kernel_rfl) (by kernel_rfl) (by kernel_rfl) (Hv1007.heap.reads (k := 2) rfl) (bys_vnz Hv1007.heap (k := 2) rfl) ?_
    intro ac1008 En1009
    refine ⟨fun _ => Hv1007.pk [], ?_⟩
    exact h_to hG (by kernel_rfl) (nd966 _ _ (En1009.sb) (Hv1007.pk [0, 1, 3, 4, 5, 6]))
   ·
    rintro _ rfl
    refine op_lit (d := some 76) (t := 30) (T := 23) (m := 3) (parts := #[(0, .slice a_a (List.length a) c_a), (1, .slice a_c (List.length c) c_c), (2, .slice a_b (List.length b) c_b)]) (xs := [.slice a_a (List.length a) c_a, .slice a_c (List.length c) c_c, .slice a_b (List.length b) c_b]) (sz := 1) En1006 (by kernel_rfl) (by kernel_rfl) rfl (by decide) Hv1007 ?_
    intro ac1011 wo1012 bk1010 En1013 Hv1014
    refine ⟨fun _ => Hv1014.pk [], ?_⟩
    exact h_to hG (by kernel_rfl) (nd988 _ _ aoq833 coq833 bk1010 (En1013.sb) (Hv1014.pk [0, 1, 2, 3, 4, 5, 6, 7]))
  have nd1015 : ∀ (ac : Act) (wo : World) (bk899 : Nat), Env ac 101 [(0, .int .i64 h), (1, .slice a_a (List.length a) c_a), (2, .slice a_b (List.length b) c_b), (3, .slice a_c (List.length c) c_c), (8, .bool false), (10, pt bq14), (11, pt bq49), (12, pt bq83), (13, .bool true), (14, .bool true), (69, pt bq83), (72, .int .i64 h), (76, .slice (some ⟨bk899, 0, none⟩) 3 3)] → Ev w [] wo [.box bq49 (([.int .i64 h] : List Value) ++ ((u32s (S32 h ((([] : List UInt8) ++ a) ++ c))) ++ ((u64s (S64 h ((([] : List UInt8) ++ a) ++ c))) ++ ([.slice aoq73 (List.length (restH h ((([] : List UInt8) ++ a) ++ c))) coq73, uv64 (UInt64.ofNat (List.length ((([] : List UInt8) ++ a) ++ c)))] : List Value)))) 58, .vec aoq73 coq73 1 (bys (restH h ((([] : List UInt8) ++ a) ++ c))) 5, .box bq14 (([.int .i64 h] : List Value) ++ ((u32s (S32 h ((([] : List UInt8) ++ a) ++ b))) ++ ((u64s (S64 h ((([] : List UInt8) ++ a) ++ b))) ++ ([.slice aoq63 (List.length (restH h ((([] : List UInt8) ++ a) ++ b))) coq63, uv64 (UInt64.ofNat (List.length ((([] : List UInt8) ++ a) ++ b)))] : List Value)))) 58, .vec aoq63 coq63 1 (bys (restH h ((([] : List UInt8) ++ a) ++ b))) 5, .box bq83 (([.int .i64 h] : List Value) ++ ((u32s (S32 h (((([] : List UInt8) ++ a) ++ c) ++ b))) ++ ((u64s (S64 h (((([] : List UInt8) ++ a) ++ c) ++ b))) ++ ([.slice aoq95 (List.length (restH h (((([] : List UInt8) ++ a) ++ c) ++ b))) coq95, uv64 (UInt64.ofNat (List.length (((([] : List UInt8) ++ a) ++ c) ++ b)))] : List Value)))) 58, .vec aoq95 coq95 1 (bys (restH h (((([] : List UInt8) ++ a) ++ c) ++ b))) 5, .vec (some ⟨bk899, 0, none⟩) 3 1 [.slice a_a (List.length a) c_a, .slice a_c (List.length c) c_c, .slice a_b (List.length b) c_b] 23] → G 6 #[true, false, false, true, true, true, true, true, false, false, false, false] ac wo := by
   intro ac1016 wo1017 bk899 En1018 Hv1019
   refine h_from hG ?_
   refine q_t 1 ?_
   refine c_l [4,5] (M := [.box bq83 (([.int .i64 h] : List Value) ++ ((u32s (S32 h (((([] : List UInt8) ++ a) ++ c) ++ b))) ++ ((u64s (S64 h (((([] : List UInt8) ++ a) ++ c) ++ b))) ++ ([.slice aoq95 (List.length (restH h (((([] : List UInt8) ++ a) ++ c) ++ b))) coq95, uv64 (UInt64.ofNat (List.length (((([] : List UInt8) ++ a) ++ c) ++ b)))] : List Value)))) 58, .vec aoq95 coq95 1 (bys (restH h (((([] : List UInt8) ++ a) ++ c) ++ b))) 5]) En1018 Hv1019 (fun hM1021 => sum_go _ bq83 h hh (((([] : List UInt8) ++ a) ++ c) ++ b) aoq95 coq95 ((gk32.ev Hv1019).pick [4, 5] (by kernel_rfl)) ((gk64.ev Hv1019).pick [4, 5] (by kernel_rfl)) hM1021) ?_
   rintro _ wo1022 ⟨aoq1020, coq1020, rfl, he1023⟩
   refine ⟨_, _, [.box bq83 (([.int .i64 h] : List Value) ++ ((u32s (S32 h (((([] : List UInt8) ++ a) ++ c) ++ b))) ++ ((u64s (S64 h (((([] : List UInt8) ++ a) ++ c) ++ b))) ++ ([.slice aoq95 (List.length (restH h (((([] : List UInt8) ++ a) ++ c) ++ b))) coq95, uv64 (UInt64.ofNat (List.length (((([] : List UInt8) ++ a) ++ c) ++ b)))] : List Value)))) 58, .vec aoq95 coq95 1 (bys (restH h (((([] : List UInt8) ++ a) ++ c) ++ b))) 5, .vec aoq1020 coq1020 1 (bys (sumF h (((([] : List UInt8) ++ a) ++ c) ++ b))) 5, .box bq49 (([.int .i64 h] : List Value) ++ ((u32s (S32 h ((([] : List UInt8) ++ a) ++ c))) ++ ((u64s (S64 h ((([] : List UInt8) ++ a) ++ c))) ++ ([.slice aoq73 (List.length (restH h ((([] : List UInt8) ++ a) ++ c))) coq73, uv64 (UInt64.ofNat (List.length ((([] : List UInt8) ++ a) ++ c)))] : List Value)))) 58, .vec aoq73 coq73 1 (bys (restH h ((([] : List UInt8) ++ a) ++ c))) 5, .box bq14 (([.int .i64 h] : List Value) ++ ((u32s (S32 h ((([] : List UInt8) ++ a) ++ b))) ++ ((u64s (S64 h ((([] : List UInt8) ++ a) ++ b))) ++ ([.slice aoq63 (List.length (restH h ((([] : List UInt8) ++ a) ++ b))) coq63, uv64 (UInt64.ofNat (List.length ((([] : List UInt8) ++ a) ++ b)))] : List Value)))) 58, .vec aoq63 coq63 1 (bys (restH h ((([] : List UInt8) ++ a) ++ b))) 5, .vec (some ⟨bk899, 0, none⟩) 3 1 [.slice a_a (List.length a) c_a, .slice a_c (List.length c) c_c, .slice a_b (List.length b) c_b] 23], rfl, he1023, by kernel_rfl, fun ac1025 En1026 Hv1027 => ?_⟩
   refine ⟨fun _ => Hv1027.pk [], ?_⟩
   refine h_ways [2, 8] (by kernel_rfl) rfl ?_
   refine ⟨?_, ?_, trivial⟩
   ·
    rintro _ rfl
    refine op_str (d := some 71) (src := 23) (dst := 9) (e := 5) (ao := aoq1020) (cap := coq1020) (p := List.length (sumF h (((([] : List UInt8) ++ a) ++ c) ++ b))) (bs := sumF h (((([] : List UInt8) ++ a) ++ c) ++ b)) En1026 (by kernel_rfl) rfl (by kernel_rfl) (by kernel_rfl) (by kernel_rfl) (Hv1027.heap.reads (k := 2) rfl) (bys_vnz Hv1027.heap (k := 2) rfl) ?_
    intro ac1028 En1029
    refine ⟨fun _ => Hv1027.pk [], ?_⟩
    exact h_to hG (by kernel_rfl) (nd940 _ _ bk899 (En1029.sb) (Hv1027.pk [0, 1, 3, 4, 5, 6, 7]))
   ·
    rintro _ rfl
    refine c_0 En1026 Hv1027 (of_all _ h hh (some ⟨bk899, 0, none⟩) 3 3 ([⟨a_a, c_a, a⟩, ⟨a_c, c_c, c⟩, ⟨a_b, c_b, b⟩] : List (Sl UInt8)) (by first | rfl | (simp; done) | (simp; omega) | omega) ⟨Hv1027.heap.ro (k := 7) rfl [] (by kernel_rfl) rfl, (fun e => by cases e), (by simp), (by simp), (List.forall_mem_cons.2 ⟨((i_a.ev Hv1027).pick [] (by kernel_rfl)), (List.forall_mem_cons.2 ⟨((i_c.ev Hv1027).pick [] (by kernel_rfl)), (List.forall_mem_cons.2 ⟨((i_b.ev Hv1027).pick [] (by kernel_rfl)), (fun x h => absurd h List.not_mem_nil)⟩)⟩)⟩)⟩ ((gk32.ev Hv1027).pick [] (by kernel_rfl)) ((gk64.ev Hv1027).pick [] (by kernel_rfl))) ?_
    rintro _ wo1032 ⟨aoq1030, coq1030, rfl, he1033⟩
    refine ⟨_, _, _, rfl, he1033, rfl, fun ac1035 En1036 Hv1037 => ?_⟩
    refine ⟨fun _ => Hv1037.pk [], ?_⟩
    exact h_to hG (by kernel_rfl) (nd957 _ _ aoq1020 coq1020 aoq1030 coq1030 (En1036.sb) (Hv1037.pk [0, 1, 2, 3, 4, 5, 6, 7]))
  refine h_from hG ?_
  refine q_s [0,3,4,5,6] [] 7 En737 (wo739.pk []) fun ac1038 En1039 => ?_
  refine h_ways [1, 7] (by kernel_rfl) rfl ?_
  refine ⟨?_, ?_, trivial⟩
  ·
   rintro _ rfl
   refine c_l [4,5] (M := [.box bq83 (([.int .i64 h] : List Value) ++ ((u32s (S32 h (((([] : List UInt8) ++ a) ++ c) ++ b))) ++ ((u64s (S64 h (((([] : List UInt8) ++ a) ++ c) ++ b))) ++ ([.slice aoq95 (List.length (restH h (((([] : List UInt8) ++ a) ++ c) ++ b))) coq95, uv64 (UInt64.ofNat (List.length (((([] : List UInt8) ++ a) ++ c) ++ b)))] : List Value)))) 58, .vec aoq95 coq95 1 (bys (restH h (((([] : List UInt8) ++ a) ++ c) ++ b))) 5]) En1039 wo739 (fun hM1041 => sum_go _ bq83 h hh (((([] : List UInt8) ++ a) ++ c) ++ b) aoq95 coq95 ((gk32.ev wo739).pick [4, 5] (by kernel_rfl)) ((gk64.ev wo739).pick [4, 5] (by kernel_rfl)) hM1041) ?_
   rintro _ wo1042 ⟨aoq1040, coq1040, rfl, he1043⟩
   refine ⟨_, _, [.box bq83 (([.int .i64 h] : List Value) ++ ((u32s (S32 h (((([] : List UInt8) ++ a) ++ c) ++ b))) ++ ((u64s (S64 h (((([] : List UInt8) ++ a) ++ c) ++ b))) ++ ([.slice aoq95 (List.length (restH h (((([] : List UInt8) ++ a) ++ c) ++ b))) coq95, uv64 (UInt64.ofNat (List.length (((([] : List UInt8) ++ a) ++ c) ++ b)))] : List Value)))) 58, .vec aoq95 coq95 1 (bys (restH h (((([] : List UInt8) ++ a) ++ c) ++ b))) 5, .vec aoq1040 coq1040 1 (bys (sumF h (((([] : List UInt8) ++ a) ++ c) ++ b))) 5, .box bq49 (([.int .i64 h] : List Value) ++ ((u32s (S32 h ((([] : List UInt8) ++ a) ++ c))) ++ ((u64s (S64 h ((([] : List UInt8) ++ a) ++ c))) ++ ([.slice aoq73 (List.length (restH h ((([] : List UInt8) ++ a) ++ c))) coq73, uv64 (UInt64.ofNat (List.length ((([] : List UInt8) ++ a) ++ c)))] : List Value)))) 58, .vec aoq73 coq73 1 (bys (restH h ((([] : List UInt8) ++ a) ++ c))) 5, .box bq14 (([.int .i64 h] : List Value) ++ ((u32s (S32 h ((([] : List UInt8) ++ a) ++ b))) ++ ((u64s (S64 h ((([] : List UInt8) ++ a) ++ b))) ++ ([.slice aoq63 (List.length (restH h ((([] : List UInt8) ++ a) ++ b))) coq63, uv64 (UInt64.ofNat (List.length ((([] : List UInt8) ++ a) ++ b)))] : List Value)))) 58, .vec aoq63 coq63 1 (bys (restH h ((([] : List UInt8) ++ a) ++ b))) 5], rfl, he1043, by kernel_rfl, fun ac1045 En1046 Hv1047 => ?_⟩
   refine ⟨fun _ => Hv1047.pk [], ?_⟩
   exact h_to hG (by kernel_rfl) (nd1003 _ _ aoq1040 coq1040 (En1046.sb) (Hv1047.pk [0, 1, 2, 3, 4, 5, 6]))
  ·
   rintro _ rfl
   refine op_lit (d := some 76) (t := 30) (T := 23) (m := 3) (parts := #[(0, .slice a_a (List.length a) c_a), (1, .slice a_c (List.length c) c_c), (2, .slice a_b (List.length b) c_b)]) (xs := [.slice a_a (List.length a) c_a, .slice a_c (List.length c) c_c, .slice a_b (List.length b) c_b]) (sz := 1) En1039 (by kernel_rfl) (by kernel_rfl) rfl (by decide) wo739 ?_
   intro ac1049 wo1050 bk1048 En1051 Hv1052
   refine ⟨fun _ => Hv1052.pk [], ?_⟩
   exact h_to hG (by kernel_rfl) (nd1015 _ _ bk1048 (En1051.sb) (Hv1052.pk [0, 1, 2, 3, 4, 5, 6]))
 rintro ac1053 wo1054 ⟨En1055, Hv1056⟩
 refine then_normal ?_
 refine wp_seq ?_
 refine region_from ?_
 refine d_k [0,1,2,3,8,10,11,12,87,88] [] 9 En1055 fun ac1057 En1058 => ?_
 refine f_o ?_
 refine c_l [2,3] (M := [.box bq49 (([.int .i64 h] : List Value) ++ ((u32s (S32 h ((([] : List UInt8) ++ a) ++ c))) ++ ((u64s (S64 h ((([] : List UInt8) ++ a) ++ c))) ++ ([.slice aoq73 (List.length (restH h ((([] : List UInt8) ++ a) ++ c))) coq73, uv64 (UInt64.ofNat (List.length ((([] : List UInt8) ++ a) ++ c)))] : List Value)))) 58, .vec aoq73 coq73 1 (bys (restH h ((([] : List UInt8) ++ a) ++ c))) 5]) En1058 Hv1056 (fun hM1059 => hash_go _ bq49 h ((([] : List UInt8) ++ a) ++ c) aoq73 coq73 hM1059) ?_
 rintro _ wo1060 ⟨rfl, he1061⟩
 refine ⟨_, _, [.box bq49 (([.int .i64 h] : List Value) ++ ((u32s (S32 h ((([] : List UInt8) ++ a) ++ c))) ++ ((u64s (S64 h ((([] : List UInt8) ++ a) ++ c))) ++ ([.slice aoq73 (List.length (restH h ((([] : List UInt8) ++ a) ++ c))) coq73, uv64 (UInt64.ofNat (List.length ((([] : List UInt8) ++ a) ++ c)))] : List Value)))) 58, .vec aoq73 coq73 1 (bys (restH h ((([] : List UInt8) ++ a) ++ c))) 5, .box bq83 (([.int .i64 h] : List Value) ++ ((u32s (S32 h (((([] : List UInt8) ++ a) ++ c) ++ b))) ++ ((u64s (S64 h (((([] : List UInt8) ++ a) ++ c) ++ b))) ++ ([.slice aoq95 (List.length (restH h (((([] : List UInt8) ++ a) ++ c) ++ b))) coq95, uv64 (UInt64.ofNat (List.length (((([] : List UInt8) ++ a) ++ c) ++ b)))] : List Value)))) 58, .vec aoq95 coq95 1 (bys (restH h (((([] : List UInt8) ++ a) ++ c) ++ b))) 5, .box bq14 (([.int .i64 h] : List Value) ++ ((u32s (S32 h ((([] : List UInt8) ++ a) ++ b))) ++ ((u64s (S64 h ((([] : List UInt8) ++ a) ++ b))) ++ ([.slice aoq63 (List.length (restH h ((([] : List UInt8) ++ a) ++ b))) coq63, uv64 (UInt64.ofNat (List.length ((([] : List UInt8) ++ a) ++ b)))] : List Value)))) 58, .vec aoq63 coq63 1 (bys (restH h ((([] : List UInt8) ++ a) ++ b))) 5], rfl, he1061, by kernel_rfl, fun ac1063 En1064 Hv1065 => ?_⟩
 refine d_k [0,1,2,3,8,10,11,12,93,94] [(11, g_b (show (h == h) = true from (by simp)))] 15 En1064 fun ac1066 En1067 => ?_
 refine f_o ?_
 refine c_l [4,5] (M := [.box bq14 (([.int .i64 h] : List Value) ++ ((u32s (S32 h ((([] : List UInt8) ++ a) ++ b))) ++ ((u64s (S64 h ((([] : List UInt8) ++ a) ++ b))) ++ ([.slice aoq63 (List.length (restH h ((([] : List UInt8) ++ a) ++ b))) coq63, uv64 (UInt64.ofNat (List.length ((([] : List UInt8) ++ a) ++ b)))] : List Value)))) 58, .vec aoq63 coq63 1 (bys (restH h ((([] : List UInt8) ++ a) ++ b))) 5]) En1067 Hv1065 (fun hM1069 => sum_go _ bq14 h hh ((([] : List UInt8) ++ a) ++ b) aoq63 coq63 ((gk32.ev Hv1065).pick [4, 5] (by kernel_rfl)) ((gk64.ev Hv1065).pick [4, 5] (by kernel_rfl)) hM1069) ?_
 rintro _ wo1070 ⟨aoq1068, coq1068, rfl, he1071⟩
 refine ⟨_, _, [.box bq14 (([.int .i64 h] : List Value) ++ ((u32s (S32 h ((([] : List UInt8) ++ a) ++ b))) ++ ((u64s (S64 h ((([] : List UInt8) ++ a) ++ b))) ++ ([.slice aoq63 (List.length (restH h ((([] : List UInt8) ++ a) ++ b))) coq63, uv64 (UInt64.ofNat (List.length ((([] : List UInt8) ++ a) ++ b)))] : List Value)))) 58, .vec aoq63 coq63 1 (bys (restH h ((([] : List UInt8) ++ a) ++ b))) 5, .vec aoq1068 coq1068 1 (bys (sumF h ((([] : List UInt8) ++ a) ++ b))) 5, .box bq49 (([.int .i64 h] : List Value) ++ ((u32s (S32 h ((([] : List UInt8) ++ a) ++ c))) ++ ((u64s (S64 h ((([] : List UInt8) ++ a) ++ c))) ++ ([.slice aoq73 (List.length (restH h ((([] : List UInt8) ++ a) ++ c))) coq73, uv64 (UInt64.ofNat (List.length ((([] : List UInt8) ++ a) ++ c)))] : List Value)))) 58, .vec aoq73 coq73 1 (bys (restH h ((([] : List UInt8) ++ a) ++ c))) 5, .box bq83 (([.int .i64 h] : List Value) ++ ((u32s (S32 h (((([] : List UInt8) ++ a) ++ c) ++ b))) ++ ((u64s (S64 h (((([] : List UInt8) ++ a) ++ c) ++ b))) ++ ([.slice aoq95 (List.length (restH h (((([] : List UInt8) ++ a) ++ c) ++ b))) coq95, uv64 (UInt64.ofNat (List.length (((([] : List UInt8) ++ a) ++ c) ++ b)))] : List Value)))) 58, .vec aoq95 coq95 1 (bys (restH h (((([] : List UInt8) ++ a) ++ c) ++ b))) 5], rfl, he1071, by kernel_rfl, fun ac1073 En1074 Hv1075 => ?_⟩
 refine d_k [0,1,2,3,8,10,11,12,93,96,97] [] 18 En1074 fun ac1076 En1077 => ?_
 refine f_o ?_
 refine c_p En1077 Hv1075 (size_go _ h) fun ac1082 wo1079 En1083 Hv1084 => ?_
 refine d_e [0,1,2,3,8,10,11,12] [(19, g_b (show (((List.length (sumF h ((([] : List UInt8) ++ a) ++ b)) : Nat) : Int) == ((sizeOfH h : Nat) : Int)) = true from by rw [sumF_len hh]; exact beq_self_eq_true _))] En1083 fun ac1085 En1086 => ?_
 refine then_normal ?_
 refine wp_ret ?_
 refine d_ret1 (t := 8) (v := .bool true) En1086 (by kernel_rfl) (by kernel_rfl) ?_
 exact ⟨rfl, Hv1084.pk []⟩

theorem clones_bad (h : Int) (a_a : Option Addr) (c_a : Nat) (a : List UInt8) (a_b : Option Addr) (c_b : Nat) (b : List UInt8) (a_c : Option Addr) (c_c : Nat) (c : List UInt8) (w : World) (b_h : (-9223372036854775808 ≤ h ∧ h ≤ 9223372036854775807)) (i_a : InB w [] a_a c_a a) (i_b : InB w [] a_b c_b b) (i_c : InB w [] a_c c_c c) (hh : ¬ (h = 1 ∨ h = 2 ∨ h = 3)) (gk32 : InU32 w [] (some ⟨0, 0, none⟩) 64 K32) (gk64 : InU64 w [] (some ⟨1, 0, none⟩) 80 K64) : Calls Tryd.prog 6 #[.int .i64 h, .slice a_a (List.length a) c_a, .slice a_b (List.length b) c_b, .slice a_c (List.length c) c_c] w fun e w' => e = .returned (.bool true) ∧ Ev w [] w' [] := by
 have hsz : sizeOfH h = 0 := by unfold sizeOfH; rw [if_neg (by omega), if_neg (by omega), if_neg (by omega)]
 have hsa := i_a.small
 have hsb := i_b.small
 have hsc := i_c.small
 have hca := i_a.cap
 have hcb := i_b.cap
 have hcc := i_c.cap
 refine d_0 [(0, .int .i64 h), (1, .slice a_a (List.length a) c_a), (2, .slice a_b (List.length b) c_b), (3, .slice a_c (List.length c) c_c)] 101 Go.Proofs.Tryd.func6 Go.Proofs.Tryd.ntmps6 (Heap.nil _) fun act0 En0 Hv0 => ?_
 refine d_s [0,1,2,3,8] [] En0 fun ac1 En2 => ?_
 refine wp_seq ?_
 refine region_from ?_
 refine f_o ?_
 refine c_p En2 Hv0 (head5_ok _ ((gk32.ev Hv0).pick [] (by kernel_rfl)) ((gk64.ev Hv0).pick [] (by kernel_rfl))) fun ac7 wo4 En8 Hv9 => ?_
 refine d_e [0,1,2,3,8,9] [] En8 fun ac10 En11 => ?_
 refine then_normal ?_
 refine wp_seq ?_
 refine region_from ?_
 refine d_k [0,1,2,3,8,9,17] [] 1 En11 fun ac12 En13 => ?_
 refine f_o ?_
 refine c_p En13 Hv9 (new0 _ h hh) fun ac18 wo15 En19 Hv20 => ?_
 refine d_e [0,1,2,3,8,9,10] [] En19 fun ac21 En22 => ?_
 refine then_normal ?_
 refine wp_seq ?_
 refine wp_seq ?_
 refine region_from ?_
 refine d_k [0,1,2,3,8,10,21,23,24] [] 6 En22 fun ac23 En24 => ?_
 refine f_o ?_
 refine c_p En24 Hv20 (size_go _ h) fun ac29 wo26 En30 Hv31 => ?_
 refine d_e [0,1,2,3,8,10,28] [(7, g_b (show (((sizeOfH h : Nat) : Int) == (0 : Int)) = true from (by first | (rw [hsz]; rfl) | exact beq_eq_false_iff_ne.2 (by omega))))] En30 fun ac32 En33 => ?_
 refine then_normal ?_
 refine c_f En33 ?_
 refine wp_skip ?_
 refine then_normal ?_
 refine wp_seq ?_
 refine d_s [0,1,2,3,8,10,30] [] En33 fun ac34 En35 => ?_
 refine c_t En35 ?_
 refine d_s [0,1,2,3,8,10] [] En35 fun ac36 En37 => ?_
 refine wp_ret ?_
 refine then_ret ?_
 refine d_ret1 (t := 8) (v := .bool true) En37 (by kernel_rfl) (by kernel_rfl) ?_
 exact ⟨rfl, Hv31.pk []⟩

theorem clones_walk (h : Int) (a_a : Option Addr) (c_a : Nat) (a : List UInt8) (a_b : Option Addr) (c_b : Nat) (b : List UInt8) (a_c : Option Addr) (c_c : Nat) (c : List UInt8) (w : World) (b_h : (-9223372036854775808 ≤ h ∧ h ≤ 9223372036854775807)) (i_a : InB w [] a_a c_a a) (i_b : InB w [] a_b c_b b) (i_c : InB w [] a_c c_c c) (gk32 : InU32 w [] (some ⟨0, 0, none⟩) 64 K32) (gk64 : InU64 w [] (some ⟨1, 0, none⟩) 80 K64) : Calls Tryd.prog 6 #[.int .i64 h, .slice a_a (List.length a) c_a, .slice a_b (List.length b) c_b, .slice a_c (List.length c) c_c] w fun e w' => e = .returned (.bool true) ∧ Ev w [] w' [] := by
  by_cases hh : h = 1 ∨ h = 2 ∨ h = 3
  · exact clones_ok h a_a c_a a a_b c_b b a_c c_c c w b_h i_a i_b i_c hh gk32 gk64
  · exact clones_bad h a_a c_a a a_b c_b b a_c c_c c w b_h i_a i_b i_c hh gk32 gk64

end Go.Proofs.YtbpihljkkkeijaaDoor
