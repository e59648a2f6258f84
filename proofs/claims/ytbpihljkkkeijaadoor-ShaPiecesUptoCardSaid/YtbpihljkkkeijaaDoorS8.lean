/- Layer 5: copies, bytes of words. -/
import Derived.Test.YtbpihljkkkeijaaDoorS7
namespace Go.Proofs.YtbpihljkkkeijaaDoor
open Go.Dbr
set_option maxRecDepth 100000
set_option maxHeartbeats 2000000
set_option linter.unusedVariables false
set_option linter.unusedSimpArgs false

theorem clone_go (w : World) (bd : Nat) (h : Int) (al : List UInt8) (ar : Option Addr) (cr : Nat) (hH : Heap w [.box bd (([.int .i64 h] : List Value) ++ ((u32s (S32 h al)) ++ ((u64s (S64 h al)) ++ ([.slice ar (List.length (restH h al)) cr, uv64 (UInt64.ofNat (List.length al))] : List Value)))) 58, .vec ar cr 1 (bys (restH h al)) 5]) : Calls Tryd.prog 22 #[pt bd] w fun e w' => ∃ b2 ao co, e = .returned (pt b2) ∧ Ev w [.box bd (([.int .i64 h] : List Value) ++ ((u32s (S32 h al)) ++ ((u64s (S64 h al)) ++ ([.slice ar (List.length (restH h al)) cr, uv64 (UInt64.ofNat (List.length al))] : List Value)))) 58, .vec ar cr 1 (bys (restH h al)) 5] w' [.box bd (([.int .i64 h] : List Value) ++ ((u32s (S32 h al)) ++ ((u64s (S64 h al)) ++ ([.slice ar (List.length (restH h al)) cr, uv64 (UInt64.ofNat (List.length al))] : List Value)))) 58, .vec ar cr 1 (bys (restH h al)) 5, .box b2 (([.int .i64 h] : List Value) ++ ((u32s (S32 h al)) ++ ((u64s (S64 h al)) ++ ([.slice ao (List.length (restH h al)) co, uv64 (UInt64.ofNat (List.length al))] : List Value)))) 58, .vec ao co 1 (bys (restH h al)) 5] := by
 have hrl := restH_lt h al
 refine d_0 [(0, pt bd)] 13 Go.Proofs.Tryd.func22 Go.Proofs.Tryd.ntmps22 (hH) fun act0 En0 Hv0 => ?_
 refine d_s [0,2] [] En0 fun ac1 En2 => ?_
 refine wp_seq ?_
 refine region_from ?_
 refine d_k [0,2,5] [] 2 En2 fun ac3 En4 => ?_
 refine f_o ?_
 refine m_a 0 0 19 (([.int .i64 h] : List Value) ++ ((u32s (S32 h al)) ++ ((u64s (S64 h al)) ++ ([.slice ar (List.length (restH h al)) cr, uv64 (UInt64.ofNat (List.length al))] : List Value)))) En4 Hv0 rfl (load_whole (len_app rfl (len_app (u32s_lenh (S32_len _ _)) (len_app (u64s_lenh (S64_len _ _)) rfl)))) (len_app rfl (len_app (u32s_lenh (S32_len _ _)) (len_app (u64s_lenh (S64_len _ _)) rfl))) fun ac5 En6 => ?_
 refine f_o ?_
 refine m_z 58 (([.int .i64 0] : List Value) ++ ((u32s (List.replicate 8 0)) ++ ((u64s (List.replicate 8 0)) ++ ([.slice none 0 0, .int .u64 0] : List Value)))) En6 Hv0 fun ac8 wo9 bk7 En10 Hv11 => ?_
 refine f_o ?_
 refine m_g 2 0 19 (([.int .i64 h] : List Value) ++ ((u32s (S32 h al)) ++ ((u64s (S64 h al)) ++ ([.slice ar (List.length (restH h al)) cr, uv64 (UInt64.ofNat (List.length al))] : List Value)))) (([.int .i64 h] : List Value) ++ ((u32s (S32 h al)) ++ ((u64s (S64 h al)) ++ ([.slice ar (List.length (restH h al)) cr, uv64 (UInt64.ofNat (List.length al))] : List Value)))) [.box bd (([.int .i64 h] : List Value) ++ ((u32s (S32 h al)) ++ ((u64s (S64 h al)) ++ ([.slice ar (List.length (restH h al)) cr, uv64 (UInt64.ofNat (List.length al))] : List Value)))) 58, .vec ar cr 1 (bys (restH h al)) 5, .box bk7 (([.int .i64 h] : List Value) ++ ((u32s (S32 h al)) ++ ((u64s (S64 h al)) ++ ([.slice ar (List.length (restH h al)) cr, uv64 (UInt64.ofNat (List.length al))] : List Value)))) 58] En10 Hv11 rfl (len_app rfl (len_app (u32s_lenh (S32_len _ _)) (len_app (u64s_lenh (S64_len _ _)) rfl))) (by rw [(len_app rfl (len_app (u32s_lenh (List.length_replicate)) (len_app (u64s_lenh (List.length_replicate)) rfl)))]; decide) (one_app (one_all (by kernel_rfl)) (one_app (u32s_one _) (one_app (u64s_one _) (one_all (by kernel_rfl))))) (store_whole (len_app rfl (len_app (u32s_lenh (List.length_replicate)) (len_app (u64s_lenh (List.length_replicate)) rfl)))) rfl fun ac12 wo13 En14 Hv15 => ?_
 refine f_e ?_
 refine then_normal ?_
 refine wp_seq ?_
 refine region_from ?_
 refine d_k [0,2,3,9] [] 3 En14 fun ac16 En17 => ?_
 refine f_o ?_
 refine m_v 0 17 (.slice ar (List.length (restH h al)) cr) En17 Hv15 rfl (seg_skip (n := 1) (j := 16) rfl (seg_skip (n := 8) (j := 8) (u32s_lenh (S32_len _ _)) (seg_skip (n := 8) (j := 0) (u64s_lenh (S64_len _ _)) rfl))) fun ac18 En19 => ?_
 refine f_o ?_
 have Hv20 : Ev w [.box bd (([.int .i64 h] : List Value) ++ ((u32s (S32 h al)) ++ ((u64s (S64 h al)) ++ ([.slice ar (List.length (restH h al)) cr, uv64 (UInt64.ofNat (List.length al))] : List Value)))) 58, .vec ar cr 1 (bys (restH h al)) 5] wo13 [.box bd (([.int .i64 h] : List Value) ++ ((u32s (S32 h al)) ++ ((u64s (S64 h al)) ++ ([.slice ar (List.length (restH h al)) cr, uv64 (UInt64.ofNat (List.length al))] : List Value)))) 58, .vec ar cr 1 (bys (restH h al)) 5, .box bk7 (([.int .i64 h] : List Value) ++ ((u32s (S32 h al)) ++ ((u64s (S64 h al)) ++ ([.slice ar (List.length (restH h al)) cr, uv64 (UInt64.ofNat (List.length al))] : List Value)))) 58, .vec none 0 1 (bys []) 5] := Ev.nil (sz := 1) (T := 5) Hv15
 refine op_append (d := some 11) (t := 23) (tx := 23) (ty := 23) (k := 3) (p := 0) (m := List.length (restH h al)) (x := .slice ar (List.length (restH h al)) cr) (bytes := 1) En19 (by kernel_rfl) Hv20 rfl (bys_lenn (by simp)) (Reads.src (size := 1) (tx := 23) (e' := 5) (by kernel_rfl) (Hv20.heap.reads (k := 1) rfl) (bys_len _) (bys_vnz Hv20.heap (k := 1) rfl) (bys_one _)) (by kernel_rfl) (z := .int .u8 0) (by kernel_rfl) rfl (by decide) (by omega) (by unfold maxLen; omega) ?_
 intro ac25 wo26 ao21 cp22 En27 Hv28 hnz _
 clear hnz
 rw [bys_nil_append] at Hv28
 have ehz23 : 0 + (List.length (restH h al)) = List.length (restH h al) := (by first | (simp; done) | (simp; omega) | omega)
 rw [ehz23] at En27
 refine d_k [0,2,3,11,12] [] 6 En27 fun ac29 En30 => ?_
 refine f_o ?_
 refine m_t 2 17 (.slice ao21 (List.length (restH h al)) cp22) [.box bd (([.int .i64 h] : List Value) ++ ((u32s (S32 h al)) ++ ((u64s (S64 h al)) ++ ([.slice ar (List.length (restH h al)) cr, uv64 (UInt64.ofNat (List.length al))] : List Value)))) 58, .vec ar cr 1 (bys (restH h al)) 5, .box bk7 (([.int .i64 h] : List Value) ++ ((u32s (S32 h al)) ++ ((u64s (S64 h al)) ++ ([.slice ao21 (List.length (restH h al)) cp22, uv64 (UInt64.ofNat (List.length al))] : List Value)))) 58, .vec ao21 cp22 1 (bys (restH h al)) 5] En30 Hv28 rfl (seg_skip (n := 1) (j := 16) rfl (seg_skip (n := 8) (j := 8) (u32s_lenh (S32_len _ _)) (seg_skip (n := 8) (j := 0) (u64s_lenh (S64_len _ _)) rfl))) ((set_skip (n := 1) (j := 16) rfl).trans (congrArg (([.int .i64 h] : List Value) ++ ·) ((set_skip (n := 8) (j := 8) (u32s_lenh (S32_len _ _))).trans (congrArg ((u32s (S32 h al)) ++ ·) ((set_skip (n := 8) (j := 0) (u64s_lenh (S64_len _ _))).trans (congrArg ((u64s (S64 h al)) ++ ·) rfl)))))) rfl fun ac31 wo32 En33 Hv34 => ?_
 refine f_e ?_
 refine then_normal ?_
 refine d_s [0,2,3] [] En33 fun ac35 En36 => ?_
 refine wp_ret ?_
 refine d_ret1 (t := 2) (v := pt bk7) En36 (by kernel_rfl) (by kernel_rfl) ?_
 exact ⟨bk7, ao21, cp22, rfl, Hv34.pk [0, 1, 2, 3]⟩

def be4 (x : UInt64) : List UInt8 := [UInt64.toUInt8 (x >>> UInt64.ofNat 24), UInt64.toUInt8 (x >>> UInt64.ofNat 16), UInt64.toUInt8 (x >>> UInt64.ofNat 8), UInt64.toUInt8 (x >>> UInt64.ofNat 0)]
def be8 (x : UInt64) : List UInt8 := [UInt64.toUInt8 (x >>> UInt64.ofNat 56), UInt64.toUInt8 (x >>> UInt64.ofNat 48), UInt64.toUInt8 (x >>> UInt64.ofNat 40), UInt64.toUInt8 (x >>> UInt64.ofNat 32), UInt64.toUInt8 (x >>> UInt64.ofNat 24), UInt64.toUInt8 (x >>> UInt64.ofNat 16), UInt64.toUInt8 (x >>> UInt64.ofNat 8), UInt64.toUInt8 (x >>> UInt64.ofNat 0)]

theorem spread4_go (w : World) (ab : Option Addr) (cb : Nat) (lb : List UInt8) (x : UInt64) (hB : List.length lb ≤ 1000) (hH : Heap w [.vec ab cb 1 (bys lb) 5]) : Calls Tryd.prog 39 #[.slice ab (List.length lb) cb, uv64 x, .int .i64 4] w fun e w' => ∃ ao co, e = .returned (.slice ao (List.length (lb ++ be4 x)) co) ∧ Ev w [.vec ab cb 1 (bys lb) 5] w' [.vec ao co 1 (bys (lb ++ be4 x)) 5] := by
 refine d_0 [(0, .slice ab (List.length lb) cb), (1, uv64 x), (2, .int .i64 4)] 23 Go.Proofs.Tryd.func39 Go.Proofs.Tryd.ntmps39 (hH) fun act0 En0 Hv0 => ?_
 refine d_s [0,1,2,6] [] En0 fun ac1 En2 => ?_
 refine wp_seq ?_
 refine d_s [0,1,6,7] [] En2 fun ac3 En4 => ?_
 refine wp_block ?_
 refine loop_enter ?_
 refine loop_once ?_
 refine wp_seq ?_
 refine d_s [0,1,6,7,11] [] En4 fun ac5 En6 => ?_
 refine c_t En6 ?_
 refine wp_skip ?_
 refine then_normal ?_
 refine wp_seq ?_
 refine wp_block ?_
 refine region_from ?_
 refine d_k [0,1,6,7,14,19] [(4, g_i .u64 (Go.Dbr.u64_shr (x := x) (n := 24) rfl (by decide))), (5, g_i .u8 (Go.Dbr.u64_to_u8 (x := x >>> UInt64.ofNat 24) rfl))] 6 En6 fun ac7 En8 => ?_
 refine f_o ?_
 refine op_lit (d := some 20) (t := 23) (T := 5) (m := 1) (parts := #[(0, bv (UInt64.toUInt8 (x >>> UInt64.ofNat 24)))]) (xs := bys [UInt64.toUInt8 (x >>> UInt64.ofNat 24)]) (sz := 1) En8 (by kernel_rfl) (by kernel_rfl) rfl (by decide) Hv0 ?_
 intro ac10 wo11 bk9 En12 Hv13
 refine f_o ?_
 refine op_append (d := some 21) (t := 23) (tx := 23) (ty := 23) (k := 0) (p := List.length lb) (m := 1) (x := .slice (some ⟨bk9, 0, none⟩) 1 1) (bytes := 1) En12 (by kernel_rfl) Hv13 rfl (bys_len _) (Reads.src (size := 1) (tx := 23) (e' := 5) (by kernel_rfl) (Hv13.heap.reads (k := 1) rfl) rfl (fun e => by cases e) (bys_one _)) (by kernel_rfl) (z := .int .u8 0) (by kernel_rfl) rfl (by decide) (by omega) (by unfold maxLen; omega) ?_
 intro ac18 wo19 ao14 cp15 En20 Hv21 hnz _
 clear hnz
 rw [← bys_append] at Hv21
 have ehz16 : (List.length lb) + 1 = List.length (lb ++ [UInt64.toUInt8 (x >>> UInt64.ofNat 24)]) := (by first | (simp; done) | (simp; omega) | omega)
 rw [ehz16] at En20
 refine d_e [0,1,6,7] [] En20 fun ac22 En23 => ?_
 refine block_normal ?_
 refine then_normal ?_
 refine d_r [0,1,6,7] [] En23 fun ac24 En25 => ?_
 refine then_normal ?_
 refine loop_once ?_
 refine wp_seq ?_
 refine d_s [0,1,6,7,11] [] En25 fun ac26 En27 => ?_
 refine c_t En27 ?_
 refine wp_skip ?_
 refine then_normal ?_
 refine wp_seq ?_
 refine wp_block ?_
 refine region_from ?_
 refine d_k [0,1,6,7,14,19] [(4, g_i .u64 (Go.Dbr.u64_shr (x := x) (n := 16) rfl (by decide))), (5, g_i .u8 (Go.Dbr.u64_to_u8 (x := x >>> UInt64.ofNat 16) rfl))] 6 En27 fun ac28 En29 => ?_
 refine f_o ?_
 refine op_lit (d := some 20) (t := 23) (T := 5) (m := 1) (parts := #[(0, bv (UInt64.toUInt8 (x >>> UInt64.ofNat 16)))]) (xs := bys [UInt64.toUInt8 (x >>> UInt64.ofNat 16)]) (sz := 1) En29 (by kernel_rfl) (by kernel_rfl) rfl (by decide) Hv21 ?_
 intro ac31 wo32 bk30 En33 Hv34
 refine f_o ?_
 refine op_append (d := some 21) (t := 23) (tx := 23) (ty := 23) (k := 0) (p := List.length (lb ++ [UInt64.toUInt8 (x >>> UInt64.ofNat 24)])) (m := 1) (x := .slice (some ⟨bk30, 0, none⟩) 1 1) (bytes := 1) En33 (by kernel_rfl) Hv34 rfl (bys_len _) (Reads.src (size := 1) (tx := 23) (e' := 5) (by kernel_rfl) (Hv34.heap.reads (k := 2) rfl) rfl (fun e => by cases e) (bys_one _)) (by kernel_rfl) (z := .int .u8 0) (by kernel_rfl) rfl (by decide) (by omega) (by unfold maxLen; omega) ?_
 intro ac39 wo40 ao35 cp36 En41 Hv42 hnz _
 clear hnz
 rw [← bys_append] at Hv42
 have ehz37 : (List.length (lb ++ [UInt64.toUInt8 (x >>> UInt64.ofNat 24)])) + 1 = List.length ((lb ++ [UInt64.toUInt8 (x >>> UInt64.ofNat 24)]) ++ [UInt64.toUInt8 (x >>> UInt64.ofNat 16)]) := (by first | (simp; done) | (simp; omega) | omega)
 rw [ehz37] at En41
 refine d_e [0,1,6,7] [] En41 fun ac43 En44 => ?_
 refine block_normal ?_
 refine then_normal ?_
 refine d_r [0,1,6,7] [] En44 fun ac45 En46 => ?_
 refine then_normal ?_
 refine loop_once ?_
 refine wp_seq ?_
 refine d_s [0,1,6,7,11] [] En46 fun ac47 En48 => ?_
 refine c_t En48 ?_
 refine wp_skip ?_
 refine then_normal ?_
 refine wp_seq ?_
 refine wp_block ?_
 refine region_from ?_
 refine d_k [0,1,6,7,14,19] [(4, g_i .u64 (Go.Dbr.u64_shr (x := x) (n := 8) rfl (by decide))), (5, g_i .u8 (Go.Dbr.u64_to_u8 (x := x >>> UInt64.ofNat 8) rfl))] 6 En48 fun ac49 En50 => ?_
 refine f_o ?_
 refine op_lit (d := some 20) (t := 23) (T := 5) (m := 1) (parts := #[(0, bv (UInt64.toUInt8 (x >>> UInt64.ofNat 8)))]) (xs := bys [UInt64.toUInt8 (x >>> UInt64.ofNat 8)]) (sz := 1) En50 (by kernel_rfl) (by kernel_rfl) rfl (by decide) Hv42 ?_
 intro ac52 wo53 bk51 En54 Hv55
 refine f_o ?_
 refine op_append (d := some 21) (t := 23) (tx := 23) (ty := 23) (k := 0) (p := List.length ((lb ++ [UInt64.toUInt8 (x >>> UInt64.ofNat 24)]) ++ [UInt64.toUInt8 (x >>> UInt64.ofNat 16)])) (m := 1) (x := .slice (some ⟨bk51, 0, none⟩) 1 1) (bytes := 1) En54 (by kernel_rfl) Hv55 rfl (bys_len _) (Reads.src (size := 1) (tx := 23) (e' := 5) (by kernel_rfl) (Hv55.heap.reads (k := 3) rfl) rfl (fun e => by cases e) (bys_one _)) (by kernel_rfl) (z := .int .u8 0) (by kernel_rfl) rfl (by decide) (by omega) (by unfold maxLen; omega) ?_
 intro ac60 wo61 ao56 cp57 En62 Hv63 hnz _
 clear hnz
 rw [← bys_append] at Hv63
 have ehz58 : (List.length ((lb ++ [UInt64.toUInt8 (x >>> UInt64.ofNat 24)]) ++ [UInt64.toUInt8 (x >>> UInt64.ofNat 16)])) + 1 = List.length (((lb ++ [UInt64.toUInt8 (x >>> UInt64.ofNat 24)]) ++ [UInt64.toUInt8 (x >>> UInt64.ofNat 16)]) ++ [UInt64.toUInt8 (x >>> UInt64.ofNat 8)]) := (by first | (simp; done) | (simp; omega) | omega)
 rw [ehz58] at En62
 refine d_e [0,1,6,7] [] En62 fun ac64 En65 => ?_
 refine block_normal ?_
 refine then_normal ?_
 refine d_r [0,1,6,7] [] En65 fun ac66 En67 => ?_
 refine then_normal ?_
 refine loop_once ?_
 refine wp_seq ?_
 refine d_s [0,1,6,7,11] [] En67 fun ac68 En69 => ?_
 refine c_t En69 ?_
 refine wp_skip ?_
 refine then_normal ?_
 refine wp_seq ?_
 refine wp_block ?_
 refine region_from ?_
 refine d_k [0,1,6,7,14,19] [(4, g_i .u64 (Go.Dbr.u64_shr (x := x) (n := 0) rfl (by decide))), (5, g_i .u8 (Go.Dbr.u64_to_u8 (x := x >>> UInt64.ofNat 0) rfl))] 6 En69 fun ac70 En71 => ?_
 refine f_o ?_
 refine op_lit (d := some 20) (t := 23) (T := 5) (m := 1) (parts := #[(0, bv (UInt64.toUInt8 (x >>> UInt64.ofNat 0)))]) (xs := bys [UInt64.toUInt8 (x >>> UInt64.ofNat 0)]) (sz := 1) En71 (by kernel_rfl) (by kernel_rfl) rfl (by decide) Hv63 ?_
 intro ac73 wo74 bk72 En75 Hv76
 refine f_o ?_
 refine op_append (d := some 21) (t := 23) (tx := 23) (ty := 23) (k := 0) (p := List.length (((lb ++ [UInt64.toUInt8 (x >>> UInt64.ofNat 24)]) ++ [UInt64.toUInt8 (x >>> UInt64.ofNat 16)]) ++ [UInt64.toUInt8 (x >>> UInt64.ofNat 8)])) (m := 1) (x := .slice (some ⟨bk72, 0, none⟩) 1 1) (bytes := 1) En75 (by kernel_rfl) Hv76 rfl (bys_len _) (Reads.src (size := 1) (tx := 23) (e' := 5) (by kernel_rfl) (Hv76.heap.reads (k := 4) rfl) rfl (fun e => by cases e) (bys_one _)) (by kernel_rfl) (z := .int .u8 0) (by kernel_rfl) rfl (by decide) (by omega) (by unfold maxLen; omega) ?_
 intro ac81 wo82 ao77 cp78 En83 Hv84 hnz _
 clear hnz
 rw [← bys_append] at Hv84
 have ehz79 : (List.length (((lb ++ [UInt64.toUInt8 (x >>> UInt64.ofNat 24)]) ++ [UInt64.toUInt8 (x >>> UInt64.ofNat 16)]) ++ [UInt64.toUInt8 (x >>> UInt64.ofNat 8)])) + 1 = List.length ((((lb ++ [UInt64.toUInt8 (x >>> UInt64.ofNat 24)]) ++ [UInt64.toUInt8 (x >>> UInt64.ofNat 16)]) ++ [UInt64.toUInt8 (x >>> UInt64.ofNat 8)]) ++ [UInt64.toUInt8 (x >>> UInt64.ofNat 0)]) := (by first | (simp; done) | (simp; omega) | omega)
 rw [ehz79] at En83
 refine d_e [0,1,6,7] [] En83 fun ac85 En86 => ?_
 refine block_normal ?_
 refine then_normal ?_
 refine d_r [0,1,6,7] [] En86 fun ac87 En88 => ?_
 refine then_normal ?_
 refine loop_once ?_
 refine wp_seq ?_
 refine d_s [0,1,6,7,11] [] En88 fun ac89 En90 => ?_
 refine c_f En90 ?_
 refine wp_exit ?_
 refine then_exit ?_
 refine then_exit ?_
 refine block_exit ?_
 refine then_normal ?_
 refine d_s [0,1,6,7] [] En90 fun ac91 En92 => ?_
 refine wp_ret ?_
 refine d_ret1 (t := 6) (v := .slice ao77 (List.length ((((lb ++ [UInt64.toUInt8 (x >>> UInt64.ofNat 24)]) ++ [UInt64.toUInt8 (x >>> UInt64.ofNat 16)]) ++ [UInt64.toUInt8 (x >>> UInt64.ofNat 8)]) ++ [UInt64.toUInt8 (x >>> UInt64.ofNat 0)])) cp78) En92 (by kernel_rfl) (by kernel_rfl) ?_
 have hl : (((lb ++ [UInt64.toUInt8 (x >>> UInt64.ofNat 24)]) ++ [UInt64.toUInt8 (x >>> UInt64.ofNat 16)]) ++ [UInt64.toUInt8 (x >>> UInt64.ofNat 8)]) ++ [UInt64.toUInt8 (x >>> UInt64.ofNat 0)] = lb ++ be4 x := by simp [be4]
 have Hf93 := Hv84.pk [0] (M := [.vec ao77 cp78 1 (bys ((((lb ++ [UInt64.toUInt8 (x >>> UInt64.ofNat 24)]) ++ [UInt64.toUInt8 (x >>> UInt64.ofNat 16)]) ++ [UInt64.toUInt8 (x >>> UInt64.ofNat 8)]) ++ [UInt64.toUInt8 (x >>> UInt64.ofNat 0)])) 5])
 rw [hl] at Hf93
 exact ⟨_, _, by rw [hl], Hf93⟩

theorem spread8_go (w : World) (ab : Option Addr) (cb : Nat) (lb : List UInt8) (x : UInt64) (hB : List.length lb ≤ 1000) (hH : Heap w [.vec ab cb 1 (bys lb) 5]) : Calls Tryd.prog 39 #[.slice ab (List.length lb) cb, uv64 x, .int .i64 8] w fun e w' => ∃ ao co, e = .returned (.slice ao (List.length (lb ++ be8 x)) co) ∧ Ev w [.vec ab cb 1 (bys lb) 5] w' [.vec ao co 1 (bys (lb ++ be8 x)) 5] := by
 refine d_0 [(0, .slice ab (List.length lb) cb), (1, uv64 x), (2, .int .i64 8)] 23 Go.Proofs.Tryd.func39 Go.Proofs.Tryd.ntmps39 (hH) fun act0 En0 Hv0 => ?_
 refine d_s [0,1,2,6] [] En0 fun ac1 En2 => ?_
 refine wp_seq ?_
 refine d_s [0,1,6,7] [] En2 fun ac3 En4 => ?_
 refine wp_block ?_
 refine loop_enter ?_
 refine loop_once ?_
 refine wp_seq ?_
 refine d_s [0,1,6,7,11] [] En4 fun ac5 En6 => ?_
 refine c_t En6 ?_
 refine wp_skip ?_
 refine then_normal ?_
 refine wp_seq ?_
 refine wp_block ?_
 refine region_from ?_
 refine d_k [0,1,6,7,14,19] [(4, g_i .u64 (Go.Dbr.u64_shr (x := x) (n := 56) rfl (by decide))), (5, g_i .u8 (Go.Dbr.u64_to_u8 (x := x >>> UInt64.ofNat 56) rfl))] 6 En6 fun ac7 En8 => ?_
 refine f_o ?_
 refine op_lit (d := some 20) (t := 23) (T := 5) (m := 1) (parts := #[(0, bv (UInt64.toUInt8 (x >>> UInt64.ofNat 56)))]) (xs := bys [UInt64.toUInt8 (x >>> UInt64.ofNat 56)]) (sz := 1) En8 (by kernel_rfl) (by kernel_rfl) rfl (by decide) Hv0 ?_
 intro ac10 wo11 bk9 En12 Hv13
 refine f_o ?_
 refine op_append (d := some 21) (t := 23) (tx := 23) (ty := 23) (k := 0) (p := List.length lb) (m := 1) (x := .slice (some ⟨bk9, 0, none⟩) 1 1) (bytes := 1) En12 (by kernel_rfl) Hv13 rfl (bys_len _) (Reads.src (size := 1) (tx := 23) (e' := 5) (by kernel_rfl) (Hv13.heap.reads (k := 1) rfl) rfl (fun e => by cases e) (bys_one _)) (by kernel_rfl) (z := .int .u8 0) (by kernel_rfl) rfl (by decide) (by omega) (by unfold maxLen; omega) ?_
 intro ac18 wo19 ao14 cp15 En20 Hv21 hnz _
 clear hnz
 rw [← bys_append] at Hv21
 have ehz16 : (List.length lb) + 1 = List.length (lb ++ [UInt64.toUInt8 (x >>> UInt64.ofNat 56)]) := (by first | (simp; done) | (simp; omega) | omega)
 rw [ehz16] at En20
 refine d_e [0,1,6,7] [] En20 fun ac22 En23 => ?_
 refine block_normal ?_
 refine then_normal ?_
 refine d_r [0,1,6,7] [] En23 fun ac24 En25 => ?_
 refine then_normal ?_
 refine loop_once ?_
 refine wp_seq ?_
 refine d_s [0,1,6,7,11] [] En25 fun ac26 En27 => ?_
 refine c_t En27 ?_
 refine wp_skip ?_
 refine then_normal ?_
 refine wp_seq ?_
 refine wp_block ?_
 refine region_from ?_
 refine d_k [0,1,6,7,14,19] [(4, g_i .u64 (Go.Dbr.u64_shr (x := x) (n := 48) rfl (by decide))), (5, g_i .u8 (Go.Dbr.u64_to_u8 (x := x >>> UInt64.ofNat 48) rfl))] 6 En27 fun ac28 En29 => ?_
 refine f_o ?_
 refine op_lit (d := some 20) (t := 23) (T := 5) (m := 1) (parts := #[(0, bv (UInt64.toUInt8 (x >>> UInt64.ofNat 48)))]) (xs := bys [UInt64.toUInt8 (x >>> UInt64.ofNat 48)]) (sz := 1) En29 (by kernel_rfl) (by kernel_rfl) rfl (by decide) Hv21 ?_
 intro ac31 wo32 bk30 En33 Hv34
 refine f_o ?_
 refine op_append (d := some 21) (t := 23) (tx := 23) (ty := 23) (k := 0) (p := List.length (lb ++ [UInt64.toUInt8 (x >>> UInt64.ofNat 56)])) (m := 1) (x := .slice (some ⟨bk30, 0, none⟩) 1 1) (bytes := 1) En33 (by kernel_rfl) Hv34 rfl (bys_len _) (Reads.src (size := 1) (tx := 23) (e' := 5) (by kernel_rfl) (Hv34.heap.reads (k := 2) rfl) rfl (fun e => by cases e) (bys_one _)) (by kernel_rfl) (z := .int .u8 0) (by kernel_rfl) rfl (by decide) (by omega) (by unfold maxLen; omega) ?_
 intro ac39 wo40 ao35 cp36 En41 Hv42 hnz _
 clear hnz
 rw [← bys_append] at Hv42
 have ehz37 : (List.length (lb ++ [UInt64.toUInt8 (x >>> UInt64.ofNat 56)])) + 1 = List.length ((lb ++ [UInt64.toUInt8 (x >>> UInt64.ofNat 56)]) ++ [UInt64.toUInt8 (x >>> UInt64.ofNat 48)]) := (by first | (simp; done) | (simp; omega) | omega)
 rw [ehz37] at En41
 refine d_e [0,1,6,7] [] En41 fun ac43 En44 => ?_
 refine block_normal ?_
 refine then_normal ?_
 refine d_r [0,1,6,7] [] En44 fun ac45 En46 => ?_
 refine then_normal ?_
 refine loop_once ?_
 refine wp_seq ?_
 refine d_s [0,1,6,7,11] [] En46 fun ac47 En48 => ?_
 refine c_t En48 ?_
 refine wp_skip ?_
 refine then_normal ?_
 refine wp_seq ?_
 refine wp_block ?_
 refine region_from ?_
 refine d_k [0,1,6,7,14,19] [(4, g_i .u64 (Go.Dbr.u64_shr (x := x) (n := 40) rfl (by decide))), (5, g_i .u8 (Go.Dbr.u64_to_u8 (x := x >>> UInt64.ofNat 40) rfl))] 6 En48 fun ac49 En50 => ?_
 refine f_o ?_
 refine op_lit (d := some 20) (t := 23) (T := 5) (m := 1) (parts := #[(0, bv (UInt64.toUInt8 (x >>> UInt64.ofNat 40)))]) (xs := bys [UInt64.toUInt8 (x >>> UInt64.ofNat 40)]) (sz := 1) En50 (by kernel_rfl) (by kernel_rfl) rfl (by decide) Hv42 ?_
 intro ac52 wo53 bk51 En54 Hv55
 refine f_o ?_
 refine op_append (d := some 21) (t := 23) (tx := 23) (ty := 23) (k := 0) (p := List.length ((lb ++ [UInt64.toUInt8 (x >>> UInt64.ofNat 56)]) ++ [UInt64.toUInt8 (x >>> UInt64.ofNat 48)])) (m := 1) (x := .slice (some ⟨bk51, 0, none⟩) 1 1) (bytes := 1) En54 (by kernel_rfl) Hv55 rfl (bys_len _) (Reads.src (size := 1) (tx := 23) (e' := 5) (by kernel_rfl) (Hv55.heap.reads (k := 3) rfl) rfl (fun e => by cases e) (bys_one _)) (by kernel_rfl) (z := .int .u8 0) (by kernel_rfl) rfl (by decide) (by omega) (by unfold maxLen; omega) ?_
 intro ac60 wo61 ao56 cp57 En62 Hv63 hnz _
 clear hnz
 rw [← bys_append] at Hv63
 have ehz58 : (List.length ((lb ++ [UInt64.toUInt8 (x >>> UInt64.ofNat 56)]) ++ [UInt64.toUInt8 (x >>> UInt64.ofNat 48)])) + 1 = List.length (((lb ++ [UInt64.toUInt8 (x >>> UInt64.ofNat 56)]) ++ [UInt64.toUInt8 (x >>> UInt64.ofNat 48)]) ++ [UInt64.toUInt8 (x >>> UInt64.ofNat 40)]) := (by first | (simp; done) | (simp; omega) | omega)
 rw [ehz58] at En62
 refine d_e [0,1,6,7] [] En62 fun ac64 En65 => ?_
 refine block_normal ?_
 refine then_normal ?_
 refine d_r [0,1,6,7] [] En65 fun ac66 En67 => ?_
 refine then_normal ?_
 refine loop_once ?_
 refine wp_seq ?_
 refine d_s [0,1,6,7,11] [] En67 fun ac68 En69 => ?_
 refine c_t En69 ?_
 refine wp_skip ?_
 refine then_normal ?_
 refine wp_seq ?_
 refine wp_block ?_
 refine region_from ?_
 refine d_k [0,1,6,7,14,19] [(4, g_i .u64 (Go.Dbr.u64_shr (x := x) (n := 32) rfl (by decide))), (5, g_i .u8 (Go.Dbr.u64_to_u8 (x := x >>> UInt64.ofNat 32) rfl))] 6 En69 fun ac70 En71 => ?_
 refine f_o ?_
 refine op_lit (d := some 20) (t := 23) (T := 5) (m := 1) (parts := #[(0, bv (UInt64.toUInt8 (x >>> UInt64.ofNat 32)))]) (xs := bys [UInt64.toUInt8 (x >>> UInt64.ofNat 32)]) (sz := 1) En71 (by kernel_rfl) (by kernel_rfl) rfl (by decide) Hv63 ?_
 intro ac73 wo74 bk72 En75 Hv76
 refine f_o ?_
 refine op_append (d := some 21) (t := 23) (tx := 23) (ty := 23) (k := 0) (p := List.length (((lb ++ [UInt64.toUInt8 (x >>> UInt64.ofNat 56)]) ++ [UInt64.toUInt8 (x >>> UInt64.ofNat 48)]) ++ [UInt64.toUInt8 (x >>> UInt64.ofNat 40)])) (m := 1) (x := .slice (some ⟨bk72, 0, none⟩) 1 1) (bytes := 1) En75 (by kernel_rfl) Hv76 rfl (bys_len _) (Reads.src (size := 1) (tx := 23) (e' := 5) (by kernel_rfl) (Hv76.heap.reads (k := 4) rfl) rfl (fun e => by cases e) (bys_one _)) (by kernel_rfl) (z := .int .u8 0) (by kernel_rfl) rfl (by decide) (by omega) (by unfold maxLen; omega) ?_
 intro ac81 wo82 ao77 cp78 En83 Hv84 hnz _
 clear hnz
 rw [← bys_append] at Hv84
 have ehz79 : (List.length (((lb ++ [UInt64.toUInt8 (x >>> UInt64.ofNat 56)]) ++ [UInt64.toUInt8 (x >>> UInt64.ofNat 48)]) ++ [UInt64.toUInt8 (x >>> UInt64.ofNat 40)])) + 1 = List.length ((((lb ++ [UInt64.toUInt8 (x >>> UInt64.ofNat 56)]) ++ [UInt64.toUInt8 (x >>> UInt64.ofNat 48)]) ++ [UInt64.toUInt8 (x >>> UInt64.ofNat 40)]) ++ [UInt64.toUInt8 (x >>> UInt64.ofNat 32)]) := (by first | (simp; done) | (simp; omega) | omega)
 rw [ehz79] at En83
 refine d_e [0,1,6,7] [] En83 fun ac85 En86 => ?_
 refine block_normal ?_
 refine then_normal ?_
 refine d_r [0,1,6,7] [] En86 fun ac87 En88 => ?_
 refine then_normal ?_
 refine loop_once ?_
 refine wp_seq ?_
 refine d_s [0,1,6,7,11] [] En88 fun ac89 En90 => ?_
 refine c_t En90 ?_
 refine wp_skip ?_
 refine then_normal ?_
 refine wp_seq ?_
 refine wp_block ?_
 refine region_from ?_
 refine d_k [0,1,6,7,14,19] [(4, g_i .u64 (Go.Dbr.u64_shr (x := x) (n := 24) rfl (by decide))), (5, g_i .u8 (Go.Dbr.u64_to_u8 (x := x >>> UInt64.ofNat 24) rfl))] 6 En90 fun ac91 En92 => ?_
 refine f_o ?_
 refine op_lit (d := some 20) (t := 23) (T := 5) (m := 1) (parts := #[(0, bv (UInt64.toUInt8 (x >>> UInt64.ofNat 24)))]) (xs := bys [UInt64.toUInt8 (x >>> UInt64.ofNat 24)]) (sz := 1) En92 (by kernel_rfl) (by kernel_rfl) rfl (by decide) Hv84 ?_
 intro ac94 wo95 bk93 En96 Hv97
 refine f_o ?_
 refine op_append (d := some 21) (t := 23) (tx := 23) (ty := 23) (k := 0) (p := List.length ((((lb ++ [UInt64.toUInt8 (x >>> UInt64.ofNat 56)]) ++ [UInt64.toUInt8 (x >>> UInt64.ofNat 48)]) ++ [UInt64.toUInt8 (x >>> UInt64.ofNat 40)]) ++ [UInt64.toUInt8 (x >>> UInt64.ofNat 32)])) (m := 1) (x := .slice (some ⟨bk93, 0, none⟩) 1 1) (bytes := 1) En96 (by kernel_rfl) Hv97 rfl (bys_len _) (Reads.src (size := 1) (tx := 23) (e' := 5) (by kernel_rfl) (Hv97.heap.reads (k := 5) rfl) rfl (fun e => by cases e) (bys_one _)) (by kernel_rfl) (z := .int .u8 0) (by kernel_rfl) rfl (by decide) (by omega) (by unfold maxLen; omega) ?_
 intro ac102 wo103 ao98 cp99 En104 Hv105 hnz _
 clear hnz
 rw [← bys_append] at Hv105
 have ehz100 : (List.length ((((lb ++ [UInt64.toUInt8 (x >>> UInt64.ofNat 56)]) ++ [UInt64.toUInt8 (x >>> UInt64.ofNat 48)]) ++ [UInt64.toUInt8 (x >>> UInt64.ofNat 40)]) ++ [UInt64.toUInt8 (x >>> UInt64.ofNat 32)])) + 1 = List.length (((((lb ++ [UInt64.toUInt8 (x >>> UInt64.ofNat 56)]) ++ [UInt64.toUInt8 (x >>> UInt64.ofNat 48)]) ++ [UInt64.toUInt8 (x >>> UInt64.ofNat 40)]) ++ [UInt64.toUInt8 (x >>> UInt64.ofNat 32)]) ++ [UInt64.toUInt8 (x >>> UInt64.ofNat 24)]) := (by first | (simp; done) | (simp; omega) | omega)
 rw [ehz100] at En104
 refine d_e [0,1,6,7] [] En104 fun ac106 En107 => ?_
 refine block_normal ?_
 refine then_normal ?_
 refine d_r [0,1,6,7] [] En107 fun ac108 En109 => ?_
 refine then_normal ?_
 refine loop_once ?_
 refine wp_seq ?_
 refine d_s [0,1,6,7,11] [] En109 fun ac110 En111 => ?_
 refine c_t En111 ?_
 refine wp_skip ?_
 refine then_normal ?_
 refine wp_seq ?_
 refine wp_block ?_
 refine region_from ?_
 refine d_k [0,1,6,7,14,19] [(4, g_i .u64 (Go.Dbr.u64_shr (x := x) (n := 16) rfl (by decide))), (5, g_i .u8 (Go.Dbr.u64_to_u8 (x := x >>> UInt64.ofNat 16) rfl))] 6 En111 fun ac112 En113 => ?_
 refine f_o ?_
 refine op_lit (d := some 20) (t := 23) (T := 5) (m := 1) (parts := #[(0, bv (UInt64.toUInt8 (x >>> UInt64.ofNat 16)))]) (xs := bys [UInt64.toUInt8 (x >>> UInt64.ofNat 16)]) (sz := 1) En113 (by kernel_rfl) (by kernel_rfl) rfl (by decide) Hv105 ?_
 intro ac115 wo116 bk114 En117 Hv118
 refine f_o ?_
 refine op_append (d := some 21) (t := 23) (tx := 23) (ty := 23) (k := 0) (p := List.length (((((lb ++ [UInt64.toUInt8 (x >>> UInt64.ofNat 56)]) ++ [UInt64.toUInt8 (x >>> UInt64.ofNat 48)]) ++ [UInt64.toUInt8 (x >>> UInt64.ofNat 40)]) ++ [UInt64.toUInt8 (x >>> UInt64.ofNat 32)]) ++ [UInt64.toUInt8 (x >>> UInt64.ofNat 24)])) (m := 1) (x := .slice (some ⟨bk114, 0, none⟩) 1 1) (bytes := 1) En117 (by kernel_rfl) Hv118 rfl (bys_len _) (Reads.src (size := 1) (tx := 23) (e' := 5) (by kernel_rfl) (Hv118.heap.reads (k := 6) rfl) rfl (fun e => by cases e) (bys_one _)) (by kernel_rfl) (z := .int .u8 0) (by kernel_rfl) rfl (by decide) (by omega) (by unfold maxLen; omega) ?_
 intro ac123 wo124 ao119 cp120 En125 Hv126 hnz _
 clear hnz
 rw [← bys_append] at Hv126
 have ehz121 : (List.length (((((lb ++ [UInt64.toUInt8 (x >>> UInt64.ofNat 56)]) ++ [UInt64.toUInt8 (x >>> UInt64.ofNat 48)]) ++ [UInt64.toUInt8 (x >>> UInt64.ofNat 40)]) ++ [UInt64.toUInt8 (x >>> UInt64.ofNat 32)]) ++ [UInt64.toUInt8 (x >>> UInt64.ofNat 24)])) + 1 = List.length ((((((lb ++ [UInt64.toUInt8 (x >>> UInt64.ofNat 56)]) ++ [UInt64.toUInt8 (x >>> UInt64.ofNat 48)]) ++ [UInt64.toUInt8 (x >>> UInt64.ofNat 40)]) ++ [UInt64.toUInt8 (x >>> UInt64.ofNat 32)]) ++ [UInt64.toUInt8 (x >>> UInt64.ofNat 24)]) ++ [UInt64.toUInt8 (x >>> UInt64.ofNat 16)]) := (by first | (simp; done) | (simp; omega) | omega)
 rw [ehz121] at En125
 refine d_e [0,1,6,7] [] En125 fun ac127 En128 => ?_
 refine block_normal ?_
 refine then_normal ?_
 refine d_r [0,1,6,7] [] En128 fun ac129 En130 => ?_
 refine then_normal ?_
 refine loop_once ?_
 refine wp_seq ?_
 refine d_s [0,1,6,7,11] [] En130 fun ac131 En132 => ?_
 refine c_t En132 ?_
 refine wp_skip ?_
 refine then_normal ?_
 refine wp_seq ?_
 refine wp_block ?_
 refine region_from ?_
 refine d_k [0,1,6,7,14,19] [(4, g_i .u64 (Go.Dbr.u64_shr (x := x) (n := 8) rfl (by decide))), (5, g_i .u8 (Go.Dbr.u64_to_u8 (x := x >>> UInt64.ofNat 8) rfl))] 6 En132 fun ac133 En134 => ?_
 refine f_o ?_
 refine op_lit (d := some 20) (t := 23) (T := 5) (m := 1) (parts := #[(0, bv (UInt64.toUInt8 (x >>> UInt64.ofNat 8)))]) (xs := bys [UInt64.toUInt8 (x >>> UInt64.ofNat 8)]) (sz := 1) En134 (by kernel_rfl) (by kernel_rfl) rfl (by decide) Hv126 ?_
 intro ac136 wo137 bk135 En138 Hv139
 refine f_o ?_
 refine op_append (d := some 21) (t := 23) (tx := 23) (ty := 23) (k := 0) (p := List.length ((((((lb ++ [UInt64.toUInt8 (x >>> UInt64.ofNat 56)]) ++ [UInt64.toUInt8 (x >>> UInt64.ofNat 48)]) ++ [UInt64.toUInt8 (x >>> UInt64.ofNat 40)]) ++ [UInt64.toUInt8 (x >>> UInt64.ofNat 32)]) ++ [UInt64.toUInt8 (x >>> UInt64.ofNat 24)]) ++ [UInt64.toUInt8 (x >>> UInt64.ofNat 16)])) (m := 1) (x := .slice (some ⟨bk135, 0, none⟩) 1 1) (bytes := 1) En138 (by kernel_rfl) Hv139 rfl (bys_len _) (Reads.src (size := 1) (tx := 23) (e' := 5) (by kernel_rfl) (Hv139.heap.reads (k := 7) rfl) rfl (fun e => by cases e) (bys_one _)) (by kernel_rfl) (z := .int .u8 0) (by kernel_rfl) rfl (by decide) (by omega) (by unfold maxLen; omega) ?_
 intro ac144 wo145 ao140 cp141 En146 Hv147 hnz _
 clear hnz
 rw [← bys_append] at Hv147
 have ehz142 : (List.length ((((((lb ++ [UInt64.toUInt8 (x >>> UInt64.ofNat 56)]) ++ [UInt64.toUInt8 (x >>> UInt64.ofNat 48)]) ++ [UInt64.toUInt8 (x >>> UInt64.ofNat 40)]) ++ [UInt64.toUInt8 (x >>> UInt64.ofNat 32)]) ++ [UInt64.toUInt8 (x >>> UInt64.ofNat 24)]) ++ [UInt64.toUInt8 (x >>> UInt64.ofNat 16)])) + 1 = List.length (((((((lb ++ [UInt64.toUInt8 (x >>> UInt64.ofNat 56)]) ++ [UInt64.toUInt8 (x >>> UInt64.ofNat 48)]) ++ [UInt64.toUInt8 (x >>> UInt64.ofNat 40)]) ++ [UInt64.toUInt8 (x >>> UInt64.ofNat 32)]) ++ [UInt64.toUInt8 (x >>> UInt64.ofNat 24)]) ++ [UInt64.toUInt8 (x >>> UInt64.ofNat 16)]) ++ [UInt64.toUInt8 (x >>> UInt64.ofNat 8)]) := (by first | (simp; done) | (simp; omega) | omega)
 rw [ehz142] at En146
 refine d_e [0,1,6,7] [] En146 fun ac148 En149 => ?_
 refine block_normal ?_
 refine then_normal ?_
 refine d_r [0,1,6,7] [] En149 fun ac150 En151 => ?_
 refine then_normal ?_
 refine loop_once ?_
 refine wp_seq ?_
 refine d_s [0,1,6,7,11] [] En151 fun ac152 En153 => ?_
 refine c_t En153 ?_
 refine wp_skip ?_
 refine then_normal ?_
 refine wp_seq ?_
 refine wp_block ?_
 refine region_from ?_
 refine d_k [0,1,6,7,14,19] [(4, g_i .u64 (Go.Dbr.u64_shr (x := x) (n := 0) rfl (by decide))), (5, g_i .u8 (Go.Dbr.u64_to_u8 (x := x >>> UInt64.ofNat 0) rfl))] 6 En153 fun ac154 En155 => ?_
 refine f_o ?_
 refine op_lit (d := some 20) (t := 23) (T := 5) (m := 1) (parts := #[(0, bv (UInt64.toUInt8 (x >>> UInt64.ofNat 0)))]) (xs := bys [UInt64.toUInt8 (x >>> UInt64.ofNat 0)]) (sz := 1) En155 (by kernel_rfl) (by kernel_rfl) rfl (by decide) Hv147 ?_
 intro ac157 wo158 bk156 En159 Hv160
 refine f_o ?_
 refine op_append (d := some 21) (t := 23) (tx := 23) (ty := 23) (k := 0) (p := List.length (((((((lb ++ [UInt64.toUInt8 (x >>> UInt64.ofNat 56)]) ++ [UInt64.toUInt8 (x >>> UInt64.ofNat 48)]) ++ [UInt64.toUInt8 (x >>> UInt64.ofNat 40)]) ++ [UInt64.toUInt8 (x >>> UInt64.ofNat 32)]) ++ [UInt64.toUInt8 (x >>> UInt64.ofNat 24)]) ++ [UInt64.toUInt8 (x >>> UInt64.ofNat 16)]) ++ [UInt64.toUInt8 (x >>> UInt64.ofNat 8)])) (m := 1) (x := .slice (some ⟨bk156, 0, none⟩) 1 1) (bytes := 1) En159 (by kernel_rfl) Hv160 rfl (bys_len _) (Reads.src (size := 1) (tx := 23) (e' := 5) (by kernel_rfl) (Hv160.heap.reads (k := 8) rfl) rfl (fun e => by cases e) (bys_one _)) (by kernel_rfl) (z := .int .u8 0) (by kernel_rfl) rfl (by decide) (by omega) (by unfold maxLen; omega) ?_
 intro ac165 wo166 ao161 cp162 En167 Hv168 hnz _
 clear hnz
 rw [← bys_append] at Hv168
 have ehz163 : (List.length (((((((lb ++ [UInt64.toUInt8 (x >>> UInt64.ofNat 56)]) ++ [UInt64.toUInt8 (x >>> UInt64.ofNat 48)]) ++ [UInt64.toUInt8 (x >>> UInt64.ofNat 40)]) ++ [UInt64.toUInt8 (x >>> UInt64.ofNat 32)]) ++ [UInt64.toUInt8 (x >>> UInt64.ofNat 24)]) ++ [UInt64.toUInt8 (x >>> UInt64.ofNat 16)]) ++ [UInt64.toUInt8 (x >>> UInt64.ofNat 8)])) + 1 = List.length ((((((((lb ++ [UInt64.toUInt8 (x >>> UInt64.ofNat 56)]) ++ [UInt64.toUInt8 (x >>> UInt64.ofNat 48)]) ++ [UInt64.toUInt8 (x >>> UInt64.ofNat 40)]) ++ [UInt64.toUInt8 (x >>> UInt64.ofNat 32)]) ++ [UInt64.toUInt8 (x >>> UInt64.ofNat 24)]) ++ [UInt64.toUInt8 (x >>> UInt64.ofNat 16)]) ++ [UInt64.toUInt8 (x >>> UInt64.ofNat 8)]) ++ [UInt64.toUInt8 (x >>> UInt64.ofNat 0)]) := (by first | (simp; done) | (simp; omega) | omega)
 rw [ehz163] at En167
 refine d_e [0,1,6,7] [] En167 fun ac169 En170 => ?_
 refine block_normal ?_
 refine then_normal ?_
 refine d_r [0,1,6,7] [] En170 fun ac171 En172 => ?_
 refine then_normal ?_
 refine loop_once ?_
 refine wp_seq ?_
 refine d_s [0,1,6,7,11] [] En172 fun ac173 En174 => ?_
 refine c_f En174 ?_
 refine wp_exit ?_
 refine then_exit ?_
 refine then_exit ?_
 refine block_exit ?_
 refine then_normal ?_
 refine d_s [0,1,6,7] [] En174 fun ac175 En176 => ?_
 refine wp_ret ?_
 refine d_ret1 (t := 6) (v := .slice ao161 (List.length ((((((((lb ++ [UInt64.toUInt8 (x >>> UInt64.ofNat 56)]) ++ [UInt64.toUInt8 (x >>> UInt64.ofNat 48)]) ++ [UInt64.toUInt8 (x >>> UInt64.ofNat 40)]) ++ [UInt64.toUInt8 (x >>> UInt64.ofNat 32)]) ++ [UInt64.toUInt8 (x >>> UInt64.ofNat 24)]) ++ [UInt64.toUInt8 (x >>> UInt64.ofNat 16)]) ++ [UInt64.toUInt8 (x >>> UInt64.ofNat 8)]) ++ [UInt64.toUInt8 (x >>> UInt64.ofNat 0)])) cp162) En176 (by kernel_rfl) (by kernel_rfl) ?_
 have hl : (((((((lb ++ [UInt64.toUInt8 (x >>> UInt64.ofNat 56)]) ++ [UInt64.toUInt8 (x >>> UInt64.ofNat 48)]) ++ [UInt64.toUInt8 (x >>> UInt64.ofNat 40)]) ++ [UInt64.toUInt8 (x >>> UInt64.ofNat 32)]) ++ [UInt64.toUInt8 (x >>> UInt64.ofNat 24)]) ++ [UInt64.toUInt8 (x >>> UInt64.ofNat 16)]) ++ [UInt64.toUInt8 (x >>> UInt64.ofNat 8)]) ++ [UInt64.toUInt8 (x >>> UInt64.ofNat 0)] = lb ++ be8 x := by simp [be8]
 have Hf177 := Hv168.pk [0] (M := [.vec ao161 cp162 1 (bys ((((((((lb ++ [UInt64.toUInt8 (x >>> UInt64.ofNat 56)]) ++ [UInt64.toUInt8 (x >>> UInt64.ofNat 48)]) ++ [UInt64.toUInt8 (x >>> UInt64.ofNat 40)]) ++ [UInt64.toUInt8 (x >>> UInt64.ofNat 32)]) ++ [UInt64.toUInt8 (x >>> UInt64.ofNat 24)]) ++ [UInt64.toUInt8 (x >>> UInt64.ofNat 16)]) ++ [UInt64.toUInt8 (x >>> UInt64.ofNat 8)]) ++ [UInt64.toUInt8 (x >>> UInt64.ofNat 0)])) 5])
 rw [hl] at Hf177
 exact ⟨_, _, by rw [hl], Hf177⟩

end Go.Proofs.YtbpihljkkkeijaaDoor
