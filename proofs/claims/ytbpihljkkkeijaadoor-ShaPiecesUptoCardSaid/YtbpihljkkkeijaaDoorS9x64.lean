/- Layer 5: sums: the walk. -/
import Derived.Test.YtbpihljkkkeijaaDoorS9
namespace Go.Proofs.YtbpihljkkkeijaaDoor
open Go.Dbr
set_option maxRecDepth 100000
set_option maxHeartbeats 2000000
set_option linter.unusedVariables false
set_option linter.unusedSimpArgs false

theorem sum64_go (w : World) (bd : Nat) (h : Int) (hh2 : h = 2 ∨ h = 3) (al : List UInt8) (ar : Option Addr) (cr : Nat) (gk32 : InU32 w [.box bd (([.int .i64 h] : List Value) ++ ((u32s (S32 h al)) ++ ((u64s (S64 h al)) ++ ([.slice ar (List.length (restH h al)) cr, uv64 (UInt64.ofNat (List.length al))] : List Value)))) 58, .vec ar cr 1 (bys (restH h al)) 5] (some ⟨0, 0, none⟩) 64 K32) (gk64 : InU64 w [.box bd (([.int .i64 h] : List Value) ++ ((u32s (S32 h al)) ++ ((u64s (S64 h al)) ++ ([.slice ar (List.length (restH h al)) cr, uv64 (UInt64.ofNat (List.length al))] : List Value)))) 58, .vec ar cr 1 (bys (restH h al)) 5] (some ⟨1, 0, none⟩) 80 K64) (hH : Heap w [.box bd (([.int .i64 h] : List Value) ++ ((u32s (S32 h al)) ++ ((u64s (S64 h al)) ++ ([.slice ar (List.length (restH h al)) cr, uv64 (UInt64.ofNat (List.length al))] : List Value)))) 58, .vec ar cr 1 (bys (restH h al)) 5]) : Calls Tryd.prog 21 #[pt bd] w fun e w' => ∃ ao co, e = .returned (.slice ao (List.length (sumF h al)) co) ∧ Ev w [.box bd (([.int .i64 h] : List Value) ++ ((u32s (S32 h al)) ++ ((u64s (S64 h al)) ++ ([.slice ar (List.length (restH h al)) cr, uv64 (UInt64.ofNat (List.length al))] : List Value)))) 58, .vec ar cr 1 (bys (restH h al)) 5] w' [.box bd (([.int .i64 h] : List Value) ++ ((u32s (S32 h al)) ++ ((u64s (S64 h al)) ++ ([.slice ar (List.length (restH h al)) cr, uv64 (UInt64.ofNat (List.length al))] : List Value)))) 58, .vec ar cr 1 (bys (restH h al)) 5, .vec ao co 1 (bys (sumF h al)) 5] := by
 have hrl := restH_lt h al
 have hrl2 := restH_le h al
 refine d_0 [(0, pt bd)] 95 Go.Proofs.Tryd.func21 Go.Proofs.Tryd.ntmps21 (hH) fun act0 En0 Hv0 => ?_
 refine wp_seq ?_
 refine d_r [0,2] [] En0 fun ac1 En2 => ?_
 refine then_normal ?_
 refine wp_seq ?_
 refine region_from ?_
 refine d_k [0,2,9] [] 1 En2 fun ac3 En4 => ?_
 refine f_o ?_
 refine c_l [0,1] (M := [.box bd (([.int .i64 h] : List Value) ++ ((u32s (S32 h al)) ++ ((u64s (S64 h al)) ++ ([.slice ar (List.length (restH h al)) cr, uv64 (UInt64.ofNat (List.length al))] : List Value)))) 58, .vec ar cr 1 (bys (restH h al)) 5]) En4 Hv0 (fun hM6 => clone_go _ bd h al ar cr hM6) ?_
 rintro _ wo7 ⟨bq5, aoq5, coq5, rfl, he8⟩
 refine ⟨_, _, [.box bd (([.int .i64 h] : List Value) ++ ((u32s (S32 h al)) ++ ((u64s (S64 h al)) ++ ([.slice ar (List.length (restH h al)) cr, uv64 (UInt64.ofNat (List.length al))] : List Value)))) 58, .vec ar cr 1 (bys (restH h al)) 5, .box bq5 (([.int .i64 h] : List Value) ++ ((u32s (S32 h al)) ++ ((u64s (S64 h al)) ++ ([.slice aoq5 (List.length (restH h al)) coq5, uv64 (UInt64.ofNat (List.length al))] : List Value)))) 58, .vec aoq5 coq5 1 (bys (restH h al)) 5], rfl, he8, by kernel_rfl, fun ac10 En11 Hv12 => ?_⟩
 refine d_e [0,2,3] [] En11 fun ac13 En14 => ?_
 refine then_normal ?_
 refine wp_seq ?_
 refine region_from ?_
 refine d_k [0,2,3,13] [] 3 En14 fun ac15 En16 => ?_
 refine f_o ?_
 refine m_v 0 0 (.int .i64 h) En16 Hv12 rfl (seg_in rfl) fun ac17 En18 => ?_
 refine f_o ?_
 refine c_p En18 Hv12 (block_go23 _ h hh2) fun ac23 wo20 En24 Hv25 => ?_
 refine d_e [0,2,3,4] [] En24 fun ac26 En27 => ?_
 refine then_normal ?_
 refine wp_seq ?_
 refine region_from ?_
 refine d_k [0,2,3,4,17] [] 2 En27 fun ac28 En29 => ?_
 refine f_o ?_
 refine op_makecap (d := some 18) (t := 23) (T := 5) (q := 1) (m := 256) (kl := .i64) (kc := .i64) (z := .int .u8 0) (bytes := 1) En29 (by kernel_rfl) Hv25 (by kernel_rfl) (by kernel_rfl) (by kernel_rfl) (by omega) (by omega) (by unfold maxLen; omega) ?_
 intro ac31 wo32 bk30 En33 Hv34
 rw [show List.replicate 1 (Value.int .u8 0) = bys (List.replicate 1 0) from (bys_replicate _).symm] at Hv34
 refine d_e [0,2,3,4,5] [] En33 fun ac35 En36 => ?_
 refine then_normal ?_
 refine wp_seq ?_
 have hb39 : 0 < 1 := (by omega)
 refine region_from ?_
 refine d_k [0,2,3,4,5,19] [] 1 En36 fun ac40 En41 => ?_
 refine f_o ?_
 refine q_v (x := Instr.indexAt 23 (.slice (some ⟨bk30, 0, none⟩) 1 256) (.int .i64 0)) (v := .pointer (some (Addr.add ⟨bk30, 0, none⟩ 0))) En41 (Go.Dbr.run_indexsl (e := 5) (sz := 1) (j := 0) (jo := 0) rfl (by kernel_rfl) (by kernel_rfl) (by omega) hb39 (Nat.mul_one _) _) fun ac42 En43 => ?_
 refine f_o ?_
 refine op_storeel (d := none) (t := 5) (ad := ⟨bk30, 0, none⟩) (ao := some ⟨bk30, 0, none⟩) (k := 4) (cap := 256) (sz := 1) (j := 0) (xs := bys (List.replicate 1 0)) (v := bv (128 : UInt8)) En43 (by kernel_rfl) Hv34 rfl rfl (by rw [bys_length]; first | omega | (simp; done) | (simp; omega)) (by kernel_rfl) rfl ?_
 intro ac44 wo45  En46 Hv47
 rw [bys_set] at Hv47
 refine f_e ?_
 replace Hv47 : Ev w [.box bd (([.int .i64 h] : List Value) ++ ((u32s (S32 h al)) ++ ((u64s (S64 h al)) ++ ([.slice ar (List.length (restH h al)) cr, uv64 (UInt64.ofNat (List.length al))] : List Value)))) 58, .vec ar cr 1 (bys (restH h al)) 5] wo45 [.box bd (([.int .i64 h] : List Value) ++ ((u32s (S32 h al)) ++ ((u64s (S64 h al)) ++ ([.slice ar (List.length (restH h al)) cr, uv64 (UInt64.ofNat (List.length al))] : List Value)))) 58, .vec ar cr 1 (bys (restH h al)) 5, .box bq5 (([.int .i64 h] : List Value) ++ ((u32s (S32 h al)) ++ ((u64s (S64 h al)) ++ ([.slice aoq5 (List.length (restH h al)) coq5, uv64 (UInt64.ofNat (List.length al))] : List Value)))) 58, .vec aoq5 coq5 1 (bys (restH h al)) 5, .vec (some ⟨bk30, 0, none⟩) 256 1 (bys ([128] : List UInt8)) 5] := Hv47
 refine then_normal ?_
 refine wp_seq ?_
 refine wp_block ?_
 refine loop_m (fun ms48 ac wo => ∃ (j : Nat) (ae : Option Addr) (ce : Nat) (el : List UInt8), ms48 = (pdZ 128 (List.length (restH h al)) - j : Nat) ∧ Env ac 95 [(0, pt bd), (2, .slice none 0 0), (3, pt bq5), (4, .int .i64 128), (5, .slice ae (List.length el) ce)] ∧ Ev w [.box bd (([.int .i64 h] : List Value) ++ ((u32s (S32 h al)) ++ ((u64s (S64 h al)) ++ ([.slice ar (List.length (restH h al)) cr, uv64 (UInt64.ofNat (List.length al))] : List Value)))) 58, .vec ar cr 1 (bys (restH h al)) 5] wo [.vec ae ce 1 (bys el) 5, .box bd (([.int .i64 h] : List Value) ++ ((u32s (S32 h al)) ++ ((u64s (S64 h al)) ++ ([.slice ar (List.length (restH h al)) cr, uv64 (UInt64.ofNat (List.length al))] : List Value)))) 58, .vec ar cr 1 (bys (restH h al)) 5, .box bq5 (([.int .i64 h] : List Value) ++ ((u32s (S32 h al)) ++ ((u64s (S64 h al)) ++ ([.slice aoq5 (List.length (restH h al)) coq5, uv64 (UInt64.ofNat (List.length al))] : List Value)))) 58, .vec aoq5 coq5 1 (bys (restH h al)) 5] ∧ (j ≤ pdZ 128 (List.length (restH h al))) ∧ (el = ([128] : List UInt8) ++ List.replicate j 0)) ⟨_, 0, some ⟨bk30, 0, none⟩, 256, ([128] : List UInt8), rfl, En46.sb, Hv47.pk [4, 0, 1, 2, 3], Nat.zero_le _, rfl⟩ ?_
 rintro mm54 ac50 wo51 ⟨j, ae, ce, el, rfl, En52, Hv53, hj, heel⟩
 refine wp_seq ?_
 refine wp_seq ?_
 have hel : List.length el = 1 + j := by rw [heel]; simp; omega
 have hpz : pdZ 128 (List.length (restH h al)) < 128 := Nat.mod_lt _ (by decide)
 refine region_from ?_
 refine d_k [0,2,3,4,5,23] [] 3 En52 fun ac55 En56 => ?_
 refine f_o ?_
 refine m_v 1 17 (.slice ar (List.length (restH h al)) cr) En56 Hv53 rfl (seg_skip (n := 1) (j := 16) rfl (seg_skip (n := 8) (j := 8) (u32s_lenh (S32_len _ _)) (seg_skip (n := 8) (j := 0) (u64s_lenh (S64_len _ _)) rfl))) fun ac57 En58 => ?_
 refine d_e [0,2,3,4,5,34] [(7, g_n (w_a (List.length (restH h al)) (List.length el))), (10, g_n (w_a ((List.length (restH h al)) + (List.length el)) 16)), (12, g_i .i64 (show Int.tmod ((((List.length (restH h al)) + (List.length el)) + 16 : Nat) : Int) (128 : Int) = (((((List.length (restH h al)) + (List.length el)) + 16) % 128 : Nat) : Int) from Go.Dbr.i64_rem_nat (a := ((((List.length (restH h al)) + (List.length el)) + 16 : Nat) : Int)) (n := ((List.length (restH h al)) + (List.length el)) + 16) (m := 128) rfl (by omega)))] En58 fun ac59 En60 => ?_
 refine then_normal ?_
 refine c_n (((((List.length (restH h al)) + (List.length el)) + 16) % 128 : Nat) : Int) (0 : Int) En60 (fun hc61 => ?_) (fun hc61 => ?_)
 ·
  refine wp_skip ?_
  refine then_normal ?_
  refine wp_block ?_
  have hpz : pdZ 128 (List.length (restH h al)) < 128 := Nat.mod_lt _ (by decide)
  refine region_from ?_
  refine d_k [0,2,3,4,5,35] [] 1 En60 fun ac62 En63 => ?_
  refine f_o ?_
  refine op_lit (d := some 36) (t := 23) (T := 5) (m := 1) (parts := #[(0, .int .u8 0)]) (xs := bys [(0 : UInt8)]) (sz := 1) En63 (by kernel_rfl) (by kernel_rfl) rfl (by decide) Hv53 ?_
  intro ac65 wo66 bk64 En67 Hv68
  refine f_o ?_
  refine op_append (d := some 37) (t := 23) (tx := 23) (ty := 23) (k := 0) (p := List.length el) (m := 1) (x := .slice (some ⟨bk64, 0, none⟩) 1 1) (bytes := 1) En67 (by kernel_rfl) Hv68 rfl (bys_len _) (Reads.src (size := 1) (tx := 23) (e' := 5) (by kernel_rfl) (Hv68.heap.reads (k := 5) rfl) rfl (fun e => by cases e) (bys_one _)) (by kernel_rfl) (z := .int .u8 0) (by kernel_rfl) rfl (by decide) (by omega) (by unfold maxLen; omega) ?_
  intro ac73 wo74 ao69 cp70 En75 Hv76 hnz _
  clear hnz
  rw [← bys_append] at Hv76
  have ehz71 : (List.length el) + 1 = List.length (el ++ [(0 : UInt8)]) := (by first | (simp; done) | (simp; omega) | omega)
  rw [ehz71] at En75
  refine d_e [0,2,3,4,5] [] En75 fun ac77 En78 => ?_
  refine block_normal ?_
  refine then_normal ?_
  refine ⟨_, ⟨j + 1, ao69, cp70, (el ++ [(0 : UInt8)]), rfl, En78.sb, Hv76.pk [0, 1, 2, 3, 4], by unfold pdZ at *; omega, by rw [heel]; exact end_step⟩, ?_⟩
  unfold pdZ at *; omega
 ·
  refine wp_exit ?_
  refine then_exit ?_
  refine then_exit ?_
  refine block_exit ?_
  refine then_normal ?_
  refine wp_seq ?_
  have hel : List.length el = 1 + j := by rw [heel]; simp; omega
  have hjp : j = pdZ 128 (List.length (restH h al)) := by unfold pdZ at *; omega
  have hpz : pdZ 128 (List.length (restH h al)) < 128 := Nat.mod_lt _ (by decide)
  refine region_from ?_
  refine d_k [0,2,3,4,5,38,41] [] 4 En60 fun ac79 En80 => ?_
  refine f_o ?_
  refine op_appzeros (d := some 42) (t := 23) (tn := 3) (tx := 9) (ty := 23) (T := 5) (kn := .i64) (ik := .i64) (k := 0) (p := List.length el) (m := 8) (xs := el) En80 (by kernel_rfl) Hv53 rfl rfl (by kernel_rfl) (by kernel_rfl) (by kernel_rfl) (by kernel_rfl) (by omega) ?_
  intro ac84 wo85 ao81 cp82 En86 Hv87 hnz _
  clear hnz
  have ehz83 : (List.length el) + 8 = List.length (el ++ List.replicate 8 0) := (by first | (simp; done) | (simp; omega) | omega)
  rw [ehz83] at En86
  refine d_e [0,2,3,4,5] [] En86 fun ac88 En89 => ?_
  refine then_normal ?_
  refine wp_seq ?_
  refine wp_seq ?_
  refine d_r [0,2,3,4,5,6] [] En89 fun ac90 En91 => ?_
  refine then_normal ?_
  refine wp_block ?_
  refine loop_enter ?_
  refine loop_once ?_
  refine wp_seq ?_
  refine wp_seq ?_
  refine d_r [0,2,3,4,5,6,44] [] En91 fun ac92 En93 => ?_
  refine then_normal ?_
  refine c_t En93 ?_
  refine wp_skip ?_
  refine then_normal ?_
  refine wp_seq ?_
  refine wp_block ?_
  refine region_from ?_
  refine d_k [0,2,3,4,5,6,47,50] [] 4 En93 fun ac94 En95 => ?_
  refine f_o ?_
  refine m_v 1 18 (uv64 (UInt64.ofNat (List.length al))) En95 Hv87 rfl (seg_skip (n := 1) (j := 17) rfl (seg_skip (n := 8) (j := 9) (u32s_lenh (S32_len _ _)) (seg_skip (n := 8) (j := 1) (u64s_lenh (S64_len _ _)) rfl))) fun ac96 En97 => ?_
  refine d_k [0,2,3,4,5,6,47,56] [(5, g_i .u64 (Go.Dbr.u64_mul (x := UInt64.ofNat (List.length al)) (y := (8 : UInt64)) rfl rfl)), (8, g_i .u64 (Go.Dbr.u64_shr (x := (UInt64.ofNat (List.length al)) * (8 : UInt64)) (n := 56) rfl (by decide))), (9, g_i .u8 (Go.Dbr.u64_to_u8 (x := ((UInt64.ofNat (List.length al)) * (8 : UInt64)) >>> UInt64.ofNat 56) rfl))] 10 En97 fun ac98 En99 => ?_
  refine f_o ?_
  refine op_lit (d := some 57) (t := 23) (T := 5) (m := 1) (parts := #[(0, bv (UInt64.toUInt8 (((UInt64.ofNat (List.length al)) * (8 : UInt64)) >>> UInt64.ofNat 56)))]) (xs := bys [UInt64.toUInt8 (((UInt64.ofNat (List.length al)) * (8 : UInt64)) >>> UInt64.ofNat 56)]) (sz := 1) En99 (by kernel_rfl) (by kernel_rfl) rfl (by decide) Hv87 ?_
  intro ac101 wo102 bk100 En103 Hv104
  refine f_o ?_
  refine op_append (d := some 58) (t := 23) (tx := 23) (ty := 23) (k := 0) (p := List.length (el ++ List.replicate 8 0)) (m := 1) (x := .slice (some ⟨bk100, 0, none⟩) 1 1) (bytes := 1) En103 (by kernel_rfl) Hv104 rfl (bys_len _) (Reads.src (size := 1) (tx := 23) (e' := 5) (by kernel_rfl) (Hv104.heap.reads (k := 5) rfl) rfl (fun e => by cases e) (bys_one _)) (by kernel_rfl) (z := .int .u8 0) (by kernel_rfl) rfl (by decide) (by omega) (by unfold maxLen; omega) ?_
  intro ac109 wo110 ao105 cp106 En111 Hv112 hnz _
  clear hnz
  rw [← bys_append] at Hv112
  have ehz107 : (List.length (el ++ List.replicate 8 0)) + 1 = List.length ((el ++ List.replicate 8 0) ++ [UInt64.toUInt8 (((UInt64.ofNat (List.length al)) * (8 : UInt64)) >>> UInt64.ofNat 56)]) := (by first | (simp; done) | (simp; omega) | omega)
  rw [ehz107] at En111
  refine d_e [0,2,3,4,5,6] [] En111 fun ac113 En114 => ?_
  refine block_normal ?_
  refine then_normal ?_
  refine d_r [0,2,3,4,5,6] [] En114 fun ac115 En116 => ?_
  refine then_normal ?_
  refine loop_once ?_
  refine wp_seq ?_
  refine wp_seq ?_
  refine d_r [0,2,3,4,5,6,44] [] En116 fun ac117 En118 => ?_
  refine then_normal ?_
  refine c_t En118 ?_
  refine wp_skip ?_
  refine then_normal ?_
  refine wp_seq ?_
  refine wp_block ?_
  refine region_from ?_
  refine d_k [0,2,3,4,5,6,47,50] [] 4 En118 fun ac119 En120 => ?_
  refine f_o ?_
  refine m_v 1 18 (uv64 (UInt64.ofNat (List.length al))) En120 Hv112 rfl (seg_skip (n := 1) (j := 17) rfl (seg_skip (n := 8) (j := 9) (u32s_lenh (S32_len _ _)) (seg_skip (n := 8) (j := 1) (u64s_lenh (S64_len _ _)) rfl))) fun ac121 En122 => ?_
  refine d_k [0,2,3,4,5,6,47,56] [(5, g_i .u64 (Go.Dbr.u64_mul (x := UInt64.ofNat (List.length al)) (y := (8 : UInt64)) rfl rfl)), (8, g_i .u64 (Go.Dbr.u64_shr (x := (UInt64.ofNat (List.length al)) * (8 : UInt64)) (n := 48) rfl (by decide))), (9, g_i .u8 (Go.Dbr.u64_to_u8 (x := ((UInt64.ofNat (List.length al)) * (8 : UInt64)) >>> UInt64.ofNat 48) rfl))] 10 En122 fun ac123 En124 => ?_
  refine f_o ?_
  refine op_lit (d := some 57) (t := 23) (T := 5) (m := 1) (parts := #[(0, bv (UInt64.toUInt8 (((UInt64.ofNat (List.length al)) * (8 : UInt64)) >>> UInt64.ofNat 48)))]) (xs := bys [UInt64.toUInt8 (((UInt64.ofNat (List.length al)) * (8 : UInt64)) >>> UInt64.ofNat 48)]) (sz := 1) En124 (by kernel_rfl) (by kernel_rfl) rfl (by decide) Hv112 ?_
  intro ac126 wo127 bk125 En128 Hv129
  refine f_o ?_
  refine op_append (d := some 58) (t := 23) (tx := 23) (ty := 23) (k := 0) (p := List.length ((el ++ List.replicate 8 0) ++ [UInt64.toUInt8 (((UInt64.ofNat (List.length al)) * (8 : UInt64)) >>> UInt64.ofNat 56)])) (m := 1) (x := .slice (some ⟨bk125, 0, none⟩) 1 1) (bytes := 1) En128 (by kernel_rfl) Hv129 rfl (bys_len _) (Reads.src (size := 1) (tx := 23) (e' := 5) (by kernel_rfl) (Hv129.heap.reads (k := 6) rfl) rfl (fun e => by cases e) (bys_one _)) (by kernel_rfl) (z := .int .u8 0) (by kernel_rfl) rfl (by decide) (by omega) (by unfold maxLen; omega) ?_
  intro ac134 wo135 ao130 cp131 En136 Hv137 hnz _
  clear hnz
  rw [← bys_append] at Hv137
  have ehz132 : (List.length ((el ++ List.replicate 8 0) ++ [UInt64.toUInt8 (((UInt64.ofNat (List.length al)) * (8 : UInt64)) >>> UInt64.ofNat 56)])) + 1 = List.length (((el ++ List.replicate 8 0) ++ [UInt64.toUInt8 (((UInt64.ofNat (List.length al)) * (8 : UInt64)) >>> UInt64.ofNat 56)]) ++ [UInt64.toUInt8 (((UInt64.ofNat (List.length al)) * (8 : UInt64)) >>> UInt64.ofNat 48)]) := (by first | (simp; done) | (simp; omega) | omega)
  rw [ehz132] at En136
  refine d_e [0,2,3,4,5,6] [] En136 fun ac138 En139 => ?_
  refine block_normal ?_
  refine then_normal ?_
  refine d_r [0,2,3,4,5,6] [] En139 fun ac140 En141 => ?_
  refine then_normal ?_
  refine loop_once ?_
  refine wp_seq ?_
  refine wp_seq ?_
  refine d_r [0,2,3,4,5,6,44] [] En141 fun ac142 En143 => ?_
  refine then_normal ?_
  refine c_t En143 ?_
  refine wp_skip ?_
  refine then_normal ?_
  refine wp_seq ?_
  refine wp_block ?_
  refine region_from ?_
  refine d_k [0,2,3,4,5,6,47,50] [] 4 En143 fun ac144 En145 => ?_
  refine f_o ?_
  refine m_v 1 18 (uv64 (UInt64.ofNat (List.length al))) En145 Hv137 rfl (seg_skip (n := 1) (j := 17) rfl (seg_skip (n := 8) (j := 9) (u32s_lenh (S32_len _ _)) (seg_skip (n := 8) (j := 1) (u64s_lenh (S64_len _ _)) rfl))) fun ac146 En147 => ?_
  refine d_k [0,2,3,4,5,6,47,56] [(5, g_i .u64 (Go.Dbr.u64_mul (x := UInt64.ofNat (List.length al)) (y := (8 : UInt64)) rfl rfl)), (8, g_i .u64 (Go.Dbr.u64_shr (x := (UInt64.ofNat (List.length al)) * (8 : UInt64)) (n := 40) rfl (by decide))), (9, g_i .u8 (Go.Dbr.u64_to_u8 (x := ((UInt64.ofNat (List.length al)) * (8 : UInt64)) >>> UInt64.ofNat 40) rfl))] 10 En147 fun ac148 En149 => ?_
  refine f_o ?_
  refine op_lit (d := some 57) (t := 23) (T := 5) (m := 1) (parts := #[(0, bv (UInt64.toUInt8 (((UInt64.ofNat (List.length al)) * (8 : UInt64)) >>> UInt64.ofNat 40)))]) (xs := bys [UInt64.toUInt8 (((UInt64.ofNat (List.length al)) * (8 : UInt64)) >>> UInt64.ofNat 40)]) (sz := 1) En149 (by kernel_rfl) (by kernel_rfl) rfl (by decide) Hv137 ?_
  intro ac151 wo152 bk150 En153 Hv154
  refine f_o ?_
  refine op_append (d := some 58) (t := 23) (tx := 23) (ty := 23) (k := 0) (p := List.length (((el ++ List.replicate 8 0) ++ [UInt64.toUInt8 (((UInt64.ofNat (List.length al)) * (8 : UInt64)) >>> UInt64.ofNat 56)]) ++ [UInt64.toUInt8 (((UInt64.ofNat (List.length al)) * (8 : UInt64)) >>> UInt64.ofNat 48)])) (m := 1) (x := .slice (some ⟨bk150, 0, none⟩) 1 1) (bytes := 1) En153 (by kernel_rfl) Hv154 rfl (bys_len _) (Reads.src (size := 1) (tx := 23) (e' := 5) (by kernel_rfl) (Hv154.heap.reads (k := 7) rfl) rfl (fun e => by cases e) (bys_one _)) (by kernel_rfl) (z := .int .u8 0) (by kernel_rfl) rfl (by decide) (by omega) (by unfold maxLen; omega) ?_
  intro ac159 wo160 ao155 cp156 En161 Hv162 hnz _
  clear hnz
  rw [← bys_append] at Hv162
  have ehz157 : (List.length (((el ++ List.replicate 8 0) ++ [UInt64.toUInt8 (((UInt64.ofNat (List.length al)) * (8 : UInt64)) >>> UInt64.ofNat 56)]) ++ [UInt64.toUInt8 (((UInt64.ofNat (List.length al)) * (8 : UInt64)) >>> UInt64.ofNat 48)])) + 1 = List.length ((((el ++ List.replicate 8 0) ++ [UInt64.toUInt8 (((UInt64.ofNat (List.length al)) * (8 : UInt64)) >>> UInt64.ofNat 56)]) ++ [UInt64.toUInt8 (((UInt64.ofNat (List.length al)) * (8 : UInt64)) >>> UInt64.ofNat 48)]) ++ [UInt64.toUInt8 (((UInt64.ofNat (List.length al)) * (8 : UInt64)) >>> UInt64.ofNat 40)]) := (by first | (simp; done) | (simp; omega) | omega)
  rw [ehz157] at En161
  refine d_e [0,2,3,4,5,6] [] En161 fun ac163 En164 => ?_
  refine block_normal ?_
  refine then_normal ?_
  refine d_r [0,2,3,4,5,6] [] En164 fun ac165 En166 => ?_
  refine then_normal ?_
  refine loop_once ?_
  refine wp_seq ?_
  refine wp_seq ?_
  refine d_r [0,2,3,4,5,6,44] [] En166 fun ac167 En168 => ?_
  refine then_normal ?_
  refine c_t En168 ?_
  refine wp_skip ?_
  refine then_normal ?_
  refine wp_seq ?_
  refine wp_block ?_
  refine region_from ?_
  refine d_k [0,2,3,4,5,6,47,50] [] 4 En168 fun ac169 En170 => ?_
  refine f_o ?_
  refine m_v 1 18 (uv64 (UInt64.ofNat (List.length al))) En170 Hv162 rfl (seg_skip (n := 1) (j := 17) rfl (seg_skip (n := 8) (j := 9) (u32s_lenh (S32_len _ _)) (seg_skip (n := 8) (j := 1) (u64s_lenh (S64_len _ _)) rfl))) fun ac171 En172 => ?_
  refine d_k [0,2,3,4,5,6,47,56] [(5, g_i .u64 (Go.Dbr.u64_mul (x := UInt64.ofNat (List.length al)) (y := (8 : UInt64)) rfl rfl)), (8, g_i .u64 (Go.Dbr.u64_shr (x := (UInt64.ofNat (List.length al)) * (8 : UInt64)) (n := 32) rfl (by decide))), (9, g_i .u8 (Go.Dbr.u64_to_u8 (x := ((UInt64.ofNat (List.length al)) * (8 : UInt64)) >>> UInt64.ofNat 32) rfl))] 10 En172 fun ac173 En174 => ?_
  refine f_o ?_
  refine op_lit (d := some 57) (t := 23) (T := 5) (m := 1) (parts := #[(0, bv (UInt64.toUInt8 (((UInt64.ofNat (List.length al)) * (8 : UInt64)) >>> UInt64.ofNat 32)))]) (xs := bys [UInt64.toUInt8 (((UInt64.ofNat (List.length al)) * (8 : UInt64)) >>> UInt64.ofNat 32)]) (sz := 1) En174 (by kernel_rfl) (by kernel_rfl) rfl (by decide) Hv162 ?_
  intro ac176 wo177 bk175 En178 Hv179
  refine f_o ?_
  refine op_append (d := some 58) (t := 23) (tx := 23) (ty := 23) (k := 0) (p := List.length ((((el ++ List.replicate 8 0) ++ [UInt64.toUInt8 (((UInt64.ofNat (List.length al)) * (8 : UInt64)) >>> UInt64.ofNat 56)]) ++ [UInt64.toUInt8 (((UInt64.ofNat (List.length al)) * (8 : UInt64)) >>> UInt64.ofNat 48)]) ++ [UInt64.toUInt8 (((UInt64.ofNat (List.length al)) * (8 : UInt64)) >>> UInt64.ofNat 40)])) (m := 1) (x := .slice (some ⟨bk175, 0, none⟩) 1 1) (bytes := 1) En178 (by kernel_rfl) Hv179 rfl (bys_len _) (Reads.src (size := 1) (tx := 23) (e' := 5) (by kernel_rfl) (Hv179.heap.reads (k := 8) rfl) rfl (fun e => by cases e) (bys_one _)) (by kernel_rfl) (z := .int .u8 0) (by kernel_rfl) rfl (by decide) (by omega) (by unfold maxLen; omega) ?_
  intro ac184 wo185 ao180 cp181 En186 Hv187 hnz _
  clear hnz
  rw [← bys_append] at Hv187
  have ehz182 : (List.length ((((el ++ List.replicate 8 0) ++ [UInt64.toUInt8 (((UInt64.ofNat (List.length al)) * (8 : UInt64)) >>> UInt64.ofNat 56)]) ++ [UInt64.toUInt8 (((UInt64.ofNat (List.length al)) * (8 : UInt64)) >>> UInt64.ofNat 48)]) ++ [UInt64.toUInt8 (((UInt64.ofNat (List.length al)) * (8 : UInt64)) >>> UInt64.ofNat 40)])) + 1 = List.length (((((el ++ List.replicate 8 0) ++ [UInt64.toUInt8 (((UInt64.ofNat (List.length al)) * (8 : UInt64)) >>> UInt64.ofNat 56)]) ++ [UInt64.toUInt8 (((UInt64.ofNat (List.length al)) * (8 : UInt64)) >>> UInt64.ofNat 48)]) ++ [UInt64.toUInt8 (((UInt64.ofNat (List.length al)) * (8 : UInt64)) >>> UInt64.ofNat 40)]) ++ [UInt64.toUInt8 (((UInt64.ofNat (List.length al)) * (8 : UInt64)) >>> UInt64.ofNat 32)]) := (by first | (simp; done) | (simp; omega) | omega)
  rw [ehz182] at En186
  refine d_e [0,2,3,4,5,6] [] En186 fun ac188 En189 => ?_
  refine block_normal ?_
  refine then_normal ?_
  refine d_r [0,2,3,4,5,6] [] En189 fun ac190 En191 => ?_
  refine then_normal ?_
  refine loop_once ?_
  refine wp_seq ?_
  refine wp_seq ?_
  refine d_r [0,2,3,4,5,6,44] [] En191 fun ac192 En193 => ?_
  refine then_normal ?_
  refine c_t En193 ?_
  refine wp_skip ?_
  refine then_normal ?_
  refine wp_seq ?_
  refine wp_block ?_
  refine region_from ?_
  refine d_k [0,2,3,4,5,6,47,50] [] 4 En193 fun ac194 En195 => ?_
  refine f_o ?_
  refine m_v 1 18 (uv64 (UInt64.ofNat (List.length al))) En195 Hv187 rfl (seg_skip (n := 1) (j := 17) rfl (seg_skip (n := 8) (j := 9) (u32s_lenh (S32_len _ _)) (seg_skip (n := 8) (j := 1) (u64s_lenh (S64_len _ _)) rfl))) fun ac196 En197 => ?_
  refine d_k [0,2,3,4,5,6,47,56] [(5, g_i .u64 (Go.Dbr.u64_mul (x := UInt64.ofNat (List.length al)) (y := (8 : UInt64)) rfl rfl)), (8, g_i .u64 (Go.Dbr.u64_shr (x := (UInt64.ofNat (List.length al)) * (8 : UInt64)) (n := 24) rfl (by decide))), (9, g_i .u8 (Go.Dbr.u64_to_u8 (x := ((UInt64.ofNat (List.length al)) * (8 : UInt64)) >>> UInt64.ofNat 24) rfl))] 10 En197 fun ac198 En199 => ?_
  refine f_o ?_
  refine op_lit (d := some 57) (t := 23) (T := 5) (m := 1) (parts := #[(0, bv (UInt64.toUInt8 (((UInt64.ofNat (List.length al)) * (8 : UInt64)) >>> UInt64.ofNat 24)))]) (xs := bys [UInt64.toUInt8 (((UInt64.ofNat (List.length al)) * (8 : UInt64)) >>> UInt64.ofNat 24)]) (sz := 1) En199 (by kernel_rfl) (by kernel_rfl) rfl (by decide) Hv187 ?_
  intro ac201 wo202 bk200 En203 Hv204
  refine f_o ?_
  refine op_append (d := some 58) (t := 23) (tx := 23) (ty := 23) (k := 0) (p := List.length (((((el ++ List.replicate 8 0) ++ [UInt64.toUInt8 (((UInt64.ofNat (List.length al)) * (8 : UInt64)) >>> UInt64.ofNat 56)]) ++ [UInt64.toUInt8 (((UInt64.ofNat (List.length al)) * (8 : UInt64)) >>> UInt64.ofNat 48)]) ++ [UInt64.toUInt8 (((UInt64.ofNat (List.length al)) * (8 : UInt64)) >>> UInt64.ofNat 40)]) ++ [UInt64.toUInt8 (((UInt64.ofNat (List.length al)) * (8 : UInt64)) >>> UInt64.ofNat 32)])) (m := 1) (x := .slice (some ⟨bk200, 0, none⟩) 1 1) (bytes := 1) En203 (by kernel_rfl) Hv204 rfl (bys_len _) (Reads.src (size := 1) (tx := 23) (e' := 5) (by kernel_rfl) (Hv204.heap.reads (k := 9) rfl) rfl (fun e => by cases e) (bys_one _)) (by kernel_rfl) (z := .int .u8 0) (by kernel_rfl) rfl (by decide) (by omega) (by unfold maxLen; omega) ?_
  intro ac209 wo210 ao205 cp206 En211 Hv212 hnz _
  clear hnz
  rw [← bys_append] at Hv212
  have ehz207 : (List.length (((((el ++ List.replicate 8 0) ++ [UInt64.toUInt8 (((UInt64.ofNat (List.length al)) * (8 : UInt64)) >>> UInt64.ofNat 56)]) ++ [UInt64.toUInt8 (((UInt64.ofNat (List.length al)) * (8 : UInt64)) >>> UInt64.ofNat 48)]) ++ [UInt64.toUInt8 (((UInt64.ofNat (List.length al)) * (8 : UInt64)) >>> UInt64.ofNat 40)]) ++ [UInt64.toUInt8 (((UInt64.ofNat (List.length al)) * (8 : UInt64)) >>> UInt64.ofNat 32)])) + 1 = List.length ((((((el ++ List.replicate 8 0) ++ [UInt64.toUInt8 (((UInt64.ofNat (List.length al)) * (8 : UInt64)) >>> UInt64.ofNat 56)]) ++ [UInt64.toUInt8 (((UInt64.ofNat (List.length al)) * (8 : UInt64)) >>> UInt64.ofNat 48)]) ++ [UInt64.toUInt8 (((UInt64.ofNat (List.length al)) * (8 : UInt64)) >>> UInt64.ofNat 40)]) ++ [UInt64.toUInt8 (((UInt64.ofNat (List.length al)) * (8 : UInt64)) >>> UInt64.ofNat 32)]) ++ [UInt64.toUInt8 (((UInt64.ofNat (List.length al)) * (8 : UInt64)) >>> UInt64.ofNat 24)]) := (by first | (simp; done) | (simp; omega) | omega)
  rw [ehz207] at En211
  refine d_e [0,2,3,4,5,6] [] En211 fun ac213 En214 => ?_
  refine block_normal ?_
  refine then_normal ?_
  refine d_r [0,2,3,4,5,6] [] En214 fun ac215 En216 => ?_
  refine then_normal ?_
  refine loop_once ?_
  refine wp_seq ?_
  refine wp_seq ?_
  refine d_r [0,2,3,4,5,6,44] [] En216 fun ac217 En218 => ?_
  refine then_normal ?_
  refine c_t En218 ?_
  refine wp_skip ?_
  refine then_normal ?_
  refine wp_seq ?_
  refine wp_block ?_
  refine region_from ?_
  refine d_k [0,2,3,4,5,6,47,50] [] 4 En218 fun ac219 En220 => ?_
  refine f_o ?_
  refine m_v 1 18 (uv64 (UInt64.ofNat (List.length al))) En220 Hv212 rfl (seg_skip (n := 1) (j := 17) rfl (seg_skip (n := 8) (j := 9) (u32s_lenh (S32_len _ _)) (seg_skip (n := 8) (j := 1) (u64s_lenh (S64_len _ _)) rfl))) fun ac221 En222 => ?_
  refine d_k [0,2,3,4,5,6,47,56] [(5, g_i .u64 (Go.Dbr.u64_mul (x := UInt64.ofNat (List.length al)) (y := (8 : UInt64)) rfl rfl)), (8, g_i .u64 (Go.Dbr.u64_shr (x := (UInt64.ofNat (List.length al)) * (8 : UInt64)) (n := 16) rfl (by decide))), (9, g_i .u8 (Go.Dbr.u64_to_u8 (x := ((UInt64.ofNat (List.length al)) * (8 : UInt64)) >>> UInt64.ofNat 16) rfl))] 10 En222 fun ac223 En224 => ?_
  refine f_o ?_
  refine op_lit (d := some 57) (t := 23) (T := 5) (m := 1) (parts := #[(0, bv (UInt64.toUInt8 (((UInt64.ofNat (List.length al)) * (8 : UInt64)) >>> UInt64.ofNat 16)))]) (xs := bys [UInt64.toUInt8 (((UInt64.ofNat (List.length al)) * (8 : UInt64)) >>> UInt64.ofNat 16)]) (sz := 1) En224 (by kernel_rfl) (by kernel_rfl) rfl (by decide) Hv212 ?_
  intro ac226 wo227 bk225 En228 Hv229
  refine f_o ?_
  refine op_append (d := some 58) (t := 23) (tx := 23) (ty := 23) (k := 0) (p := List.length ((((((el ++ List.replicate 8 0) ++ [UInt64.toUInt8 (((UInt64.ofNat (List.length al)) * (8 : UInt64)) >>> UInt64.ofNat 56)]) ++ [UInt64.toUInt8 (((UInt64.ofNat (List.length al)) * (8 : UInt64)) >>> UInt64.ofNat 48)]) ++ [UInt64.toUInt8 (((UInt64.ofNat (List.length al)) * (8 : UInt64)) >>> UInt64.ofNat 40)]) ++ [UInt64.toUInt8 (((UInt64.ofNat (List.length al)) * (8 : UInt64)) >>> UInt64.ofNat 32)]) ++ [UInt64.toUInt8 (((UInt64.ofNat (List.length al)) * (8 : UInt64)) >>> UInt64.ofNat 24)])) (m := 1) (x := .slice (some ⟨bk225, 0, none⟩) 1 1) (bytes := 1) En228 (by kernel_rfl) Hv229 rfl (bys_len _) (Reads.src (size := 1) (tx := 23) (e' := 5) (by kernel_rfl) (Hv229.heap.reads (k := 10) rfl) rfl (fun e => by cases e) (bys_one _)) (by kernel_rfl) (z := .int .u8 0) (by kernel_rfl) rfl (by decide) (by omega) (by unfold maxLen; omega) ?_
  intro ac234 wo235 ao230 cp231 En236 Hv237 hnz _
  clear hnz
  rw [← bys_append] at Hv237
  have ehz232 : (List.length ((((((el ++ List.replicate 8 0) ++ [UInt64.toUInt8 (((UInt64.ofNat (List.length al)) * (8 : UInt64)) >>> UInt64.ofNat 56)]) ++ [UInt64.toUInt8 (((UInt64.ofNat (List.length al)) * (8 : UInt64)) >>> UInt64.ofNat 48)]) ++ [UInt64.toUInt8 (((UInt64.ofNat (List.length al)) * (8 : UInt64)) >>> UInt64.ofNat 40)]) ++ [UInt64.toUInt8 (((UInt64.ofNat (List.length al)) * (8 : UInt64)) >>> UInt64.ofNat 32)]) ++ [UInt64.toUInt8 (((UInt64.ofNat (List.length al)) * (8 : UInt64)) >>> UInt64.ofNat 24)])) + 1 = List.length (((((((el ++ List.replicate 8 0) ++ [UInt64.toUInt8 (((UInt64.ofNat (List.length al)) * (8 : UInt64)) >>> UInt64.ofNat 56)]) ++ [UInt64.toUInt8 (((UInt64.ofNat (List.length al)) * (8 : UInt64)) >>> UInt64.ofNat 48)]) ++ [UInt64.toUInt8 (((UInt64.ofNat (List.length al)) * (8 : UInt64)) >>> UInt64.ofNat 40)]) ++ [UInt64.toUInt8 (((UInt64.ofNat (List.length al)) * (8 : UInt64)) >>> UInt64.ofNat 32)]) ++ [UInt64.toUInt8 (((UInt64.ofNat (List.length al)) * (8 : UInt64)) >>> UInt64.ofNat 24)]) ++ [UInt64.toUInt8 (((UInt64.ofNat (List.length al)) * (8 : UInt64)) >>> UInt64.ofNat 16)]) := (by first | (simp; done) | (simp; omega) | omega)
  rw [ehz232] at En236
  refine d_e [0,2,3,4,5,6] [] En236 fun ac238 En239 => ?_
  refine block_normal ?_
  refine then_normal ?_
  refine d_r [0,2,3,4,5,6] [] En239 fun ac240 En241 => ?_
  refine then_normal ?_
  refine loop_once ?_
  refine wp_seq ?_
  refine wp_seq ?_
  refine d_r [0,2,3,4,5,6,44] [] En241 fun ac242 En243 => ?_
  refine then_normal ?_
  refine c_t En243 ?_
  refine wp_skip ?_
  refine then_normal ?_
  refine wp_seq ?_
  refine wp_block ?_
  refine region_from ?_
  refine d_k [0,2,3,4,5,6,47,50] [] 4 En243 fun ac244 En245 => ?_
  refine f_o ?_
  refine m_v 1 18 (uv64 (UInt64.ofNat (List.length al))) En245 Hv237 rfl (seg_skip (n := 1) (j := 17) rfl (seg_skip (n := 8) (j := 9) (u32s_lenh (S32_len _ _)) (seg_skip (n := 8) (j := 1) (u64s_lenh (S64_len _ _)) rfl))) fun ac246 En247 => ?_
  refine d_k [0,2,3,4,5,6,47,56] [(5, g_i .u64 (Go.Dbr.u64_mul (x := UInt64.ofNat (List.length al)) (y := (8 : UInt64)) rfl rfl)), (8, g_i .u64 (Go.Dbr.u64_shr (x := (UInt64.ofNat (List.length al)) * (8 : UInt64)) (n := 8) rfl (by decide))), (9, g_i .u8 (Go.Dbr.u64_to_u8 (x := ((UInt64.ofNat (List.length al)) * (8 : UInt64)) >>> UInt64.ofNat 8) rfl))] 10 En247 fun ac248 En249 => ?_
  refine f_o ?_
  refine op_lit (d := some 57) (t := 23) (T := 5) (m := 1) (parts := #[(0, bv (UInt64.toUInt8 (((UInt64.ofNat (List.length al)) * (8 : UInt64)) >>> UInt64.ofNat 8)))]) (xs := bys [UInt64.toUInt8 (((UInt64.ofNat (List.length al)) * (8 : UInt64)) >>> UInt64.ofNat 8)]) (sz := 1) En249 (by kernel_rfl) (by kernel_rfl) rfl (by decide) Hv237 ?_
  intro ac251 wo252 bk250 En253 Hv254
  refine f_o ?_
  refine op_append (d := some 58) (t := 23) (tx := 23) (ty := 23) (k := 0) (p := List.length (((((((el ++ List.replicate 8 0) ++ [UInt64.toUInt8 (((UInt64.ofNat (List.length al)) * (8 : UInt64)) >>> UInt64.ofNat 56)]) ++ [UInt64.toUInt8 (((UInt64.ofNat (List.length al)) * (8 : UInt64)) >>> UInt64.ofNat 48)]) ++ [UInt64.toUInt8 (((UInt64.ofNat (List.length al)) * (8 : UInt64)) >>> UInt64.ofNat 40)]) ++ [UInt64.toUInt8 (((UInt64.ofNat (List.length al)) * (8 : UInt64)) >>> UInt64.ofNat 32)]) ++ [UInt64.toUInt8 (((UInt64.ofNat (List.length al)) * (8 : UInt64)) >>> UInt64.ofNat 24)]) ++ [UInt64.toUInt8 (((UInt64.ofNat (List.length al)) * (8 : UInt64)) >>> UInt64.ofNat 16)])) (m := 1) (x := .slice (some ⟨bk250, 0, none⟩) 1 1) (bytes := 1) En253 (by kernel_rfl) Hv254 rfl (bys_len _) (Reads.src (size := 1) (tx := 23) (e' := 5) (by kernel_rfl) (Hv254.heap.reads (k := 11) rfl) rfl (fun e => by cases e) (bys_one _)) (by kernel_rfl) (z := .int .u8 0) (by kernel_rfl) rfl (by decide) (by omega) (by unfold maxLen; omega) ?_
  intro ac259 wo260 ao255 cp256 En261 Hv262 hnz _
  clear hnz
  rw [← bys_append] at Hv262
  have ehz257 : (List.length (((((((el ++ List.replicate 8 0) ++ [UInt64.toUInt8 (((UInt64.ofNat (List.length al)) * (8 : UInt64)) >>> UInt64.ofNat 56)]) ++ [UInt64.toUInt8 (((UInt64.ofNat (List.length al)) * (8 : UInt64)) >>> UInt64.ofNat 48)]) ++ [UInt64.toUInt8 (((UInt64.ofNat (List.length al)) * (8 : UInt64)) >>> UInt64.ofNat 40)]) ++ [UInt64.toUInt8 (((UInt64.ofNat (List.length al)) * (8 : UInt64)) >>> UInt64.ofNat 32)]) ++ [UInt64.toUInt8 (((UInt64.ofNat (List.length al)) * (8 : UInt64)) >>> UInt64.ofNat 24)]) ++ [UInt64.toUInt8 (((UInt64.ofNat (List.length al)) * (8 : UInt64)) >>> UInt64.ofNat 16)])) + 1 = List.length ((((((((el ++ List.replicate 8 0) ++ [UInt64.toUInt8 (((UInt64.ofNat (List.length al)) * (8 : UInt64)) >>> UInt64.ofNat 56)]) ++ [UInt64.toUInt8 (((UInt64.ofNat (List.length al)) * (8 : UInt64)) >>> UInt64.ofNat 48)]) ++ [UInt64.toUInt8 (((UInt64.ofNat (List.length al)) * (8 : UInt64)) >>> UInt64.ofNat 40)]) ++ [UInt64.toUInt8 (((UInt64.ofNat (List.length al)) * (8 : UInt64)) >>> UInt64.ofNat 32)]) ++ [UInt64.toUInt8 (((UInt64.ofNat (List.length al)) * (8 : UInt64)) >>> UInt64.ofNat 24)]) ++ [UInt64.toUInt8 (((UInt64.ofNat (List.length al)) * (8 : UInt64)) >>> UInt64.ofNat 16)]) ++ [UInt64.toUInt8 (((UInt64.ofNat (List.length al)) * (8 : UInt64)) >>> UInt64.ofNat 8)]) := (by first | (simp; done) | (simp; omega) | omega)
  rw [ehz257] at En261
  refine d_e [0,2,3,4,5,6] [] En261 fun ac263 En264 => ?_
  refine block_normal ?_
  refine then_normal ?_
  refine d_r [0,2,3,4,5,6] [] En264 fun ac265 En266 => ?_
  refine then_normal ?_
  refine loop_once ?_
  refine wp_seq ?_
  refine wp_seq ?_
  refine d_r [0,2,3,4,5,6,44] [] En266 fun ac267 En268 => ?_
  refine then_normal ?_
  refine c_t En268 ?_
  refine wp_skip ?_
  refine then_normal ?_
  refine wp_seq ?_
  refine wp_block ?_
  refine region_from ?_
  refine d_k [0,2,3,4,5,6,47,50] [] 4 En268 fun ac269 En270 => ?_
  refine f_o ?_
  refine m_v 1 18 (uv64 (UInt64.ofNat (List.length al))) En270 Hv262 rfl (seg_skip (n := 1) (j := 17) rfl (seg_skip (n := 8) (j := 9) (u32s_lenh (S32_len _ _)) (seg_skip (n := 8) (j := 1) (u64s_lenh (S64_len _ _)) rfl))) fun ac271 En272 => ?_
  refine d_k [0,2,3,4,5,6,47,56] [(5, g_i .u64 (Go.Dbr.u64_mul (x := UInt64.ofNat (List.length al)) (y := (8 : UInt64)) rfl rfl)), (8, g_i .u64 (Go.Dbr.u64_shr (x := (UInt64.ofNat (List.length al)) * (8 : UInt64)) (n := 0) rfl (by decide))), (9, g_i .u8 (Go.Dbr.u64_to_u8 (x := ((UInt64.ofNat (List.length al)) * (8 : UInt64)) >>> UInt64.ofNat 0) rfl))] 10 En272 fun ac273 En274 => ?_
  refine f_o ?_
  refine op_lit (d := some 57) (t := 23) (T := 5) (m := 1) (parts := #[(0, bv (UInt64.toUInt8 (((UInt64.ofNat (List.length al)) * (8 : UInt64)) >>> UInt64.ofNat 0)))]) (xs := bys [UInt64.toUInt8 (((UInt64.ofNat (List.length al)) * (8 : UInt64)) >>> UInt64.ofNat 0)]) (sz := 1) En274 (by kernel_rfl) (by kernel_rfl) rfl (by decide) Hv262 ?_
  intro ac276 wo277 bk275 En278 Hv279
  refine f_o ?_
  refine op_append (d := some 58) (t := 23) (tx := 23) (ty := 23) (k := 0) (p := List.length ((((((((el ++ List.replicate 8 0) ++ [UInt64.toUInt8 (((UInt64.ofNat (List.length al)) * (8 : UInt64)) >>> UInt64.ofNat 56)]) ++ [UInt64.toUInt8 (((UInt64.ofNat (List.length al)) * (8 : UInt64)) >>> UInt64.ofNat 48)]) ++ [UInt64.toUInt8 (((UInt64.ofNat (List.length al)) * (8 : UInt64)) >>> UInt64.ofNat 40)]) ++ [UInt64.toUInt8 (((UInt64.ofNat (List.length al)) * (8 : UInt64)) >>> UInt64.ofNat 32)]) ++ [UInt64.toUInt8 (((UInt64.ofNat (List.length al)) * (8 : UInt64)) >>> UInt64.ofNat 24)]) ++ [UInt64.toUInt8 (((UInt64.ofNat (List.length al)) * (8 : UInt64)) >>> UInt64.ofNat 16)]) ++ [UInt64.toUInt8 (((UInt64.ofNat (List.length al)) * (8 : UInt64)) >>> UInt64.ofNat 8)])) (m := 1) (x := .slice (some ⟨bk275, 0, none⟩) 1 1) (bytes := 1) En278 (by kernel_rfl) Hv279 rfl (bys_len _) (Reads.src (size := 1) (tx := 23) (e' := 5) (by kernel_rfl) (Hv279.heap.reads (k := 12) rfl) rfl (fun e => by cases e) (bys_one _)) (by kernel_rfl) (z := .int .u8 0) (by kernel_rfl) rfl (by decide) (by omega) (by unfold maxLen; omega) ?_
  intro ac284 wo285 ao280 cp281 En286 Hv287 hnz _
  clear hnz
  rw [← bys_append] at Hv287
  have ehz282 : (List.length ((((((((el ++ List.replicate 8 0) ++ [UInt64.toUInt8 (((UInt64.ofNat (List.length al)) * (8 : UInt64)) >>> UInt64.ofNat 56)]) ++ [UInt64.toUInt8 (((UInt64.ofNat (List.length al)) * (8 : UInt64)) >>> UInt64.ofNat 48)]) ++ [UInt64.toUInt8 (((UInt64.ofNat (List.length al)) * (8 : UInt64)) >>> UInt64.ofNat 40)]) ++ [UInt64.toUInt8 (((UInt64.ofNat (List.length al)) * (8 : UInt64)) >>> UInt64.ofNat 32)]) ++ [UInt64.toUInt8 (((UInt64.ofNat (List.length al)) * (8 : UInt64)) >>> UInt64.ofNat 24)]) ++ [UInt64.toUInt8 (((UInt64.ofNat (List.length al)) * (8 : UInt64)) >>> UInt64.ofNat 16)]) ++ [UInt64.toUInt8 (((UInt64.ofNat (List.length al)) * (8 : UInt64)) >>> UInt64.ofNat 8)])) + 1 = List.length (((((((((el ++ List.replicate 8 0) ++ [UInt64.toUInt8 (((UInt64.ofNat (List.length al)) * (8 : UInt64)) >>> UInt64.ofNat 56)]) ++ [UInt64.toUInt8 (((UInt64.ofNat (List.length al)) * (8 : UInt64)) >>> UInt64.ofNat 48)]) ++ [UInt64.toUInt8 (((UInt64.ofNat (List.length al)) * (8 : UInt64)) >>> UInt64.ofNat 40)]) ++ [UInt64.toUInt8 (((UInt64.ofNat (List.length al)) * (8 : UInt64)) >>> UInt64.ofNat 32)]) ++ [UInt64.toUInt8 (((UInt64.ofNat (List.length al)) * (8 : UInt64)) >>> UInt64.ofNat 24)]) ++ [UInt64.toUInt8 (((UInt64.ofNat (List.length al)) * (8 : UInt64)) >>> UInt64.ofNat 16)]) ++ [UInt64.toUInt8 (((UInt64.ofNat (List.length al)) * (8 : UInt64)) >>> UInt64.ofNat 8)]) ++ [UInt64.toUInt8 (((UInt64.ofNat (List.length al)) * (8 : UInt64)) >>> UInt64.ofNat 0)]) := (by first | (simp; done) | (simp; omega) | omega)
  rw [ehz282] at En286
  refine d_e [0,2,3,4,5,6] [] En286 fun ac288 En289 => ?_
  refine block_normal ?_
  refine then_normal ?_
  refine d_r [0,2,3,4,5,6] [] En289 fun ac290 En291 => ?_
  refine then_normal ?_
  refine loop_once ?_
  refine wp_seq ?_
  refine wp_seq ?_
  refine d_r [0,2,3,4,5,6,44] [] En291 fun ac292 En293 => ?_
  refine then_normal ?_
  refine c_f En293 ?_
  refine wp_exit ?_
  refine then_exit ?_
  refine then_exit ?_
  refine block_exit ?_
  refine then_normal ?_
  refine wp_seq ?_
  have hpe : ((((((((el ++ List.replicate 8 0) ++ [UInt64.toUInt8 (((UInt64.ofNat (List.length al)) * (8 : UInt64)) >>> UInt64.ofNat 56)]) ++ [UInt64.toUInt8 (((UInt64.ofNat (List.length al)) * (8 : UInt64)) >>> UInt64.ofNat 48)]) ++ [UInt64.toUInt8 (((UInt64.ofNat (List.length al)) * (8 : UInt64)) >>> UInt64.ofNat 40)]) ++ [UInt64.toUInt8 (((UInt64.ofNat (List.length al)) * (8 : UInt64)) >>> UInt64.ofNat 32)]) ++ [UInt64.toUInt8 (((UInt64.ofNat (List.length al)) * (8 : UInt64)) >>> UInt64.ofNat 24)]) ++ [UInt64.toUInt8 (((UInt64.ofNat (List.length al)) * (8 : UInt64)) >>> UInt64.ofNat 16)]) ++ [UInt64.toUInt8 (((UInt64.ofNat (List.length al)) * (8 : UInt64)) >>> UInt64.ofNat 8)]) ++ [UInt64.toUInt8 (((UInt64.ofNat (List.length al)) * (8 : UInt64)) >>> UInt64.ofNat 0)] = padH h al := by rw [heel, hjp]; simp [padH, padB, be8, show ¬ h = 1 by omega]
  rw [hpe] at Hv287
  rw [hpe] at En293
  have hpl := padH_len h al
  have hrt := restH_lt h al
  refine region_from ?_
  refine d_k [0,2,3,4,5,6,59,60] [] 2 En293 fun ac294 En295 => ?_
  refine f_o ?_
  refine c_l [3,4] (M := [.box bq5 (([.int .i64 h] : List Value) ++ ((u32s (S32 h al)) ++ ((u64s (S64 h al)) ++ ([.slice aoq5 (List.length (restH h al)) coq5, uv64 (UInt64.ofNat (List.length al))] : List Value)))) 58, .vec aoq5 coq5 1 (bys (restH h al)) 5]) En295 Hv287 (fun hM297 => write_go _ bq5 h (.inr hh2) al aoq5 coq5 ao280 (List.length (padH h al)) cp281 (padH h al) (by first | rfl | (simp; done) | (simp; omega) | omega) (bys_in Hv287.heap (k := 0) rfl [3, 4] (by kernel_rfl) rfl (by first | omega | (simp; done) | (simp; omega))) (by omega) ((gk32.ev Hv287).pick [3, 4] (by kernel_rfl)) ((gk64.ev Hv287).pick [3, 4] (by kernel_rfl)) hM297) ?_
  rintro _ wo298 ⟨aoq296, coq296, rfl, he299⟩
  refine ⟨_, _, [.box bq5 (([.int .i64 h] : List Value) ++ ((u32s (S32 h (al ++ (padH h al)))) ++ ((u64s (S64 h (al ++ (padH h al)))) ++ ([.slice aoq296 (List.length (restH h (al ++ (padH h al)))) coq296, uv64 (UInt64.ofNat (List.length (al ++ (padH h al))))] : List Value)))) 58, .vec aoq296 coq296 1 (bys (restH h (al ++ (padH h al)))) 5, .vec ao280 cp281 1 (bys (padH h al)) 5, .box bd (([.int .i64 h] : List Value) ++ ((u32s (S32 h al)) ++ ((u64s (S64 h al)) ++ ([.slice ar (List.length (restH h al)) cr, uv64 (UInt64.ofNat (List.length al))] : List Value)))) 58, .vec ar cr 1 (bys (restH h al)) 5, .vec (some ⟨bk100, 0, none⟩) 1 1 (bys [UInt64.toUInt8 (((UInt64.ofNat (List.length al)) * (8 : UInt64)) >>> UInt64.ofNat 56)]) 5, .vec (some ⟨bk125, 0, none⟩) 1 1 (bys [UInt64.toUInt8 (((UInt64.ofNat (List.length al)) * (8 : UInt64)) >>> UInt64.ofNat 48)]) 5, .vec (some ⟨bk150, 0, none⟩) 1 1 (bys [UInt64.toUInt8 (((UInt64.ofNat (List.length al)) * (8 : UInt64)) >>> UInt64.ofNat 40)]) 5, .vec (some ⟨bk175, 0, none⟩) 1 1 (bys [UInt64.toUInt8 (((UInt64.ofNat (List.length al)) * (8 : UInt64)) >>> UInt64.ofNat 32)]) 5, .vec (some ⟨bk200, 0, none⟩) 1 1 (bys [UInt64.toUInt8 (((UInt64.ofNat (List.length al)) * (8 : UInt64)) >>> UInt64.ofNat 24)]) 5, .vec (some ⟨bk225, 0, none⟩) 1 1 (bys [UInt64.toUInt8 (((UInt64.ofNat (List.length al)) * (8 : UInt64)) >>> UInt64.ofNat 16)]) 5, .vec (some ⟨bk250, 0, none⟩) 1 1 (bys [UInt64.toUInt8 (((UInt64.ofNat (List.length al)) * (8 : UInt64)) >>> UInt64.ofNat 8)]) 5, .vec (some ⟨bk275, 0, none⟩) 1 1 (bys [UInt64.toUInt8 (((UInt64.ofNat (List.length al)) * (8 : UInt64)) >>> UInt64.ofNat 0)]) 5], rfl, he299, by kernel_rfl, fun ac301 En302 Hv303 => ?_⟩
  refine f_e ?_
  refine then_normal ?_
  refine wp_seq ?_
  refine d_r [0,2,3,4,5,6,7] [] En302 fun ac304 En305 => ?_
  refine then_normal ?_
  refine wp_seq ?_
  refine wp_seq ?_
  refine d_r [0,2,3,4,5,6,7,62] [] En305 fun ac306 En307 => ?_
  refine then_normal ?_
  refine wp_block ?_
  have Hv308 := Ev.nil (sz := 1) (T := 5) Hv303
  refine loop_m (fun ms309 ac wo => ∃ (i : Nat) (a7 : Option Addr) (c7 : Nat) (ol : List UInt8), ms309 = (8 - i : Nat) ∧ Env ac 95 [(0, pt bd), (2, .slice none 0 0), (3, pt bq5), (4, .int .i64 128), (5, .slice ao280 (List.length (padH h al)) cp281), (6, .int .i64 (-1)), (7, .slice a7 (List.length ol) c7), (62, ni i)] ∧ Ev w [.box bd (([.int .i64 h] : List Value) ++ ((u32s (S32 h al)) ++ ((u64s (S64 h al)) ++ ([.slice ar (List.length (restH h al)) cr, uv64 (UInt64.ofNat (List.length al))] : List Value)))) 58, .vec ar cr 1 (bys (restH h al)) 5] wo [.vec a7 c7 1 (bys ol) 5, .box bq5 (([.int .i64 h] : List Value) ++ ((u32s (S32 h (al ++ (padH h al)))) ++ ((u64s (S64 h (al ++ (padH h al)))) ++ ([.slice aoq296 (List.length (restH h (al ++ (padH h al)))) coq296, uv64 (UInt64.ofNat (List.length (al ++ (padH h al))))] : List Value)))) 58, .vec aoq296 coq296 1 (bys (restH h (al ++ (padH h al)))) 5, .vec ao280 cp281 1 (bys (padH h al)) 5, .box bd (([.int .i64 h] : List Value) ++ ((u32s (S32 h al)) ++ ((u64s (S64 h al)) ++ ([.slice ar (List.length (restH h al)) cr, uv64 (UInt64.ofNat (List.length al))] : List Value)))) 58, .vec ar cr 1 (bys (restH h al)) 5] ∧ (i ≤ 8) ∧ (ol = out64 (S64 h (al ++ padH h al)) i)) ⟨_, 0, none, 0, [], rfl, En307.sb, Hv308.pk [13, 0, 1, 2, 3, 4], by omega, rfl⟩ ?_
  rintro mm315 ac311 wo312 ⟨i, a7, c7, ol, rfl, En313, Hv314, hi, heo⟩
  refine wp_seq ?_
  refine d_r [0,2,3,4,5,6,7,62,63] [] En313 fun ac316 En317 => ?_
  refine then_normal ?_
  refine wp_seq ?_
  refine c_d (((i : Nat) : Int) < (8 : Int)) En317 (fun hc318 => ?_) (fun hc318 => ?_)
  ·
   refine wp_skip ?_
   refine then_normal ?_
   refine wp_seq ?_
   refine wp_block ?_
   refine wp_seq ?_
   refine d_r [0,2,3,4,5,6,7,8,62] [] En317 fun ac319 En320 => ?_
   refine then_normal ?_
   refine wp_seq ?_
   have hol : List.length ol = 8 * i := by rw [heo, out64_len]
   refine region_from ?_
   refine d_k [0,2,3,4,5,6,7,8,62,67] [] 3 En320 fun ac321 En322 => ?_
   refine f_o ?_
   refine m_v 4 0 (.int .i64 h) En322 Hv314 rfl (seg_in rfl) fun ac323 En324 => ?_
   refine d_e [0,2,3,4,5,6,7,8,62,69] [(4, g_b (show (h == (1 : Int)) = false from beq_eq_false_iff_ne.2 (by omega)))] En324 fun ac325 En326 => ?_
   refine then_normal ?_
   refine c_f En326 ?_
   have hol : List.length ol = 8 * i := by rw [heo, out64_len]
   refine region_from ?_
   refine d_k [0,2,3,4,5,6,7,8,62,79,81,83] [] 5 En326 fun ac327 En328 => ?_
   refine f_o ?_
   refine q_v (x := Instr.indexAt 54 (.pointer (some ⟨bq5, 9, none⟩)) (ni i)) (v := .pointer (some ⟨bq5, 9 + i, none⟩)) En328 (Go.Dbr.run_indexarr (e := 53) (sz := 1) (m := 8) (j := i) (o := 9 + i) (by kernel_rfl) (by kernel_rfl) (by omega) (by omega) (by omega) _) fun ac329 En330 => ?_
   refine f_o ?_
   have hb331 : i < List.length (S64 h (al ++ (padH h al))) := by rw [(S64_len _ _)]; omega
   refine m_v 1 (9 + i) (uv64 (List.getD (S64 h (al ++ (padH h al))) i 0)) En330 Hv314 rfl (seg_eq (by omega) (seg_skip (n := 1) (j := 8 + (i)) rfl (seg_skip (n := 8) (j := i) (u32s_lenh (S32_len _ _)) (seg_in (u64s_getD hb331))))) fun ac332 En333 => ?_
   refine f_o ?_
   refine c_l [0] (M := [.vec a7 c7 1 (bys ol) 5]) En333 Hv314 (fun hM335 => spread8_go _ a7 c7 ol (List.getD (S64 h (al ++ (padH h al))) i 0) (by omega) hM335) ?_
   rintro _ wo336 ⟨aoq334, coq334, rfl, he337⟩
   refine ⟨_, _, [.vec aoq334 coq334 1 (bys (ol ++ be8 (List.getD (S64 h (al ++ (padH h al))) i 0))) 5, .box bq5 (([.int .i64 h] : List Value) ++ ((u32s (S32 h (al ++ (padH h al)))) ++ ((u64s (S64 h (al ++ (padH h al)))) ++ ([.slice aoq296 (List.length (restH h (al ++ (padH h al)))) coq296, uv64 (UInt64.ofNat (List.length (al ++ (padH h al))))] : List Value)))) 58, .vec aoq296 coq296 1 (bys (restH h (al ++ (padH h al)))) 5, .vec ao280 cp281 1 (bys (padH h al)) 5, .box bd (([.int .i64 h] : List Value) ++ ((u32s (S32 h al)) ++ ((u64s (S64 h al)) ++ ([.slice ar (List.length (restH h al)) cr, uv64 (UInt64.ofNat (List.length al))] : List Value)))) 58, .vec ar cr 1 (bys (restH h al)) 5], rfl, he337, by kernel_rfl, fun ac339 En340 Hv341 => ?_⟩
   refine d_e [0,2,3,4,5,6,7,8,62] [] En340 fun ac342 En343 => ?_
   refine block_normal ?_
   refine then_normal ?_
   refine d_r [0,2,3,4,5,6,7,8,62] [(0, g_n (w_a i 1))] En343 fun ac344 En345 => ?_
   refine then_normal ?_
   refine ⟨_, ⟨i + 1, aoq334, coq334, (ol ++ be8 (List.getD (S64 h (al ++ (padH h al))) i 0)), rfl, En345.sb, Hv341.pk [0, 1, 2, 3, 4, 5], by omega, by rw [heo]; rfl⟩, ?_⟩
   omega
  ·
   refine wp_exit ?_
   refine then_exit ?_
   refine then_exit ?_
   refine block_exit ?_
   refine then_normal ?_
   refine wp_seq ?_
   have hol : List.length ol = 8 * i := by rw [heo, out64_len]
   have hi8 : i = 8 := by omega
   have hsz := size_le h
   have hsz1 : sizeOfH 1 = 32 := rfl
   refine region_from ?_
   refine d_k [0,2,3,4,5,6,7,62,88,91] [] 4 En317 fun ac346 En347 => ?_
   refine f_o ?_
   refine m_v 4 0 (.int .i64 h) En347 Hv314 rfl (seg_in rfl) fun ac348 En349 => ?_
   refine f_o ?_
   refine c_p En349 Hv314 (size_go _ h) fun ac354 wo351 En355 Hv356 => ?_
   refine f_o ?_
   have hcap357 := bys_vcap Hv356.heap (k := 0) rfl
   refine op_slice0 (d := some 94) (t := 23) (e := 5) (sz := 1) (len := List.length ol) (cap := c7) (hi := sizeOfH h) (ao := a7) (lov := none) (hiv := (some (ni (sizeOfH h)))) En355 (by kernel_rfl) (by kernel_rfl) (by kernel_rfl) (by omega) (.inl ⟨rfl, rfl⟩) (.inr ⟨.i64, rfl⟩) ?_
   intro ac358 En359
   have Hv360 : Ev w [.box bd (([.int .i64 h] : List Value) ++ ((u32s (S32 h al)) ++ ((u64s (S64 h al)) ++ ([.slice ar (List.length (restH h al)) cr, uv64 (UInt64.ofNat (List.length al))] : List Value)))) 58, .vec ar cr 1 (bys (restH h al)) 5] wo351 [.vec a7 c7 1 (bys (List.take (sizeOfH h) ol)) 5, .box bq5 (([.int .i64 h] : List Value) ++ ((u32s (S32 h (al ++ (padH h al)))) ++ ((u64s (S64 h (al ++ (padH h al)))) ++ ([.slice aoq296 (List.length (restH h (al ++ (padH h al)))) coq296, uv64 (UInt64.ofNat (List.length (al ++ (padH h al))))] : List Value)))) 58, .vec aoq296 coq296 1 (bys (restH h (al ++ (padH h al)))) 5, .vec ao280 cp281 1 (bys (padH h al)) 5, .box bd (([.int .i64 h] : List Value) ++ ((u32s (S32 h al)) ++ ((u64s (S64 h al)) ++ ([.slice ar (List.length (restH h al)) cr, uv64 (UInt64.ofNat (List.length al))] : List Value)))) 58, .vec ar cr 1 (bys (restH h al)) 5] := by
    have h := Ev.cut (k := 0) (n := List.length ol) (sz := 1) Hv356 rfl (bys_len _) (by omega) 0 (sizeOfH h) (by omega) (by omega)
    rw [cutAt_zero] at h
    rw [bys_cut0] at h
    exact h
   have el361 : sizeOfH h = List.length (List.take (sizeOfH h) ol) := by first | (simp; done) | (rw [List.length_take]; omega) | (rw [List.length_drop]; omega) | (simp; omega)
   rw [el361] at En359
   refine d_e [0,2,3,4,5,6,7,62] [] En359 fun ac362 En363 => ?_
   refine then_normal ?_
   refine wp_ret ?_
   refine d_ret1 (t := 2) (v := .slice a7 (List.length (List.take (sizeOfH h) ol)) c7) En363 (by kernel_rfl) (by kernel_rfl) ?_
   have hse : List.take (sizeOfH h) ol = sumF h al := by rw [heo, hi8]; unfold sumF; rw [if_neg (by omega)]
   have Hf364 := Hv360.pk [4, 5, 0] (M := [.box bd (([.int .i64 h] : List Value) ++ ((u32s (S32 h al)) ++ ((u64s (S64 h al)) ++ ([.slice ar (List.length (restH h al)) cr, uv64 (UInt64.ofNat (List.length al))] : List Value)))) 58, .vec ar cr 1 (bys (restH h al)) 5, .vec a7 c7 1 (bys (List.take (sizeOfH h) ol)) 5])
   rw [hse] at Hf364
   exact ⟨_, _, by rw [hse], Hf364⟩

end Go.Proofs.YtbpihljkkkeijaaDoor
