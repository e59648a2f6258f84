/- Layer 4: roots. -/
import Derived.Test.YtamdjonejijndaaF12
import Derived.Test.YtamdjonejijndaaF14
namespace Go.Proofs.Ytamdjonejijndaa
open Go.Dbr
set_option maxRecDepth 100000
set_option maxHeartbeats 2000000
set_option linter.unusedVariables false
set_option linter.unusedSimpArgs false

theorem sh_1 {x y : UInt64} : ((x >>> UInt64.ofNat 1) ||| (y <<< UInt64.ofNat 63)).toNat = x.toNat / 2 + y.toNat % 2 * 9223372036854775808 := by
  have hx := lt64 x
  have hy := lt64 y
  rw [UInt64.toNat_or, shr_n x (by decide), UInt64.toNat_shiftLeft, show (UInt64.ofNat 63).toNat % 64 = 63 from rfl]
  have e : y.toNat <<< 63 % 2 ^ 64 = (y.toNat % 2) <<< 63 := by rw [Nat.shiftLeft_eq, Nat.shiftLeft_eq]; omega
  rw [e, Nat.or_comm, ← Nat.shiftLeft_add_eq_or_of_lt (by omega), Nat.shiftLeft_eq]
  omega
theorem shl_1 (a0 a1 a2 a3 : UInt64) : [((a0 >>> UInt64.ofNat 1) ||| (a1 <<< UInt64.ofNat 63)), ((a1 >>> UInt64.ofNat 1) ||| (a2 <<< UInt64.ofNat 63)), ((a2 >>> UInt64.ofNat 1) ||| (a3 <<< UInt64.ofNat 63)), a3 >>> UInt64.ofNat 1] = nd (nv [a0, a1, a2, a3] / 2) := by
  refine nv_inj rfl (nds_len _ _) ?_
  have h0 := lt64 a0; have h1 := lt64 a1; have h2 := lt64 a2; have h3 := lt64 a3
  rw [nd_val, nv4, nv4, sh_1, sh_1, sh_1, shr_n a3 (by decide)]
  simp only [W256]
  omega

theorem sh_2 {x y : UInt64} : ((x >>> UInt64.ofNat 2) ||| (y <<< UInt64.ofNat 62)).toNat = x.toNat / 4 + y.toNat % 4 * 4611686018427387904 := by
  have hx := lt64 x
  have hy := lt64 y
  rw [UInt64.toNat_or, shr_n x (by decide), UInt64.toNat_shiftLeft, show (UInt64.ofNat 62).toNat % 64 = 62 from rfl]
  have e : y.toNat <<< 62 % 2 ^ 64 = (y.toNat % 4) <<< 62 := by rw [Nat.shiftLeft_eq, Nat.shiftLeft_eq]; omega
  rw [e, Nat.or_comm, ← Nat.shiftLeft_add_eq_or_of_lt (by omega), Nat.shiftLeft_eq]
  omega
theorem shl_2 (a0 a1 a2 a3 : UInt64) : [((a0 >>> UInt64.ofNat 2) ||| (a1 <<< UInt64.ofNat 62)), ((a1 >>> UInt64.ofNat 2) ||| (a2 <<< UInt64.ofNat 62)), ((a2 >>> UInt64.ofNat 2) ||| (a3 <<< UInt64.ofNat 62)), a3 >>> UInt64.ofNat 2] = nd (nv [a0, a1, a2, a3] / 4) := by
  refine nv_inj rfl (nds_len _ _) ?_
  have h0 := lt64 a0; have h1 := lt64 a1; have h2 := lt64 a2; have h3 := lt64 a3
  rw [nd_val, nv4, nv4, sh_2, sh_2, sh_2, shr_n a3 (by decide)]
  simp only [W256]
  omega

theorem sh_3 {x y : UInt64} : ((x >>> UInt64.ofNat 3) ||| (y <<< UInt64.ofNat 61)).toNat = x.toNat / 8 + y.toNat % 8 * 2305843009213693952 := by
  have hx := lt64 x
  have hy := lt64 y
  rw [UInt64.toNat_or, shr_n x (by decide), UInt64.toNat_shiftLeft, show (UInt64.ofNat 61).toNat % 64 = 61 from rfl]
  have e : y.toNat <<< 61 % 2 ^ 64 = (y.toNat % 8) <<< 61 := by rw [Nat.shiftLeft_eq, Nat.shiftLeft_eq]; omega
  rw [e, Nat.or_comm, ← Nat.shiftLeft_add_eq_or_of_lt (by omega), Nat.shiftLeft_eq]
  omega
theorem shl_3 (a0 a1 a2 a3 : UInt64) : [((a0 >>> UInt64.ofNat 3) ||| (a1 <<< UInt64.ofNat 61)), ((a1 >>> UInt64.ofNat 3) ||| (a2 <<< UInt64.ofNat 61)), ((a2 >>> UInt64.ofNat 3) ||| (a3 <<< UInt64.ofNat 61)), a3 >>> UInt64.ofNat 3] = nd (nv [a0, a1, a2, a3] / 8) := by
  refine nv_inj rfl (nds_len _ _) ?_
  have h0 := lt64 a0; have h1 := lt64 a1; have h2 := lt64 a2; have h3 := lt64 a3
  rw [nd_val, nv4, nv4, sh_3, sh_3, sh_3, shr_n a3 (by decide)]
  simp only [W256]
  omega

theorem shift24 (w : World) (a0 a1 a2 a3 : UInt64) : Calls Try.prog 44 #[.agg #[uv64 a0, uv64 a1, uv64 a2, uv64 a3], .int .i64 2] w fun e w' => e = .returned (.agg (List.toArray (u64s (nd (nv [a0, a1, a2, a3] / 4))))) ∧ Ev w [] w' [] := by
 refine d_0 [(0, .agg #[uv64 a0, uv64 a1, uv64 a2, uv64 a3]), (1, .int .i64 2)] 31 Go.Proofs.Try.func44 Go.Proofs.Try.ntmps44 (Heap.nil _) fun act0 En0 Hv0 => ?_
 refine wp_seq ?_
 refine region_from ?_
 refine f_o ?_
 refine m_m 25 [uv64 a0, uv64 a1, uv64 a2, uv64 a3] En0 Hv0 fun ac2 wo3 bk1 En4 Hv5 => ?_
 refine f_o ?_
 refine m_z 25 (u64s (List.replicate 4 0)) En4 Hv5 fun ac7 wo8 bk6 En9 Hv10 => ?_
 refine f_e ?_
 refine then_normal ?_
 refine wp_seq ?_
 refine d_s [1,2,4,6] [] En9 fun ac11 En12 => ?_
 refine wp_block ?_
 refine loop_enter ?_
 refine loop_once ?_
 refine d_s [1,2,4,6,7] [] En12 fun ac13 En14 => ?_
 refine wp_seq ?_
 refine c_t En14 ?_
 refine wp_skip ?_
 refine then_normal ?_
 refine wp_seq ?_
 refine wp_block ?_
 refine d_s [1,2,4,5,6] [] En14 fun ac15 En16 => ?_
 refine wp_seq ?_
 refine region_from ?_
 refine d_k [1,2,4,5,6,9,10] [] 2 En16 fun ac17 En18 => ?_
 refine f_o ?_
 refine m_l 0 En18 Hv10 fun ac19 En20 => ?_
 refine d_k [1,2,4,5,6,13,14] [(4, g_i .u64 (Go.Dbr.u64_shr (x := a0) (n := 2) rfl (by decide)))] 6 En20 fun ac21 En22 => ?_
 refine f_o ?_
 refine m_s 0 [.box bk1 [uv64 (a0 >>> UInt64.ofNat 2), uv64 a1, uv64 a2, uv64 a3] 25, .box bk6 (u64s (List.replicate 4 0)) 25] En22 Hv10 fun ac23 wo24 En25 Hv26 => ?_
 refine f_e ?_
 refine then_normal ?_
 refine d_s [1,2,4,5,6,16] [] En25 fun ac27 En28 => ?_
 refine c_t En28 ?_
 refine r_c (fun ac wo => Env ac 31 [(1, .int .i64 2), (2, pt bk1), (4, pt bk6), (5, .int .i64 0), (6, .int .i64 0)] ∧ Ev w [] wo [.box bk1 [uv64 ((a0 >>> UInt64.ofNat 2) ||| (a1 <<< UInt64.ofNat 62)), uv64 a1, uv64 a2, uv64 a3] 25, .box bk6 (u64s (List.replicate 4 0)) 25]) ?_ ?_
 ·
  refine h_s (fun wv => Ev w [] wv [.box bk1 [uv64 (a0 >>> UInt64.ofNat 2), uv64 a1, uv64 a2, uv64 a3] 25]) [12] 13 ?_
  have wo29 := Hv26.trans (Ev.drew Hv26.heap)
  refine q_s [0,1] [] 11 En28 (wo29.pk [0]) fun ac68 En69 => ?_
  refine q_l 0 2 En69 (wo29.pk [0]) fun ac70 En71 => ?_
  refine q_s [3,4,5] [] 7 En71 (wo29.pk [0]) fun ac72 En73 => ?_
  refine q_l 0 6 En73 (wo29.pk [0]) fun ac74 En75 => ?_
  refine q_s [7,8,9,10,11] [(9, g_i .u64 (Go.Dbr.u64_shl (x := a1) (n := 62) rfl (by decide))), (10, g_i .u64 (Go.Dbr.u64_or (x := a0 >>> UInt64.ofNat 2) (y := a1 <<< UInt64.ofNat 62) rfl rfl))] 1 En75 (wo29.pk [0]) fun ac76 En77 => ?_
  refine q_t 12 ?_
  refine m_s 0 [.box bk1 [uv64 ((a0 >>> UInt64.ofNat 2) ||| (a1 <<< UInt64.ofNat 62)), uv64 a1, uv64 a2, uv64 a3] 25, .box bk6 (u64s (List.replicate 4 0)) 25] En77 wo29 fun ac78 wo79 En80 Hv81 => ?_
  refine ⟨q_y, ?_⟩
  exact h_e ⟨En80.sb, Hv81.pk [0, 1]⟩
 rintro ac82 wo83 ⟨En84, Hv85⟩
 refine block_normal ?_
 refine then_normal ?_
 refine d_r [1,2,4,5,6] [] En84 fun ac86 En87 => ?_
 refine then_normal ?_
 refine loop_once ?_
 refine d_s [1,2,4,5,6,7] [] En87 fun ac88 En89 => ?_
 refine wp_seq ?_
 refine c_t En89 ?_
 refine wp_skip ?_
 refine then_normal ?_
 refine wp_seq ?_
 refine wp_block ?_
 refine d_s [1,2,4,5,6] [] En89 fun ac90 En91 => ?_
 refine wp_seq ?_
 refine region_from ?_
 refine d_k [1,2,4,5,6,9,10] [] 2 En91 fun ac92 En93 => ?_
 refine f_o ?_
 refine m_l 0 En93 Hv85 fun ac94 En95 => ?_
 refine d_k [1,2,4,5,6,13,14] [(4, g_i .u64 (Go.Dbr.u64_shr (x := a1) (n := 2) rfl (by decide)))] 6 En95 fun ac96 En97 => ?_
 refine f_o ?_
 refine m_s 0 [.box bk1 [uv64 ((a0 >>> UInt64.ofNat 2) ||| (a1 <<< UInt64.ofNat 62)), uv64 (a1 >>> UInt64.ofNat 2), uv64 a2, uv64 a3] 25, .box bk6 (u64s (List.replicate 4 0)) 25] En97 Hv85 fun ac98 wo99 En100 Hv101 => ?_
 refine f_e ?_
 refine then_normal ?_
 refine d_s [1,2,4,5,6,16] [] En100 fun ac102 En103 => ?_
 refine c_t En103 ?_
 refine r_c (fun ac wo => Env ac 31 [(1, .int .i64 2), (2, pt bk1), (4, pt bk6), (5, .int .i64 1), (6, .int .i64 1)] ∧ Ev w [] wo [.box bk1 [uv64 ((a0 >>> UInt64.ofNat 2) ||| (a1 <<< UInt64.ofNat 62)), uv64 ((a1 >>> UInt64.ofNat 2) ||| (a2 <<< UInt64.ofNat 62)), uv64 a2, uv64 a3] 25, .box bk6 (u64s (List.replicate 4 0)) 25]) ?_ ?_
 ·
  refine h_s (fun wv => Ev w [] wv [.box bk1 [uv64 ((a0 >>> UInt64.ofNat 2) ||| (a1 <<< UInt64.ofNat 62)), uv64 (a1 >>> UInt64.ofNat 2), uv64 a2, uv64 a3] 25]) [12] 13 ?_
  have wo104 := Hv101.trans (Ev.drew Hv101.heap)
  refine q_s [0,1] [] 11 En103 (wo104.pk [0]) fun ac143 En144 => ?_
  refine q_l 0 2 En144 (wo104.pk [0]) fun ac145 En146 => ?_
  refine q_s [3,4,5] [] 7 En146 (wo104.pk [0]) fun ac147 En148 => ?_
  refine q_l 0 6 En148 (wo104.pk [0]) fun ac149 En150 => ?_
  refine q_s [7,8,9,10,11] [(9, g_i .u64 (Go.Dbr.u64_shl (x := a2) (n := 62) rfl (by decide))), (10, g_i .u64 (Go.Dbr.u64_or (x := a1 >>> UInt64.ofNat 2) (y := a2 <<< UInt64.ofNat 62) rfl rfl))] 1 En150 (wo104.pk [0]) fun ac151 En152 => ?_
  refine q_t 12 ?_
  refine m_s 0 [.box bk1 [uv64 ((a0 >>> UInt64.ofNat 2) ||| (a1 <<< UInt64.ofNat 62)), uv64 ((a1 >>> UInt64.ofNat 2) ||| (a2 <<< UInt64.ofNat 62)), uv64 a2, uv64 a3] 25, .box bk6 (u64s (List.replicate 4 0)) 25] En152 wo104 fun ac153 wo154 En155 Hv156 => ?_
  refine ⟨q_y, ?_⟩
  exact h_e ⟨En155.sb, Hv156.pk [0, 1]⟩
 rintro ac157 wo158 ⟨En159, Hv160⟩
 refine block_normal ?_
 refine then_normal ?_
 refine d_r [1,2,4,5,6] [] En159 fun ac161 En162 => ?_
 refine then_normal ?_
 refine loop_once ?_
 refine d_s [1,2,4,5,6,7] [] En162 fun ac163 En164 => ?_
 refine wp_seq ?_
 refine c_t En164 ?_
 refine wp_skip ?_
 refine then_normal ?_
 refine wp_seq ?_
 refine wp_block ?_
 refine d_s [1,2,4,5,6] [] En164 fun ac165 En166 => ?_
 refine wp_seq ?_
 refine region_from ?_
 refine d_k [1,2,4,5,6,9,10] [] 2 En166 fun ac167 En168 => ?_
 refine f_o ?_
 refine m_l 0 En168 Hv160 fun ac169 En170 => ?_
 refine d_k [1,2,4,5,6,13,14] [(4, g_i .u64 (Go.Dbr.u64_shr (x := a2) (n := 2) rfl (by decide)))] 6 En170 fun ac171 En172 => ?_
 refine f_o ?_
 refine m_s 0 [.box bk1 [uv64 ((a0 >>> UInt64.ofNat 2) ||| (a1 <<< UInt64.ofNat 62)), uv64 ((a1 >>> UInt64.ofNat 2) ||| (a2 <<< UInt64.ofNat 62)), uv64 (a2 >>> UInt64.ofNat 2), uv64 a3] 25, .box bk6 (u64s (List.replicate 4 0)) 25] En172 Hv160 fun ac173 wo174 En175 Hv176 => ?_
 refine f_e ?_
 refine then_normal ?_
 refine d_s [1,2,4,5,6,16] [] En175 fun ac177 En178 => ?_
 refine c_t En178 ?_
 refine r_c (fun ac wo => Env ac 31 [(1, .int .i64 2), (2, pt bk1), (4, pt bk6), (5, .int .i64 2), (6, .int .i64 2)] ∧ Ev w [] wo [.box bk1 [uv64 ((a0 >>> UInt64.ofNat 2) ||| (a1 <<< UInt64.ofNat 62)), uv64 ((a1 >>> UInt64.ofNat 2) ||| (a2 <<< UInt64.ofNat 62)), uv64 ((a2 >>> UInt64.ofNat 2) ||| (a3 <<< UInt64.ofNat 62)), uv64 a3] 25, .box bk6 (u64s (List.replicate 4 0)) 25]) ?_ ?_
 ·
  refine h_s (fun wv => Ev w [] wv [.box bk1 [uv64 ((a0 >>> UInt64.ofNat 2) ||| (a1 <<< UInt64.ofNat 62)), uv64 ((a1 >>> UInt64.ofNat 2) ||| (a2 <<< UInt64.ofNat 62)), uv64 (a2 >>> UInt64.ofNat 2), uv64 a3] 25]) [12] 13 ?_
  have wo179 := Hv176.trans (Ev.drew Hv176.heap)
  refine q_s [0,1] [] 11 En178 (wo179.pk [0]) fun ac218 En219 => ?_
  refine q_l 0 2 En219 (wo179.pk [0]) fun ac220 En221 => ?_
  refine q_s [3,4,5] [] 7 En221 (wo179.pk [0]) fun ac222 En223 => ?_
  refine q_l 0 6 En223 (wo179.pk [0]) fun ac224 En225 => ?_
  refine q_s [7,8,9,10,11] [(9, g_i .u64 (Go.Dbr.u64_shl (x := a3) (n := 62) rfl (by decide))), (10, g_i .u64 (Go.Dbr.u64_or (x := a2 >>> UInt64.ofNat 2) (y := a3 <<< UInt64.ofNat 62) rfl rfl))] 1 En225 (wo179.pk [0]) fun ac226 En227 => ?_
  refine q_t 12 ?_
  refine m_s 0 [.box bk1 [uv64 ((a0 >>> UInt64.ofNat 2) ||| (a1 <<< UInt64.ofNat 62)), uv64 ((a1 >>> UInt64.ofNat 2) ||| (a2 <<< UInt64.ofNat 62)), uv64 ((a2 >>> UInt64.ofNat 2) ||| (a3 <<< UInt64.ofNat 62)), uv64 a3] 25, .box bk6 (u64s (List.replicate 4 0)) 25] En227 wo179 fun ac228 wo229 En230 Hv231 => ?_
  refine ⟨q_y, ?_⟩
  exact h_e ⟨En230.sb, Hv231.pk [0, 1]⟩
 rintro ac232 wo233 ⟨En234, Hv235⟩
 refine block_normal ?_
 refine then_normal ?_
 refine d_r [1,2,4,5,6] [] En234 fun ac236 En237 => ?_
 refine then_normal ?_
 refine loop_once ?_
 refine d_s [1,2,4,5,6,7] [] En237 fun ac238 En239 => ?_
 refine wp_seq ?_
 refine c_t En239 ?_
 refine wp_skip ?_
 refine then_normal ?_
 refine wp_seq ?_
 refine wp_block ?_
 refine d_s [1,2,4,5,6] [] En239 fun ac240 En241 => ?_
 refine wp_seq ?_
 refine region_from ?_
 refine d_k [1,2,4,5,6,9,10] [] 2 En241 fun ac242 En243 => ?_
 refine f_o ?_
 refine m_l 0 En243 Hv235 fun ac244 En245 => ?_
 refine d_k [1,2,4,5,6,13,14] [(4, g_i .u64 (Go.Dbr.u64_shr (x := a3) (n := 2) rfl (by decide)))] 6 En245 fun ac246 En247 => ?_
 refine f_o ?_
 refine m_s 0 [.box bk1 [uv64 ((a0 >>> UInt64.ofNat 2) ||| (a1 <<< UInt64.ofNat 62)), uv64 ((a1 >>> UInt64.ofNat 2) ||| (a2 <<< UInt64.ofNat 62)), uv64 ((a2 >>> UInt64.ofNat 2) ||| (a3 <<< UInt64.ofNat 62)), uv64 (a3 >>> UInt64.ofNat 2)] 25, .box bk6 (u64s (List.replicate 4 0)) 25] En247 Hv235 fun ac248 wo249 En250 Hv251 => ?_
 refine f_e ?_
 refine then_normal ?_
 refine d_s [1,2,4,5,6,16] [] En250 fun ac252 En253 => ?_
 refine c_f En253 ?_
 refine wp_skip ?_
 refine block_normal ?_
 refine then_normal ?_
 refine d_r [1,2,4,5,6] [] En253 fun ac254 En255 => ?_
 refine then_normal ?_
 refine loop_once ?_
 refine d_s [1,2,4,5,6,7] [] En255 fun ac256 En257 => ?_
 refine wp_seq ?_
 refine c_f En257 ?_
 refine wp_exit ?_
 refine then_exit ?_
 refine then_exit ?_
 refine block_exit ?_
 refine then_normal ?_
 refine wp_seq ?_
 refine region_from ?_
 refine f_o ?_
 refine m_a 0 0 4 [uv64 ((a0 >>> UInt64.ofNat 2) ||| (a1 <<< UInt64.ofNat 62)), uv64 ((a1 >>> UInt64.ofNat 2) ||| (a2 <<< UInt64.ofNat 62)), uv64 ((a2 >>> UInt64.ofNat 2) ||| (a3 <<< UInt64.ofNat 62)), uv64 (a3 >>> UInt64.ofNat 2)] En257 Hv251 rfl rfl rfl fun ac258 En259 => ?_
 refine f_o ?_
 refine m_g 1 0 4 [uv64 ((a0 >>> UInt64.ofNat 2) ||| (a1 <<< UInt64.ofNat 62)), uv64 ((a1 >>> UInt64.ofNat 2) ||| (a2 <<< UInt64.ofNat 62)), uv64 ((a2 >>> UInt64.ofNat 2) ||| (a3 <<< UInt64.ofNat 62)), uv64 (a3 >>> UInt64.ofNat 2)] [uv64 ((a0 >>> UInt64.ofNat 2) ||| (a1 <<< UInt64.ofNat 62)), uv64 ((a1 >>> UInt64.ofNat 2) ||| (a2 <<< UInt64.ofNat 62)), uv64 ((a2 >>> UInt64.ofNat 2) ||| (a3 <<< UInt64.ofNat 62)), uv64 (a3 >>> UInt64.ofNat 2)] [.box bk1 [uv64 ((a0 >>> UInt64.ofNat 2) ||| (a1 <<< UInt64.ofNat 62)), uv64 ((a1 >>> UInt64.ofNat 2) ||| (a2 <<< UInt64.ofNat 62)), uv64 ((a2 >>> UInt64.ofNat 2) ||| (a3 <<< UInt64.ofNat 62)), uv64 (a3 >>> UInt64.ofNat 2)] 25, .box bk6 [uv64 ((a0 >>> UInt64.ofNat 2) ||| (a1 <<< UInt64.ofNat 62)), uv64 ((a1 >>> UInt64.ofNat 2) ||| (a2 <<< UInt64.ofNat 62)), uv64 ((a2 >>> UInt64.ofNat 2) ||| (a3 <<< UInt64.ofNat 62)), uv64 (a3 >>> UInt64.ofNat 2)] 25] En259 Hv251 rfl rfl (by rw [(u64s_lenh (List.length_replicate))]; decide) (one_all (by kernel_rfl)) (store_whole (u64s_lenh (List.length_replicate))) rfl fun ac260 wo261 En262 Hv263 => ?_
 refine f_e ?_
 refine then_normal ?_
 refine wp_ret ?_
 refine d_cell1 (v := .agg #[uv64 ((a0 >>> UInt64.ofNat 2) ||| (a1 <<< UInt64.ofNat 62)), uv64 ((a1 >>> UInt64.ofNat 2) ||| (a2 <<< UInt64.ofNat 62)), uv64 ((a2 >>> UInt64.ofNat 2) ||| (a3 <<< UInt64.ofNat 62)), uv64 (a3 >>> UInt64.ofNat 2)]) (t := 4) (T := 25) (ad := ⟨bk6, 0, none⟩) En262 (by kernel_rfl) (by kernel_rfl) (Ev.cellAgg (t := 25) (k := 1) (off := 0) (m := 4) (xs := [uv64 ((a0 >>> UInt64.ofNat 2) ||| (a1 <<< UInt64.ofNat 62)), uv64 ((a1 >>> UInt64.ofNat 2) ||| (a2 <<< UInt64.ofNat 62)), uv64 ((a2 >>> UInt64.ofNat 2) ||| (a3 <<< UInt64.ofNat 62)), uv64 (a3 >>> UInt64.ofNat 2)]) Hv263 rfl rfl rfl (by kernel_rfl) (by kernel_rfl)) ?_
 have e : [(a0 >>> UInt64.ofNat 2) ||| (a1 <<< UInt64.ofNat 62), (a1 >>> UInt64.ofNat 2) ||| (a2 <<< UInt64.ofNat 62), (a2 >>> UInt64.ofNat 2) ||| (a3 <<< UInt64.ofNat 62), a3 >>> UInt64.ofNat 2] = nd (nv [a0, a1, a2, a3] / 4) := shl_2 a0 a1 a2 a3
 exact ⟨congrArg (fun l : List UInt64 => Ending.returned (Value.agg (u64s l).toArray)) e, Hv263.pk []⟩

theorem shift2_go (w : World) (a : List UInt64) (ha : List.length a = 4) : Calls Try.prog 44 #[.agg (List.toArray (u64s a)), .int .i64 2] w fun e w' => e = .returned (.agg (List.toArray (u64s (nd (nv a / 4))))) ∧ Ev w [] w' [] := by
  match a, ha with
  | [a0, a1, a2, a3], _ => exact shift24 w a0 a1 a2 a3

theorem shift34 (w : World) (a0 a1 a2 a3 : UInt64) : Calls Try.prog 44 #[.agg #[uv64 a0, uv64 a1, uv64 a2, uv64 a3], .int .i64 3] w fun e w' => e = .returned (.agg (List.toArray (u64s (nd (nv [a0, a1, a2, a3] / 8))))) ∧ Ev w [] w' [] := by
 refine d_0 [(0, .agg #[uv64 a0, uv64 a1, uv64 a2, uv64 a3]), (1, .int .i64 3)] 31 Go.Proofs.Try.func44 Go.Proofs.Try.ntmps44 (Heap.nil _) fun act0 En0 Hv0 => ?_
 refine wp_seq ?_
 refine region_from ?_
 refine f_o ?_
 refine m_m 25 [uv64 a0, uv64 a1, uv64 a2, uv64 a3] En0 Hv0 fun ac2 wo3 bk1 En4 Hv5 => ?_
 refine f_o ?_
 refine m_z 25 (u64s (List.replicate 4 0)) En4 Hv5 fun ac7 wo8 bk6 En9 Hv10 => ?_
 refine f_e ?_
 refine then_normal ?_
 refine wp_seq ?_
 refine d_s [1,2,4,6] [] En9 fun ac11 En12 => ?_
 refine wp_block ?_
 refine loop_enter ?_
 refine loop_once ?_
 refine d_s [1,2,4,6,7] [] En12 fun ac13 En14 => ?_
 refine wp_seq ?_
 refine c_t En14 ?_
 refine wp_skip ?_
 refine then_normal ?_
 refine wp_seq ?_
 refine wp_block ?_
 refine d_s [1,2,4,5,6] [] En14 fun ac15 En16 => ?_
 refine wp_seq ?_
 refine region_from ?_
 refine d_k [1,2,4,5,6,9,10] [] 2 En16 fun ac17 En18 => ?_
 refine f_o ?_
 refine m_l 0 En18 Hv10 fun ac19 En20 => ?_
 refine d_k [1,2,4,5,6,13,14] [(4, g_i .u64 (Go.Dbr.u64_shr (x := a0) (n := 3) rfl (by decide)))] 6 En20 fun ac21 En22 => ?_
 refine f_o ?_
 refine m_s 0 [.box bk1 [uv64 (a0 >>> UInt64.ofNat 3), uv64 a1, uv64 a2, uv64 a3] 25, .box bk6 (u64s (List.replicate 4 0)) 25] En22 Hv10 fun ac23 wo24 En25 Hv26 => ?_
 refine f_e ?_
 refine then_normal ?_
 refine d_s [1,2,4,5,6,16] [] En25 fun ac27 En28 => ?_
 refine c_t En28 ?_
 refine r_c (fun ac wo => Env ac 31 [(1, .int .i64 3), (2, pt bk1), (4, pt bk6), (5, .int .i64 0), (6, .int .i64 0)] ∧ Ev w [] wo [.box bk1 [uv64 ((a0 >>> UInt64.ofNat 3) ||| (a1 <<< UInt64.ofNat 61)), uv64 a1, uv64 a2, uv64 a3] 25, .box bk6 (u64s (List.replicate 4 0)) 25]) ?_ ?_
 ·
  refine h_s (fun wv => Ev w [] wv [.box bk1 [uv64 (a0 >>> UInt64.ofNat 3), uv64 a1, uv64 a2, uv64 a3] 25]) [12] 13 ?_
  have wo29 := Hv26.trans (Ev.drew Hv26.heap)
  refine q_s [0,1] [] 11 En28 (wo29.pk [0]) fun ac68 En69 => ?_
  refine q_l 0 2 En69 (wo29.pk [0]) fun ac70 En71 => ?_
  refine q_s [3,4,5] [] 7 En71 (wo29.pk [0]) fun ac72 En73 => ?_
  refine q_l 0 6 En73 (wo29.pk [0]) fun ac74 En75 => ?_
  refine q_s [7,8,9,10,11] [(9, g_i .u64 (Go.Dbr.u64_shl (x := a1) (n := 61) rfl (by decide))), (10, g_i .u64 (Go.Dbr.u64_or (x := a0 >>> UInt64.ofNat 3) (y := a1 <<< UInt64.ofNat 61) rfl rfl))] 1 En75 (wo29.pk [0]) fun ac76 En77 => ?_
  refine q_t 12 ?_
  refine m_s 0 [.box bk1 [uv64 ((a0 >>> UInt64.ofNat 3) ||| (a1 <<< UInt64.ofNat 61)), uv64 a1, uv64 a2, uv64 a3] 25, .box bk6 (u64s (List.replicate 4 0)) 25] En77 wo29 fun ac78 wo79 En80 Hv81 => ?_
  refine ⟨q_y, ?_⟩
  exact h_e ⟨En80.sb, Hv81.pk [0, 1]⟩
 rintro ac82 wo83 ⟨En84, Hv85⟩
 refine block_normal ?_
 refine then_normal ?_
 refine d_r [1,2,4,5,6] [] En84 fun ac86 En87 => ?_
 refine then_normal ?_
 refine loop_once ?_
 refine d_s [1,2,4,5,6,7] [] En87 fun ac88 En89 => ?_
 refine wp_seq ?_
 refine c_t En89 ?_
 refine wp_skip ?_
 refine then_normal ?_
 refine wp_seq ?_
 refine wp_block ?_
 refine d_s [1,2,4,5,6] [] En89 fun ac90 En91 => ?_
 refine wp_seq ?_
 refine region_from ?_
 refine d_k [1,2,4,5,6,9,10] [] 2 En91 fun ac92 En93 => ?_
 refine f_o ?_
 refine m_l 0 En93 Hv85 fun ac94 En95 => ?_
 refine d_k [1,2,4,5,6,13,14] [(4, g_i .u64 (Go.Dbr.u64_shr (x := a1) (n := 3) rfl (by decide)))] 6 En95 fun ac96 En97 => ?_
 refine f_o ?_
 refine m_s 0 [.box bk1 [uv64 ((a0 >>> UInt64.ofNat 3) ||| (a1 <<< UInt64.ofNat 61)), uv64 (a1 >>> UInt64.ofNat 3), uv64 a2, uv64 a3] 25, .box bk6 (u64s (List.replicate 4 0)) 25] En97 Hv85 fun ac98 wo99 En100 Hv101 => ?_
 refine f_e ?_
 refine then_normal ?_
 refine d_s [1,2,4,5,6,16] [] En100 fun ac102 En103 => ?_
 refine c_t En103 ?_
 refine r_c (fun ac wo => Env ac 31 [(1, .int .i64 3), (2, pt bk1), (4, pt bk6), (5, .int .i64 1), (6, .int .i64 1)] ∧ Ev w [] wo [.box bk1 [uv64 ((a0 >>> UInt64.ofNat 3) ||| (a1 <<< UInt64.ofNat 61)), uv64 ((a1 >>> UInt64.ofNat 3) ||| (a2 <<< UInt64.ofNat 61)), uv64 a2, uv64 a3] 25, .box bk6 (u64s (List.replicate 4 0)) 25]) ?_ ?_
 ·
  refine h_s (fun wv => Ev w [] wv [.box bk1 [uv64 ((a0 >>> UInt64.ofNat 3) ||| (a1 <<< UInt64.ofNat 61)), uv64 (a1 >>> UInt64.ofNat 3), uv64 a2, uv64 a3] 25]) [12] 13 ?_
  have wo104 := Hv101.trans (Ev.drew Hv101.heap)
  refine q_s [0,1] [] 11 En103 (wo104.pk [0]) fun ac143 En144 => ?_
  refine q_l 0 2 En144 (wo104.pk [0]) fun ac145 En146 => ?_
  refine q_s [3,4,5] [] 7 En146 (wo104.pk [0]) fun ac147 En148 => ?_
  refine q_l 0 6 En148 (wo104.pk [0]) fun ac149 En150 => ?_
  refine q_s [7,8,9,10,11] [(9, g_i .u64 (Go.Dbr.u64_shl (x := a2) (n := 61) rfl (by decide))), (10, g_i .u64 (Go.Dbr.u64_or (x := a1 >>> UInt64.ofNat 3) (y := a2 <<< UInt64.ofNat 61) rfl rfl))] 1 En150 (wo104.pk [0]) fun ac151 En152 => ?_
  refine q_t 12 ?_
  refine m_s 0 [.box bk1 [uv64 ((a0 >>> UInt64.ofNat 3) ||| (a1 <<< UInt64.ofNat 61)), uv64 ((a1 >>> UInt64.ofNat 3) ||| (a2 <<< UInt64.ofNat 61)), uv64 a2, uv64 a3] 25, .box bk6 (u64s (List.replicate 4 0)) 25] En152 wo104 fun ac153 wo154 En155 Hv156 => ?_
  refine ⟨q_y, ?_⟩
  exact h_e ⟨En155.sb, Hv156.pk [0, 1]⟩
 rintro ac157 wo158 ⟨En159, Hv160⟩
 refine block_normal ?_
 refine then_normal ?_
 refine d_r [1,2,4,5,6] [] En159 fun ac161 En162 => ?_
 refine then_normal ?_
 refine loop_once ?_
 refine d_s [1,2,4,5,6,7] [] En162 fun ac163 En164 => ?_
 refine wp_seq ?_
 refine c_t En164 ?_
 refine wp_skip ?_
 refine then_normal ?_
 refine wp_seq ?_
 refine wp_block ?_
 refine d_s [1,2,4,5,6] [] En164 fun ac165 En166 => ?_
 refine wp_seq ?_
 refine region_from ?_
 refine d_k [1,2,4,5,6,9,10] [] 2 En166 fun ac167 En168 => ?_
 refine f_o ?_
 refine m_l 0 En168 Hv160 fun ac169 En170 => ?_
 refine d_k [1,2,4,5,6,13,14] [(4, g_i .u64 (Go.Dbr.u64_shr (x := a2) (n := 3) rfl (by decide)))] 6 En170 fun ac171 En172 => ?_
 refine f_o ?_
 refine m_s 0 [.box bk1 [uv64 ((a0 >>> UInt64.ofNat 3) ||| (a1 <<< UInt64.ofNat 61)), uv64 ((a1 >>> UInt64.ofNat 3) ||| (a2 <<< UInt64.ofNat 61)), uv64 (a2 >>> UInt64.ofNat 3), uv64 a3] 25, .box bk6 (u64s (List.replicate 4 0)) 25] En172 Hv160 fun ac173 wo174 En175 Hv176 => ?_
 refine f_e ?_
 refine then_normal ?_
 refine d_s [1,2,4,5,6,16] [] En175 fun ac177 En178 => ?_
 refine c_t En178 ?_
 refine r_c (fun ac wo => Env ac 31 [(1, .int .i64 3), (2, pt bk1), (4, pt bk6), (5, .int .i64 2), (6, .int .i64 2)] ∧ Ev w [] wo [.box bk1 [uv64 ((a0 >>> UInt64.ofNat 3) ||| (a1 <<< UInt64.ofNat 61)), uv64 ((a1 >>> UInt64.ofNat 3) ||| (a2 <<< UInt64.ofNat 61)), uv64 ((a2 >>> UInt64.ofNat 3) ||| (a3 <<< UInt64.ofNat 61)), uv64 a3] 25, .box bk6 (u64s (List.replicate 4 0)) 25]) ?_ ?_
 ·
  refine h_s (fun wv => Ev w [] wv [.box bk1 [uv64 ((a0 >>> UInt64.ofNat 3) ||| (a1 <<< UInt64.ofNat 61)), uv64 ((a1 >>> UInt64.ofNat 3) ||| (a2 <<< UInt64.ofNat 61)), uv64 (a2 >>> UInt64.ofNat 3), uv64 a3] 25]) [12] 13 ?_
  have wo179 := Hv176.trans (Ev.drew Hv176.heap)
  refine q_s [0,1] [] 11 En178 (wo179.pk [0]) fun ac218 En219 => ?_
  refine q_l 0 2 En219 (wo179.pk [0]) fun ac220 En221 => ?_
  refine q_s [3,4,5] [] 7 En221 (wo179.pk [0]) fun ac222 En223 => ?_
  refine q_l 0 6 En223 (wo179.pk [0]) fun ac224 En225 => ?_
  refine q_s [7,8,9,10,11] [(9, g_i .u64 (Go.Dbr.u64_shl (x := a3) (n := 61) rfl (by decide))), (10, g_i .u64 (Go.Dbr.u64_or (x := a2 >>> UInt64.ofNat 3) (y := a3 <<< UInt64.ofNat 61) rfl rfl))] 1 En225 (wo179.pk [0]) fun ac226 En227 => ?_
  refine q_t 12 ?_
  refine m_s 0 [.box bk1 [uv64 ((a0 >>> UInt64.ofNat 3) ||| (a1 <<< UInt64.ofNat 61)), uv64 ((a1 >>> UInt64.ofNat 3) ||| (a2 <<< UInt64.ofNat 61)), uv64 ((a2 >>> UInt64.ofNat 3) ||| (a3 <<< UInt64.ofNat 61)), uv64 a3] 25, .box bk6 (u64s (List.replicate 4 0)) 25] En227 wo179 fun ac228 wo229 En230 Hv231 => ?_
  refine ⟨q_y, ?_⟩
  exact h_e ⟨En230.sb, Hv231.pk [0, 1]⟩
 rintro ac232 wo233 ⟨En234, Hv235⟩
 refine block_normal ?_
 refine then_normal ?_
 refine d_r [1,2,4,5,6] [] En234 fun ac236 En237 => ?_
 refine then_normal ?_
 refine loop_once ?_
 refine d_s [1,2,4,5,6,7] [] En237 fun ac238 En239 => ?_
 refine wp_seq ?_
 refine c_t En239 ?_
 refine wp_skip ?_
 refine then_normal ?_
 refine wp_seq ?_
 refine wp_block ?_
 refine d_s [1,2,4,5,6] [] En239 fun ac240 En241 => ?_
 refine wp_seq ?_
 refine region_from ?_
 refine d_k [1,2,4,5,6,9,10] [] 2 En241 fun ac242 En243 => ?_
 refine f_o ?_
 refine m_l 0 En243 Hv235 fun ac244 En245 => ?_
 refine d_k [1,2,4,5,6,13,14] [(4, g_i .u64 (Go.Dbr.u64_shr (x := a3) (n := 3) rfl (by decide)))] 6 En245 fun ac246 En247 => ?_
 refine f_o ?_
 refine m_s 0 [.box bk1 [uv64 ((a0 >>> UInt64.ofNat 3) ||| (a1 <<< UInt64.ofNat 61)), uv64 ((a1 >>> UInt64.ofNat 3) ||| (a2 <<< UInt64.ofNat 61)), uv64 ((a2 >>> UInt64.ofNat 3) ||| (a3 <<< UInt64.ofNat 61)), uv64 (a3 >>> UInt64.ofNat 3)] 25, .box bk6 (u64s (List.replicate 4 0)) 25] En247 Hv235 fun ac248 wo249 En250 Hv251 => ?_
 refine f_e ?_
 refine then_normal ?_
 refine d_s [1,2,4,5,6,16] [] En250 fun ac252 En253 => ?_
 refine c_f En253 ?_
 refine wp_skip ?_
 refine block_normal ?_
 refine then_normal ?_
 refine d_r [1,2,4,5,6] [] En253 fun ac254 En255 => ?_
 refine then_normal ?_
 refine loop_once ?_
 refine d_s [1,2,4,5,6,7] [] En255 fun ac256 En257 => ?_
 refine wp_seq ?_
 refine c_f En257 ?_
 refine wp_exit ?_
 refine then_exit ?_
 refine then_exit ?_
 refine block_exit ?_
 refine then_normal ?_
 refine wp_seq ?_
 refine region_from ?_
 refine f_o ?_
 refine m_a 0 0 4 [uv64 ((a0 >>> UInt64.ofNat 3) ||| (a1 <<< UInt64.ofNat 61)), uv64 ((a1 >>> UInt64.ofNat 3) ||| (a2 <<< UInt64.ofNat 61)), uv64 ((a2 >>> UInt64.ofNat 3) ||| (a3 <<< UInt64.ofNat 61)), uv64 (a3 >>> UInt64.ofNat 3)] En257 Hv251 rfl rfl rfl fun ac258 En259 => ?_
 refine f_o ?_
 refine m_g 1 0 4 [uv64 ((a0 >>> UInt64.ofNat 3) ||| (a1 <<< UInt64.ofNat 61)), uv64 ((a1 >>> UInt64.ofNat 3) ||| (a2 <<< UInt64.ofNat 61)), uv64 ((a2 >>> UInt64.ofNat 3) ||| (a3 <<< UInt64.ofNat 61)), uv64 (a3 >>> UInt64.ofNat 3)] [uv64 ((a0 >>> UInt64.ofNat 3) ||| (a1 <<< UInt64.ofNat 61)), uv64 ((a1 >>> UInt64.ofNat 3) ||| (a2 <<< UInt64.ofNat 61)), uv64 ((a2 >>> UInt64.ofNat 3) ||| (a3 <<< UInt64.ofNat 61)), uv64 (a3 >>> UInt64.ofNat 3)] [.box bk1 [uv64 ((a0 >>> UInt64.ofNat 3) ||| (a1 <<< UInt64.ofNat 61)), uv64 ((a1 >>> UInt64.ofNat 3) ||| (a2 <<< UInt64.ofNat 61)), uv64 ((a2 >>> UInt64.ofNat 3) ||| (a3 <<< UInt64.ofNat 61)), uv64 (a3 >>> UInt64.ofNat 3)] 25, .box bk6 [uv64 ((a0 >>> UInt64.ofNat 3) ||| (a1 <<< UInt64.ofNat 61)), uv64 ((a1 >>> UInt64.ofNat 3) ||| (a2 <<< UInt64.ofNat 61)), uv64 ((a2 >>> UInt64.ofNat 3) ||| (a3 <<< UInt64.ofNat 61)), uv64 (a3 >>> UInt64.ofNat 3)] 25] En259 Hv251 rfl rfl (by rw [(u64s_lenh (List.length_replicate))]; decide) (one_all (by kernel_rfl)) (store_whole (u64s_lenh (List.length_replicate))) rfl fun ac260 wo261 En262 Hv263 => ?_
 refine f_e ?_
 refine then_normal ?_
 refine wp_ret ?_
 refine d_cell1 (v := .agg #[uv64 ((a0 >>> UInt64.ofNat 3) ||| (a1 <<< UInt64.ofNat 61)), uv64 ((a1 >>> UInt64.ofNat 3) ||| (a2 <<< UInt64.ofNat 61)), uv64 ((a2 >>> UInt64.ofNat 3) ||| (a3 <<< UInt64.ofNat 61)), uv64 (a3 >>> UInt64.ofNat 3)]) (t := 4) (T := 25) (ad := ⟨bk6, 0, none⟩) En262 (by kernel_rfl) (by kernel_rfl) (Ev.cellAgg (t := 25) (k := 1) (off := 0) (m := 4) (xs := [uv64 ((a0 >>> UInt64.ofNat 3) ||| (a1 <<< UInt64.ofNat 61)), uv64 ((a1 >>> UInt64.ofNat 3) ||| (a2 <<< UInt64.ofNat 61)), uv64 ((a2 >>> UInt64.ofNat 3) ||| (a3 <<< UInt64.ofNat 61)), uv64 (a3 >>> UInt64.ofNat 3)]) Hv263 rfl rfl rfl (by kernel_rfl) (by kernel_rfl)) ?_
 have e : [(a0 >>> UInt64.ofNat 3) ||| (a1 <<< UInt64.ofNat 61), (a1 >>> UInt64.ofNat 3) ||| (a2 <<< UInt64.ofNat 61), (a2 >>> UInt64.ofNat 3) ||| (a3 <<< UInt64.ofNat 61), a3 >>> UInt64.ofNat 3] = nd (nv [a0, a1, a2, a3] / 8) := shl_3 a0 a1 a2 a3
 exact ⟨congrArg (fun l : List UInt64 => Ending.returned (Value.agg (u64s l).toArray)) e, Hv263.pk []⟩

theorem shift3_go (w : World) (a : List UInt64) (ha : List.length a = 4) : Calls Try.prog 44 #[.agg (List.toArray (u64s a)), .int .i64 3] w fun e w' => e = .returned (.agg (List.toArray (u64s (nd (nv a / 8))))) ∧ Ev w [] w' [] := by
  match a, ha with
  | [a0, a1, a2, a3], _ => exact shift34 w a0 a1 a2 a3

theorem half4 (w : World) (a0 a1 a2 a3 : UInt64) : Calls Try.prog 46 #[.agg #[uv64 a0, uv64 a1, uv64 a2, uv64 a3]] w fun e w' => e = .returned (.agg (List.toArray (u64s (nd (nv [a0, a1, a2, a3] / 2))))) ∧ Ev w [] w' [] := by
 refine d_0 [(0, .agg #[uv64 a0, uv64 a1, uv64 a2, uv64 a3])] 28 Go.Proofs.Try.func46 Go.Proofs.Try.ntmps46 (Heap.nil _) fun act0 En0 Hv0 => ?_
 refine wp_seq ?_
 refine region_from ?_
 refine f_o ?_
 refine m_m 25 [uv64 a0, uv64 a1, uv64 a2, uv64 a3] En0 Hv0 fun ac2 wo3 bk1 En4 Hv5 => ?_
 refine f_o ?_
 refine m_z 25 (u64s (List.replicate 4 0)) En4 Hv5 fun ac7 wo8 bk6 En9 Hv10 => ?_
 refine f_e ?_
 refine then_normal ?_
 refine wp_seq ?_
 refine d_s [1,2,3] [] En9 fun ac11 En12 => ?_
 refine wp_block ?_
 refine loop_enter ?_
 refine loop_once ?_
 refine wp_seq ?_
 refine d_s [1,2,3,5] [] En12 fun ac13 En14 => ?_
 refine c_t En14 ?_
 refine wp_skip ?_
 refine then_normal ?_
 refine wp_seq ?_
 refine wp_block ?_
 refine wp_seq ?_
 refine region_from ?_
 refine d_k [1,2,3,8,10] [] 3 En14 fun ac15 En16 => ?_
 refine f_o ?_
 refine m_l 0 En16 Hv10 fun ac17 En18 => ?_
 refine d_k [1,2,3,12,13] [(4, g_i .u64 (Go.Dbr.u64_shr (x := a0) (n := 1) rfl (by decide)))] 6 En18 fun ac19 En20 => ?_
 refine f_o ?_
 refine m_s 0 [.box bk1 [uv64 (a0 >>> UInt64.ofNat 1), uv64 a1, uv64 a2, uv64 a3] 25, .box bk6 (u64s (List.replicate 4 0)) 25] En20 Hv10 fun ac21 wo22 En23 Hv24 => ?_
 refine f_e ?_
 refine then_normal ?_
 refine d_s [1,2,3,15] [] En23 fun ac25 En26 => ?_
 refine c_t En26 ?_
 refine r_c (fun ac wo => Env ac 28 [(1, pt bk1), (2, pt bk6), (3, .int .i64 0)] ∧ Ev w [] wo [.box bk1 [uv64 ((a0 >>> UInt64.ofNat 1) ||| (a1 <<< UInt64.ofNat 63)), uv64 a1, uv64 a2, uv64 a3] 25, .box bk6 (u64s (List.replicate 4 0)) 25]) ?_ ?_
 ·
  refine h_s (fun wv => Ev w [] wv [.box bk1 [uv64 (a0 >>> UInt64.ofNat 1), uv64 a1, uv64 a2, uv64 a3] 25]) [11] 12 ?_
  have wo27 := Hv24.trans (Ev.drew Hv24.heap)
  refine q_s [0,1,2] [] 9 En26 (wo27.pk [0]) fun ac66 En67 => ?_
  refine q_l 0 3 En67 (wo27.pk [0]) fun ac68 En69 => ?_
  refine q_s [4,5,6] [] 5 En69 (wo27.pk [0]) fun ac70 En71 => ?_
  refine q_l 0 7 En71 (wo27.pk [0]) fun ac72 En73 => ?_
  refine q_s [8,9,10] [(8, g_i .u64 (Go.Dbr.u64_shl (x := a1) (n := 63) rfl (by decide))), (9, g_i .u64 (Go.Dbr.u64_or (x := a0 >>> UInt64.ofNat 1) (y := a1 <<< UInt64.ofNat 63) rfl rfl))] 1 En73 (wo27.pk [0]) fun ac74 En75 => ?_
  refine q_t 11 ?_
  refine m_s 0 [.box bk1 [uv64 ((a0 >>> UInt64.ofNat 1) ||| (a1 <<< UInt64.ofNat 63)), uv64 a1, uv64 a2, uv64 a3] 25, .box bk6 (u64s (List.replicate 4 0)) 25] En75 wo27 fun ac76 wo77 En78 Hv79 => ?_
  refine ⟨q_y, ?_⟩
  exact h_e ⟨En78.sb, Hv79.pk [0, 1]⟩
 rintro ac80 wo81 ⟨En82, Hv83⟩
 refine block_normal ?_
 refine then_normal ?_
 refine d_r [1,2,3] [] En82 fun ac84 En85 => ?_
 refine then_normal ?_
 refine loop_once ?_
 refine wp_seq ?_
 refine d_s [1,2,3,5] [] En85 fun ac86 En87 => ?_
 refine c_t En87 ?_
 refine wp_skip ?_
 refine then_normal ?_
 refine wp_seq ?_
 refine wp_block ?_
 refine wp_seq ?_
 refine region_from ?_
 refine d_k [1,2,3,8,10] [] 3 En87 fun ac88 En89 => ?_
 refine f_o ?_
 refine m_l 0 En89 Hv83 fun ac90 En91 => ?_
 refine d_k [1,2,3,12,13] [(4, g_i .u64 (Go.Dbr.u64_shr (x := a1) (n := 1) rfl (by decide)))] 6 En91 fun ac92 En93 => ?_
 refine f_o ?_
 refine m_s 0 [.box bk1 [uv64 ((a0 >>> UInt64.ofNat 1) ||| (a1 <<< UInt64.ofNat 63)), uv64 (a1 >>> UInt64.ofNat 1), uv64 a2, uv64 a3] 25, .box bk6 (u64s (List.replicate 4 0)) 25] En93 Hv83 fun ac94 wo95 En96 Hv97 => ?_
 refine f_e ?_
 refine then_normal ?_
 refine d_s [1,2,3,15] [] En96 fun ac98 En99 => ?_
 refine c_t En99 ?_
 refine r_c (fun ac wo => Env ac 28 [(1, pt bk1), (2, pt bk6), (3, .int .i64 1)] ∧ Ev w [] wo [.box bk1 [uv64 ((a0 >>> UInt64.ofNat 1) ||| (a1 <<< UInt64.ofNat 63)), uv64 ((a1 >>> UInt64.ofNat 1) ||| (a2 <<< UInt64.ofNat 63)), uv64 a2, uv64 a3] 25, .box bk6 (u64s (List.replicate 4 0)) 25]) ?_ ?_
 ·
  refine h_s (fun wv => Ev w [] wv [.box bk1 [uv64 ((a0 >>> UInt64.ofNat 1) ||| (a1 <<< UInt64.ofNat 63)), uv64 (a1 >>> UInt64.ofNat 1), uv64 a2, uv64 a3] 25]) [11] 12 ?_
  have wo100 := Hv97.trans (Ev.drew Hv97.heap)
  refine q_s [0,1,2] [] 9 En99 (wo100.pk [0]) fun ac139 En140 => ?_
  refine q_l 0 3 En140 (wo100.pk [0]) fun ac141 En142 => ?_
  refine q_s [4,5,6] [] 5 En142 (wo100.pk [0]) fun ac143 En144 => ?_
  refine q_l 0 7 En144 (wo100.pk [0]) fun ac145 En146 => ?_
  refine q_s [8,9,10] [(8, g_i .u64 (Go.Dbr.u64_shl (x := a2) (n := 63) rfl (by decide))), (9, g_i .u64 (Go.Dbr.u64_or (x := a1 >>> UInt64.ofNat 1) (y := a2 <<< UInt64.ofNat 63) rfl rfl))] 1 En146 (wo100.pk [0]) fun ac147 En148 => ?_
  refine q_t 11 ?_
  refine m_s 0 [.box bk1 [uv64 ((a0 >>> UInt64.ofNat 1) ||| (a1 <<< UInt64.ofNat 63)), uv64 ((a1 >>> UInt64.ofNat 1) ||| (a2 <<< UInt64.ofNat 63)), uv64 a2, uv64 a3] 25, .box bk6 (u64s (List.replicate 4 0)) 25] En148 wo100 fun ac149 wo150 En151 Hv152 => ?_
  refine ⟨q_y, ?_⟩
  exact h_e ⟨En151.sb, Hv152.pk [0, 1]⟩
 rintro ac153 wo154 ⟨En155, Hv156⟩
 refine block_normal ?_
 refine then_normal ?_
 refine d_r [1,2,3] [] En155 fun ac157 En158 => ?_
 refine then_normal ?_
 refine loop_once ?_
 refine wp_seq ?_
 refine d_s [1,2,3,5] [] En158 fun ac159 En160 => ?_
 refine c_t En160 ?_
 refine wp_skip ?_
 refine then_normal ?_
 refine wp_seq ?_
 refine wp_block ?_
 refine wp_seq ?_
 refine region_from ?_
 refine d_k [1,2,3,8,10] [] 3 En160 fun ac161 En162 => ?_
 refine f_o ?_
 refine m_l 0 En162 Hv156 fun ac163 En164 => ?_
 refine d_k [1,2,3,12,13] [(4, g_i .u64 (Go.Dbr.u64_shr (x := a2) (n := 1) rfl (by decide)))] 6 En164 fun ac165 En166 => ?_
 refine f_o ?_
 refine m_s 0 [.box bk1 [uv64 ((a0 >>> UInt64.ofNat 1) ||| (a1 <<< UInt64.ofNat 63)), uv64 ((a1 >>> UInt64.ofNat 1) ||| (a2 <<< UInt64.ofNat 63)), uv64 (a2 >>> UInt64.ofNat 1), uv64 a3] 25, .box bk6 (u64s (List.replicate 4 0)) 25] En166 Hv156 fun ac167 wo168 En169 Hv170 => ?_
 refine f_e ?_
 refine then_normal ?_
 refine d_s [1,2,3,15] [] En169 fun ac171 En172 => ?_
 refine c_t En172 ?_
 refine r_c (fun ac wo => Env ac 28 [(1, pt bk1), (2, pt bk6), (3, .int .i64 2)] ∧ Ev w [] wo [.box bk1 [uv64 ((a0 >>> UInt64.ofNat 1) ||| (a1 <<< UInt64.ofNat 63)), uv64 ((a1 >>> UInt64.ofNat 1) ||| (a2 <<< UInt64.ofNat 63)), uv64 ((a2 >>> UInt64.ofNat 1) ||| (a3 <<< UInt64.ofNat 63)), uv64 a3] 25, .box bk6 (u64s (List.replicate 4 0)) 25]) ?_ ?_
 ·
  refine h_s (fun wv => Ev w [] wv [.box bk1 [uv64 ((a0 >>> UInt64.ofNat 1) ||| (a1 <<< UInt64.ofNat 63)), uv64 ((a1 >>> UInt64.ofNat 1) ||| (a2 <<< UInt64.ofNat 63)), uv64 (a2 >>> UInt64.ofNat 1), uv64 a3] 25]) [11] 12 ?_
  have wo173 := Hv170.trans (Ev.drew Hv170.heap)
  refine q_s [0,1,2] [] 9 En172 (wo173.pk [0]) fun ac212 En213 => ?_
  refine q_l 0 3 En213 (wo173.pk [0]) fun ac214 En215 => ?_
  refine q_s [4,5,6] [] 5 En215 (wo173.pk [0]) fun ac216 En217 => ?_
  refine q_l 0 7 En217 (wo173.pk [0]) fun ac218 En219 => ?_
  refine q_s [8,9,10] [(8, g_i .u64 (Go.Dbr.u64_shl (x := a3) (n := 63) rfl (by decide))), (9, g_i .u64 (Go.Dbr.u64_or (x := a2 >>> UInt64.ofNat 1) (y := a3 <<< UInt64.ofNat 63) rfl rfl))] 1 En219 (wo173.pk [0]) fun ac220 En221 => ?_
  refine q_t 11 ?_
  refine m_s 0 [.box bk1 [uv64 ((a0 >>> UInt64.ofNat 1) ||| (a1 <<< UInt64.ofNat 63)), uv64 ((a1 >>> UInt64.ofNat 1) ||| (a2 <<< UInt64.ofNat 63)), uv64 ((a2 >>> UInt64.ofNat 1) ||| (a3 <<< UInt64.ofNat 63)), uv64 a3] 25, .box bk6 (u64s (List.replicate 4 0)) 25] En221 wo173 fun ac222 wo223 En224 Hv225 => ?_
  refine ⟨q_y, ?_⟩
  exact h_e ⟨En224.sb, Hv225.pk [0, 1]⟩
 rintro ac226 wo227 ⟨En228, Hv229⟩
 refine block_normal ?_
 refine then_normal ?_
 refine d_r [1,2,3] [] En228 fun ac230 En231 => ?_
 refine then_normal ?_
 refine loop_once ?_
 refine wp_seq ?_
 refine d_s [1,2,3,5] [] En231 fun ac232 En233 => ?_
 refine c_t En233 ?_
 refine wp_skip ?_
 refine then_normal ?_
 refine wp_seq ?_
 refine wp_block ?_
 refine wp_seq ?_
 refine region_from ?_
 refine d_k [1,2,3,8,10] [] 3 En233 fun ac234 En235 => ?_
 refine f_o ?_
 refine m_l 0 En235 Hv229 fun ac236 En237 => ?_
 refine d_k [1,2,3,12,13] [(4, g_i .u64 (Go.Dbr.u64_shr (x := a3) (n := 1) rfl (by decide)))] 6 En237 fun ac238 En239 => ?_
 refine f_o ?_
 refine m_s 0 [.box bk1 [uv64 ((a0 >>> UInt64.ofNat 1) ||| (a1 <<< UInt64.ofNat 63)), uv64 ((a1 >>> UInt64.ofNat 1) ||| (a2 <<< UInt64.ofNat 63)), uv64 ((a2 >>> UInt64.ofNat 1) ||| (a3 <<< UInt64.ofNat 63)), uv64 (a3 >>> UInt64.ofNat 1)] 25, .box bk6 (u64s (List.replicate 4 0)) 25] En239 Hv229 fun ac240 wo241 En242 Hv243 => ?_
 refine f_e ?_
 refine then_normal ?_
 refine d_s [1,2,3,15] [] En242 fun ac244 En245 => ?_
 refine c_f En245 ?_
 refine wp_skip ?_
 refine block_normal ?_
 refine then_normal ?_
 refine d_r [1,2,3] [] En245 fun ac246 En247 => ?_
 refine then_normal ?_
 refine loop_once ?_
 refine wp_seq ?_
 refine d_s [1,2,3,5] [] En247 fun ac248 En249 => ?_
 refine c_f En249 ?_
 refine wp_exit ?_
 refine then_exit ?_
 refine then_exit ?_
 refine block_exit ?_
 refine then_normal ?_
 refine wp_seq ?_
 refine region_from ?_
 refine f_o ?_
 refine m_a 0 0 4 [uv64 ((a0 >>> UInt64.ofNat 1) ||| (a1 <<< UInt64.ofNat 63)), uv64 ((a1 >>> UInt64.ofNat 1) ||| (a2 <<< UInt64.ofNat 63)), uv64 ((a2 >>> UInt64.ofNat 1) ||| (a3 <<< UInt64.ofNat 63)), uv64 (a3 >>> UInt64.ofNat 1)] En249 Hv243 rfl rfl rfl fun ac250 En251 => ?_
 refine f_o ?_
 refine m_g 1 0 4 [uv64 ((a0 >>> UInt64.ofNat 1) ||| (a1 <<< UInt64.ofNat 63)), uv64 ((a1 >>> UInt64.ofNat 1) ||| (a2 <<< UInt64.ofNat 63)), uv64 ((a2 >>> UInt64.ofNat 1) ||| (a3 <<< UInt64.ofNat 63)), uv64 (a3 >>> UInt64.ofNat 1)] [uv64 ((a0 >>> UInt64.ofNat 1) ||| (a1 <<< UInt64.ofNat 63)), uv64 ((a1 >>> UInt64.ofNat 1) ||| (a2 <<< UInt64.ofNat 63)), uv64 ((a2 >>> UInt64.ofNat 1) ||| (a3 <<< UInt64.ofNat 63)), uv64 (a3 >>> UInt64.ofNat 1)] [.box bk1 [uv64 ((a0 >>> UInt64.ofNat 1) ||| (a1 <<< UInt64.ofNat 63)), uv64 ((a1 >>> UInt64.ofNat 1) ||| (a2 <<< UInt64.ofNat 63)), uv64 ((a2 >>> UInt64.ofNat 1) ||| (a3 <<< UInt64.ofNat 63)), uv64 (a3 >>> UInt64.ofNat 1)] 25, .box bk6 [uv64 ((a0 >>> UInt64.ofNat 1) ||| (a1 <<< UInt64.ofNat 63)), uv64 ((a1 >>> UInt64.ofNat 1) ||| (a2 <<< UInt64.ofNat 63)), uv64 ((a2 >>> UInt64.ofNat 1) ||| (a3 <<< UInt64.ofNat 63)), uv64 (a3 >>> UInt64.ofNat 1)] 25] En251 Hv243 rfl rfl (by rw [(u64s_lenh (List.length_replicate))]; decide) (one_all (by kernel_rfl)) (store_whole (u64s_lenh (List.length_replicate))) rfl fun ac252 wo253 En254 Hv255 => ?_
 refine f_e ?_
 refine then_normal ?_
 refine wp_ret ?_
 refine d_cell1 (v := .agg #[uv64 ((a0 >>> UInt64.ofNat 1) ||| (a1 <<< UInt64.ofNat 63)), uv64 ((a1 >>> UInt64.ofNat 1) ||| (a2 <<< UInt64.ofNat 63)), uv64 ((a2 >>> UInt64.ofNat 1) ||| (a3 <<< UInt64.ofNat 63)), uv64 (a3 >>> UInt64.ofNat 1)]) (t := 2) (T := 25) (ad := ⟨bk6, 0, none⟩) En254 (by kernel_rfl) (by kernel_rfl) (Ev.cellAgg (t := 25) (k := 1) (off := 0) (m := 4) (xs := [uv64 ((a0 >>> UInt64.ofNat 1) ||| (a1 <<< UInt64.ofNat 63)), uv64 ((a1 >>> UInt64.ofNat 1) ||| (a2 <<< UInt64.ofNat 63)), uv64 ((a2 >>> UInt64.ofNat 1) ||| (a3 <<< UInt64.ofNat 63)), uv64 (a3 >>> UInt64.ofNat 1)]) Hv255 rfl rfl rfl (by kernel_rfl) (by kernel_rfl)) ?_
 have e : [(a0 >>> UInt64.ofNat 1) ||| (a1 <<< UInt64.ofNat 63), (a1 >>> UInt64.ofNat 1) ||| (a2 <<< UInt64.ofNat 63), (a2 >>> UInt64.ofNat 1) ||| (a3 <<< UInt64.ofNat 63), a3 >>> UInt64.ofNat 1] = nd (nv [a0, a1, a2, a3] / 2) := shl_1 a0 a1 a2 a3
 exact ⟨congrArg (fun l : List UInt64 => Ending.returned (Value.agg (u64s l).toArray)) e, Hv255.pk []⟩

theorem half_go (w : World) (a : List UInt64) (ha : List.length a = 4) : Calls Try.prog 46 #[.agg (List.toArray (u64s a))] w fun e w' => e = .returned (.agg (List.toArray (u64s (nd (nv a / 2))))) ∧ Ev w [] w' [] := by
  match a, ha with
  | [a0, a1, a2, a3], _ => exact half4 w a0 a1 a2 a3

/-- a root: the first try, the second one -/
def rq (f : Int) (A : Nat) : Nat := powM f A (if f = 2 then (mF 2 + 1) / 4 else (mF 1 + 3) / 8)
def ri : Nat := powM 1 2 ((mF 1 - 1) / 4)
def rs (f : Int) (A : Nat) : Nat := if f = 2 ∨ mulM f (rq f A) (rq f A) = mulM f A 1 then rq f A else mulM f (rq f A) ri
def rootOk (f : Int) (A : Nat) : Bool := decide ((f = 1 ∨ f = 2) ∧ mulM f (rs f A) (rs f A) = mulM f A 1)
def rootN (f : Int) (A : Nat) : Nat := if rootOk f A = true then (if rs f A % 2 = 1 then subM f 0 (rs f A) else rs f A) else 0
theorem nd_inj {x y : Nat} (hx : x < W256) (hy : y < W256) : nd x = nd y ↔ x = y := by
  constructor
  · intro h
    have := congrArg nv h
    rwa [nv_nd hx, nv_nd hy] at this
  · intro h
    rw [h]
theorem rq_lt {f : Int} (hf : f = 1 ∨ f = 2 ∨ f = 3 ∨ f = 4) (A : Nat) : rq f A < W256 := powM_lt hf _ _
theorem rs_lt {f : Int} (hf : f = 1 ∨ f = 2 ∨ f = 3 ∨ f = 4) (A : Nat) : rs f A < W256 := by
  unfold rs
  split
  · exact rq_lt hf A
  · exact mulM_lt hf _ _
theorem sq_eq {f : Int} (hf : f = 1 ∨ f = 2 ∨ f = 3 ∨ f = 4) {r A : Nat} (hr : r < W256) : nd (mulM f (nv (nd r)) (nv (nd r))) = nd (mulM f A (nv [1, 0, 0, 0])) ↔ mulM f r r = mulM f A 1 := by
  rw [nv_nd hr, nd_inj (mulM_lt hf _ _) (mulM_lt hf _ _), show nv [1, 0, 0, 0] = 1 from rfl]
theorem h1f : (1 : Int) = 1 ∨ (1 : Int) = 2 ∨ (1 : Int) = 3 ∨ (1 : Int) = 4 := .inl rfl
theorem h2f : (2 : Int) = 1 ∨ (2 : Int) = 2 ∨ (2 : Int) = 3 ∨ (2 : Int) = 4 := .inr (.inl rfl)
theorem rs1_a {A : Nat} (h : nd (mulM 1 (nv (nd (rq 1 A))) (nv (nd (rq 1 A)))) = nd (mulM 1 A (nv [1, 0, 0, 0]))) : nd (rq 1 A) = nd (rs 1 A) := by
  rw [rs, if_pos (.inr ((sq_eq h1f (rq_lt h1f A)).1 h))]
theorem rs1_b {A e : Nat} (h : ¬ nd (mulM 1 (nv (nd (rq 1 A))) (nv (nd (rq 1 A)))) = nd (mulM 1 A (nv [1, 0, 0, 0]))) (he : e = (mF 1 - 1) / 4) : nd (mulM 1 (nv (nd (rq 1 A))) (nv (nd (powM 1 (nv [2, 0, 0, 0]) e)))) = nd (rs 1 A) := by
  rw [rs, if_neg (fun q => q.elim (by decide) (fun g => h ((sq_eq h1f (rq_lt h1f A)).2 g))), nv_nd (rq_lt h1f A), nv_nd (powM_lt h1f _ _), he]
  rfl
theorem rs2 (A : Nat) : nd (powM 2 A ((mF 2 + 1) / 4)) = nd (rs 2 A) := by
  rw [rs, if_pos (.inl rfl)]
  rfl
theorem par_nd {r : Nat} (hr : r < W256) : (List.getD (nd r) 0 0 &&& 1).toNat = r % 2 := by
  have e : List.getD (nd r) 0 0 = UInt64.ofNat r := rfl
  rw [e, UInt64.toNat_and, show (1 : UInt64).toNat = 1 from rfl, Nat.and_one_is_mod, ofNat_val]
  omega
theorem root_no {f : Int} (hf : f = 1 ∨ f = 2 ∨ f = 3 ∨ f = 4) {A : Nat} (h : ¬ nd (mulM f (nv (nd (rs f A))) (nv (nd (rs f A)))) = nd (mulM f A (nv [1, 0, 0, 0]))) : rootOk f A = false ∧ rootN f A = 0 := by
  have e : rootOk f A = false := decide_eq_false (fun q => h ((sq_eq hf (rs_lt hf A)).2 q.2))
  exact ⟨e, by rw [rootN, e]; rfl⟩
theorem root_yes {f : Int} (h12 : f = 1 ∨ f = 2) {A : Nat} (h : nd (mulM f (nv (nd (rs f A))) (nv (nd (rs f A)))) = nd (mulM f A (nv [1, 0, 0, 0]))) : rootOk f A = true := decide_eq_true ⟨h12, (sq_eq (by omega) (rs_lt (by omega) A)).1 h⟩
theorem root_odd {f : Int} (h12 : f = 1 ∨ f = 2) {A : Nat} (h : nd (mulM f (nv (nd (rs f A))) (nv (nd (rs f A)))) = nd (mulM f A (nv [1, 0, 0, 0]))) (hp : (((List.getD (nd (rs f A)) 0 0 &&& 1).toNat : Nat) : Int) = (1 : Int)) : nd (subM f 0 (nv (nd (rs f A)))) = nd (rootN f A) := by
  have hr := rs_lt (f := f) (by omega) A
  rw [par_nd hr] at hp
  rw [rootN, if_pos (root_yes h12 h), if_pos (by omega), nv_nd hr]
theorem root_even {f : Int} (h12 : f = 1 ∨ f = 2) {A : Nat} (h : nd (mulM f (nv (nd (rs f A))) (nv (nd (rs f A)))) = nd (mulM f A (nv [1, 0, 0, 0]))) (hp : ¬ (((List.getD (nd (rs f A)) 0 0 &&& 1).toNat : Nat) : Int) = (1 : Int)) : nd (rs f A) = nd (rootN f A) := by
  rw [par_nd (rs_lt (f := f) (by omega) A)] at hp
  rw [rootN, if_pos (root_yes h12 h), if_neg (by omega)]
theorem root_none {f : Int} (hf : ¬ (f = 1 ∨ f = 2)) (A : Nat) : rootOk f A = false ∧ rootN f A = 0 := by
  have e : rootOk f A = false := decide_eq_false (fun q => hf q.1)
  exact ⟨e, by rw [rootN, e]; rfl⟩
theorem root_z {f : Int} {A : Nat} (h : rootOk f A = false ∧ rootN f A = 0) : [(0 : UInt64), 0, 0, 0] = nd (rootN f A) := by rw [h.2]; rfl
theorem rootN_lt {f : Int} (A : Nat) : rootN f A < W256 := by
  unfold rootN rootOk
  split
  · rename_i h
    have h12 := (of_decide_eq_true h).1
    split
    · exact mod_lt_w (by omega)
    · exact rs_lt (by omega) A
  · decide

theorem root1_go (w : World) (a : List UInt64) (ha : List.length a = 4) : Calls Try.prog 15 #[.int .i64 1, .agg (List.toArray (u64s a))] w fun e w' => e = .returned (.tuple #[.agg (List.toArray (u64s (nd (rootN 1 (nv a))))), .bool (rootOk 1 (nv a))]) ∧ Ev w [] w' [] := by
 refine d_0 [(0, .int .i64 1), (1, .agg (List.toArray (u64s a)))] 82 Go.Proofs.Try.func15 Go.Proofs.Try.ntmps15 (Heap.nil _) fun act0 En0 Hv0 => ?_
 refine wp_seq ?_
 refine region_from ?_
 refine f_o ?_
 refine m_m 25 (u64s a) En0 Hv0 fun ac2 wo3 bk1 En4 Hv5 => ?_
 refine f_o ?_
 refine m_z 25 (u64s (List.replicate 4 0)) En4 Hv5 fun ac7 wo8 bk6 En9 Hv10 => ?_
 refine d_e [0,3,4,5] [] En9 fun ac11 En12 => ?_
 refine then_normal ?_
 refine wp_seq ?_
 refine region_from ?_
 refine d_k [0,3,4,5,13] [] 1 En12 fun ac13 En14 => ?_
 refine f_o ?_
 refine c_p En14 Hv10 (modulus_go _ 1) fun ac19 wo16 En20 Hv21 => ?_
 refine f_o ?_
 refine m_z 25 (u64s (List.replicate 4 0)) En20 Hv21 fun ac23 wo24 bk22 En25 Hv26 => ?_
 refine f_o ?_
 refine m_g 2 0 4 (u64s (nd (mF 1))) (u64s (nd (mF 1))) [.box bk1 (u64s a) 25, .box bk6 (u64s (List.replicate 4 0)) 25, .box bk22 (u64s (nd (mF 1))) 25] En25 Hv26 rfl (u64s_lenh (nds_len _ _)) (by rw [(u64s_lenh (List.length_replicate))]; decide) (u64s_one _) (store_whole (u64s_lenh (List.length_replicate))) rfl fun ac27 wo28 En29 Hv30 => ?_
 refine f_e ?_
 refine then_normal ?_
 refine wp_seq ?_
 refine region_from ?_
 refine d_k [0,3,4,5,6,15] [] 1 En29 fun ac31 En32 => ?_
 refine f_o ?_
 refine m_a 0 0 4 (u64s a) En32 Hv30 rfl (load_whole (u64s_lenh ha)) (u64s_lenh ha) fun ac33 En34 => ?_
 refine d_k [0,3,4,5,6,15,16,17] [] 3 En34 fun ac35 En36 => ?_
 refine f_o ?_
 refine c_p En36 Hv30 ((mulOk h1f) _ a ([1, 0, 0, 0] : List UInt64) ha (show List.length ([1, 0, 0, 0] : List UInt64) = 4 from rfl)) fun ac41 wo38 En42 Hv43 => ?_
 refine f_o ?_
 refine m_z 25 (u64s (List.replicate 4 0)) En42 Hv43 fun ac45 wo46 bk44 En47 Hv48 => ?_
 refine f_o ?_
 refine m_g 3 0 4 (u64s (nd (mulM 1 (nv a) (nv ([1, 0, 0, 0] : List UInt64))))) (u64s (nd (mulM 1 (nv a) (nv ([1, 0, 0, 0] : List UInt64))))) [.box bk1 (u64s a) 25, .box bk6 (u64s (List.replicate 4 0)) 25, .box bk22 (u64s (nd (mF 1))) 25, .box bk44 (u64s (nd (mulM 1 (nv a) (nv ([1, 0, 0, 0] : List UInt64))))) 25] En47 Hv48 rfl (u64s_lenh (nds_len _ _)) (by rw [(u64s_lenh (List.length_replicate))]; decide) (u64s_one _) (store_whole (u64s_lenh (List.length_replicate))) rfl fun ac49 wo50 En51 Hv52 => ?_
 refine f_e ?_
 refine then_normal ?_
 refine wp_seq ?_
 refine region_from ?_
 refine f_o ?_
 refine m_z 25 (u64s (List.replicate 4 0)) En51 Hv52 fun ac54 wo55 bk53 En56 Hv57 => ?_
 refine f_e ?_
 refine then_normal ?_
 refine wp_seq ?_
 refine wp_seq ?_
 refine d_r [0,3,4,5,6,7,8,19] [] En56 fun ac58 En59 => ?_
 refine then_normal ?_
 refine wp_block ?_
 refine wp_seq ?_
 refine d_r [0,3,4,5,6,7,8,19,21] [] En59 fun ac60 En61 => ?_
 refine then_normal ?_
 refine c_f En61 ?_
 refine wp_seq ?_
 refine d_r [0,3,4,5,6,7,8,19,34] [] En61 fun ac62 En63 => ?_
 refine then_normal ?_
 refine c_t En63 ?_
 refine wp_seq ?_
 refine region_from ?_
 refine f_o ?_
 refine m_a 2 0 4 (u64s (nd (mF 1))) En63 Hv57 rfl (load_whole (u64s_lenh (nds_len _ _))) (u64s_lenh (nds_len _ _)) fun ac64 En65 => ?_
 refine d_k [0,3,4,5,6,7,8,19,37,38] [] 2 En65 fun ac66 En67 => ?_
 refine f_o ?_
 refine c_p En67 Hv57 (plus_go _ (nd (mF 1)) ([3, 0, 0, 0] : List UInt64) (nds_len _ _) (show List.length ([3, 0, 0, 0] : List UInt64) = 4 from rfl)) fun ac72 wo69 En73 Hv74 => ?_
 refine d_k [0,3,4,5,6,7,8,19,40,41] [] 6 En73 fun ac75 En76 => ?_
 refine f_o ?_
 refine m_z 25 (u64s (List.replicate 4 0)) En76 Hv74 fun ac78 wo79 bk77 En80 Hv81 => ?_
 refine f_o ?_
 refine m_g 5 0 4 (u64s (nd (nv (nd (mF 1)) + nv ([3, 0, 0, 0] : List UInt64)))) (u64s (nd (nv (nd (mF 1)) + nv ([3, 0, 0, 0] : List UInt64)))) [.box bk1 (u64s a) 25, .box bk6 (u64s (List.replicate 4 0)) 25, .box bk22 (u64s (nd (mF 1))) 25, .box bk44 (u64s (nd (mulM 1 (nv a) (nv ([1, 0, 0, 0] : List UInt64))))) 25, .box bk53 (u64s (List.replicate 4 0)) 25, .box bk77 (u64s (nd (nv (nd (mF 1)) + nv ([3, 0, 0, 0] : List UInt64)))) 25] En80 Hv81 rfl (u64s_lenh (nds_len _ _)) (by rw [(u64s_lenh (List.length_replicate))]; decide) (u64s_one _) (store_whole (u64s_lenh (List.length_replicate))) rfl fun ac82 wo83 En84 Hv85 => ?_
 refine d_e [0,3,4,5,6,7,8,11,19] [] En84 fun ac86 En87 => ?_
 refine then_normal ?_
 refine wp_seq ?_
 refine r_c (fun ac wo => Env ac 82 [(0, .int .i64 1), (3, pt bk1), (4, pt bk6), (5, .bool false), (6, pt bk22), (7, pt bk44), (8, pt bk53), (11, pt bk77), (19, .int .i64 1)] ∧ Ev w [] wo [.box bk1 (u64s a) 25, .box bk6 (u64s (List.replicate 4 0)) 25, .box bk22 (u64s (nd (mF 1))) 25, .box bk44 (u64s (nd (mulM 1 (nv a) (nv ([1, 0, 0, 0] : List UInt64))))) 25, .box bk53 (u64s (nd (powM 1 (nv a) (nv (nd (nv (nd (nv (nd (mF 1)) + nv ([3, 0, 0, 0] : List UInt64))) / 8)))))) 25, .box bk77 (u64s (nd (nv (nd (mF 1)) + nv ([3, 0, 0, 0] : List UInt64)))) 25]) ?_ ?_
 ·
  refine h_s (fun wv => Ev w [] wv [.box bk1 (u64s a) 25, .box bk77 (u64s (nd (nv (nd (mF 1)) + nv ([3, 0, 0, 0] : List UInt64)))) 25]) [] 6 ?_
  have wo88 := Hv85.trans (Ev.drew Hv85.heap)
  refine q_s [0] [] 5 En87 (wo88.pk [0, 5]) fun ac179 En180 => ?_
  refine q_r 1 (s := Instr.loadAt 25 (pt bk1)) (v := .agg (List.toArray (u64s a))) En180 (fun w hS => run_loadAgg2 (m := 4) (cs := u64s a) (u64s_lenh ha) (by kernel_rfl) (by kernel_rfl) (hS.heap.cells (k := 0) (off := 0) (m := 4) rfl (load_whole (u64s_lenh ha)))) (wo88.pk [0, 5]) fun ac181 En182 => ?_
  refine q_r 2 (s := Instr.loadAt 25 (pt bk77)) (v := .agg (List.toArray (u64s (nd (nv (nd (mF 1)) + nv ([3, 0, 0, 0] : List UInt64)))))) En182 (fun w hS => run_loadAgg2 (m := 4) (cs := u64s (nd (nv (nd (mF 1)) + nv ([3, 0, 0, 0] : List UInt64)))) (u64s_lenh (nds_len _ _)) (by kernel_rfl) (by kernel_rfl) (hS.heap.cells (k := 1) (off := 0) (m := 4) rfl (load_whole (u64s_lenh (nds_len _ _))))) (wo88.pk [0, 5]) fun ac183 En184 => ?_
  refine q_t 3 ?_
  refine c_p En184 wo88 (shift3_go _ (nd (nv (nd (mF 1)) + nv ([3, 0, 0, 0] : List UInt64))) (nds_len _ _)) fun ac189 wo186 En190 Hv191 => ?_
  refine ⟨fun _ => Hv191.pk [0, 5], ?_⟩
  refine q_t 4 ?_
  refine c_p En190 Hv191 (exp_go _ 1 h1f (mulOk h1f) a (nd (nv (nd (nv (nd (mF 1)) + nv ([3, 0, 0, 0] : List UInt64))) / 8)) ha (nds_len _ _)) fun ac196 wo193 En197 Hv198 => ?_
  refine ⟨fun _ => Hv198.pk [0, 5], ?_⟩
  refine q_t 5 ?_
  refine m_g 4 0 4 (u64s (nd (powM 1 (nv a) (nv (nd (nv (nd (nv (nd (mF 1)) + nv ([3, 0, 0, 0] : List UInt64))) / 8)))))) (u64s (nd (powM 1 (nv a) (nv (nd (nv (nd (nv (nd (mF 1)) + nv ([3, 0, 0, 0] : List UInt64))) / 8)))))) [.box bk1 (u64s a) 25, .box bk6 (u64s (List.replicate 4 0)) 25, .box bk22 (u64s (nd (mF 1))) 25, .box bk44 (u64s (nd (mulM 1 (nv a) (nv ([1, 0, 0, 0] : List UInt64))))) 25, .box bk53 (u64s (nd (powM 1 (nv a) (nv (nd (nv (nd (nv (nd (mF 1)) + nv ([3, 0, 0, 0] : List UInt64))) / 8)))))) 25, .box bk77 (u64s (nd (nv (nd (mF 1)) + nv ([3, 0, 0, 0] : List UInt64)))) 25] En197 Hv198 rfl (u64s_lenh (nds_len _ _)) (by rw [(u64s_lenh (List.length_replicate))]; decide) (u64s_one _) (store_whole (u64s_lenh (List.length_replicate))) rfl fun ac199 wo200 En201 Hv202 => ?_
  refine ⟨fun _ => Hv202.pk [0, 5], ?_⟩
  exact h_e ⟨En201.sb, Hv202.pk [0, 1, 2, 3, 4, 5]⟩
 rintro ac203 wo204 ⟨En205, Hv206⟩
 refine then_normal ?_
 refine wp_seq ?_
 rw [show (nd (powM 1 (nv a) (nv (nd (nv (nd (nv (nd (mF 1)) + nv ([3, 0, 0, 0] : List UInt64))) / 8))))) = (nd (rq 1 (nv a))) from (congrArg (fun e => nd (powM 1 (nv a) e)) (show _ = (mF 1 + 3) / 8 by decide +kernel))] at Hv206
 refine r_c (fun ac wo => Env ac 82 [(0, .int .i64 1), (3, pt bk1), (4, pt bk6), (5, .bool false), (6, pt bk22), (7, pt bk44), (8, pt bk53), (11, pt bk77), (19, .int .i64 1), (52, .bool (!((nd (mulM 1 (nv (nd (rq 1 (nv a)))) (nv (nd (rq 1 (nv a)))))) == (nd (mulM 1 (nv a) (nv ([1, 0, 0, 0] : List UInt64)))))))] ∧ Ev w [] wo [.box bk1 (u64s a) 25, .box bk6 (u64s (List.replicate 4 0)) 25, .box bk22 (u64s (nd (mF 1))) 25, .box bk44 (u64s (nd (mulM 1 (nv a) (nv ([1, 0, 0, 0] : List UInt64))))) 25, .box bk53 (u64s (nd (rq 1 (nv a)))) 25, .box bk77 (u64s (nd (nv (nd (mF 1)) + nv ([3, 0, 0, 0] : List UInt64)))) 25]) ?_ ?_
 ·
  refine h_s (fun wv => Ev w [] wv [.box bk44 (u64s (nd (mulM 1 (nv a) (nv ([1, 0, 0, 0] : List UInt64))))) 25, .box bk53 (u64s (nd (rq 1 (nv a)))) 25]) [] 6 ?_
  have wo207 := Hv206.trans (Ev.drew Hv206.heap)
  refine q_s [0] [] 5 En205 (wo207.pk [3, 4]) fun ac289 En290 => ?_
  refine q_r 1 (s := Instr.loadAt 25 (pt bk53)) (v := .agg (List.toArray (u64s (nd (rq 1 (nv a)))))) En290 (fun w hS => run_loadAgg2 (m := 4) (cs := u64s (nd (rq 1 (nv a)))) (u64s_lenh (nds_len _ _)) (by kernel_rfl) (by kernel_rfl) (hS.heap.cells (k := 1) (off := 0) (m := 4) rfl (load_whole (u64s_lenh (nds_len _ _))))) (wo207.pk [3, 4]) fun ac291 En292 => ?_
  refine q_r 2 (s := Instr.loadAt 25 (pt bk53)) (v := .agg (List.toArray (u64s (nd (rq 1 (nv a)))))) En292 (fun w hS => run_loadAgg2 (m := 4) (cs := u64s (nd (rq 1 (nv a)))) (u64s_lenh (nds_len _ _)) (by kernel_rfl) (by kernel_rfl) (hS.heap.cells (k := 1) (off := 0) (m := 4) rfl (load_whole (u64s_lenh (nds_len _ _))))) (wo207.pk [3, 4]) fun ac293 En294 => ?_
  refine q_r 4 (s := Instr.loadAt 25 (pt bk44)) (v := .agg (List.toArray (u64s (nd (mulM 1 (nv a) (nv ([1, 0, 0, 0] : List UInt64))))))) En294 (fun w hS => run_loadAgg2 (m := 4) (cs := u64s (nd (mulM 1 (nv a) (nv ([1, 0, 0, 0] : List UInt64))))) (u64s_lenh (nds_len _ _)) (by kernel_rfl) (by kernel_rfl) (hS.heap.cells (k := 0) (off := 0) (m := 4) rfl (load_whole (u64s_lenh (nds_len _ _))))) (wo207.pk [3, 4]) fun ac295 En296 => ?_
  refine q_t 3 ?_
  refine c_p En296 wo207 ((mulOk h1f) _ (nd (rq 1 (nv a))) (nd (rq 1 (nv a))) (nds_len _ _) (nds_len _ _)) fun ac301 wo298 En302 Hv303 => ?_
  refine ⟨fun _ => Hv303.pk [3, 4], ?_⟩
  refine q_f 5 (s := eqOp .neq 25 (.tmp 50) (.tmp 51) (.agg (List.toArray (u64s (nd (mulM 1 (nv (nd (rq 1 (nv a)))) (nv (nd (rq 1 (nv a))))))))) (.agg (List.toArray (u64s (nd (mulM 1 (nv a) (nv ([1, 0, 0, 0] : List UInt64)))))))) (v := .bool (!((nd (mulM 1 (nv (nd (rq 1 (nv a)))) (nv (nd (rq 1 (nv a)))))) == (nd (mulM 1 (nv a) (nv ([1, 0, 0, 0] : List UInt64))))))) En302 (fun _ => Go.Dbr.u64s_neop (a := (.tmp 50)) (b := (.tmp 51)) (e := 23) (m := 4) (by kernel_rfl) (by kernel_rfl) (by kernel_rfl) (by kernel_rfl) (by kernel_rfl) (nds_len _ _) (nds_len _ _) _) (fun _ => Hv303.pk [3, 4]) fun ac304 En305 => ?_
  exact h_e ⟨En305.sb, Hv303.pk [0, 1, 2, 3, 4, 5]⟩
 rintro ac306 wo307 ⟨En308, Hv309⟩
 refine then_normal ?_
 refine region_cut (F := fun ac wo => Env ac 82 [(0, .int .i64 1), (3, pt bk1), (4, pt bk6), (5, .bool false), (6, pt bk22), (7, pt bk44), (8, pt bk53), (11, pt bk77), (19, .int .i64 1)] ∧ Ev w [] wo [.box bk6 (u64s (List.replicate 4 0)) 25, .box bk44 (u64s (nd (mulM 1 (nv a) (nv ([1, 0, 0, 0] : List UInt64))))) 25, .box bk53 (u64s (nd (rs 1 (nv a)))) 25]) ?_ ?_
 ·
  refine cond_at En308 (t := !((nd (mulM 1 (nv (nd (rq 1 (nv a)))) (nv (nd (rq 1 (nv a)))))) == (nd (mulM 1 (nv a) (nv ([1, 0, 0, 0] : List UInt64)))))) (by kernel_rfl) (fun hc310 => ?_) (fun hc310 => ?_)
  ·
   replace hc310 : ¬ ((nd (mulM 1 (nv (nd (rq 1 (nv a)))) (nv (nd (rq 1 (nv a)))))) = (nd (mulM 1 (nv a) (nv ([1, 0, 0, 0] : List UInt64))))) := by simpa using hc310
   refine wp_seq ?_
   refine region_from ?_
   refine f_o ?_
   refine m_a 2 0 4 (u64s (nd (mF 1))) En308 Hv309 rfl (load_whole (u64s_lenh (nds_len _ _))) (u64s_lenh (nds_len _ _)) fun ac311 En312 => ?_
   refine d_k [0,3,4,5,6,7,8,11,19,54,55] [] 2 En312 fun ac313 En314 => ?_
   refine f_o ?_
   refine c_p En314 Hv309 (minus_go _ (nd (mF 1)) ([1, 0, 0, 0] : List UInt64) (nds_len _ _) (show List.length ([1, 0, 0, 0] : List UInt64) = 4 from rfl)) fun ac319 wo316 En320 Hv321 => ?_
   refine d_k [0,3,4,5,6,7,8,11,19,57] [] 6 En320 fun ac322 En323 => ?_
   refine f_o ?_
   refine m_g 5 0 4 (u64s (nd (nv (nd (mF 1)) + W256 - nv ([1, 0, 0, 0] : List UInt64)))) (u64s (nd (nv (nd (mF 1)) + W256 - nv ([1, 0, 0, 0] : List UInt64)))) [.box bk1 (u64s a) 25, .box bk6 (u64s (List.replicate 4 0)) 25, .box bk22 (u64s (nd (mF 1))) 25, .box bk44 (u64s (nd (mulM 1 (nv a) (nv ([1, 0, 0, 0] : List UInt64))))) 25, .box bk53 (u64s (nd (rq 1 (nv a)))) 25, .box bk77 (u64s (nd (nv (nd (mF 1)) + W256 - nv ([1, 0, 0, 0] : List UInt64)))) 25] En323 Hv321 rfl (u64s_lenh (nds_len _ _)) (by rw [(u64s_lenh (nds_len _ _))]; decide) (u64s_one _) (store_whole (u64s_lenh (nds_len _ _))) rfl fun ac324 wo325 En326 Hv327 => ?_
   refine f_e ?_
   refine then_normal ?_
   refine r_c (fun ac wo => Env ac 82 [(0, .int .i64 1), (3, pt bk1), (4, pt bk6), (5, .bool false), (6, pt bk22), (7, pt bk44), (8, pt bk53), (11, pt bk77), (19, .int .i64 1)] ∧ Ev w [] wo [.box bk1 (u64s a) 25, .box bk6 (u64s (List.replicate 4 0)) 25, .box bk22 (u64s (nd (mF 1))) 25, .box bk44 (u64s (nd (mulM 1 (nv a) (nv ([1, 0, 0, 0] : List UInt64))))) 25, .box bk53 (u64s (nd (mulM 1 (nv (nd (rq 1 (nv a)))) (nv (nd (powM 1 (nv ([2, 0, 0, 0] : List UInt64)) (nv (nd (nv (nd (nv (nd (mF 1)) + W256 - nv ([1, 0, 0, 0] : List UInt64))) / 4))))))))) 25, .box bk77 (u64s (nd (nv (nd (mF 1)) + W256 - nv ([1, 0, 0, 0] : List UInt64)))) 25]) ?_ ?_
   ·
    refine h_s (fun wv => Ev w [] wv [.box bk53 (u64s (nd (rq 1 (nv a)))) 25, .box bk77 (u64s (nd (nv (nd (mF 1)) + W256 - nv ([1, 0, 0, 0] : List UInt64)))) 25]) [8] 9 ?_
    have wo328 := Hv327.trans (Ev.drew Hv327.heap)
    refine q_s [0] [] 8 En326 (wo328.pk [4, 5]) fun ac469 En470 => ?_
    refine q_r 1 (s := Instr.loadAt 25 (pt bk53)) (v := .agg (List.toArray (u64s (nd (rq 1 (nv a)))))) En470 (fun w hS => run_loadAgg2 (m := 4) (cs := u64s (nd (rq 1 (nv a)))) (u64s_lenh (nds_len _ _)) (by kernel_rfl) (by kernel_rfl) (hS.heap.cells (k := 0) (off := 0) (m := 4) rfl (load_whole (u64s_lenh (nds_len _ _))))) (wo328.pk [4, 5]) fun ac471 En472 => ?_
    refine q_s [2,3] [] 5 En472 (wo328.pk [4, 5]) fun ac473 En474 => ?_
    refine q_r 4 (s := Instr.loadAt 25 (pt bk77)) (v := .agg (List.toArray (u64s (nd (nv (nd (mF 1)) + W256 - nv ([1, 0, 0, 0] : List UInt64)))))) En474 (fun w hS => run_loadAgg2 (m := 4) (cs := u64s (nd (nv (nd (mF 1)) + W256 - nv ([1, 0, 0, 0] : List UInt64)))) (u64s_lenh (nds_len _ _)) (by kernel_rfl) (by kernel_rfl) (hS.heap.cells (k := 1) (off := 0) (m := 4) rfl (load_whole (u64s_lenh (nds_len _ _))))) (wo328.pk [4, 5]) fun ac475 En476 => ?_
    refine q_t 5 ?_
    refine c_p En476 wo328 (shift2_go _ (nd (nv (nd (mF 1)) + W256 - nv ([1, 0, 0, 0] : List UInt64))) (nds_len _ _)) fun ac481 wo478 En482 Hv483 => ?_
    refine ⟨fun _ => Hv483.pk [4, 5], ?_⟩
    refine q_t 6 ?_
    refine c_p En482 Hv483 (exp_go _ 1 h1f (mulOk h1f) ([2, 0, 0, 0] : List UInt64) (nd (nv (nd (nv (nd (mF 1)) + W256 - nv ([1, 0, 0, 0] : List UInt64))) / 4)) (show List.length ([2, 0, 0, 0] : List UInt64) = 4 from rfl) (nds_len _ _)) fun ac488 wo485 En489 Hv490 => ?_
    refine ⟨fun _ => Hv490.pk [4, 5], ?_⟩
    refine q_t 7 ?_
    refine c_p En489 Hv490 ((mulOk h1f) _ (nd (rq 1 (nv a))) (nd (powM 1 (nv ([2, 0, 0, 0] : List UInt64)) (nv (nd (nv (nd (nv (nd (mF 1)) + W256 - nv ([1, 0, 0, 0] : List UInt64))) / 4))))) (nds_len _ _) (nds_len _ _)) fun ac495 wo492 En496 Hv497 => ?_
    refine ⟨fun _ => Hv497.pk [4, 5], ?_⟩
    refine q_t 8 ?_
    refine m_g 4 0 4 (u64s (nd (mulM 1 (nv (nd (rq 1 (nv a)))) (nv (nd (powM 1 (nv ([2, 0, 0, 0] : List UInt64)) (nv (nd (nv (nd (nv (nd (mF 1)) + W256 - nv ([1, 0, 0, 0] : List UInt64))) / 4))))))))) (u64s (nd (mulM 1 (nv (nd (rq 1 (nv a)))) (nv (nd (powM 1 (nv ([2, 0, 0, 0] : List UInt64)) (nv (nd (nv (nd (nv (nd (mF 1)) + W256 - nv ([1, 0, 0, 0] : List UInt64))) / 4))))))))) [.box bk1 (u64s a) 25, .box bk6 (u64s (List.replicate 4 0)) 25, .box bk22 (u64s (nd (mF 1))) 25, .box bk44 (u64s (nd (mulM 1 (nv a) (nv ([1, 0, 0, 0] : List UInt64))))) 25, .box bk53 (u64s (nd (mulM 1 (nv (nd (rq 1 (nv a)))) (nv (nd (powM 1 (nv ([2, 0, 0, 0] : List UInt64)) (nv (nd (nv (nd (nv (nd (mF 1)) + W256 - nv ([1, 0, 0, 0] : List UInt64))) / 4))))))))) 25, .box bk77 (u64s (nd (nv (nd (mF 1)) + W256 - nv ([1, 0, 0, 0] : List UInt64)))) 25] En496 Hv497 rfl (u64s_lenh (nds_len _ _)) (by rw [(u64s_lenh (nds_len _ _))]; decide) (u64s_one _) (store_whole (u64s_lenh (nds_len _ _))) rfl fun ac498 wo499 En500 Hv501 => ?_
    refine ⟨q_y, ?_⟩
    exact h_e ⟨En500.sb, Hv501.pk [0, 1, 2, 3, 4, 5]⟩
   rintro ac502 wo503 ⟨En504, Hv505⟩
   rw [show (nd (mulM 1 (nv (nd (rq 1 (nv a)))) (nv (nd (powM 1 (nv ([2, 0, 0, 0] : List UInt64)) (nv (nd (nv (nd (nv (nd (mF 1)) + W256 - nv ([1, 0, 0, 0] : List UInt64))) / 4)))))))) = (nd (rs 1 (nv a))) from (rs1_b (by assumption) (by decide +kernel))] at Hv505
   exact ⟨rfl, ⟨En504.sb, Hv505.pk [1, 3, 4]⟩⟩
  ·
   replace hc310 : (nd (mulM 1 (nv (nd (rq 1 (nv a)))) (nv (nd (rq 1 (nv a)))))) = (nd (mulM 1 (nv a) (nv ([1, 0, 0, 0] : List UInt64)))) := by simpa using hc310
   refine wp_skip ?_
   rw [show (nd (rq 1 (nv a))) = (nd (rs 1 (nv a))) from (rs1_a (by assumption))] at Hv309
   exact ⟨rfl, ⟨En308.sb, Hv309.pk [1, 3, 4]⟩⟩
 ·
  rintro ac506 wo507 ⟨En508, Hv509⟩
  refine block_normal ?_
  refine then_normal ?_
  refine wp_seq ?_
  refine wp_seq ?_
  refine r_c (fun ac wo => Env ac 82 [(0, .int .i64 1), (3, pt bk1), (4, pt bk6), (5, .bool false), (6, pt bk22), (7, pt bk44), (8, pt bk53), (11, pt bk77), (19, .int .i64 1), (72, .bool (!((nd (mulM 1 (nv (nd (rs 1 (nv a)))) (nv (nd (rs 1 (nv a)))))) == (nd (mulM 1 (nv a) (nv ([1, 0, 0, 0] : List UInt64)))))))] ∧ Ev w [] wo [.box bk6 (u64s (List.replicate 4 0)) 25, .box bk44 (u64s (nd (mulM 1 (nv a) (nv ([1, 0, 0, 0] : List UInt64))))) 25, .box bk53 (u64s (nd (rs 1 (nv a)))) 25]) ?_ ?_
  ·
   refine h_s (fun wv => Ev w [] wv [.box bk44 (u64s (nd (mulM 1 (nv a) (nv ([1, 0, 0, 0] : List UInt64))))) 25, .box bk53 (u64s (nd (rs 1 (nv a)))) 25]) [] 6 ?_
   have wo510 := Hv509.trans (Ev.drew Hv509.heap)
   refine q_s [0] [] 5 En508 (wo510.pk [1, 2]) fun ac592 En593 => ?_
   refine q_r 1 (s := Instr.loadAt 25 (pt bk53)) (v := .agg (List.toArray (u64s (nd (rs 1 (nv a)))))) En593 (fun w hS => run_loadAgg2 (m := 4) (cs := u64s (nd (rs 1 (nv a)))) (u64s_lenh (nds_len _ _)) (by kernel_rfl) (by kernel_rfl) (hS.heap.cells (k := 1) (off := 0) (m := 4) rfl (load_whole (u64s_lenh (nds_len _ _))))) (wo510.pk [1, 2]) fun ac594 En595 => ?_
   refine q_r 2 (s := Instr.loadAt 25 (pt bk53)) (v := .agg (List.toArray (u64s (nd (rs 1 (nv a)))))) En595 (fun w hS => run_loadAgg2 (m := 4) (cs := u64s (nd (rs 1 (nv a)))) (u64s_lenh (nds_len _ _)) (by kernel_rfl) (by kernel_rfl) (hS.heap.cells (k := 1) (off := 0) (m := 4) rfl (load_whole (u64s_lenh (nds_len _ _))))) (wo510.pk [1, 2]) fun ac596 En597 => ?_
   refine q_r 4 (s := Instr.loadAt 25 (pt bk44)) (v := .agg (List.toArray (u64s (nd (mulM 1 (nv a) (nv ([1, 0, 0, 0] : List UInt64))))))) En597 (fun w hS => run_loadAgg2 (m := 4) (cs := u64s (nd (mulM 1 (nv a) (nv ([1, 0, 0, 0] : List UInt64))))) (u64s_lenh (nds_len _ _)) (by kernel_rfl) (by kernel_rfl) (hS.heap.cells (k := 0) (off := 0) (m := 4) rfl (load_whole (u64s_lenh (nds_len _ _))))) (wo510.pk [1, 2]) fun ac598 En599 => ?_
   refine q_t 3 ?_
   refine c_p En599 wo510 ((mulOk h1f) _ (nd (rs 1 (nv a))) (nd (rs 1 (nv a))) (nds_len _ _) (nds_len _ _)) fun ac604 wo601 En605 Hv606 => ?_
   refine ⟨fun _ => Hv606.pk [1, 2], ?_⟩
   refine q_f 5 (s := eqOp .neq 25 (.tmp 70) (.tmp 71) (.agg (List.toArray (u64s (nd (mulM 1 (nv (nd (rs 1 (nv a)))) (nv (nd (rs 1 (nv a))))))))) (.agg (List.toArray (u64s (nd (mulM 1 (nv a) (nv ([1, 0, 0, 0] : List UInt64)))))))) (v := .bool (!((nd (mulM 1 (nv (nd (rs 1 (nv a)))) (nv (nd (rs 1 (nv a)))))) == (nd (mulM 1 (nv a) (nv ([1, 0, 0, 0] : List UInt64))))))) En605 (fun _ => Go.Dbr.u64s_neop (a := (.tmp 70)) (b := (.tmp 71)) (e := 23) (m := 4) (by kernel_rfl) (by kernel_rfl) (by kernel_rfl) (by kernel_rfl) (by kernel_rfl) (nds_len _ _) (nds_len _ _) _) (fun _ => Hv606.pk [1, 2]) fun ac607 En608 => ?_
   exact h_e ⟨En608.sb, Hv606.pk [0, 1, 2]⟩
  rintro ac609 wo610 ⟨En611, Hv612⟩
  refine then_normal ?_
  refine cond_at En611 (t := !((nd (mulM 1 (nv (nd (rs 1 (nv a)))) (nv (nd (rs 1 (nv a)))))) == (nd (mulM 1 (nv a) (nv ([1, 0, 0, 0] : List UInt64)))))) (by kernel_rfl) (fun hc613 => ?_) (fun hc613 => ?_)
  ·
   replace hc613 : ¬ ((nd (mulM 1 (nv (nd (rs 1 (nv a)))) (nv (nd (rs 1 (nv a)))))) = (nd (mulM 1 (nv a) (nv ([1, 0, 0, 0] : List UInt64))))) := by simpa using hc613
   refine wp_seq ?_
   refine region_from ?_
   refine d_k [0,3,4,5,6,7,8,11,19,73] [] 1 En611 fun ac614 En615 => ?_
   refine f_o ?_
   refine m_g 0 0 4 (u64s ([0, 0, 0, 0] : List UInt64)) (u64s ([0, 0, 0, 0] : List UInt64)) [.box bk6 (u64s ([0, 0, 0, 0] : List UInt64)) 25, .box bk44 (u64s (nd (mulM 1 (nv a) (nv ([1, 0, 0, 0] : List UInt64))))) 25, .box bk53 (u64s (nd (rs 1 (nv a)))) 25] En615 Hv612 rfl (u64s_lenh (show List.length ([0, 0, 0, 0] : List UInt64) = 4 from rfl)) (by rw [(u64s_lenh (List.length_replicate))]; decide) (u64s_one _) (store_whole (u64s_lenh (List.length_replicate))) rfl fun ac616 wo617 En618 Hv619 => ?_
   refine d_e [0,3,4,5,6,7,8,11,19] [] En618 fun ac620 En621 => ?_
   refine then_normal ?_
   refine wp_ret ?_
   refine then_ret ?_
   refine d_cell_tmp (v := .agg (List.toArray (u64s ([0, 0, 0, 0] : List UInt64)))) (x := .bool false) (t := 4) (T := 25) (ad := ⟨bk6, 0, none⟩) (u := 5) En621 (by kernel_rfl) (by kernel_rfl) (Ev.cellAgg (t := 25) (k := 0) (off := 0) (m := 4) (xs := u64s ([0, 0, 0, 0] : List UInt64)) Hv619 rfl (load_whole (u64s_lenh (show List.length ([0, 0, 0, 0] : List UInt64) = 4 from rfl))) (u64s_lenh (show List.length ([0, 0, 0, 0] : List UInt64) = 4 from rfl)) (by kernel_rfl) (by kernel_rfl)) (by kernel_rfl) ?_
   have eb := (root_no (f := 1) h1f (by assumption)).1
   have e : ([0, 0, 0, 0] : List UInt64) = nd (rootN 1 (nv a)) := root_z (root_no (f := 1) h1f (by assumption))
   rw [eb]
   exact ⟨congrArg (fun l : List UInt64 => Ending.returned (.tuple #[Value.agg (u64s l).toArray, .bool false])) e, Hv619.pk []⟩
  ·
   replace hc613 : (nd (mulM 1 (nv (nd (rs 1 (nv a)))) (nv (nd (rs 1 (nv a)))))) = (nd (mulM 1 (nv a) (nv ([1, 0, 0, 0] : List UInt64)))) := by simpa using hc613
   refine wp_skip ?_
   refine then_normal ?_
   refine wp_seq ?_
   refine wp_seq ?_
   refine region_from ?_
   refine d_k [0,3,4,5,6,7,8,11,19,74] [] 1 En611 fun ac622 En623 => ?_
   refine f_o ?_
   have hb624 : 0 < List.length (nd (rs 1 (nv a))) := by rw [(nds_len _ _)]; omega
   refine m_v 2 0 (uv64 (List.getD (nd (rs 1 (nv a))) 0 0)) En623 Hv612 rfl (u64s_getD hb624) fun ac625 En626 => ?_
   refine d_e [0,3,4,5,6,7,8,11,19,77] [(2, g_i .u64 (Go.Dbr.u64_and (x := List.getD (nd (rs 1 (nv a))) 0 0) (y := (1 : UInt64)) rfl rfl))] En626 fun ac627 En628 => ?_
   refine then_normal ?_
   refine c_e ((UInt64.toNat ((List.getD (nd (rs 1 (nv a))) 0 0) &&& (1 : UInt64)) : Nat) : Int) (1 : Int) En628 (fun hc629 => ?_) (fun hc629 => ?_)
   ·
    refine region_from ?_
    refine d_k [0,3,4,5,6,7,8,11,19,78] [] 1 En628 fun ac630 En631 => ?_
    refine f_o ?_
    refine m_a 2 0 4 (u64s (nd (rs 1 (nv a)))) En631 Hv612 rfl (load_whole (u64s_lenh (nds_len _ _))) (u64s_lenh (nds_len _ _)) fun ac632 En633 => ?_
    refine f_o ?_
    refine c_p En633 Hv612 (neg_go _ 1 h1f (nd (rs 1 (nv a))) (nds_len _ _)) fun ac638 wo635 En639 Hv640 => ?_
    refine f_o ?_
    refine m_g 2 0 4 (u64s (nd (subM 1 0 (nv (nd (rs 1 (nv a))))))) (u64s (nd (subM 1 0 (nv (nd (rs 1 (nv a))))))) [.box bk6 (u64s (List.replicate 4 0)) 25, .box bk44 (u64s (nd (mulM 1 (nv a) (nv ([1, 0, 0, 0] : List UInt64))))) 25, .box bk53 (u64s (nd (subM 1 0 (nv (nd (rs 1 (nv a))))))) 25] En639 Hv640 rfl (u64s_lenh (nds_len _ _)) (by rw [(u64s_lenh (nds_len _ _))]; decide) (u64s_one _) (store_whole (u64s_lenh (nds_len _ _))) rfl fun ac641 wo642 En643 Hv644 => ?_
    refine f_e ?_
    refine then_normal ?_
    refine wp_seq ?_
    refine region_from ?_
    refine f_o ?_
    refine m_a 2 0 4 (u64s (nd (subM 1 0 (nv (nd (rs 1 (nv a))))))) En643 Hv644 rfl (load_whole (u64s_lenh (nds_len _ _))) (u64s_lenh (nds_len _ _)) fun ac645 En646 => ?_
    refine f_o ?_
    refine m_g 0 0 4 (u64s (nd (subM 1 0 (nv (nd (rs 1 (nv a))))))) (u64s (nd (subM 1 0 (nv (nd (rs 1 (nv a))))))) [.box bk6 (u64s (nd (subM 1 0 (nv (nd (rs 1 (nv a))))))) 25, .box bk44 (u64s (nd (mulM 1 (nv a) (nv ([1, 0, 0, 0] : List UInt64))))) 25, .box bk53 (u64s (nd (subM 1 0 (nv (nd (rs 1 (nv a))))))) 25] En646 Hv644 rfl (u64s_lenh (nds_len _ _)) (by rw [(u64s_lenh (List.length_replicate))]; decide) (u64s_one _) (store_whole (u64s_lenh (List.length_replicate))) rfl fun ac647 wo648 En649 Hv650 => ?_
    refine d_e [0,3,4,5,6,7,8,11,19] [] En649 fun ac651 En652 => ?_
    refine then_normal ?_
    refine wp_ret ?_
    refine d_cell_tmp (v := .agg (List.toArray (u64s (nd (subM 1 0 (nv (nd (rs 1 (nv a))))))))) (x := .bool true) (t := 4) (T := 25) (ad := ⟨bk6, 0, none⟩) (u := 5) En652 (by kernel_rfl) (by kernel_rfl) (Ev.cellAgg (t := 25) (k := 0) (off := 0) (m := 4) (xs := u64s (nd (subM 1 0 (nv (nd (rs 1 (nv a))))))) Hv650 rfl (load_whole (u64s_lenh (nds_len _ _))) (u64s_lenh (nds_len _ _)) (by kernel_rfl) (by kernel_rfl)) (by kernel_rfl) ?_
    have eb := root_yes (f := 1) (A := nv a) (by decide) (by assumption)
    have e : nd (subM 1 0 (nv (nd (rs 1 (nv a))))) = nd (rootN 1 (nv a)) := by first | exact root_odd (by decide) (by assumption) (by assumption) | exact root_even (by decide) (by assumption) (by assumption)
    rw [eb]
    exact ⟨congrArg (fun l : List UInt64 => Ending.returned (.tuple #[Value.agg (u64s l).toArray, .bool true])) e, Hv650.pk []⟩
   ·
    refine wp_skip ?_
    refine then_normal ?_
    refine wp_seq ?_
    refine region_from ?_
    refine f_o ?_
    refine m_a 2 0 4 (u64s (nd (rs 1 (nv a)))) En628 Hv612 rfl (load_whole (u64s_lenh (nds_len _ _))) (u64s_lenh (nds_len _ _)) fun ac653 En654 => ?_
    refine f_o ?_
    refine m_g 0 0 4 (u64s (nd (rs 1 (nv a)))) (u64s (nd (rs 1 (nv a)))) [.box bk6 (u64s (nd (rs 1 (nv a)))) 25, .box bk44 (u64s (nd (mulM 1 (nv a) (nv ([1, 0, 0, 0] : List UInt64))))) 25, .box bk53 (u64s (nd (rs 1 (nv a)))) 25] En654 Hv612 rfl (u64s_lenh (nds_len _ _)) (by rw [(u64s_lenh (List.length_replicate))]; decide) (u64s_one _) (store_whole (u64s_lenh (List.length_replicate))) rfl fun ac655 wo656 En657 Hv658 => ?_
    refine d_e [0,3,4,5,6,7,8,11,19] [] En657 fun ac659 En660 => ?_
    refine then_normal ?_
    refine wp_ret ?_
    refine d_cell_tmp (v := .agg (List.toArray (u64s (nd (rs 1 (nv a)))))) (x := .bool true) (t := 4) (T := 25) (ad := ⟨bk6, 0, none⟩) (u := 5) En660 (by kernel_rfl) (by kernel_rfl) (Ev.cellAgg (t := 25) (k := 0) (off := 0) (m := 4) (xs := u64s (nd (rs 1 (nv a)))) Hv658 rfl (load_whole (u64s_lenh (nds_len _ _))) (u64s_lenh (nds_len _ _)) (by kernel_rfl) (by kernel_rfl)) (by kernel_rfl) ?_
    have eb := root_yes (f := 1) (A := nv a) (by decide) (by assumption)
    have e : nd (rs 1 (nv a)) = nd (rootN 1 (nv a)) := by first | exact root_odd (by decide) (by assumption) (by assumption) | exact root_even (by decide) (by assumption) (by assumption)
    rw [eb]
    exact ⟨congrArg (fun l : List UInt64 => Ending.returned (.tuple #[Value.agg (u64s l).toArray, .bool true])) e, Hv658.pk []⟩

theorem mul_no (w : World) (f : Int) (hf : ¬ (f = 1 ∨ f = 2 ∨ f = 3 ∨ f = 4)) (a b : List UInt64) (ha : List.length a = 4) (hb : List.length b = 4) : Calls Try.prog 18 #[.int .i64 f, .agg (List.toArray (u64s a)), .agg (List.toArray (u64s b))] w fun e w' => e = .returned (.agg (List.toArray (u64s (nd 0)))) ∧ Ev w [] w' [] := by
 refine d_0 [(0, .int .i64 f), (1, .agg (List.toArray (u64s a))), (2, .agg (List.toArray (u64s b)))] 45 Go.Proofs.Try.func18 Go.Proofs.Try.ntmps18 (Heap.nil _) fun act0 En0 Hv0 => ?_
 refine wp_seq ?_
 refine region_from ?_
 refine f_o ?_
 refine m_m 25 (u64s a) En0 Hv0 fun ac2 wo3 bk1 En4 Hv5 => ?_
 refine f_o ?_
 refine m_m 25 (u64s b) En4 Hv5 fun ac7 wo8 bk6 En9 Hv10 => ?_
 refine f_o ?_
 refine m_z 25 (u64s (List.replicate 4 0)) En9 Hv10 fun ac12 wo13 bk11 En14 Hv15 => ?_
 refine f_e ?_
 refine then_normal ?_
 refine wp_seq ?_
 refine d_s [0,4,5,6,9] [] En14 fun ac16 En17 => ?_
 refine wp_block ?_
 refine d_s [0,4,5,6,9,10] [] En17 fun ac18 En19 => ?_
 refine c_e f (1 : Int) En19 (fun hc20 => ?_) (fun hc20 => ?_)
 ·
  exact absurd hc20 (by omega)
 ·
  refine d_s [0,4,5,6,9,15] [] En19 fun ac21 En22 => ?_
  refine c_e f (2 : Int) En22 (fun hc23 => ?_) (fun hc23 => ?_)
  ·
   exact absurd hc23 (by omega)
  ·
   refine d_s [0,4,5,6,9,20] [] En22 fun ac24 En25 => ?_
   refine c_e f (3 : Int) En25 (fun hc26 => ?_) (fun hc26 => ?_)
   ·
    exact absurd hc26 (by omega)
   ·
    refine d_s [0,4,5,6,9,32] [] En25 fun ac27 En28 => ?_
    refine c_e f (4 : Int) En28 (fun hc29 => ?_) (fun hc29 => ?_)
    ·
     exact absurd hc29 (by omega)
    ·
     refine wp_skip ?_
     refine block_normal ?_
     refine then_normal ?_
     refine wp_seq ?_
     refine region_from ?_
     refine d_k [0,4,5,6,9,44] [] 1 En28 fun ac30 En31 => ?_
     refine f_o ?_
     refine m_g 2 0 4 (u64s ([0, 0, 0, 0] : List UInt64)) (u64s ([0, 0, 0, 0] : List UInt64)) [.box bk1 (u64s a) 25, .box bk6 (u64s b) 25, .box bk11 (u64s ([0, 0, 0, 0] : List UInt64)) 25] En31 Hv15 rfl (u64s_lenh (show List.length ([0, 0, 0, 0] : List UInt64) = 4 from rfl)) (by rw [(u64s_lenh (List.length_replicate))]; decide) (u64s_one _) (store_whole (u64s_lenh (List.length_replicate))) rfl fun ac32 wo33 En34 Hv35 => ?_
     refine f_e ?_
     refine then_normal ?_
     refine wp_ret ?_
     refine d_cell1 (v := .agg (List.toArray (u64s ([0, 0, 0, 0] : List UInt64)))) (t := 6) (T := 25) (ad := ⟨bk11, 0, none⟩) En34 (by kernel_rfl) (by kernel_rfl) (Ev.cellAgg (t := 25) (k := 2) (off := 0) (m := 4) (xs := u64s ([0, 0, 0, 0] : List UInt64)) Hv35 rfl (load_whole (u64s_lenh (show List.length ([0, 0, 0, 0] : List UInt64) = 4 from rfl))) (u64s_lenh (show List.length ([0, 0, 0, 0] : List UInt64) = 4 from rfl)) (by kernel_rfl) (by kernel_rfl)) ?_
     exact ⟨by kernel_rfl, Hv35.pk []⟩

end Go.Proofs.Ytamdjonejijndaa
