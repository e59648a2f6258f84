import Derived.Test.YtlnogkmnklfjlaaDoorSt5
import Derived.Test.YtlnogkmnklfjlaaDoorSt1
open List renaming length → za, getD → zb, replicate → ze, length_replicate → zf, toArray → zi, all_eq_true → z8, mem_cons_of_mem → Ql, mem_cons_self → QE
open Go.Dbr renaming u64s_lenh → zc, then_normal → zg, u64s → zh, region_from → zm, uv64 → zn, load_whole → zq, store_whole → zs, u64s_one → zv, block_normal → zA, then_exit → zI, run_loadAgg2 → zR, loop_once → z7, d_cell_tmp → Qq, lt64 → Q9
open UInt64 renaming ofNat → zd, toNat_shiftLeft → Yi, toNat_or → J2
open Go.Proofs.YtlnogkmnklfjlaaDoor renaming nds_len → zl, mulM → zt, W256 → zZ, powM → z0, subM → Zd, nv_nd → Qd, powM_add → Jn
open Nat renaming mod_eq_of_lt → zK, mul_comm → z5, mul_assoc → Ze, pow_succ → Zl, add_mul → Zm, mul_one → Zo, mod_lt → ZB, zero_mul → ZN, shiftLeft_eq → ZW, mul_mod → ZY, pow_add → Z6, lt_or_ge → Z9, pow_mul → Qk, mul_zero → Qv, zero_mod → QI, beq → QK, mod_mod → QQ, shiftLeft_add_eq_or_of_lt → Yf, div_add_mod → Yo, mod_mul_mod → Yq, eq_zero_of_dvd_of_lt → YQ, add_sub_cancel → YV, pow_mod → YZ, mod_eq_zero_of_dvd → Y7, ne_of_beq_eq_false → Y8, dvd_of_mod_eq_zero → Y9, mul_mod_mod → Jq, pow_two → JI, blt → JS, one_mul → Xe, le_of_dvd → Xm, dvd_mul_right → Xv, or_comm → XF, blt_eq → XP, one_pow → XV
open Go.Dbr.Ev renaming cellAgg → zM, drew → z4
open Bool renaming and_eq_true → zX, not_eq_true' → Q0
/- Layer 4: roots. -/


namespace Go.Proofs.YtlnogkmnklfjlaaDoor
open Go.Dbr
set_option maxRecDepth 100000
set_option maxHeartbeats 2000000
set_option linter.unusedVariables false
set_option linter.unusedSimpArgs false

theorem sh_2 {x y : UInt64} : ((x >>> zd 2) ||| (y <<< zd 62)).toNat = x.toNat / 4 + y.toNat % 4 * 4611686018427387904 := by
  have hx := Q9 x
  have hy := Q9 y
  rw [J2, shr_n x (by decide), Yi, show (zd 62).toNat % 64 = 62 from rfl]
  have e : y.toNat <<< 62 % 2 ^ 64 = (y.toNat % 4) <<< 62 := by rw [ZW, ZW]; omega
  rw [e, XF, ← Yf (by omega), ZW]
  omega
theorem shl_2 (a0 a1 a2 a3 : UInt64) : [((a0 >>> zd 2) ||| (a1 <<< zd 62)), ((a1 >>> zd 2) ||| (a2 <<< zd 62)), ((a2 >>> zd 2) ||| (a3 <<< zd 62)), a3 >>> zd 2] = nd (nv [a0, a1, a2, a3] / 4) := by
  refine nv_inj rfl (zl _ _) ?_
  have h0 := Q9 a0; have h1 := Q9 a1; have h2 := Q9 a2; have h3 := Q9 a3
  rw [nd_val, nv4, nv4, sh_2, sh_2, sh_2, shr_n a3 (by decide)]
  simp only [zZ]
  omega

theorem sh_3 {x y : UInt64} : ((x >>> zd 3) ||| (y <<< zd 61)).toNat = x.toNat / 8 + y.toNat % 8 * 2305843009213693952 := by
  have hx := Q9 x
  have hy := Q9 y
  rw [J2, shr_n x (by decide), Yi, show (zd 61).toNat % 64 = 61 from rfl]
  have e : y.toNat <<< 61 % 2 ^ 64 = (y.toNat % 8) <<< 61 := by rw [ZW, ZW]; omega
  rw [e, XF, ← Yf (by omega), ZW]
  omega
theorem shl_3 (a0 a1 a2 a3 : UInt64) : [((a0 >>> zd 3) ||| (a1 <<< zd 61)), ((a1 >>> zd 3) ||| (a2 <<< zd 61)), ((a2 >>> zd 3) ||| (a3 <<< zd 61)), a3 >>> zd 3] = nd (nv [a0, a1, a2, a3] / 8) := by
  refine nv_inj rfl (zl _ _) ?_
  have h0 := Q9 a0; have h1 := Q9 a1; have h2 := Q9 a2; have h3 := Q9 a3
  rw [nd_val, nv4, nv4, sh_3, sh_3, sh_3, shr_n a3 (by decide)]
  simp only [zZ]
  omega

theorem shift24 (w : World) (a0 a1 a2 a3 : UInt64) : Calls Tryd.prog 57 #[.agg #[zn a0, zn a1, zn a2, zn a3], .int .i64 2] w fun e w' => e = .returned (.agg (zi (zh (nd (nv [a0, a1, a2, a3] / 4))))) ∧ Ev w [] w' [] := by
 refine d_0 [(0, .agg #[zn a0, zn a1, zn a2, zn a3]), (1, .int .i64 2)] 31 Go.Proofs.Tryd.func57 Go.Proofs.Tryd.ntmps57 (Heap.nil _) fun act0 En0 Hv0 => ?_
 refine wp_seq <| zm <| f_o <| m_m 34 [zn a0, zn a1, zn a2, zn a3] En0 Hv0 fun _ _ bk1 En4 Hv5 => ?_
 refine f_o <| m_z 34 (zh (ze 4 0)) En4 Hv5 fun _ _ bk6 En9 Hv10 => ?_
 refine f_e <| zg <| wp_seq <| d_s [1,2,4,6] [] En9 fun _ En12 => ?_
 refine wp_block <| loop_enter ?_
 refine z7 <| d_s [1,2,4,6,7] [] En12 fun _ En14 => ?_
 refine wp_seq <| c_t En14 ?_
 refine wp_skip <| zg <| wp_seq <| wp_block <| d_s [1,2,4,5,6] [] En14 fun _ En16 => ?_
 refine wp_seq <| zm <| d_k [1,2,4,5,6,9,10] [] 2 En16 fun _ En18 => ?_
 refine f_o <| m_l 0 En18 Hv10 fun _ En20 => ?_
 refine d_k [1,2,4,5,6,13,14] [(4, g_i .u64 (Go.Dbr.u64_shr (x := a0) (n := 2) rfl (by decide)))] 6 En20 fun _ En22 => ?_
 refine f_o <| m_s 0 [.box bk1 [zn (a0 >>> zd 2), zn a1, zn a2, zn a3] 34, .box bk6 (zh (ze 4 0)) 34] En22 Hv10 fun _ _ En25 Hv26 => ?_
 refine f_e <| zg <| d_s [1,2,4,5,6,16] [] En25 fun _ En28 => ?_
 refine c_t En28 ?_
 refine r_c (fun ac wo => Env ac 31 [(1, .int .i64 2), (2, pt bk1), (4, pt bk6), (5, .int .i64 0), (6, .int .i64 0)] ∧ Ev w [] wo [.box bk1 [zn ((a0 >>> zd 2) ||| (a1 <<< zd 62)), zn a1, zn a2, zn a3] 34, .box bk6 (zh (ze 4 0)) 34]) ?_ ?_
 ·
  refine h_s (fun wv => Ev w [] wv [.box bk1 [zn (a0 >>> zd 2), zn a1, zn a2, zn a3] 34]) [12] 13 ?_
  have wo29 := Hv26.trans (z4 Hv26.heap)
  refine q_s [0,1] [] 11 En28 (wo29.pk [0]) fun _ En69 => ?_
  refine q_l 0 2 En69 (wo29.pk [0]) fun _ En71 => ?_
  refine q_s [3,4,5] [] 7 En71 (wo29.pk [0]) fun _ En73 => ?_
  refine q_l 0 6 En73 (wo29.pk [0]) fun _ En75 => ?_
  refine q_s [7,8,9,10,11] [(9, g_i .u64 (Go.Dbr.u64_shl (x := a1) (n := 62) rfl (by decide))), (10, g_i .u64 (Go.Dbr.u64_or (x := a0 >>> zd 2) (y := a1 <<< zd 62) rfl rfl))] 1 En75 (wo29.pk [0]) fun _ En77 => ?_
  refine q_t 12 ?_
  refine m_s 0 [.box bk1 [zn ((a0 >>> zd 2) ||| (a1 <<< zd 62)), zn a1, zn a2, zn a3] 34, .box bk6 (zh (ze 4 0)) 34] En77 wo29 fun _ _ En80 Hv81 => ?_
  refine ⟨q_y, ?_⟩
  exact h_e ⟨En80.sb, Hv81.pk [0, 1]⟩
 rintro _ _ ⟨En84, Hv85⟩
 refine zA <| zg <| d_r [1,2,4,5,6] [] En84 fun _ En87 => ?_
 refine zg <| z7 <| d_s [1,2,4,5,6,7] [] En87 fun _ En89 => ?_
 refine wp_seq <| c_t En89 ?_
 refine wp_skip <| zg <| wp_seq <| wp_block <| d_s [1,2,4,5,6] [] En89 fun _ En91 => ?_
 refine wp_seq <| zm <| d_k [1,2,4,5,6,9,10] [] 2 En91 fun _ En93 => ?_
 refine f_o <| m_l 0 En93 Hv85 fun _ En95 => ?_
 refine d_k [1,2,4,5,6,13,14] [(4, g_i .u64 (Go.Dbr.u64_shr (x := a1) (n := 2) rfl (by decide)))] 6 En95 fun _ En97 => ?_
 refine f_o <| m_s 0 [.box bk1 [zn ((a0 >>> zd 2) ||| (a1 <<< zd 62)), zn (a1 >>> zd 2), zn a2, zn a3] 34, .box bk6 (zh (ze 4 0)) 34] En97 Hv85 fun _ _ En100 Hv101 => ?_
 refine f_e <| zg <| d_s [1,2,4,5,6,16] [] En100 fun _ En103 => ?_
 refine c_t En103 ?_
 refine r_c (fun ac wo => Env ac 31 [(1, .int .i64 2), (2, pt bk1), (4, pt bk6), (5, .int .i64 1), (6, .int .i64 1)] ∧ Ev w [] wo [.box bk1 [zn ((a0 >>> zd 2) ||| (a1 <<< zd 62)), zn ((a1 >>> zd 2) ||| (a2 <<< zd 62)), zn a2, zn a3] 34, .box bk6 (zh (ze 4 0)) 34]) ?_ ?_
 ·
  refine h_s (fun wv => Ev w [] wv [.box bk1 [zn ((a0 >>> zd 2) ||| (a1 <<< zd 62)), zn (a1 >>> zd 2), zn a2, zn a3] 34]) [12] 13 ?_
  have wo104 := Hv101.trans (z4 Hv101.heap)
  refine q_s [0,1] [] 11 En103 (wo104.pk [0]) fun _ En144 => ?_
  refine q_l 0 2 En144 (wo104.pk [0]) fun _ En146 => ?_
  refine q_s [3,4,5] [] 7 En146 (wo104.pk [0]) fun _ En148 => ?_
  refine q_l 0 6 En148 (wo104.pk [0]) fun _ En150 => ?_
  refine q_s [7,8,9,10,11] [(9, g_i .u64 (Go.Dbr.u64_shl (x := a2) (n := 62) rfl (by decide))), (10, g_i .u64 (Go.Dbr.u64_or (x := a1 >>> zd 2) (y := a2 <<< zd 62) rfl rfl))] 1 En150 (wo104.pk [0]) fun _ En152 => ?_
  refine q_t 12 ?_
  refine m_s 0 [.box bk1 [zn ((a0 >>> zd 2) ||| (a1 <<< zd 62)), zn ((a1 >>> zd 2) ||| (a2 <<< zd 62)), zn a2, zn a3] 34, .box bk6 (zh (ze 4 0)) 34] En152 wo104 fun _ _ En155 Hv156 => ?_
  refine ⟨q_y, ?_⟩
  exact h_e ⟨En155.sb, Hv156.pk [0, 1]⟩
 rintro _ _ ⟨En159, Hv160⟩
 refine zA <| zg <| d_r [1,2,4,5,6] [] En159 fun _ En162 => ?_
 refine zg <| z7 <| d_s [1,2,4,5,6,7] [] En162 fun _ En164 => ?_
 refine wp_seq <| c_t En164 ?_
 refine wp_skip <| zg <| wp_seq <| wp_block <| d_s [1,2,4,5,6] [] En164 fun _ En166 => ?_
 refine wp_seq <| zm <| d_k [1,2,4,5,6,9,10] [] 2 En166 fun _ En168 => ?_
 refine f_o <| m_l 0 En168 Hv160 fun _ En170 => ?_
 refine d_k [1,2,4,5,6,13,14] [(4, g_i .u64 (Go.Dbr.u64_shr (x := a2) (n := 2) rfl (by decide)))] 6 En170 fun _ En172 => ?_
 refine f_o <| m_s 0 [.box bk1 [zn ((a0 >>> zd 2) ||| (a1 <<< zd 62)), zn ((a1 >>> zd 2) ||| (a2 <<< zd 62)), zn (a2 >>> zd 2), zn a3] 34, .box bk6 (zh (ze 4 0)) 34] En172 Hv160 fun _ _ En175 Hv176 => ?_
 refine f_e <| zg <| d_s [1,2,4,5,6,16] [] En175 fun _ En178 => ?_
 refine c_t En178 ?_
 refine r_c (fun ac wo => Env ac 31 [(1, .int .i64 2), (2, pt bk1), (4, pt bk6), (5, .int .i64 2), (6, .int .i64 2)] ∧ Ev w [] wo [.box bk1 [zn ((a0 >>> zd 2) ||| (a1 <<< zd 62)), zn ((a1 >>> zd 2) ||| (a2 <<< zd 62)), zn ((a2 >>> zd 2) ||| (a3 <<< zd 62)), zn a3] 34, .box bk6 (zh (ze 4 0)) 34]) ?_ ?_
 ·
  refine h_s (fun wv => Ev w [] wv [.box bk1 [zn ((a0 >>> zd 2) ||| (a1 <<< zd 62)), zn ((a1 >>> zd 2) ||| (a2 <<< zd 62)), zn (a2 >>> zd 2), zn a3] 34]) [12] 13 ?_
  have wo179 := Hv176.trans (z4 Hv176.heap)
  refine q_s [0,1] [] 11 En178 (wo179.pk [0]) fun _ En219 => ?_
  refine q_l 0 2 En219 (wo179.pk [0]) fun _ En221 => ?_
  refine q_s [3,4,5] [] 7 En221 (wo179.pk [0]) fun _ En223 => ?_
  refine q_l 0 6 En223 (wo179.pk [0]) fun _ En225 => ?_
  refine q_s [7,8,9,10,11] [(9, g_i .u64 (Go.Dbr.u64_shl (x := a3) (n := 62) rfl (by decide))), (10, g_i .u64 (Go.Dbr.u64_or (x := a2 >>> zd 2) (y := a3 <<< zd 62) rfl rfl))] 1 En225 (wo179.pk [0]) fun _ En227 => ?_
  refine q_t 12 ?_
  refine m_s 0 [.box bk1 [zn ((a0 >>> zd 2) ||| (a1 <<< zd 62)), zn ((a1 >>> zd 2) ||| (a2 <<< zd 62)), zn ((a2 >>> zd 2) ||| (a3 <<< zd 62)), zn a3] 34, .box bk6 (zh (ze 4 0)) 34] En227 wo179 fun _ _ En230 Hv231 => ?_
  refine ⟨q_y, ?_⟩
  exact h_e ⟨En230.sb, Hv231.pk [0, 1]⟩
 rintro _ _ ⟨En234, Hv235⟩
 refine zA <| zg <| d_r [1,2,4,5,6] [] En234 fun _ En237 => ?_
 refine zg <| z7 <| d_s [1,2,4,5,6,7] [] En237 fun _ En239 => ?_
 refine wp_seq <| c_t En239 ?_
 refine wp_skip <| zg <| wp_seq <| wp_block <| d_s [1,2,4,5,6] [] En239 fun _ En241 => ?_
 refine wp_seq <| zm <| d_k [1,2,4,5,6,9,10] [] 2 En241 fun _ En243 => ?_
 refine f_o <| m_l 0 En243 Hv235 fun _ En245 => ?_
 refine d_k [1,2,4,5,6,13,14] [(4, g_i .u64 (Go.Dbr.u64_shr (x := a3) (n := 2) rfl (by decide)))] 6 En245 fun _ En247 => ?_
 refine f_o <| m_s 0 [.box bk1 [zn ((a0 >>> zd 2) ||| (a1 <<< zd 62)), zn ((a1 >>> zd 2) ||| (a2 <<< zd 62)), zn ((a2 >>> zd 2) ||| (a3 <<< zd 62)), zn (a3 >>> zd 2)] 34, .box bk6 (zh (ze 4 0)) 34] En247 Hv235 fun _ _ En250 Hv251 => ?_
 refine f_e <| zg <| d_s [1,2,4,5,6,16] [] En250 fun _ En253 => ?_
 refine c_f En253 ?_
 refine wp_skip <| zA <| zg <| d_r [1,2,4,5,6] [] En253 fun _ En255 => ?_
 refine zg <| z7 <| d_s [1,2,4,5,6,7] [] En255 fun _ En257 => ?_
 refine wp_seq <| c_f En257 ?_
 refine wp_exit <| zI <| zI <| block_exit <| zg <| wp_seq <| zm <| f_o <| m_a 0 0 4 [zn ((a0 >>> zd 2) ||| (a1 <<< zd 62)), zn ((a1 >>> zd 2) ||| (a2 <<< zd 62)), zn ((a2 >>> zd 2) ||| (a3 <<< zd 62)), zn (a3 >>> zd 2)] En257 Hv251 rfl rfl rfl fun _ En259 => ?_
 refine f_o <| m_g 1 0 4 [zn ((a0 >>> zd 2) ||| (a1 <<< zd 62)), zn ((a1 >>> zd 2) ||| (a2 <<< zd 62)), zn ((a2 >>> zd 2) ||| (a3 <<< zd 62)), zn (a3 >>> zd 2)] _ [.box bk1 [zn ((a0 >>> zd 2) ||| (a1 <<< zd 62)), zn ((a1 >>> zd 2) ||| (a2 <<< zd 62)), zn ((a2 >>> zd 2) ||| (a3 <<< zd 62)), zn (a3 >>> zd 2)] 34, .box bk6 [zn ((a0 >>> zd 2) ||| (a1 <<< zd 62)), zn ((a1 >>> zd 2) ||| (a2 <<< zd 62)), zn ((a2 >>> zd 2) ||| (a3 <<< zd 62)), zn (a3 >>> zd 2)] 34] En259 Hv251 rfl rfl (by rw [(zc (zf))]; first | decide | (simp; done)) (one_all (by kernel_rfl)) (zs (zc (zf))) rfl fun _ _ En262 Hv263 => ?_
 refine f_e <| zg <| wp_ret <| d_cell1 (v := .agg #[zn ((a0 >>> zd 2) ||| (a1 <<< zd 62)), zn ((a1 >>> zd 2) ||| (a2 <<< zd 62)), zn ((a2 >>> zd 2) ||| (a3 <<< zd 62)), zn (a3 >>> zd 2)]) (t := 4) (T := 34) (ad := ⟨bk6, 0, none⟩) En262 (by kernel_rfl) (by kernel_rfl) (zM (t := 34) (k := 1) (off := 0) (m := 4) (xs := [zn ((a0 >>> zd 2) ||| (a1 <<< zd 62)), zn ((a1 >>> zd 2) ||| (a2 <<< zd 62)), zn ((a2 >>> zd 2) ||| (a3 <<< zd 62)), zn (a3 >>> zd 2)]) Hv263 rfl rfl rfl (by kernel_rfl) (by kernel_rfl)) ?_
 have e : [(a0 >>> zd 2) ||| (a1 <<< zd 62), (a1 >>> zd 2) ||| (a2 <<< zd 62), (a2 >>> zd 2) ||| (a3 <<< zd 62), a3 >>> zd 2] = nd (nv [a0, a1, a2, a3] / 4) := shl_2 a0 a1 a2 a3
 exact ⟨congrArg (fun l : List UInt64 => Ending.returned (Value.agg (zh l).toArray)) e, Hv263.pk []⟩

theorem shift2_go (w : World) (a : List UInt64) (ha : za a = 4) : Calls Tryd.prog 57 #[.agg (zi (zh a)), .int .i64 2] w fun e w' => e = .returned (.agg (zi (zh (nd (nv a / 4))))) ∧ Ev w [] w' [] := by
  match a, ha with
  | [a0, a1, a2, a3], _ => exact shift24 w a0 a1 a2 a3

theorem shift34 (w : World) (a0 a1 a2 a3 : UInt64) : Calls Tryd.prog 57 #[.agg #[zn a0, zn a1, zn a2, zn a3], .int .i64 3] w fun e w' => e = .returned (.agg (zi (zh (nd (nv [a0, a1, a2, a3] / 8))))) ∧ Ev w [] w' [] := by
 refine d_0 [(0, .agg #[zn a0, zn a1, zn a2, zn a3]), (1, .int .i64 3)] 31 Go.Proofs.Tryd.func57 Go.Proofs.Tryd.ntmps57 (Heap.nil _) fun act0 En0 Hv0 => ?_
 refine wp_seq <| zm <| f_o <| m_m 34 [zn a0, zn a1, zn a2, zn a3] En0 Hv0 fun _ _ bk1 En4 Hv5 => ?_
 refine f_o <| m_z 34 (zh (ze 4 0)) En4 Hv5 fun _ _ bk6 En9 Hv10 => ?_
 refine f_e <| zg <| wp_seq <| d_s [1,2,4,6] [] En9 fun _ En12 => ?_
 refine wp_block <| loop_enter ?_
 refine z7 <| d_s [1,2,4,6,7] [] En12 fun _ En14 => ?_
 refine wp_seq <| c_t En14 ?_
 refine wp_skip <| zg <| wp_seq <| wp_block <| d_s [1,2,4,5,6] [] En14 fun _ En16 => ?_
 refine wp_seq <| zm <| d_k [1,2,4,5,6,9,10] [] 2 En16 fun _ En18 => ?_
 refine f_o <| m_l 0 En18 Hv10 fun _ En20 => ?_
 refine d_k [1,2,4,5,6,13,14] [(4, g_i .u64 (Go.Dbr.u64_shr (x := a0) (n := 3) rfl (by decide)))] 6 En20 fun _ En22 => ?_
 refine f_o <| m_s 0 [.box bk1 [zn (a0 >>> zd 3), zn a1, zn a2, zn a3] 34, .box bk6 (zh (ze 4 0)) 34] En22 Hv10 fun _ _ En25 Hv26 => ?_
 refine f_e <| zg <| d_s [1,2,4,5,6,16] [] En25 fun _ En28 => ?_
 refine c_t En28 ?_
 refine r_c (fun ac wo => Env ac 31 [(1, .int .i64 3), (2, pt bk1), (4, pt bk6), (5, .int .i64 0), (6, .int .i64 0)] ∧ Ev w [] wo [.box bk1 [zn ((a0 >>> zd 3) ||| (a1 <<< zd 61)), zn a1, zn a2, zn a3] 34, .box bk6 (zh (ze 4 0)) 34]) ?_ ?_
 ·
  refine h_s (fun wv => Ev w [] wv [.box bk1 [zn (a0 >>> zd 3), zn a1, zn a2, zn a3] 34]) [12] 13 ?_
  have wo29 := Hv26.trans (z4 Hv26.heap)
  refine q_s [0,1] [] 11 En28 (wo29.pk [0]) fun _ En69 => ?_
  refine q_l 0 2 En69 (wo29.pk [0]) fun _ En71 => ?_
  refine q_s [3,4,5] [] 7 En71 (wo29.pk [0]) fun _ En73 => ?_
  refine q_l 0 6 En73 (wo29.pk [0]) fun _ En75 => ?_
  refine q_s [7,8,9,10,11] [(9, g_i .u64 (Go.Dbr.u64_shl (x := a1) (n := 61) rfl (by decide))), (10, g_i .u64 (Go.Dbr.u64_or (x := a0 >>> zd 3) (y := a1 <<< zd 61) rfl rfl))] 1 En75 (wo29.pk [0]) fun _ En77 => ?_
  refine q_t 12 ?_
  refine m_s 0 [.box bk1 [zn ((a0 >>> zd 3) ||| (a1 <<< zd 61)), zn a1, zn a2, zn a3] 34, .box bk6 (zh (ze 4 0)) 34] En77 wo29 fun _ _ En80 Hv81 => ?_
  refine ⟨q_y, ?_⟩
  exact h_e ⟨En80.sb, Hv81.pk [0, 1]⟩
 rintro _ _ ⟨En84, Hv85⟩
 refine zA <| zg <| d_r [1,2,4,5,6] [] En84 fun _ En87 => ?_
 refine zg <| z7 <| d_s [1,2,4,5,6,7] [] En87 fun _ En89 => ?_
 refine wp_seq <| c_t En89 ?_
 refine wp_skip <| zg <| wp_seq <| wp_block <| d_s [1,2,4,5,6] [] En89 fun _ En91 => ?_
 refine wp_seq <| zm <| d_k [1,2,4,5,6,9,10] [] 2 En91 fun _ En93 => ?_
 refine f_o <| m_l 0 En93 Hv85 fun _ En95 => ?_
 refine d_k [1,2,4,5,6,13,14] [(4, g_i .u64 (Go.Dbr.u64_shr (x := a1) (n := 3) rfl (by decide)))] 6 En95 fun _ En97 => ?_
 refine f_o <| m_s 0 [.box bk1 [zn ((a0 >>> zd 3) ||| (a1 <<< zd 61)), zn (a1 >>> zd 3), zn a2, zn a3] 34, .box bk6 (zh (ze 4 0)) 34] En97 Hv85 fun _ _ En100 Hv101 => ?_
 refine f_e <| zg <| d_s [1,2,4,5,6,16] [] En100 fun _ En103 => ?_
 refine c_t En103 ?_
 refine r_c (fun ac wo => Env ac 31 [(1, .int .i64 3), (2, pt bk1), (4, pt bk6), (5, .int .i64 1), (6, .int .i64 1)] ∧ Ev w [] wo [.box bk1 [zn ((a0 >>> zd 3) ||| (a1 <<< zd 61)), zn ((a1 >>> zd 3) ||| (a2 <<< zd 61)), zn a2, zn a3] 34, .box bk6 (zh (ze 4 0)) 34]) ?_ ?_
 ·
  refine h_s (fun wv => Ev w [] wv [.box bk1 [zn ((a0 >>> zd 3) ||| (a1 <<< zd 61)), zn (a1 >>> zd 3), zn a2, zn a3] 34]) [12] 13 ?_
  have wo104 := Hv101.trans (z4 Hv101.heap)
  refine q_s [0,1] [] 11 En103 (wo104.pk [0]) fun _ En144 => ?_
  refine q_l 0 2 En144 (wo104.pk [0]) fun _ En146 => ?_
  refine q_s [3,4,5] [] 7 En146 (wo104.pk [0]) fun _ En148 => ?_
  refine q_l 0 6 En148 (wo104.pk [0]) fun _ En150 => ?_
  refine q_s [7,8,9,10,11] [(9, g_i .u64 (Go.Dbr.u64_shl (x := a2) (n := 61) rfl (by decide))), (10, g_i .u64 (Go.Dbr.u64_or (x := a1 >>> zd 3) (y := a2 <<< zd 61) rfl rfl))] 1 En150 (wo104.pk [0]) fun _ En152 => ?_
  refine q_t 12 ?_
  refine m_s 0 [.box bk1 [zn ((a0 >>> zd 3) ||| (a1 <<< zd 61)), zn ((a1 >>> zd 3) ||| (a2 <<< zd 61)), zn a2, zn a3] 34, .box bk6 (zh (ze 4 0)) 34] En152 wo104 fun _ _ En155 Hv156 => ?_
  refine ⟨q_y, ?_⟩
  exact h_e ⟨En155.sb, Hv156.pk [0, 1]⟩
 rintro _ _ ⟨En159, Hv160⟩
 refine zA <| zg <| d_r [1,2,4,5,6] [] En159 fun _ En162 => ?_
 refine zg <| z7 <| d_s [1,2,4,5,6,7] [] En162 fun _ En164 => ?_
 refine wp_seq <| c_t En164 ?_
 refine wp_skip <| zg <| wp_seq <| wp_block <| d_s [1,2,4,5,6] [] En164 fun _ En166 => ?_
 refine wp_seq <| zm <| d_k [1,2,4,5,6,9,10] [] 2 En166 fun _ En168 => ?_
 refine f_o <| m_l 0 En168 Hv160 fun _ En170 => ?_
 refine d_k [1,2,4,5,6,13,14] [(4, g_i .u64 (Go.Dbr.u64_shr (x := a2) (n := 3) rfl (by decide)))] 6 En170 fun _ En172 => ?_
 refine f_o <| m_s 0 [.box bk1 [zn ((a0 >>> zd 3) ||| (a1 <<< zd 61)), zn ((a1 >>> zd 3) ||| (a2 <<< zd 61)), zn (a2 >>> zd 3), zn a3] 34, .box bk6 (zh (ze 4 0)) 34] En172 Hv160 fun _ _ En175 Hv176 => ?_
 refine f_e <| zg <| d_s [1,2,4,5,6,16] [] En175 fun _ En178 => ?_
 refine c_t En178 ?_
 refine r_c (fun ac wo => Env ac 31 [(1, .int .i64 3), (2, pt bk1), (4, pt bk6), (5, .int .i64 2), (6, .int .i64 2)] ∧ Ev w [] wo [.box bk1 [zn ((a0 >>> zd 3) ||| (a1 <<< zd 61)), zn ((a1 >>> zd 3) ||| (a2 <<< zd 61)), zn ((a2 >>> zd 3) ||| (a3 <<< zd 61)), zn a3] 34, .box bk6 (zh (ze 4 0)) 34]) ?_ ?_
 ·
  refine h_s (fun wv => Ev w [] wv [.box bk1 [zn ((a0 >>> zd 3) ||| (a1 <<< zd 61)), zn ((a1 >>> zd 3) ||| (a2 <<< zd 61)), zn (a2 >>> zd 3), zn a3] 34]) [12] 13 ?_
  have wo179 := Hv176.trans (z4 Hv176.heap)
  refine q_s [0,1] [] 11 En178 (wo179.pk [0]) fun _ En219 => ?_
  refine q_l 0 2 En219 (wo179.pk [0]) fun _ En221 => ?_
  refine q_s [3,4,5] [] 7 En221 (wo179.pk [0]) fun _ En223 => ?_
  refine q_l 0 6 En223 (wo179.pk [0]) fun _ En225 => ?_
  refine q_s [7,8,9,10,11] [(9, g_i .u64 (Go.Dbr.u64_shl (x := a3) (n := 61) rfl (by decide))), (10, g_i .u64 (Go.Dbr.u64_or (x := a2 >>> zd 3) (y := a3 <<< zd 61) rfl rfl))] 1 En225 (wo179.pk [0]) fun _ En227 => ?_
  refine q_t 12 ?_
  refine m_s 0 [.box bk1 [zn ((a0 >>> zd 3) ||| (a1 <<< zd 61)), zn ((a1 >>> zd 3) ||| (a2 <<< zd 61)), zn ((a2 >>> zd 3) ||| (a3 <<< zd 61)), zn a3] 34, .box bk6 (zh (ze 4 0)) 34] En227 wo179 fun _ _ En230 Hv231 => ?_
  refine ⟨q_y, ?_⟩
  exact h_e ⟨En230.sb, Hv231.pk [0, 1]⟩
 rintro _ _ ⟨En234, Hv235⟩
 refine zA <| zg <| d_r [1,2,4,5,6] [] En234 fun _ En237 => ?_
 refine zg <| z7 <| d_s [1,2,4,5,6,7] [] En237 fun _ En239 => ?_
 refine wp_seq <| c_t En239 ?_
 refine wp_skip <| zg <| wp_seq <| wp_block <| d_s [1,2,4,5,6] [] En239 fun _ En241 => ?_
 refine wp_seq <| zm <| d_k [1,2,4,5,6,9,10] [] 2 En241 fun _ En243 => ?_
 refine f_o <| m_l 0 En243 Hv235 fun _ En245 => ?_
 refine d_k [1,2,4,5,6,13,14] [(4, g_i .u64 (Go.Dbr.u64_shr (x := a3) (n := 3) rfl (by decide)))] 6 En245 fun _ En247 => ?_
 refine f_o <| m_s 0 [.box bk1 [zn ((a0 >>> zd 3) ||| (a1 <<< zd 61)), zn ((a1 >>> zd 3) ||| (a2 <<< zd 61)), zn ((a2 >>> zd 3) ||| (a3 <<< zd 61)), zn (a3 >>> zd 3)] 34, .box bk6 (zh (ze 4 0)) 34] En247 Hv235 fun _ _ En250 Hv251 => ?_
 refine f_e <| zg <| d_s [1,2,4,5,6,16] [] En250 fun _ En253 => ?_
 refine c_f En253 ?_
 refine wp_skip <| zA <| zg <| d_r [1,2,4,5,6] [] En253 fun _ En255 => ?_
 refine zg <| z7 <| d_s [1,2,4,5,6,7] [] En255 fun _ En257 => ?_
 refine wp_seq <| c_f En257 ?_
 refine wp_exit <| zI <| zI <| block_exit <| zg <| wp_seq <| zm <| f_o <| m_a 0 0 4 [zn ((a0 >>> zd 3) ||| (a1 <<< zd 61)), zn ((a1 >>> zd 3) ||| (a2 <<< zd 61)), zn ((a2 >>> zd 3) ||| (a3 <<< zd 61)), zn (a3 >>> zd 3)] En257 Hv251 rfl rfl rfl fun _ En259 => ?_
 refine f_o <| m_g 1 0 4 [zn ((a0 >>> zd 3) ||| (a1 <<< zd 61)), zn ((a1 >>> zd 3) ||| (a2 <<< zd 61)), zn ((a2 >>> zd 3) ||| (a3 <<< zd 61)), zn (a3 >>> zd 3)] _ [.box bk1 [zn ((a0 >>> zd 3) ||| (a1 <<< zd 61)), zn ((a1 >>> zd 3) ||| (a2 <<< zd 61)), zn ((a2 >>> zd 3) ||| (a3 <<< zd 61)), zn (a3 >>> zd 3)] 34, .box bk6 [zn ((a0 >>> zd 3) ||| (a1 <<< zd 61)), zn ((a1 >>> zd 3) ||| (a2 <<< zd 61)), zn ((a2 >>> zd 3) ||| (a3 <<< zd 61)), zn (a3 >>> zd 3)] 34] En259 Hv251 rfl rfl (by rw [(zc (zf))]; first | decide | (simp; done)) (one_all (by kernel_rfl)) (zs (zc (zf))) rfl fun _ _ En262 Hv263 => ?_
 refine f_e <| zg <| wp_ret <| d_cell1 (v := .agg #[zn ((a0 >>> zd 3) ||| (a1 <<< zd 61)), zn ((a1 >>> zd 3) ||| (a2 <<< zd 61)), zn ((a2 >>> zd 3) ||| (a3 <<< zd 61)), zn (a3 >>> zd 3)]) (t := 4) (T := 34) (ad := ⟨bk6, 0, none⟩) En262 (by kernel_rfl) (by kernel_rfl) (zM (t := 34) (k := 1) (off := 0) (m := 4) (xs := [zn ((a0 >>> zd 3) ||| (a1 <<< zd 61)), zn ((a1 >>> zd 3) ||| (a2 <<< zd 61)), zn ((a2 >>> zd 3) ||| (a3 <<< zd 61)), zn (a3 >>> zd 3)]) Hv263 rfl rfl rfl (by kernel_rfl) (by kernel_rfl)) ?_
 have e : [(a0 >>> zd 3) ||| (a1 <<< zd 61), (a1 >>> zd 3) ||| (a2 <<< zd 61), (a2 >>> zd 3) ||| (a3 <<< zd 61), a3 >>> zd 3] = nd (nv [a0, a1, a2, a3] / 8) := shl_3 a0 a1 a2 a3
 exact ⟨congrArg (fun l : List UInt64 => Ending.returned (Value.agg (zh l).toArray)) e, Hv263.pk []⟩

theorem shift3_go (w : World) (a : List UInt64) (ha : za a = 4) : Calls Tryd.prog 57 #[.agg (zi (zh a)), .int .i64 3] w fun e w' => e = .returned (.agg (zi (zh (nd (nv a / 8))))) ∧ Ev w [] w' [] := by
  match a, ha with
  | [a0, a1, a2, a3], _ => exact shift34 w a0 a1 a2 a3

/-- a root: the first try, the second one -/
def rq (f : Int) (A : Nat) : Nat := z0 f A (if f = 2 then (mF 2 + 1) / 4 else (mF 1 + 3) / 8)
def ri : Nat := z0 1 2 ((mF 1 - 1) / 4)
def rs (f : Int) (A : Nat) : Nat := if f = 2 ∨ zt f (rq f A) (rq f A) = zt f A 1 then rq f A else zt f (rq f A) ri
def rootOk (f : Int) (A : Nat) : Bool := decide ((f = 1 ∨ f = 2) ∧ zt f (rs f A) (rs f A) = zt f A 1)
def rootN (f : Int) (A : Nat) : Nat := if rootOk f A = true then (if rs f A % 2 = 1 then Zd f 0 (rs f A) else rs f A) else 0
theorem nd_inj {x y : Nat} (hx : x < zZ) (hy : y < zZ) : nd x = nd y ↔ x = y := by
  constructor
  · intro h
    have := congrArg nv h
    rwa [Qd hx, Qd hy] at this
  · intro h
    rw [h]
theorem rq_lt {f : Int} (hf : f = 1 ∨ f = 2 ∨ f = 3 ∨ f = 4) (A : Nat) : rq f A < zZ := powM_lt hf _ _
theorem rs_lt {f : Int} (hf : f = 1 ∨ f = 2 ∨ f = 3 ∨ f = 4) (A : Nat) : rs f A < zZ := by
  unfold rs
  split
  · exact rq_lt hf A
  · exact mulM_lt hf _ _
theorem sq_eq {f : Int} (hf : f = 1 ∨ f = 2 ∨ f = 3 ∨ f = 4) {r A : Nat} (hr : r < zZ) : nd (zt f (nv (nd r)) (nv (nd r))) = nd (zt f A (nv [1, 0, 0, 0])) ↔ zt f r r = zt f A 1 := by
  rw [Qd hr, nd_inj (mulM_lt hf _ _) (mulM_lt hf _ _), show nv [1, 0, 0, 0] = 1 from rfl]
theorem h1f : (1 : Int) = 1 ∨ (1 : Int) = 2 ∨ (1 : Int) = 3 ∨ (1 : Int) = 4 := .inl rfl
theorem h2f : (2 : Int) = 1 ∨ (2 : Int) = 2 ∨ (2 : Int) = 3 ∨ (2 : Int) = 4 := .inr (.inl rfl)
theorem rs1_a {A : Nat} (h : nd (zt 1 (nv (nd (rq 1 A))) (nv (nd (rq 1 A)))) = nd (zt 1 A (nv [1, 0, 0, 0]))) : nd (rq 1 A) = nd (rs 1 A) := by
  rw [rs, if_pos (.inr ((sq_eq h1f (rq_lt h1f A)).1 h))]
theorem rs1_b {A e : Nat} (h : ¬ nd (zt 1 (nv (nd (rq 1 A))) (nv (nd (rq 1 A)))) = nd (zt 1 A (nv [1, 0, 0, 0]))) (he : e = (mF 1 - 1) / 4) : nd (zt 1 (nv (nd (rq 1 A))) (nv (nd (z0 1 (nv [2, 0, 0, 0]) e)))) = nd (rs 1 A) := by
  rw [rs, if_neg (fun q => q.elim (by decide) (fun g => h ((sq_eq h1f (rq_lt h1f A)).2 g))), Qd (rq_lt h1f A), Qd (powM_lt h1f _ _), he]
  rfl
theorem par_nd {r : Nat} (hr : r < zZ) : (zb (nd r) 0 0 &&& 1).toNat = r % 2 := by
  have e : zb (nd r) 0 0 = zd r := rfl
  rw [e, UInt64.toNat_and, show (1 : UInt64).toNat = 1 from rfl, Nat.and_one_is_mod, ofNat_val]
  omega
theorem root_no {f : Int} (hf : f = 1 ∨ f = 2 ∨ f = 3 ∨ f = 4) {A : Nat} (h : ¬ nd (zt f (nv (nd (rs f A))) (nv (nd (rs f A)))) = nd (zt f A (nv [1, 0, 0, 0]))) : rootOk f A = false ∧ rootN f A = 0 := by
  have e : rootOk f A = false := decide_eq_false (fun q => h ((sq_eq hf (rs_lt hf A)).2 q.2))
  exact ⟨e, by rw [rootN, e]; rfl⟩
theorem root_yes {f : Int} (h12 : f = 1 ∨ f = 2) {A : Nat} (h : nd (zt f (nv (nd (rs f A))) (nv (nd (rs f A)))) = nd (zt f A (nv [1, 0, 0, 0]))) : rootOk f A = true := decide_eq_true ⟨h12, (sq_eq (by omega) (rs_lt (by omega) A)).1 h⟩
theorem root_odd {f : Int} (h12 : f = 1 ∨ f = 2) {A : Nat} (h : nd (zt f (nv (nd (rs f A))) (nv (nd (rs f A)))) = nd (zt f A (nv [1, 0, 0, 0]))) (hp : (((zb (nd (rs f A)) 0 0 &&& 1).toNat : Nat) : Int) = (1 : Int)) : nd (Zd f 0 (nv (nd (rs f A)))) = nd (rootN f A) := by
  have hr := rs_lt (f := f) (by omega) A
  rw [par_nd hr] at hp
  rw [rootN, if_pos (root_yes h12 h), if_pos (by omega), Qd hr]
theorem root_even {f : Int} (h12 : f = 1 ∨ f = 2) {A : Nat} (h : nd (zt f (nv (nd (rs f A))) (nv (nd (rs f A)))) = nd (zt f A (nv [1, 0, 0, 0]))) (hp : ¬ (((zb (nd (rs f A)) 0 0 &&& 1).toNat : Nat) : Int) = (1 : Int)) : nd (rs f A) = nd (rootN f A) := by
  rw [par_nd (rs_lt (f := f) (by omega) A)] at hp
  rw [rootN, if_pos (root_yes h12 h), if_neg (by omega)]
theorem root_z {f : Int} {A : Nat} (h : rootOk f A = false ∧ rootN f A = 0) : [(0 : UInt64), 0, 0, 0] = nd (rootN f A) := by rw [h.2]; rfl
theorem root1_go (w : World) (a : List UInt64) (ha : za a = 4) : Calls Tryd.prog 34 #[.int .i64 1, .agg (zi (zh a))] w fun e w' => e = .returned (.tuple #[.agg (zi (zh (nd (rootN 1 (nv a))))), .bool (rootOk 1 (nv a))]) ∧ Ev w [] w' [] := by
 refine d_0 [(0, .int .i64 1), (1, .agg (zi (zh a)))] 82 Go.Proofs.Tryd.func34 Go.Proofs.Tryd.ntmps34 (Heap.nil _) fun act0 En0 Hv0 => ?_
 refine wp_seq <| zm <| f_o <| m_m 34 (zh a) En0 Hv0 fun _ _ bk1 En4 Hv5 => ?_
 refine f_o <| m_z 34 (zh (ze 4 0)) En4 Hv5 fun _ _ bk6 En9 Hv10 => ?_
 refine d_e [0,3,4,5] [] En9 fun _ En12 => ?_
 refine zg <| wp_seq <| zm <| d_k [0,3,4,5,13] [] 1 En12 fun _ En14 => ?_
 refine f_o <| c_p En14 Hv10 (modulus_go _ 1) fun _ _ En20 Hv21 => ?_
 refine f_o <| m_z 34 (zh (ze 4 0)) En20 Hv21 fun _ _ bk22 En25 Hv26 => ?_
 refine f_o <| m_g 2 0 4 (zh (nd (mF 1))) _ [.box bk1 (zh a) 34, .box bk6 (zh (ze 4 0)) 34, .box bk22 (zh (nd (mF 1))) 34] En25 Hv26 rfl (zc (zl _ _)) (by rw [(zc (zf))]; first | decide | (simp; done)) (zv _) (zs (zc (zf))) rfl fun _ _ En29 Hv30 => ?_
 refine f_e <| zg <| wp_seq <| zm <| d_k [0,3,4,5,6,15] [] 1 En29 fun _ En32 => ?_
 refine f_o <| m_a 0 0 4 (zh a) En32 Hv30 rfl (zq (zc ha)) (zc ha) fun _ En34 => ?_
 refine d_k [0,3,4,5,6,15,16,17] [] 3 En34 fun _ En36 => ?_
 refine f_o <| c_p En36 Hv30 (hM1 _ a ([1, 0, 0, 0] : List UInt64) ha (show za ([1, 0, 0, 0] : List UInt64) = 4 from rfl)) fun _ _ En42 Hv43 => ?_
 refine f_o <| m_z 34 (zh (ze 4 0)) En42 Hv43 fun _ _ bk44 En47 Hv48 => ?_
 refine f_o <| m_g 3 0 4 (zh (nd (zt 1 (nv a) (nv ([1, 0, 0, 0] : List UInt64))))) _ [.box bk1 (zh a) 34, .box bk6 (zh (ze 4 0)) 34, .box bk22 (zh (nd (mF 1))) 34, .box bk44 (zh (nd (zt 1 (nv a) (nv ([1, 0, 0, 0] : List UInt64))))) 34] En47 Hv48 rfl (zc (zl _ _)) (by rw [(zc (zf))]; first | decide | (simp; done)) (zv _) (zs (zc (zf))) rfl fun _ _ En51 Hv52 => ?_
 refine f_e <| zg <| wp_seq <| zm <| f_o <| m_z 34 (zh (ze 4 0)) En51 Hv52 fun _ _ bk53 En56 Hv57 => ?_
 refine f_e <| zg <| wp_seq <| wp_seq <| d_r [0,3,4,5,6,7,8,19] [] En56 fun _ En59 => ?_
 refine zg <| wp_block <| wp_seq <| d_r [0,3,4,5,6,7,8,19,21] [] En59 fun _ En61 => ?_
 refine zg <| c_f En61 ?_
 refine wp_seq <| d_r [0,3,4,5,6,7,8,19,34] [] En61 fun _ En63 => ?_
 refine zg <| c_t En63 ?_
 refine wp_seq <| zm <| f_o <| m_a 2 0 4 (zh (nd (mF 1))) En63 Hv57 rfl (zq (zc (zl _ _))) (zc (zl _ _)) fun _ En65 => ?_
 refine d_k [0,3,4,5,6,7,8,19,37,38] [] 2 En65 fun _ En67 => ?_
 refine f_o <| c_p En67 Hv57 (plus_go _ (nd (mF 1)) ([3, 0, 0, 0] : List UInt64) (zl _ _) (show za ([3, 0, 0, 0] : List UInt64) = 4 from rfl)) fun _ _ En73 Hv74 => ?_
 refine d_k [0,3,4,5,6,7,8,19,40,41] [] 6 En73 fun _ En76 => ?_
 refine f_o <| m_z 34 (zh (ze 4 0)) En76 Hv74 fun _ _ bk77 En80 Hv81 => ?_
 refine f_o <| m_g 5 0 4 (zh (nd (nv (nd (mF 1)) + nv ([3, 0, 0, 0] : List UInt64)))) _ [.box bk1 (zh a) 34, .box bk6 (zh (ze 4 0)) 34, .box bk22 (zh (nd (mF 1))) 34, .box bk44 (zh (nd (zt 1 (nv a) (nv ([1, 0, 0, 0] : List UInt64))))) 34, .box bk53 (zh (ze 4 0)) 34, .box bk77 (zh (nd (nv (nd (mF 1)) + nv ([3, 0, 0, 0] : List UInt64)))) 34] En80 Hv81 rfl (zc (zl _ _)) (by rw [(zc (zf))]; first | decide | (simp; done)) (zv _) (zs (zc (zf))) rfl fun _ _ En84 Hv85 => ?_
 refine d_e [0,3,4,5,6,7,8,11,19] [] En84 fun _ En87 => ?_
 refine zg <| wp_seq <| r_c (fun ac wo => Env ac 82 [(0, .int .i64 1), (3, pt bk1), (4, pt bk6), (5, .bool false), (6, pt bk22), (7, pt bk44), (8, pt bk53), (11, pt bk77), (19, .int .i64 1)] ∧ Ev w [] wo [.box bk1 (zh a) 34, .box bk6 (zh (ze 4 0)) 34, .box bk22 (zh (nd (mF 1))) 34, .box bk44 (zh (nd (zt 1 (nv a) (nv ([1, 0, 0, 0] : List UInt64))))) 34, .box bk53 (zh (nd (z0 1 (nv a) (nv (nd (nv (nd (nv (nd (mF 1)) + nv ([3, 0, 0, 0] : List UInt64))) / 8)))))) 34, .box bk77 (zh (nd (nv (nd (mF 1)) + nv ([3, 0, 0, 0] : List UInt64)))) 34]) ?_ ?_
 ·
  refine h_s (fun wv => Ev w [] wv [.box bk1 (zh a) 34, .box bk77 (zh (nd (nv (nd (mF 1)) + nv ([3, 0, 0, 0] : List UInt64)))) 34]) [] 6 ?_
  have wo88 := Hv85.trans (z4 Hv85.heap)
  refine q_s [0] [] 5 En87 (wo88.pk [0, 5]) fun _ En180 => ?_
  refine q_r 1 (s := Instr.loadAt 34 (pt bk1)) (v := .agg (zi (zh a))) En180 (fun w hS => zR (m := 4) (cs := zh a) (zc ha) (by kernel_rfl) (by kernel_rfl) (hS.heap.cells (k := 0) (off := 0) (m := 4) rfl (zq (zc ha)))) (wo88.pk [0, 5]) fun _ En182 => ?_
  refine q_r 2 (s := Instr.loadAt 34 (pt bk77)) (v := .agg (zi (zh (nd (nv (nd (mF 1)) + nv ([3, 0, 0, 0] : List UInt64)))))) En182 (fun w hS => zR (m := 4) (cs := zh (nd (nv (nd (mF 1)) + nv ([3, 0, 0, 0] : List UInt64)))) (zc (zl _ _)) (by kernel_rfl) (by kernel_rfl) (hS.heap.cells (k := 1) (off := 0) (m := 4) rfl (zq (zc (zl _ _))))) (wo88.pk [0, 5]) fun _ En184 => ?_
  refine q_t 3 ?_
  refine c_p En184 wo88 (shift3_go _ (nd (nv (nd (mF 1)) + nv ([3, 0, 0, 0] : List UInt64))) (zl _ _)) fun _ _ En190 Hv191 => ?_
  refine ⟨fun _ => Hv191.pk [0, 5], ?_⟩
  refine q_t 4 ?_
  refine c_p En190 Hv191 (exp_go _ 1 h1f hM1 a (nd (nv (nd (nv (nd (mF 1)) + nv ([3, 0, 0, 0] : List UInt64))) / 8)) ha (zl _ _)) fun _ _ En197 Hv198 => ?_
  refine ⟨fun _ => Hv198.pk [0, 5], ?_⟩
  refine q_t 5 ?_
  refine m_g 4 0 4 (zh (nd (z0 1 (nv a) (nv (nd (nv (nd (nv (nd (mF 1)) + nv ([3, 0, 0, 0] : List UInt64))) / 8)))))) _ [.box bk1 (zh a) 34, .box bk6 (zh (ze 4 0)) 34, .box bk22 (zh (nd (mF 1))) 34, .box bk44 (zh (nd (zt 1 (nv a) (nv ([1, 0, 0, 0] : List UInt64))))) 34, .box bk53 (zh (nd (z0 1 (nv a) (nv (nd (nv (nd (nv (nd (mF 1)) + nv ([3, 0, 0, 0] : List UInt64))) / 8)))))) 34, .box bk77 (zh (nd (nv (nd (mF 1)) + nv ([3, 0, 0, 0] : List UInt64)))) 34] En197 Hv198 rfl (zc (zl _ _)) (by rw [(zc (zf))]; first | decide | (simp; done)) (zv _) (zs (zc (zf))) rfl fun _ _ En201 Hv202 => ?_
  refine ⟨fun _ => Hv202.pk [0, 5], ?_⟩
  exact h_e ⟨En201.sb, Hv202.pk [0, 1, 2, 3, 4, 5]⟩
 rintro _ _ ⟨En205, Hv206⟩
 refine zg <| wp_seq ?_
 rw [show (nd (z0 1 (nv a) (nv (nd (nv (nd (nv (nd (mF 1)) + nv ([3, 0, 0, 0] : List UInt64))) / 8))))) = (nd (rq 1 (nv a))) from (congrArg (fun e => nd (z0 1 (nv a) e)) (show _ = (mF 1 + 3) / 8 by decide +kernel))] at Hv206
 refine r_c (fun ac wo => Env ac 82 [(0, .int .i64 1), (3, pt bk1), (4, pt bk6), (5, .bool false), (6, pt bk22), (7, pt bk44), (8, pt bk53), (11, pt bk77), (19, .int .i64 1), (52, .bool (!((nd (zt 1 (nv (nd (rq 1 (nv a)))) (nv (nd (rq 1 (nv a)))))) == (nd (zt 1 (nv a) (nv ([1, 0, 0, 0] : List UInt64)))))))] ∧ Ev w [] wo [.box bk1 (zh a) 34, .box bk6 (zh (ze 4 0)) 34, .box bk22 (zh (nd (mF 1))) 34, .box bk44 (zh (nd (zt 1 (nv a) (nv ([1, 0, 0, 0] : List UInt64))))) 34, .box bk53 (zh (nd (rq 1 (nv a)))) 34, .box bk77 (zh (nd (nv (nd (mF 1)) + nv ([3, 0, 0, 0] : List UInt64)))) 34]) ?_ ?_
 ·
  refine h_s (fun wv => Ev w [] wv [.box bk44 (zh (nd (zt 1 (nv a) (nv ([1, 0, 0, 0] : List UInt64))))) 34, .box bk53 (zh (nd (rq 1 (nv a)))) 34]) [] 6 ?_
  have wo207 := Hv206.trans (z4 Hv206.heap)
  refine q_s [0] [] 5 En205 (wo207.pk [3, 4]) fun _ En290 => ?_
  refine q_r 1 (s := Instr.loadAt 34 (pt bk53)) (v := .agg (zi (zh (nd (rq 1 (nv a)))))) En290 (fun w hS => zR (m := 4) (cs := zh (nd (rq 1 (nv a)))) (zc (zl _ _)) (by kernel_rfl) (by kernel_rfl) (hS.heap.cells (k := 1) (off := 0) (m := 4) rfl (zq (zc (zl _ _))))) (wo207.pk [3, 4]) fun _ En292 => ?_
  refine q_r 2 (s := Instr.loadAt 34 (pt bk53)) (v := .agg (zi (zh (nd (rq 1 (nv a)))))) En292 (fun w hS => zR (m := 4) (cs := zh (nd (rq 1 (nv a)))) (zc (zl _ _)) (by kernel_rfl) (by kernel_rfl) (hS.heap.cells (k := 1) (off := 0) (m := 4) rfl (zq (zc (zl _ _))))) (wo207.pk [3, 4]) fun _ En294 => ?_
  refine q_r 4 (s := Instr.loadAt 34 (pt bk44)) (v := .agg (zi (zh (nd (zt 1 (nv a) (nv ([1, 0, 0, 0] : List UInt64))))))) En294 (fun w hS => zR (m := 4) (cs := zh (nd (zt 1 (nv a) (nv ([1, 0, 0, 0] : List UInt64))))) (zc (zl _ _)) (by kernel_rfl) (by kernel_rfl) (hS.heap.cells (k := 0) (off := 0) (m := 4) rfl (zq (zc (zl _ _))))) (wo207.pk [3, 4]) fun _ En296 => ?_
  refine q_t 3 ?_
  refine c_p En296 wo207 (hM1 _ (nd (rq 1 (nv a))) (nd (rq 1 (nv a))) (zl _ _) (zl _ _)) fun _ _ En302 Hv303 => ?_
  refine ⟨fun _ => Hv303.pk [3, 4], ?_⟩
  refine q_f 5 (s := eqOp .neq 34 (.tmp 50) (.tmp 51) (.agg (zi (zh (nd (zt 1 (nv (nd (rq 1 (nv a)))) (nv (nd (rq 1 (nv a))))))))) (.agg (zi (zh (nd (zt 1 (nv a) (nv ([1, 0, 0, 0] : List UInt64)))))))) (v := .bool (!((nd (zt 1 (nv (nd (rq 1 (nv a)))) (nv (nd (rq 1 (nv a)))))) == (nd (zt 1 (nv a) (nv ([1, 0, 0, 0] : List UInt64))))))) En302 (fun _ => Go.Dbr.u64s_neop (a := (.tmp 50)) (b := (.tmp 51)) (e := 32) (m := 4) (by kernel_rfl) (by kernel_rfl) (by kernel_rfl) (by kernel_rfl) (by kernel_rfl) (zl _ _) (zl _ _) _) (fun _ => Hv303.pk [3, 4]) fun _ En305 => ?_
  exact h_e ⟨En305.sb, Hv303.pk [0, 1, 2, 3, 4, 5]⟩
 rintro _ _ ⟨En308, Hv309⟩
 refine zg <| region_cut (F := fun ac wo => Env ac 82 [(0, .int .i64 1), (3, pt bk1), (4, pt bk6), (5, .bool false), (6, pt bk22), (7, pt bk44), (8, pt bk53), (11, pt bk77), (19, .int .i64 1)] ∧ Ev w [] wo [.box bk6 (zh (ze 4 0)) 34, .box bk44 (zh (nd (zt 1 (nv a) (nv ([1, 0, 0, 0] : List UInt64))))) 34, .box bk53 (zh (nd (rs 1 (nv a)))) 34]) ?_ ?_
 ·
  refine cond_at En308 (t := !((nd (zt 1 (nv (nd (rq 1 (nv a)))) (nv (nd (rq 1 (nv a)))))) == (nd (zt 1 (nv a) (nv ([1, 0, 0, 0] : List UInt64)))))) (by kernel_rfl) (fun hc310 => ?_) (fun hc310 => ?_)
  ·
   replace hc310 : ¬ ((nd (zt 1 (nv (nd (rq 1 (nv a)))) (nv (nd (rq 1 (nv a)))))) = (nd (zt 1 (nv a) (nv ([1, 0, 0, 0] : List UInt64))))) := by simpa using hc310
   refine wp_seq <| zm <| f_o <| m_a 2 0 4 (zh (nd (mF 1))) En308 Hv309 rfl (zq (zc (zl _ _))) (zc (zl _ _)) fun _ En312 => ?_
   refine d_k [0,3,4,5,6,7,8,11,19,54,55] [] 2 En312 fun _ En314 => ?_
   refine f_o <| c_p En314 Hv309 (minus_go _ (nd (mF 1)) ([1, 0, 0, 0] : List UInt64) (zl _ _) (show za ([1, 0, 0, 0] : List UInt64) = 4 from rfl)) fun _ _ En320 Hv321 => ?_
   refine d_k [0,3,4,5,6,7,8,11,19,57] [] 6 En320 fun _ En323 => ?_
   refine f_o <| m_g 5 0 4 (zh (nd (nv (nd (mF 1)) + zZ - nv ([1, 0, 0, 0] : List UInt64)))) _ [.box bk1 (zh a) 34, .box bk6 (zh (ze 4 0)) 34, .box bk22 (zh (nd (mF 1))) 34, .box bk44 (zh (nd (zt 1 (nv a) (nv ([1, 0, 0, 0] : List UInt64))))) 34, .box bk53 (zh (nd (rq 1 (nv a)))) 34, .box bk77 (zh (nd (nv (nd (mF 1)) + zZ - nv ([1, 0, 0, 0] : List UInt64)))) 34] En323 Hv321 rfl (zc (zl _ _)) (by rw [(zc (zl _ _))]; first | decide | (simp; done)) (zv _) (zs (zc (zl _ _))) rfl fun _ _ En326 Hv327 => ?_
   refine f_e <| zg <| r_c (fun ac wo => Env ac 82 [(0, .int .i64 1), (3, pt bk1), (4, pt bk6), (5, .bool false), (6, pt bk22), (7, pt bk44), (8, pt bk53), (11, pt bk77), (19, .int .i64 1)] ∧ Ev w [] wo [.box bk1 (zh a) 34, .box bk6 (zh (ze 4 0)) 34, .box bk22 (zh (nd (mF 1))) 34, .box bk44 (zh (nd (zt 1 (nv a) (nv ([1, 0, 0, 0] : List UInt64))))) 34, .box bk53 (zh (nd (zt 1 (nv (nd (rq 1 (nv a)))) (nv (nd (z0 1 (nv ([2, 0, 0, 0] : List UInt64)) (nv (nd (nv (nd (nv (nd (mF 1)) + zZ - nv ([1, 0, 0, 0] : List UInt64))) / 4))))))))) 34, .box bk77 (zh (nd (nv (nd (mF 1)) + zZ - nv ([1, 0, 0, 0] : List UInt64)))) 34]) ?_ ?_
   ·
    refine h_s (fun wv => Ev w [] wv [.box bk53 (zh (nd (rq 1 (nv a)))) 34, .box bk77 (zh (nd (nv (nd (mF 1)) + zZ - nv ([1, 0, 0, 0] : List UInt64)))) 34]) [8] 9 ?_
    have wo328 := Hv327.trans (z4 Hv327.heap)
    refine q_s [0] [] 8 En326 (wo328.pk [4, 5]) fun _ En470 => ?_
    refine q_r 1 (s := Instr.loadAt 34 (pt bk53)) (v := .agg (zi (zh (nd (rq 1 (nv a)))))) En470 (fun w hS => zR (m := 4) (cs := zh (nd (rq 1 (nv a)))) (zc (zl _ _)) (by kernel_rfl) (by kernel_rfl) (hS.heap.cells (k := 0) (off := 0) (m := 4) rfl (zq (zc (zl _ _))))) (wo328.pk [4, 5]) fun _ En472 => ?_
    refine q_s [2,3] [] 5 En472 (wo328.pk [4, 5]) fun _ En474 => ?_
    refine q_r 4 (s := Instr.loadAt 34 (pt bk77)) (v := .agg (zi (zh (nd (nv (nd (mF 1)) + zZ - nv ([1, 0, 0, 0] : List UInt64)))))) En474 (fun w hS => zR (m := 4) (cs := zh (nd (nv (nd (mF 1)) + zZ - nv ([1, 0, 0, 0] : List UInt64)))) (zc (zl _ _)) (by kernel_rfl) (by kernel_rfl) (hS.heap.cells (k := 1) (off := 0) (m := 4) rfl (zq (zc (zl _ _))))) (wo328.pk [4, 5]) fun _ En476 => ?_
    refine q_t 5 ?_
    refine c_p En476 wo328 (shift2_go _ (nd (nv (nd (mF 1)) + zZ - nv ([1, 0, 0, 0] : List UInt64))) (zl _ _)) fun _ _ En482 Hv483 => ?_
    refine ⟨fun _ => Hv483.pk [4, 5], ?_⟩
    refine q_t 6 ?_
    refine c_p En482 Hv483 (exp_go _ 1 h1f hM1 ([2, 0, 0, 0] : List UInt64) (nd (nv (nd (nv (nd (mF 1)) + zZ - nv ([1, 0, 0, 0] : List UInt64))) / 4)) (show za ([2, 0, 0, 0] : List UInt64) = 4 from rfl) (zl _ _)) fun _ _ En489 Hv490 => ?_
    refine ⟨fun _ => Hv490.pk [4, 5], ?_⟩
    refine q_t 7 ?_
    refine c_p En489 Hv490 (hM1 _ (nd (rq 1 (nv a))) (nd (z0 1 (nv ([2, 0, 0, 0] : List UInt64)) (nv (nd (nv (nd (nv (nd (mF 1)) + zZ - nv ([1, 0, 0, 0] : List UInt64))) / 4))))) (zl _ _) (zl _ _)) fun _ _ En496 Hv497 => ?_
    refine ⟨fun _ => Hv497.pk [4, 5], ?_⟩
    refine q_t 8 ?_
    refine m_g 4 0 4 (zh (nd (zt 1 (nv (nd (rq 1 (nv a)))) (nv (nd (z0 1 (nv ([2, 0, 0, 0] : List UInt64)) (nv (nd (nv (nd (nv (nd (mF 1)) + zZ - nv ([1, 0, 0, 0] : List UInt64))) / 4))))))))) _ [.box bk1 (zh a) 34, .box bk6 (zh (ze 4 0)) 34, .box bk22 (zh (nd (mF 1))) 34, .box bk44 (zh (nd (zt 1 (nv a) (nv ([1, 0, 0, 0] : List UInt64))))) 34, .box bk53 (zh (nd (zt 1 (nv (nd (rq 1 (nv a)))) (nv (nd (z0 1 (nv ([2, 0, 0, 0] : List UInt64)) (nv (nd (nv (nd (nv (nd (mF 1)) + zZ - nv ([1, 0, 0, 0] : List UInt64))) / 4))))))))) 34, .box bk77 (zh (nd (nv (nd (mF 1)) + zZ - nv ([1, 0, 0, 0] : List UInt64)))) 34] En496 Hv497 rfl (zc (zl _ _)) (by rw [(zc (zl _ _))]; first | decide | (simp; done)) (zv _) (zs (zc (zl _ _))) rfl fun _ _ En500 Hv501 => ?_
    refine ⟨q_y, ?_⟩
    exact h_e ⟨En500.sb, Hv501.pk [0, 1, 2, 3, 4, 5]⟩
   rintro _ _ ⟨En504, Hv505⟩
   rw [show (nd (zt 1 (nv (nd (rq 1 (nv a)))) (nv (nd (z0 1 (nv ([2, 0, 0, 0] : List UInt64)) (nv (nd (nv (nd (nv (nd (mF 1)) + zZ - nv ([1, 0, 0, 0] : List UInt64))) / 4)))))))) = (nd (rs 1 (nv a))) from (rs1_b (by assumption) (by decide +kernel))] at Hv505
   exact ⟨rfl, ⟨En504.sb, Hv505.pk [1, 3, 4]⟩⟩
  replace hc310 : (nd (zt 1 (nv (nd (rq 1 (nv a)))) (nv (nd (rq 1 (nv a)))))) = (nd (zt 1 (nv a) (nv ([1, 0, 0, 0] : List UInt64)))) := by simpa using hc310
  refine wp_skip ?_
  rw [show (nd (rq 1 (nv a))) = (nd (rs 1 (nv a))) from (rs1_a (by assumption))] at Hv309
  exact ⟨rfl, ⟨En308.sb, Hv309.pk [1, 3, 4]⟩⟩
 rintro _ _ ⟨En508, Hv509⟩
 refine zA <| zg <| wp_seq <| wp_seq <| r_c (fun ac wo => Env ac 82 [(0, .int .i64 1), (3, pt bk1), (4, pt bk6), (5, .bool false), (6, pt bk22), (7, pt bk44), (8, pt bk53), (11, pt bk77), (19, .int .i64 1), (72, .bool (!((nd (zt 1 (nv (nd (rs 1 (nv a)))) (nv (nd (rs 1 (nv a)))))) == (nd (zt 1 (nv a) (nv ([1, 0, 0, 0] : List UInt64)))))))] ∧ Ev w [] wo [.box bk6 (zh (ze 4 0)) 34, .box bk44 (zh (nd (zt 1 (nv a) (nv ([1, 0, 0, 0] : List UInt64))))) 34, .box bk53 (zh (nd (rs 1 (nv a)))) 34]) ?_ ?_
 ·
  refine h_s (fun wv => Ev w [] wv [.box bk44 (zh (nd (zt 1 (nv a) (nv ([1, 0, 0, 0] : List UInt64))))) 34, .box bk53 (zh (nd (rs 1 (nv a)))) 34]) [] 6 ?_
  have wo510 := Hv509.trans (z4 Hv509.heap)
  refine q_s [0] [] 5 En508 (wo510.pk [1, 2]) fun _ En593 => ?_
  refine q_r 1 (s := Instr.loadAt 34 (pt bk53)) (v := .agg (zi (zh (nd (rs 1 (nv a)))))) En593 (fun w hS => zR (m := 4) (cs := zh (nd (rs 1 (nv a)))) (zc (zl _ _)) (by kernel_rfl) (by kernel_rfl) (hS.heap.cells (k := 1) (off := 0) (m := 4) rfl (zq (zc (zl _ _))))) (wo510.pk [1, 2]) fun _ En595 => ?_
  refine q_r 2 (s := Instr.loadAt 34 (pt bk53)) (v := .agg (zi (zh (nd (rs 1 (nv a)))))) En595 (fun w hS => zR (m := 4) (cs := zh (nd (rs 1 (nv a)))) (zc (zl _ _)) (by kernel_rfl) (by kernel_rfl) (hS.heap.cells (k := 1) (off := 0) (m := 4) rfl (zq (zc (zl _ _))))) (wo510.pk [1, 2]) fun _ En597 => ?_
  refine q_r 4 (s := Instr.loadAt 34 (pt bk44)) (v := .agg (zi (zh (nd (zt 1 (nv a) (nv ([1, 0, 0, 0] : List UInt64))))))) En597 (fun w hS => zR (m := 4) (cs := zh (nd (zt 1 (nv a) (nv ([1, 0, 0, 0] : List UInt64))))) (zc (zl _ _)) (by kernel_rfl) (by kernel_rfl) (hS.heap.cells (k := 0) (off := 0) (m := 4) rfl (zq (zc (zl _ _))))) (wo510.pk [1, 2]) fun _ En599 => ?_
  refine q_t 3 ?_
  refine c_p En599 wo510 (hM1 _ (nd (rs 1 (nv a))) (nd (rs 1 (nv a))) (zl _ _) (zl _ _)) fun _ _ En605 Hv606 => ?_
  refine ⟨fun _ => Hv606.pk [1, 2], ?_⟩
  refine q_f 5 (s := eqOp .neq 34 (.tmp 70) (.tmp 71) (.agg (zi (zh (nd (zt 1 (nv (nd (rs 1 (nv a)))) (nv (nd (rs 1 (nv a))))))))) (.agg (zi (zh (nd (zt 1 (nv a) (nv ([1, 0, 0, 0] : List UInt64)))))))) (v := .bool (!((nd (zt 1 (nv (nd (rs 1 (nv a)))) (nv (nd (rs 1 (nv a)))))) == (nd (zt 1 (nv a) (nv ([1, 0, 0, 0] : List UInt64))))))) En605 (fun _ => Go.Dbr.u64s_neop (a := (.tmp 70)) (b := (.tmp 71)) (e := 32) (m := 4) (by kernel_rfl) (by kernel_rfl) (by kernel_rfl) (by kernel_rfl) (by kernel_rfl) (zl _ _) (zl _ _) _) (fun _ => Hv606.pk [1, 2]) fun _ En608 => ?_
  exact h_e ⟨En608.sb, Hv606.pk [0, 1, 2]⟩
 rintro _ _ ⟨En611, Hv612⟩
 refine zg <| cond_at En611 (t := !((nd (zt 1 (nv (nd (rs 1 (nv a)))) (nv (nd (rs 1 (nv a)))))) == (nd (zt 1 (nv a) (nv ([1, 0, 0, 0] : List UInt64)))))) (by kernel_rfl) (fun hc613 => ?_) (fun hc613 => ?_)
 ·
  replace hc613 : ¬ ((nd (zt 1 (nv (nd (rs 1 (nv a)))) (nv (nd (rs 1 (nv a)))))) = (nd (zt 1 (nv a) (nv ([1, 0, 0, 0] : List UInt64))))) := by simpa using hc613
  refine wp_seq <| zm <| d_k [0,3,4,5,6,7,8,11,19,73] [] 1 En611 fun _ En615 => ?_
  refine f_o <| m_g 0 0 4 (zh ([0, 0, 0, 0] : List UInt64)) _ [.box bk6 (zh ([0, 0, 0, 0] : List UInt64)) 34, .box bk44 (zh (nd (zt 1 (nv a) (nv ([1, 0, 0, 0] : List UInt64))))) 34, .box bk53 (zh (nd (rs 1 (nv a)))) 34] En615 Hv612 rfl (zc (show za ([0, 0, 0, 0] : List UInt64) = 4 from rfl)) (by rw [(zc (zf))]; first | decide | (simp; done)) (zv _) (zs (zc (zf))) rfl fun _ _ En618 Hv619 => ?_
  refine d_e [0,3,4,5,6,7,8,11,19] [] En618 fun _ En621 => ?_
  refine zg <| wp_ret <| then_ret <| Qq (v := .agg (zi (zh ([0, 0, 0, 0] : List UInt64)))) (x := .bool false) (t := 4) (T := 34) (ad := ⟨bk6, 0, none⟩) (u := 5) En621 (by kernel_rfl) (by kernel_rfl) (zM (t := 34) (k := 0) (off := 0) (m := 4) (xs := zh ([0, 0, 0, 0] : List UInt64)) Hv619 rfl (zq (zc (show za ([0, 0, 0, 0] : List UInt64) = 4 from rfl))) (zc (show za ([0, 0, 0, 0] : List UInt64) = 4 from rfl)) (by kernel_rfl) (by kernel_rfl)) (by kernel_rfl) ?_
  have eb := (root_no (f := 1) h1f (by assumption)).1
  have e : ([0, 0, 0, 0] : List UInt64) = nd (rootN 1 (nv a)) := root_z (root_no (f := 1) h1f (by assumption))
  rw [eb]
  exact ⟨congrArg (fun l : List UInt64 => Ending.returned (.tuple #[Value.agg (zh l).toArray, .bool false])) e, Hv619.pk []⟩
 replace hc613 : (nd (zt 1 (nv (nd (rs 1 (nv a)))) (nv (nd (rs 1 (nv a)))))) = (nd (zt 1 (nv a) (nv ([1, 0, 0, 0] : List UInt64)))) := by simpa using hc613
 refine wp_skip <| zg <| wp_seq <| wp_seq <| zm <| d_k [0,3,4,5,6,7,8,11,19,74] [] 1 En611 fun _ En623 => ?_
 refine f_o ?_
 have hb624 : 0 < za (nd (rs 1 (nv a))) := by rw [(zl _ _)]; omega
 refine m_v 2 0 (zn (zb (nd (rs 1 (nv a))) 0 0)) En623 Hv612 rfl (u64s_getD hb624) fun _ En626 => ?_
 refine d_e [0,3,4,5,6,7,8,11,19,77] [(2, g_i .u64 (Go.Dbr.u64_and (x := zb (nd (rs 1 (nv a))) 0 0) (y := (1 : UInt64)) rfl rfl))] En626 fun _ En628 => ?_
 refine zg <| c_e ((UInt64.toNat ((zb (nd (rs 1 (nv a))) 0 0) &&& (1 : UInt64)) : Nat) : Int) (1 : Int) En628 (fun hc629 => ?_) (fun hc629 => ?_)
 ·
  refine zm <| d_k [0,3,4,5,6,7,8,11,19,78] [] 1 En628 fun _ En631 => ?_
  refine f_o <| m_a 2 0 4 (zh (nd (rs 1 (nv a)))) En631 Hv612 rfl (zq (zc (zl _ _))) (zc (zl _ _)) fun _ En633 => ?_
  refine f_o <| c_p En633 Hv612 (neg_go _ 1 h1f (nd (rs 1 (nv a))) (zl _ _)) fun _ _ En639 Hv640 => ?_
  refine f_o <| m_g 2 0 4 (zh (nd (Zd 1 0 (nv (nd (rs 1 (nv a))))))) _ [.box bk6 (zh (ze 4 0)) 34, .box bk44 (zh (nd (zt 1 (nv a) (nv ([1, 0, 0, 0] : List UInt64))))) 34, .box bk53 (zh (nd (Zd 1 0 (nv (nd (rs 1 (nv a))))))) 34] En639 Hv640 rfl (zc (zl _ _)) (by rw [(zc (zl _ _))]; first | decide | (simp; done)) (zv _) (zs (zc (zl _ _))) rfl fun _ _ En643 Hv644 => ?_
  refine f_e <| zg <| wp_seq <| zm <| f_o <| m_a 2 0 4 (zh (nd (Zd 1 0 (nv (nd (rs 1 (nv a))))))) En643 Hv644 rfl (zq (zc (zl _ _))) (zc (zl _ _)) fun _ En646 => ?_
  refine f_o <| m_g 0 0 4 (zh (nd (Zd 1 0 (nv (nd (rs 1 (nv a))))))) _ [.box bk6 (zh (nd (Zd 1 0 (nv (nd (rs 1 (nv a))))))) 34, .box bk44 (zh (nd (zt 1 (nv a) (nv ([1, 0, 0, 0] : List UInt64))))) 34, .box bk53 (zh (nd (Zd 1 0 (nv (nd (rs 1 (nv a))))))) 34] En646 Hv644 rfl (zc (zl _ _)) (by rw [(zc (zf))]; first | decide | (simp; done)) (zv _) (zs (zc (zf))) rfl fun _ _ En649 Hv650 => ?_
  refine d_e [0,3,4,5,6,7,8,11,19] [] En649 fun _ En652 => ?_
  refine zg <| wp_ret <| Qq (v := .agg (zi (zh (nd (Zd 1 0 (nv (nd (rs 1 (nv a))))))))) (x := .bool true) (t := 4) (T := 34) (ad := ⟨bk6, 0, none⟩) (u := 5) En652 (by kernel_rfl) (by kernel_rfl) (zM (t := 34) (k := 0) (off := 0) (m := 4) (xs := zh (nd (Zd 1 0 (nv (nd (rs 1 (nv a))))))) Hv650 rfl (zq (zc (zl _ _))) (zc (zl _ _)) (by kernel_rfl) (by kernel_rfl)) (by kernel_rfl) ?_
  have eb := root_yes (f := 1) (A := nv a) (by decide) (by assumption)
  have e : nd (Zd 1 0 (nv (nd (rs 1 (nv a))))) = nd (rootN 1 (nv a)) := by first | exact root_odd (by decide) (by assumption) (by assumption) | exact root_even (by decide) (by assumption) (by assumption)
  rw [eb]
  exact ⟨congrArg (fun l : List UInt64 => Ending.returned (.tuple #[Value.agg (zh l).toArray, .bool true])) e, Hv650.pk []⟩
 refine wp_skip <| zg <| wp_seq <| zm <| f_o <| m_a 2 0 4 (zh (nd (rs 1 (nv a)))) En628 Hv612 rfl (zq (zc (zl _ _))) (zc (zl _ _)) fun _ En654 => ?_
 refine f_o <| m_g 0 0 4 (zh (nd (rs 1 (nv a)))) _ [.box bk6 (zh (nd (rs 1 (nv a)))) 34, .box bk44 (zh (nd (zt 1 (nv a) (nv ([1, 0, 0, 0] : List UInt64))))) 34, .box bk53 (zh (nd (rs 1 (nv a)))) 34] En654 Hv612 rfl (zc (zl _ _)) (by rw [(zc (zf))]; first | decide | (simp; done)) (zv _) (zs (zc (zf))) rfl fun _ _ En657 Hv658 => ?_
 refine d_e [0,3,4,5,6,7,8,11,19] [] En657 fun _ En660 => ?_
 refine zg <| wp_ret <| Qq (v := .agg (zi (zh (nd (rs 1 (nv a)))))) (x := .bool true) (t := 4) (T := 34) (ad := ⟨bk6, 0, none⟩) (u := 5) En660 (by kernel_rfl) (by kernel_rfl) (zM (t := 34) (k := 0) (off := 0) (m := 4) (xs := zh (nd (rs 1 (nv a)))) Hv658 rfl (zq (zc (zl _ _))) (zc (zl _ _)) (by kernel_rfl) (by kernel_rfl)) (by kernel_rfl) ?_
 have eb := root_yes (f := 1) (A := nv a) (by decide) (by assumption)
 have e : nd (rs 1 (nv a)) = nd (rootN 1 (nv a)) := by first | exact root_odd (by decide) (by assumption) (by assumption) | exact root_even (by decide) (by assumption) (by assumption)
 rw [eb]
 exact ⟨congrArg (fun l : List UInt64 => Ending.returned (.tuple #[Value.agg (zh l).toArray, .bool true])) e, Hv658.pk []⟩

end Go.Proofs.YtlnogkmnklfjlaaDoor

/- Primes: Lucas' certificates, Fermat's law. -/

namespace Go.Dbr
/-- a prime -/
def Pr (p : Nat) : Prop := 1 < p ∧ ∀ d, d ∣ p → d = 1 ∨ d = p
theorem Pr.mul {p a b : Nat} (hp : Pr p) (h : p ∣ a * b) : p ∣ a ∨ p ∣ b := by
  rcases hp.2 _ (Nat.gcd_dvd_left p a) with g | g
  · exact .inr (Nat.Coprime.dvd_of_dvd_mul_left g h)
  · exact .inl (by have := Nat.gcd_dvd_right p a; rwa [g] at this)
def smallB (p : Nat) : Bool := JS 1 p && (List.range p).all fun d => JS d 2 || !QK (p % d) 0
theorem pr_small {p : Nat} (h : smallB p = true) : Pr p := by
  unfold smallB at h
  simp only [zX, XP, z8, List.mem_range, Bool.or_eq_true, Q0] at h
  refine ⟨h.1, fun d hd => ?_⟩
  rcases Z9 d p with g | g
  · rcases h.2 d g with x | x
    · rcases Nat.eq_zero_or_pos d with z | z
      · subst z
        have := Nat.eq_zero_of_zero_dvd hd
        omega
      · omega
    · rw [Y7 hd] at x
      cases x
  · have := Xm (by omega) hd
    omega
/-- a power that is reduced on the way -/
def pw (p : Nat) : Nat → Nat → Nat → Nat
  | 0, _, _ => 1 % p
  | k + 1, g, e => cond (QK (e % 2) 1) (g * pw p k (g * g % p) (e / 2) % p) (pw p k (g * g % p) (e / 2))
theorem pw_eq {p : Nat} : ∀ (k g e : Nat), e < 2 ^ k → pw p k g e = g ^ e % p
  | 0, g, e, h => by
    have : e = 0 := by simp at h; exact h
    subst this
    rfl
  | k + 1, g, e, h => by
    have ih := pw_eq (p := p) k (g * g % p) (e / 2) (by rw [Zl] at h; omega)
    have hs : (g * g % p) ^ (e / 2) % p = g ^ (2 * (e / 2)) % p := by rw [← YZ, ← JI, ← Qk]
    unfold pw
    cases hb : QK (e % 2) 1 with
    | true =>
      have h1 : e % 2 = 1 := Nat.eq_of_beq_eq_true hb
      rw [Bool.cond_true, ih, hs, Jq, z5, ← Zl]
      congr 2
      omega
    | false =>
      have h1 : e % 2 ≠ 1 := Y8 hb
      rw [Bool.cond_false, ih, hs]
      congr 2
      omega
theorem pig : ∀ (N : Nat) (f : Nat → Nat), (∀ i, i < N → f i < N) → (∀ i j, i < N → j < N → f i = f j → i = j) → ∀ a, a < N → ∃ i, i < N ∧ f i = a
  | 0, _, _, _, a, h => absurd h (Nat.not_lt_zero a)
  | N + 1, f, hf, hi, a, ha => Classical.byContradiction fun hno => by
    have no : ∀ i, i < N + 1 → f i ≠ a := fun i h e => hno ⟨i, h, e⟩
    obtain ⟨i, hiN, e⟩ := pig N (fun i => if f i = N then a else f i) (fun i h => by
      have h1 := hf i (by omega)
      have h2 := no i (by omega)
      show (if f i = N then a else f i) < N
      split <;> omega) (fun i j h1 h2 e => by
      have n1 := no i (by omega)
      have n2 := no j (by omega)
      refine hi i j (by omega) (by omega) ?_
      split at e <;> split at e <;> omega) (if f N = N then a else f N) (by
      have h1 := hf N (by omega)
      have h2 := no N (by omega)
      split <;> omega)
    have n1 := no i (by omega)
    have n2 := no N (by omega)
    have : i = N := by
      refine hi i N (by omega) (by omega) ?_
      split at e <;> split at e <;> omega
    omega
theorem least {P : Nat → Prop} : ∀ n, P n → ∃ k, P k ∧ ∀ j, j < k → ¬ P j := fun n => by
  induction n using Nat.strongRecOn with
  | _ n ih =>
    intro h
    by_cases e : ∃ j, j < n ∧ P j
    · obtain ⟨j, hj, hp⟩ := e
      exact ih j hj hp
    · exact ⟨n, h, fun j hj hp => e ⟨j, hj, hp⟩⟩
def prodL : List Nat → Nat
  | [] => 1
  | q :: r => q * prodL r
theorem some_q : ∀ (qs : List Nat) (k m : Nat), (∀ q ∈ qs, Pr q) → k * m = prodL qs → m ≠ 1 → ∃ q ∈ qs, q ∣ m
  | [], k, m, _, h, h1 => absurd (Nat.eq_one_of_mul_eq_one_left h) h1
  | q :: r, k, m, hq, h, h1 => by
    have hp := hq q (QE ..)
    rcases hp.mul (a := m) (b := k) (by rw [z5, h]; exact Xv _ _) with d | ⟨k', rfl⟩
    · exact ⟨q, QE .., d⟩
    · have h0 : 0 < q := by have := hp.1; omega
      obtain ⟨q', hm, hd⟩ := some_q r k' m (fun x hx => hq x (Ql _ hx)) (by rw [Ze] at h; exact Nat.eq_of_mul_eq_mul_left h0 h) h1
      exact ⟨q', Ql _ hm, hd⟩
/-- a prime, and Fermat's law of it -/
def Luc (p : Nat) : Prop := Pr p ∧ ∀ a, a % p ≠ 0 → a ^ (p - 1) % p = 1
def certB (p g : Nat) (qs : List Nat) : Bool := JS 1 p && JS p (2 ^ 256) && QK (prodL qs) (p - 1) && QK (pw p 256 g (p - 1)) 1 && qs.all fun q => !QK (pw p 256 g ((p - 1) / q)) 1
theorem allN {P : Nat → Prop} : ∀ q ∈ ([] : List Nat), P q := fun q h => by cases h
theorem allC {P : Nat → Prop} {a : Nat} {l : List Nat} (h : P a) (h2 : ∀ q ∈ l, P q) : ∀ q ∈ a :: l, P q := fun q hq => by
  rcases List.mem_cons.1 hq with rfl | e
  · exact h
  · exact h2 q e
theorem luc {p : Nat} (g : Nat) (qs : List Nat) (hq : ∀ q ∈ qs, Pr q) (h : certB p g qs = true) : Luc p := by
  unfold certB at h
  simp only [zX, XP, Nat.beq_eq, z8, Q0] at h
  obtain ⟨⟨⟨⟨p1, pb⟩, hprod⟩, hN⟩, hall⟩ := h
  rw [pw_eq 256 g (p - 1) (by omega)] at hN
  obtain ⟨N, rfl⟩ : ∃ N, p = N + 1 := ⟨p - 1, by omega⟩
  rw [YV] at *
  have one : 1 % (N + 1) = 1 := zK p1
  obtain ⟨k, ⟨hk0, hk⟩, hmin⟩ := least (P := fun k => 0 < k ∧ g ^ k % (N + 1) = 1) N ⟨by omega, hN⟩
  have powk : ∀ j, (g ^ (k * j)) % (N + 1) = 1 := fun j => by rw [Qk, YZ, hk, XV, one]
  have hdiv : N % k = 0 := Classical.byContradiction fun hne => by
    refine hmin (N % k) (ZB _ hk0) ⟨by omega, ?_⟩
    have e := Yo N k
    have e2 : g ^ N % (N + 1) = g ^ (k * (N / k) + N % k) % (N + 1) := by rw [e]
    rw [hN, Z6, ZY, powk, Xe, QQ] at e2
    exact e2.symm
  have hkm : k * (N / k) = N := by have e := Yo N k; omega
  have hm1 : N / k = 1 := Classical.byContradiction fun hne => by
    obtain ⟨q, hqm, m', hd⟩ := some_q qs k (N / k) hq (by rw [hprod]; exact hkm) hne
    have hp := hq q hqm
    have e : N / q = k * m' := by
      rw [← hkm, hd, Nat.mul_left_comm]
      exact Nat.mul_div_cancel_left _ (by have := hp.1; omega)
    have hlt : N / q ≤ N := Nat.div_le_self _ _
    have c := hall q hqm
    have := Y8 c
    rw [pw_eq 256 g _ (by omega), e] at this
    exact this (powk m')
  have hkN : k = N := by rw [hm1] at hkm; omega
  subst hkN
  have nz : ∀ i, i ≤ k → g ^ i % (k + 1) ≠ 0 := fun i hi h0 => by
    have e : g ^ k = g ^ i * g ^ (k - i) := by rw [← Z6]; congr 1; omega
    rw [e, ZY, h0, ZN, QI] at hN
    cases hN
  have inj : ∀ i j, i < j → j < k → g ^ i % (k + 1) ≠ g ^ j % (k + 1) := fun i j hij hj he => by
    refine hmin (j - i) (by omega) ⟨by omega, ?_⟩
    have e1 : g ^ k = g ^ i * g ^ (k - i) := by rw [← Z6]; congr 1; omega
    have e2 : g ^ j * g ^ (k - i) = g ^ (j - i) * g ^ k := by rw [← Z6, ← Z6]; congr 1; omega
    have e3 : g ^ k % (k + 1) = (g ^ (j - i) * g ^ k) % (k + 1) := by rw [← e2]; conv => lhs; rw [e1, ZY, he, ← ZY]
    rw [ZY, hN, Zo, QQ] at e3
    exact e3.symm
  have sur : ∀ a, 0 < a → a < k + 1 → ∃ i, i < k ∧ g ^ i % (k + 1) = a := fun a h0 h1 => by
    obtain ⟨i, hi, e⟩ := pig k (fun i => g ^ i % (k + 1) - 1) (fun i hi => by
      have := nz i (by omega)
      have := ZB (g ^ i) (show 0 < k + 1 by omega)
      show g ^ i % (k + 1) - 1 < k
      omega) (fun i j hi hj e => by
      have n1 := nz i (by omega)
      have n2 := nz j (by omega)
      rcases Nat.lt_trichotomy i j with h | h | h
      · exact absurd (by omega) (inj i j h hj)
      · exact h
      · exact absurd (by omega) (inj j i h hi)) (a - 1) (by omega)
    have n1 := nz i (by omega)
    exact ⟨i, hi, by omega⟩
  refine ⟨⟨p1, fun d hd => ?_⟩, fun a ha => ?_⟩
  · have hle := Xm (by omega) hd
    rcases Z9 d (k + 1) with hlt | hge
    · left
      have hd0 : 0 < d := Nat.pos_of_dvd_of_pos hd (by omega)
      obtain ⟨i, hi, e⟩ := sur d hd0 hlt
      have e1 : g ^ k = g ^ i * g ^ (k - i) := by rw [← Z6]; congr 1; omega
      rw [e1, ZY, e] at hN
      have h1 : d ∣ d * (g ^ (k - i) % (k + 1)) % (k + 1) := (Nat.dvd_mod_iff hd).2 (Xv _ _)
      rw [hN] at h1
      exact Nat.eq_one_of_dvd_one h1
    · right; omega
  · obtain ⟨i, hi, e⟩ := sur (a % (k + 1)) (by omega) (ZB _ (by omega))
    rw [YV, YZ, ← e, ← YZ, ← Qk, z5, Qk, YZ, hN, XV, one]
theorem pq_2 : Pr 2 := pr_small (by decide +kernel)
theorem pq_3 : Pr 3 := pr_small (by decide +kernel)
theorem pq_5 : Pr 5 := pr_small (by decide +kernel)
theorem pq_7 : Pr 7 := pr_small (by decide +kernel)
theorem pq_11 : Pr 11 := pr_small (by decide +kernel)
theorem pq_13 : Pr 13 := pr_small (by decide +kernel)
theorem pq_17 : Pr 17 := pr_small (by decide +kernel)
theorem pq_19 : Pr 19 := pr_small (by decide +kernel)
theorem pq_23 : Pr 23 := pr_small (by decide +kernel)
theorem pq_29 : Pr 29 := pr_small (by decide +kernel)
theorem pq_31 : Pr 31 := pr_small (by decide +kernel)
theorem pq_37 : Pr 37 := pr_small (by decide +kernel)
theorem pq_41 : Pr 41 := pr_small (by decide +kernel)
theorem pq_43 : Pr 43 := pr_small (by decide +kernel)
theorem pq_47 : Pr 47 := pr_small (by decide +kernel)
theorem pq_53 : Pr 53 := pr_small (by decide +kernel)
theorem pq_59 : Pr 59 := pr_small (by decide +kernel)
theorem pq_67 : Pr 67 := pr_small (by decide +kernel)
theorem pq_71 : Pr 71 := pr_small (by decide +kernel)
theorem pq_73 : Pr 73 := pr_small (by decide +kernel)
theorem pq_79 : Pr 79 := pr_small (by decide +kernel)
theorem pq_83 : Pr 83 := pr_small (by decide +kernel)
theorem pq_97 : Pr 97 := pr_small (by decide +kernel)
theorem lu_239 : Luc 239 := luc 7 [2, 7, 17] (allC pq_2 (allC pq_7 (allC pq_17 allN))) (by decide +kernel)
theorem pq_239 : Pr 239 := lu_239.1
theorem lu_479 : Luc 479 := luc 13 [2, 239] (allC pq_2 (allC pq_239 allN)) (by decide +kernel)
theorem pq_479 : Pr 479 := lu_479.1
theorem lu_32573 : Luc 32573 := luc 2 [2, 2, 17, 479] (allC pq_2 (allC pq_2 (allC pq_17 (allC pq_479 allN)))) (by decide +kernel)
theorem pq_32573 : Pr 32573 := lu_32573.1
theorem lu_65147 : Luc 65147 := luc 2 [2, 32573] (allC pq_2 (allC pq_32573 allN)) (by decide +kernel)
theorem pq_65147 : Pr 65147 := lu_65147.1
theorem lu_353 : Luc 353 := luc 3 [2, 2, 2, 2, 2, 11] (allC pq_2 (allC pq_2 (allC pq_2 (allC pq_2 (allC pq_2 (allC pq_11 allN)))))) (by decide +kernel)
theorem pq_353 : Pr 353 := lu_353.1
theorem lu_487 : Luc 487 := luc 3 [2, 3, 3, 3, 3, 3] (allC pq_2 (allC pq_3 (allC pq_3 (allC pq_3 (allC pq_3 (allC pq_3 allN)))))) (by decide +kernel)
theorem pq_487 : Pr 487 := lu_487.1
theorem lu_57467 : Luc 57467 := luc 2 [2, 59, 487] (allC pq_2 (allC pq_59 (allC pq_487 allN))) (by decide +kernel)
theorem pq_57467 : Pr 57467 := lu_57467.1
theorem lu_131 : Luc 131 := luc 2 [2, 5, 13] (allC pq_2 (allC pq_5 (allC pq_13 allN))) (by decide +kernel)
theorem pq_131 : Pr 131 := lu_131.1
theorem lu_132049 : Luc 132049 := luc 26 [2, 2, 2, 2, 3, 3, 7, 131] (allC pq_2 (allC pq_2 (allC pq_2 (allC pq_2 (allC pq_3 (allC pq_3 (allC pq_7 (allC pq_131 allN)))))))) (by decide +kernel)
theorem pq_132049 : Pr 132049 := lu_132049.1
theorem lu_3727 : Luc 3727 := luc 3 [2, 3, 3, 3, 3, 23] (allC pq_2 (allC pq_3 (allC pq_3 (allC pq_3 (allC pq_3 (allC pq_23 allN)))))) (by decide +kernel)
theorem pq_3727 : Pr 3727 := lu_3727.1
theorem lu_1923133 : Luc 1923133 := luc 2 [2, 2, 3, 43, 3727] (allC pq_2 (allC pq_2 (allC pq_3 (allC pq_43 (allC pq_3727 allN))))) (by decide +kernel)
theorem pq_1923133 : Pr 1923133 := lu_1923133.1
theorem lu_107 : Luc 107 := luc 2 [2, 53] (allC pq_2 (allC pq_53 allN)) (by decide +kernel)
theorem pq_107 : Pr 107 := lu_107.1
theorem lu_223 : Luc 223 := luc 3 [2, 3, 37] (allC pq_2 (allC pq_3 (allC pq_37 allN))) (by decide +kernel)
theorem pq_223 : Pr 223 := lu_223.1
theorem lu_173 : Luc 173 := luc 2 [2, 2, 43] (allC pq_2 (allC pq_2 (allC pq_43 allN))) (by decide +kernel)
theorem pq_173 : Pr 173 := lu_173.1
theorem lu_4153 : Luc 4153 := luc 5 [2, 2, 2, 3, 173] (allC pq_2 (allC pq_2 (allC pq_2 (allC pq_3 (allC pq_173 allN))))) (by decide +kernel)
theorem pq_4153 : Pr 4153 := lu_4153.1
theorem lu_1723 : Luc 1723 := luc 3 [2, 3, 7, 41] (allC pq_2 (allC pq_3 (allC pq_7 (allC pq_41 allN)))) (by decide +kernel)
theorem pq_1723 : Pr 1723 := lu_1723.1
theorem lu_430751 : Luc 430751 := luc 17 [2, 5, 5, 5, 1723] (allC pq_2 (allC pq_5 (allC pq_5 (allC pq_5 (allC pq_1723 allN))))) (by decide +kernel)
theorem pq_430751 : Pr 430751 := lu_430751.1
theorem lu_31757755568855353 : Luc 31757755568855353 := luc 10 [2, 2, 2, 3, 31, 107, 223, 4153, 430751] (allC pq_2 (allC pq_2 (allC pq_2 (allC pq_3 (allC pq_31 (allC pq_107 (allC pq_223 (allC pq_4153 (allC pq_430751 allN))))))))) (by decide +kernel)
theorem pq_31757755568855353 : Pr 31757755568855353 := lu_31757755568855353.1
theorem lu_9463 : Luc 9463 := luc 3 [2, 3, 19, 83] (allC pq_2 (allC pq_3 (allC pq_19 (allC pq_83 allN)))) (by decide +kernel)
theorem pq_9463 : Pr 9463 := lu_9463.1
theorem lu_37853 : Luc 37853 := luc 2 [2, 2, 9463] (allC pq_2 (allC pq_2 (allC pq_9463 allN))) (by decide +kernel)
theorem pq_37853 : Pr 37853 := lu_37853.1
theorem lu_75707 : Luc 75707 := luc 2 [2, 37853] (allC pq_2 (allC pq_37853 allN)) (by decide +kernel)
theorem pq_75707 : Pr 75707 := lu_75707.1
theorem lu_2437 : Luc 2437 := luc 2 [2, 2, 3, 7, 29] (allC pq_2 (allC pq_2 (allC pq_3 (allC pq_7 (allC pq_29 allN))))) (by decide +kernel)
theorem pq_2437 : Pr 2437 := lu_2437.1
theorem lu_419 : Luc 419 := luc 2 [2, 11, 19] (allC pq_2 (allC pq_11 (allC pq_19 allN))) (by decide +kernel)
theorem pq_419 : Pr 419 := lu_419.1
theorem lu_569003 : Luc 569003 := luc 2 [2, 7, 97, 419] (allC pq_2 (allC pq_7 (allC pq_97 (allC pq_419 allN)))) (by decide +kernel)
theorem pq_569003 : Pr 569003 := lu_569003.1
theorem lu_2773320623 : Luc 2773320623 := luc 5 [2, 2437, 569003] (allC pq_2 (allC pq_2437 (allC pq_569003 allN))) (by decide +kernel)
theorem pq_2773320623 : Pr 2773320623 := lu_2773320623.1
theorem lu_72106336199 : Luc 72106336199 := luc 7 [2, 13, 2773320623] (allC pq_2 (allC pq_13 (allC pq_2773320623 allN))) (by decide +kernel)
theorem pq_72106336199 : Pr 72106336199 := lu_72106336199.1
theorem lu_127 : Luc 127 := luc 3 [2, 3, 3, 7] (allC pq_2 (allC pq_3 (allC pq_3 (allC pq_7 allN)))) (by decide +kernel)
theorem pq_127 : Pr 127 := lu_127.1
theorem lu_103 : Luc 103 := luc 5 [2, 3, 17] (allC pq_2 (allC pq_3 (allC pq_17 allN))) (by decide +kernel)
theorem pq_103 : Pr 103 := lu_103.1
theorem lu_991 : Luc 991 := luc 6 [2, 3, 3, 5, 11] (allC pq_2 (allC pq_3 (allC pq_3 (allC pq_5 (allC pq_11 allN))))) (by decide +kernel)
theorem pq_991 : Pr 991 := lu_991.1
theorem lu_8574133 : Luc 8574133 := luc 2 [2, 2, 3, 7, 103, 991] (allC pq_2 (allC pq_2 (allC pq_3 (allC pq_7 (allC pq_103 (allC pq_991 allN)))))) (by decide +kernel)
theorem pq_8574133 : Pr 8574133 := lu_8574133.1
theorem lu_1919519569386763 : Luc 1919519569386763 := luc 2 [2, 3, 7, 19, 47, 47, 127, 8574133] (allC pq_2 (allC pq_3 (allC pq_7 (allC pq_19 (allC pq_47 (allC pq_47 (allC pq_127 (allC pq_8574133 allN)))))))) (by decide +kernel)
theorem pq_1919519569386763 : Pr 1919519569386763 := lu_1919519569386763.1
theorem lu_75445702479781427272750846543864801 : Luc 75445702479781427272750846543864801 := luc 7 [2, 2, 2, 2, 2, 3, 3, 5, 5, 75707, 72106336199, 1919519569386763] (allC pq_2 (allC pq_2 (allC pq_2 (allC pq_2 (allC pq_2 (allC pq_3 (allC pq_3 (allC pq_5 (allC pq_5 (allC pq_75707 (allC pq_72106336199 (allC pq_1919519569386763 allN)))))))))))) (by decide +kernel)
theorem pq_75445702479781427272750846543864801 : Pr 75445702479781427272750846543864801 := lu_75445702479781427272750846543864801.1
theorem lu_74058212732561358302231226437062788676166966415465897661863160754340907 : Luc 74058212732561358302231226437062788676166966415465897661863160754340907 := luc 2 [2, 3, 353, 57467, 132049, 1923133, 31757755568855353, 75445702479781427272750846543864801] (allC pq_2 (allC pq_3 (allC pq_353 (allC pq_57467 (allC pq_132049 (allC pq_1923133 (allC pq_31757755568855353 (allC pq_75445702479781427272750846543864801 allN)))))))) (by decide +kernel)
theorem pq_74058212732561358302231226437062788676166966415465897661863160754340907 : Pr 74058212732561358302231226437062788676166966415465897661863160754340907 := lu_74058212732561358302231226437062788676166966415465897661863160754340907.1
theorem lu_57896044618658097711785492504343953926634992332820282019728792003956564819949 : Luc 57896044618658097711785492504343953926634992332820282019728792003956564819949 := luc 2 [2, 2, 3, 65147, 74058212732561358302231226437062788676166966415465897661863160754340907] (allC pq_2 (allC pq_2 (allC pq_3 (allC pq_65147 (allC pq_74058212732561358302231226437062788676166966415465897661863160754340907 allN))))) (by decide +kernel)
theorem lu_257 : Luc 257 := luc 3 [2, 2, 2, 2, 2, 2, 2, 2] (allC pq_2 (allC pq_2 (allC pq_2 (allC pq_2 (allC pq_2 (allC pq_2 (allC pq_2 (allC pq_2 allN)))))))) (by decide +kernel)
theorem pq_257 : Pr 257 := lu_257.1
theorem lu_641 : Luc 641 := luc 3 [2, 2, 2, 2, 2, 2, 2, 5] (allC pq_2 (allC pq_2 (allC pq_2 (allC pq_2 (allC pq_2 (allC pq_2 (allC pq_2 (allC pq_5 allN)))))))) (by decide +kernel)
theorem pq_641 : Pr 641 := lu_641.1
theorem lu_1531 : Luc 1531 := luc 2 [2, 3, 3, 5, 17] (allC pq_2 (allC pq_3 (allC pq_3 (allC pq_5 (allC pq_17 allN))))) (by decide +kernel)
theorem pq_1531 : Pr 1531 := lu_1531.1
theorem lu_65537 : Luc 65537 := luc 3 [2, 2, 2, 2, 2, 2, 2, 2, 2, 2, 2, 2, 2, 2, 2, 2] (allC pq_2 (allC pq_2 (allC pq_2 (allC pq_2 (allC pq_2 (allC pq_2 (allC pq_2 (allC pq_2 (allC pq_2 (allC pq_2 (allC pq_2 (allC pq_2 (allC pq_2 (allC pq_2 (allC pq_2 (allC pq_2 allN)))))))))))))))) (by decide +kernel)
theorem pq_65537 : Pr 65537 := lu_65537.1
theorem lu_661 : Luc 661 := luc 2 [2, 2, 3, 5, 11] (allC pq_2 (allC pq_2 (allC pq_3 (allC pq_5 (allC pq_11 allN))))) (by decide +kernel)
theorem pq_661 : Pr 661 := lu_661.1
theorem lu_490463 : Luc 490463 := luc 14 [2, 7, 53, 661] (allC pq_2 (allC pq_7 (allC pq_53 (allC pq_661 allN)))) (by decide +kernel)
theorem pq_490463 : Pr 490463 := lu_490463.1
theorem lu_727 : Luc 727 := luc 5 [2, 3, 11, 11] (allC pq_2 (allC pq_3 (allC pq_11 (allC pq_11 allN)))) (by decide +kernel)
theorem pq_727 : Pr 727 := lu_727.1
theorem lu_17449 : Luc 17449 := luc 14 [2, 2, 2, 3, 727] (allC pq_2 (allC pq_2 (allC pq_2 (allC pq_3 (allC pq_727 allN))))) (by decide +kernel)
theorem pq_17449 : Pr 17449 := lu_17449.1
theorem lu_6700417 : Luc 6700417 := luc 5 [2, 2, 2, 2, 2, 2, 2, 3, 17449] (allC pq_2 (allC pq_2 (allC pq_2 (allC pq_2 (allC pq_2 (allC pq_2 (allC pq_2 (allC pq_3 (allC pq_17449 allN))))))))) (by decide +kernel)
theorem pq_6700417 : Pr 6700417 := lu_6700417.1
theorem lu_241 : Luc 241 := luc 7 [2, 2, 2, 2, 3, 5] (allC pq_2 (allC pq_2 (allC pq_2 (allC pq_2 (allC pq_3 (allC pq_5 allN)))))) (by decide +kernel)
theorem pq_241 : Pr 241 := lu_241.1
theorem lu_2411 : Luc 2411 := luc 6 [2, 5, 241] (allC pq_2 (allC pq_5 (allC pq_241 allN))) (by decide +kernel)
theorem pq_2411 : Pr 2411 := lu_2411.1
theorem lu_157 : Luc 157 := luc 5 [2, 2, 3, 13] (allC pq_2 (allC pq_2 (allC pq_3 (allC pq_13 allN)))) (by decide +kernel)
theorem pq_157 : Pr 157 := lu_157.1
theorem lu_3769 : Luc 3769 := luc 7 [2, 2, 2, 3, 157] (allC pq_2 (allC pq_2 (allC pq_2 (allC pq_3 (allC pq_157 allN))))) (by decide +kernel)
theorem pq_3769 : Pr 3769 := lu_3769.1
theorem lu_204061199 : Luc 204061199 := luc 11 [2, 11, 23, 107, 3769] (allC pq_2 (allC pq_11 (allC pq_23 (allC pq_107 (allC pq_3769 allN))))) (by decide +kernel)
theorem pq_204061199 : Pr 204061199 := lu_204061199.1
theorem lu_34282281433 : Luc 34282281433 := luc 17 [2, 2, 2, 3, 7, 204061199] (allC pq_2 (allC pq_2 (allC pq_2 (allC pq_3 (allC pq_7 (allC pq_204061199 allN)))))) (by decide +kernel)
theorem pq_34282281433 : Pr 34282281433 := lu_34282281433.1
theorem lu_197 : Luc 197 := luc 2 [2, 2, 7, 7] (allC pq_2 (allC pq_2 (allC pq_7 (allC pq_7 allN)))) (by decide +kernel)
theorem pq_197 : Pr 197 := lu_197.1
theorem lu_919 : Luc 919 := luc 7 [2, 3, 3, 3, 17] (allC pq_2 (allC pq_3 (allC pq_3 (allC pq_3 (allC pq_17 allN))))) (by decide +kernel)
theorem pq_919 : Pr 919 := lu_919.1
theorem lu_3677 : Luc 3677 := luc 2 [2, 2, 919] (allC pq_2 (allC pq_2 (allC pq_919 allN))) (by decide +kernel)
theorem pq_3677 : Pr 3677 := lu_3677.1
theorem lu_66417393611 : Luc 66417393611 := luc 6 [2, 5, 53, 173, 197, 3677] (allC pq_2 (allC pq_5 (allC pq_53 (allC pq_173 (allC pq_197 (allC pq_3677 allN)))))) (by decide +kernel)
theorem pq_66417393611 : Pr 66417393611 := lu_66417393611.1
theorem lu_11290956913871 : Luc 11290956913871 := luc 13 [2, 5, 17, 66417393611] (allC pq_2 (allC pq_5 (allC pq_17 (allC pq_66417393611 allN)))) (by decide +kernel)
theorem pq_11290956913871 : Pr 11290956913871 := lu_11290956913871.1
theorem lu_757 : Luc 757 := luc 2 [2, 2, 3, 3, 3, 7] (allC pq_2 (allC pq_2 (allC pq_3 (allC pq_3 (allC pq_3 (allC pq_7 allN)))))) (by decide +kernel)
theorem pq_757 : Pr 757 := lu_757.1
theorem lu_18169 : Luc 18169 := luc 11 [2, 2, 2, 3, 757] (allC pq_2 (allC pq_2 (allC pq_2 (allC pq_3 (allC pq_757 allN))))) (by decide +kernel)
theorem pq_18169 : Pr 18169 := lu_18169.1
theorem lu_181 : Luc 181 := luc 2 [2, 2, 3, 3, 5] (allC pq_2 (allC pq_2 (allC pq_3 (allC pq_3 (allC pq_5 allN))))) (by decide +kernel)
theorem pq_181 : Pr 181 := lu_181.1
theorem lu_1087 : Luc 1087 := luc 3 [2, 3, 181] (allC pq_2 (allC pq_3 (allC pq_181 allN))) (by decide +kernel)
theorem pq_1087 : Pr 1087 := lu_1087.1
theorem lu_4349 : Luc 4349 := luc 2 [2, 2, 1087] (allC pq_2 (allC pq_2 (allC pq_1087 allN))) (by decide +kernel)
theorem pq_4349 : Pr 4349 := lu_4349.1
theorem lu_78283 : Luc 78283 := luc 3 [2, 3, 3, 4349] (allC pq_2 (allC pq_3 (allC pq_3 (allC pq_4349 allN)))) (by decide +kernel)
theorem pq_78283 : Pr 78283 := lu_78283.1
theorem lu_313 : Luc 313 := luc 10 [2, 2, 2, 3, 13] (allC pq_2 (allC pq_2 (allC pq_2 (allC pq_3 (allC pq_13 allN))))) (by decide +kernel)
theorem pq_313 : Pr 313 := lu_313.1
theorem lu_704251 : Luc 704251 := luc 2 [2, 3, 3, 5, 5, 5, 313] (allC pq_2 (allC pq_3 (allC pq_3 (allC pq_5 (allC pq_5 (allC pq_5 (allC pq_313 allN))))))) (by decide +kernel)
theorem pq_704251 : Pr 704251 := lu_704251.1
theorem lu_46076956964474543 : Luc 46076956964474543 := luc 5 [2, 23, 18169, 78283, 704251] (allC pq_2 (allC pq_23 (allC pq_18169 (allC pq_78283 (allC pq_704251 allN))))) (by decide +kernel)
theorem pq_46076956964474543 : Pr 46076956964474543 := lu_46076956964474543.1
theorem lu_774023187263532362759620327192479577272145303 : Luc 774023187263532362759620327192479577272145303 := luc 3 [2, 3, 3, 2411, 34282281433, 11290956913871, 46076956964474543] (allC pq_2 (allC pq_3 (allC pq_3 (allC pq_2411 (allC pq_34282281433 (allC pq_11290956913871 (allC pq_46076956964474543 allN))))))) (by decide +kernel)
theorem pq_774023187263532362759620327192479577272145303 : Pr 774023187263532362759620327192479577272145303 := lu_774023187263532362759620327192479577272145303.1
theorem lu_835945042244614951780389953367877943453916927241 : Luc 835945042244614951780389953367877943453916927241 := luc 11 [2, 2, 2, 3, 3, 3, 5, 774023187263532362759620327192479577272145303] (allC pq_2 (allC pq_2 (allC pq_2 (allC pq_3 (allC pq_3 (allC pq_3 (allC pq_5 (allC pq_774023187263532362759620327192479577272145303 allN)))))))) (by decide +kernel)
theorem pq_835945042244614951780389953367877943453916927241 : Pr 835945042244614951780389953367877943453916927241 := lu_835945042244614951780389953367877943453916927241.1
theorem lu_115792089210356248762697446949407573530086143415290314195533631308867097853951 : Luc 115792089210356248762697446949407573530086143415290314195533631308867097853951 := luc 6 [2, 3, 5, 5, 17, 257, 641, 1531, 65537, 490463, 6700417, 835945042244614951780389953367877943453916927241] (allC pq_2 (allC pq_3 (allC pq_5 (allC pq_5 (allC pq_17 (allC pq_257 (allC pq_641 (allC pq_1531 (allC pq_65537 (allC pq_490463 (allC pq_6700417 (allC pq_835945042244614951780389953367877943453916927241 allN)))))))))))) (by decide +kernel)
theorem lu_373 : Luc 373 := luc 2 [2, 2, 3, 31] (allC pq_2 (allC pq_2 (allC pq_3 (allC pq_31 allN)))) (by decide +kernel)
theorem pq_373 : Pr 373 := lu_373.1
theorem lu_3407 : Luc 3407 := luc 5 [2, 13, 131] (allC pq_2 (allC pq_13 (allC pq_131 allN))) (by decide +kernel)
theorem pq_3407 : Pr 3407 := lu_3407.1
theorem lu_9547 : Luc 9547 := luc 2 [2, 3, 37, 43] (allC pq_2 (allC pq_3 (allC pq_37 (allC pq_43 allN)))) (by decide +kernel)
theorem pq_9547 : Pr 9547 := lu_9547.1
theorem lu_38189 : Luc 38189 := luc 2 [2, 2, 9547] (allC pq_2 (allC pq_2 (allC pq_9547 allN))) (by decide +kernel)
theorem pq_38189 : Pr 38189 := lu_38189.1
theorem lu_229 : Luc 229 := luc 6 [2, 2, 3, 19] (allC pq_2 (allC pq_2 (allC pq_3 (allC pq_19 allN)))) (by decide +kernel)
theorem pq_229 : Pr 229 := lu_229.1
theorem lu_1201 : Luc 1201 := luc 11 [2, 2, 2, 2, 3, 5, 5] (allC pq_2 (allC pq_2 (allC pq_2 (allC pq_2 (allC pq_3 (allC pq_5 (allC pq_5 allN))))))) (by decide +kernel)
theorem pq_1201 : Pr 1201 := lu_1201.1
theorem lu_9350987 : Luc 9350987 := luc 2 [2, 17, 229, 1201] (allC pq_2 (allC pq_17 (allC pq_229 (allC pq_1201 allN)))) (by decide +kernel)
theorem pq_9350987 : Pr 9350987 := lu_9350987.1
theorem lu_187019741 : Luc 187019741 := luc 2 [2, 2, 5, 9350987] (allC pq_2 (allC pq_2 (allC pq_5 (allC pq_9350987 allN)))) (by decide +kernel)
theorem pq_187019741 : Pr 187019741 := lu_187019741.1
theorem lu_311 : Luc 311 := luc 17 [2, 5, 31] (allC pq_2 (allC pq_5 (allC pq_31 allN))) (by decide +kernel)
theorem pq_311 : Pr 311 := lu_311.1
theorem lu_311245691 : Luc 311245691 := luc 2 [2, 5, 7, 17, 29, 29, 311] (allC pq_2 (allC pq_5 (allC pq_7 (allC pq_17 (allC pq_29 (allC pq_29 (allC pq_311 allN))))))) (by decide +kernel)
theorem pq_311245691 : Pr 311245691 := lu_311245691.1
theorem lu_622491383 : Luc 622491383 := luc 5 [2, 311245691] (allC pq_2 (allC pq_311245691 allN)) (by decide +kernel)
theorem pq_622491383 : Pr 622491383 := lu_622491383.1
theorem lu_263 : Luc 263 := luc 5 [2, 131] (allC pq_2 (allC pq_131 allN)) (by decide +kernel)
theorem pq_263 : Pr 263 := lu_263.1
theorem lu_126241 : Luc 126241 := luc 7 [2, 2, 2, 2, 2, 3, 5, 263] (allC pq_2 (allC pq_2 (allC pq_2 (allC pq_2 (allC pq_2 (allC pq_3 (allC pq_5 (allC pq_263 allN)))))))) (by decide +kernel)
theorem pq_126241 : Pr 126241 := lu_126241.1
theorem lu_337 : Luc 337 := luc 10 [2, 2, 2, 2, 3, 7] (allC pq_2 (allC pq_2 (allC pq_2 (allC pq_2 (allC pq_3 (allC pq_7 allN)))))) (by decide +kernel)
theorem pq_337 : Pr 337 := lu_337.1
theorem lu_104471 : Luc 104471 := luc 11 [2, 5, 31, 337] (allC pq_2 (allC pq_5 (allC pq_31 (allC pq_337 allN)))) (by decide +kernel)
theorem pq_104471 : Pr 104471 := lu_104471.1
theorem lu_3969899 : Luc 3969899 := luc 2 [2, 19, 104471] (allC pq_2 (allC pq_19 (allC pq_104471 allN))) (by decide +kernel)
theorem pq_3969899 : Pr 3969899 := lu_3969899.1
theorem lu_1002328039319 : Luc 1002328039319 := luc 19 [2, 126241, 3969899] (allC pq_2 (allC pq_126241 (allC pq_3969899 allN))) (by decide +kernel)
theorem pq_1002328039319 : Pr 1002328039319 := lu_1002328039319.1
theorem lu_1297 : Luc 1297 := luc 10 [2, 2, 2, 2, 3, 3, 3, 3] (allC pq_2 (allC pq_2 (allC pq_2 (allC pq_2 (allC pq_3 (allC pq_3 (allC pq_3 (allC pq_3 allN)))))))) (by decide +kernel)
theorem pq_1297 : Pr 1297 := lu_1297.1
theorem lu_16879 : Luc 16879 := luc 3 [2, 3, 29, 97] (allC pq_2 (allC pq_3 (allC pq_29 (allC pq_97 allN)))) (by decide +kernel)
theorem pq_16879 : Pr 16879 := lu_16879.1
theorem lu_151 : Luc 151 := luc 6 [2, 3, 5, 5] (allC pq_2 (allC pq_3 (allC pq_5 (allC pq_5 allN)))) (by decide +kernel)
theorem pq_151 : Pr 151 := lu_151.1
theorem lu_1511 : Luc 1511 := luc 11 [2, 5, 151] (allC pq_2 (allC pq_5 (allC pq_151 allN))) (by decide +kernel)
theorem pq_1511 : Pr 1511 := lu_1511.1
theorem lu_3023 : Luc 3023 := luc 5 [2, 1511] (allC pq_2 (allC pq_1511 allN)) (by decide +kernel)
theorem pq_3023 : Pr 3023 := lu_3023.1
theorem lu_155317 : Luc 155317 := luc 5 [2, 2, 3, 7, 43, 43] (allC pq_2 (allC pq_2 (allC pq_3 (allC pq_7 (allC pq_43 (allC pq_43 allN)))))) (by decide +kernel)
theorem pq_155317 : Pr 155317 := lu_155317.1
theorem lu_191039911 : Luc 191039911 := luc 3 [2, 3, 5, 41, 155317] (allC pq_2 (allC pq_3 (allC pq_5 (allC pq_41 (allC pq_155317 allN))))) (by decide +kernel)
theorem pq_191039911 : Pr 191039911 := lu_191039911.1
theorem lu_208150935158385979 : Luc 208150935158385979 := luc 2 [2, 3, 11, 43, 127, 3023, 191039911] (allC pq_2 (allC pq_3 (allC pq_11 (allC pq_43 (allC pq_127 (allC pq_3023 (allC pq_191039911 allN))))))) (by decide +kernel)
theorem pq_208150935158385979 : Pr 208150935158385979 := lu_208150935158385979.1
theorem lu_2624747550333869278416773953 : Luc 2624747550333869278416773953 := luc 7 [2, 2, 2, 2, 2, 2, 3, 3, 1297, 16879, 208150935158385979] (allC pq_2 (allC pq_2 (allC pq_2 (allC pq_2 (allC pq_2 (allC pq_2 (allC pq_3 (allC pq_3 (allC pq_1297 (allC pq_16879 (allC pq_208150935158385979 allN))))))))))) (by decide +kernel)
theorem pq_2624747550333869278416773953 : Pr 2624747550333869278416773953 := lu_2624747550333869278416773953.1
theorem lu_115792089210356248762697446949407573529996955224135760342422259061068512044369 : Luc 115792089210356248762697446949407573529996955224135760342422259061068512044369 := luc 7 [2, 2, 2, 2, 3, 71, 131, 373, 3407, 17449, 38189, 187019741, 622491383, 1002328039319, 2624747550333869278416773953] (allC pq_2 (allC pq_2 (allC pq_2 (allC pq_2 (allC pq_3 (allC pq_71 (allC pq_131 (allC pq_373 (allC pq_3407 (allC pq_17449 (allC pq_38189 (allC pq_187019741 (allC pq_622491383 (allC pq_1002328039319 (allC pq_2624747550333869278416773953 allN))))))))))))))) (by decide +kernel)
theorem lu_34123 : Luc 34123 := luc 2 [2, 3, 11, 11, 47] (allC pq_2 (allC pq_3 (allC pq_11 (allC pq_11 (allC pq_47 allN))))) (by decide +kernel)
theorem pq_34123 : Pr 34123 := lu_34123.1
theorem lu_409477 : Luc 409477 := luc 2 [2, 2, 3, 34123] (allC pq_2 (allC pq_2 (allC pq_3 (allC pq_34123 allN)))) (by decide +kernel)
theorem pq_409477 : Pr 409477 := lu_409477.1
theorem lu_14741173 : Luc 14741173 := luc 2 [2, 2, 3, 3, 409477] (allC pq_2 (allC pq_2 (allC pq_3 (allC pq_3 (allC pq_409477 allN))))) (by decide +kernel)
theorem pq_14741173 : Pr 14741173 := lu_14741173.1
theorem lu_58964693 : Luc 58964693 := luc 2 [2, 2, 14741173] (allC pq_2 (allC pq_2 (allC pq_14741173 allN))) (by decide +kernel)
theorem pq_58964693 : Pr 58964693 := lu_58964693.1
theorem lu_30703 : Luc 30703 := luc 3 [2, 3, 7, 17, 43] (allC pq_2 (allC pq_3 (allC pq_7 (allC pq_17 (allC pq_43 allN))))) (by decide +kernel)
theorem pq_30703 : Pr 30703 := lu_30703.1
theorem lu_41081 : Luc 41081 := luc 3 [2, 2, 2, 5, 13, 79] (allC pq_2 (allC pq_2 (allC pq_2 (allC pq_5 (allC pq_13 (allC pq_79 allN)))))) (by decide +kernel)
theorem pq_41081 : Pr 41081 := lu_41081.1
theorem lu_82163 : Luc 82163 := luc 2 [2, 41081] (allC pq_2 (allC pq_41081 allN)) (by decide +kernel)
theorem pq_82163 : Pr 82163 := lu_82163.1
theorem lu_22111 : Luc 22111 := luc 6 [2, 3, 5, 11, 67] (allC pq_2 (allC pq_3 (allC pq_5 (allC pq_11 (allC pq_67 allN))))) (by decide +kernel)
theorem pq_22111 : Pr 22111 := lu_22111.1
theorem lu_132667 : Luc 132667 := luc 5 [2, 3, 22111] (allC pq_2 (allC pq_3 (allC pq_22111 allN))) (by decide +kernel)
theorem pq_132667 : Pr 132667 := lu_132667.1
theorem lu_17231 : Luc 17231 := luc 13 [2, 5, 1723] (allC pq_2 (allC pq_5 (allC pq_1723 allN))) (by decide +kernel)
theorem pq_17231 : Pr 17231 := lu_17231.1
theorem lu_137849 : Luc 137849 := luc 3 [2, 2, 2, 17231] (allC pq_2 (allC pq_2 (allC pq_2 (allC pq_17231 allN)))) (by decide +kernel)
theorem pq_137849 : Pr 137849 := lu_137849.1
theorem lu_3044861653679985063343 : Luc 3044861653679985063343 := luc 5 [2, 3, 11, 30703, 82163, 132667, 137849] (allC pq_2 (allC pq_3 (allC pq_11 (allC pq_30703 (allC pq_82163 (allC pq_132667 (allC pq_137849 allN))))))) (by decide +kernel)
theorem pq_3044861653679985063343 : Pr 3044861653679985063343 := lu_3044861653679985063343.1
theorem lu_198211423230930754013084525763697 : Luc 198211423230930754013084525763697 := luc 5 [2, 2, 2, 2, 3, 23, 58964693, 3044861653679985063343] (allC pq_2 (allC pq_2 (allC pq_2 (allC pq_2 (allC pq_3 (allC pq_23 (allC pq_58964693 (allC pq_3044861653679985063343 allN)))))))) (by decide +kernel)
theorem pq_198211423230930754013084525763697 : Pr 198211423230930754013084525763697 := lu_198211423230930754013084525763697.1
theorem lu_269 : Luc 269 := luc 2 [2, 2, 67] (allC pq_2 (allC pq_2 (allC pq_67 allN))) (by decide +kernel)
theorem pq_269 : Pr 269 := lu_269.1
theorem lu_307 : Luc 307 := luc 5 [2, 3, 3, 17] (allC pq_2 (allC pq_3 (allC pq_3 (allC pq_17 allN)))) (by decide +kernel)
theorem pq_307 : Pr 307 := lu_307.1
theorem lu_113 : Luc 113 := luc 3 [2, 2, 2, 2, 7] (allC pq_2 (allC pq_2 (allC pq_2 (allC pq_2 (allC pq_7 allN))))) (by decide +kernel)
theorem pq_113 : Pr 113 := lu_113.1
theorem lu_2939 : Luc 2939 := luc 2 [2, 13, 113] (allC pq_2 (allC pq_13 (allC pq_113 allN))) (by decide +kernel)
theorem pq_2939 : Pr 2939 := lu_2939.1
theorem lu_5879 : Luc 5879 := luc 11 [2, 2939] (allC pq_2 (allC pq_2939 allN)) (by decide +kernel)
theorem pq_5879 : Pr 5879 := lu_5879.1
theorem lu_292386187 : Luc 292386187 := luc 2 [2, 3, 3, 3, 3, 307, 5879] (allC pq_2 (allC pq_3 (allC pq_3 (allC pq_3 (allC pq_3 (allC pq_307 (allC pq_5879 allN))))))) (by decide +kernel)
theorem pq_292386187 : Pr 292386187 := lu_292386187.1
theorem lu_213441916511 : Luc 213441916511 := luc 13 [2, 5, 73, 292386187] (allC pq_2 (allC pq_5 (allC pq_73 (allC pq_292386187 allN)))) (by decide +kernel)
theorem pq_213441916511 : Pr 213441916511 := lu_213441916511.1
theorem lu_1361 : Luc 1361 := luc 3 [2, 2, 2, 2, 5, 17] (allC pq_2 (allC pq_2 (allC pq_2 (allC pq_2 (allC pq_5 (allC pq_17 allN)))))) (by decide +kernel)
theorem pq_1361 : Pr 1361 := lu_1361.1
theorem lu_2851 : Luc 2851 := luc 2 [2, 3, 5, 5, 19] (allC pq_2 (allC pq_3 (allC pq_5 (allC pq_5 (allC pq_19 allN))))) (by decide +kernel)
theorem pq_2851 : Pr 2851 := lu_2851.1
theorem lu_3797 : Luc 3797 := luc 2 [2, 2, 13, 73] (allC pq_2 (allC pq_2 (allC pq_13 (allC pq_73 allN)))) (by decide +kernel)
theorem pq_3797 : Pr 3797 := lu_3797.1
theorem lu_531581 : Luc 531581 := luc 2 [2, 2, 5, 7, 3797] (allC pq_2 (allC pq_2 (allC pq_5 (allC pq_7 (allC pq_3797 allN))))) (by decide +kernel)
theorem pq_531581 : Pr 531581 := lu_531581.1
theorem lu_2551 : Luc 2551 := luc 6 [2, 3, 5, 5, 17] (allC pq_2 (allC pq_3 (allC pq_5 (allC pq_5 (allC pq_17 allN))))) (by decide +kernel)
theorem pq_2551 : Pr 2551 := lu_2551.1
theorem lu_1224481 : Luc 1224481 := luc 13 [2, 2, 2, 2, 2, 3, 5, 2551] (allC pq_2 (allC pq_2 (allC pq_2 (allC pq_2 (allC pq_2 (allC pq_3 (allC pq_5 (allC pq_2551 allN)))))))) (by decide +kernel)
theorem pq_1224481 : Pr 1224481 := lu_1224481.1
theorem lu_1257559732178653 : Luc 1257559732178653 := luc 2 [2, 2, 3, 7, 23, 531581, 1224481] (allC pq_2 (allC pq_2 (allC pq_3 (allC pq_7 (allC pq_23 (allC pq_531581 (allC pq_1224481 allN))))))) (by decide +kernel)
theorem pq_1257559732178653 : Pr 1257559732178653 := lu_1257559732178653.1
theorem lu_4434155615661930479 : Luc 4434155615661930479 := luc 17 [2, 41, 43, 1257559732178653] (allC pq_2 (allC pq_41 (allC pq_43 (allC pq_1257559732178653 allN)))) (by decide +kernel)
theorem pq_4434155615661930479 : Pr 4434155615661930479 := lu_4434155615661930479.1
theorem lu_172054593956031949258510691 : Luc 172054593956031949258510691 := luc 2 [2, 5, 1361, 2851, 4434155615661930479] (allC pq_2 (allC pq_5 (allC pq_1361 (allC pq_2851 (allC pq_4434155615661930479 allN))))) (by decide +kernel)
theorem pq_172054593956031949258510691 : Pr 172054593956031949258510691 := lu_172054593956031949258510691.1
theorem lu_19757330305831588566944191468367130476339 : Luc 19757330305831588566944191468367130476339 := luc 2 [2, 269, 213441916511, 172054593956031949258510691] (allC pq_2 (allC pq_269 (allC pq_213441916511 (allC pq_172054593956031949258510691 allN)))) (by decide +kernel)
theorem pq_19757330305831588566944191468367130476339 : Pr 19757330305831588566944191468367130476339 := lu_19757330305831588566944191468367130476339.1
theorem lu_276602624281642239937218680557139826668747 : Luc 276602624281642239937218680557139826668747 := luc 2 [2, 7, 19757330305831588566944191468367130476339] (allC pq_2 (allC pq_7 (allC pq_19757330305831588566944191468367130476339 allN))) (by decide +kernel)
theorem pq_276602624281642239937218680557139826668747 : Pr 276602624281642239937218680557139826668747 := lu_276602624281642239937218680557139826668747.1
theorem lu_7237005577332262213973186563042994240857116359379907606001950938285454250989 : Luc 7237005577332262213973186563042994240857116359379907606001950938285454250989 := luc 2 [2, 2, 3, 11, 198211423230930754013084525763697, 276602624281642239937218680557139826668747] (allC pq_2 (allC pq_2 (allC pq_3 (allC pq_11 (allC pq_198211423230930754013084525763697 (allC pq_276602624281642239937218680557139826668747 allN)))))) (by decide +kernel)
end Go.Dbr

/- Layer 4: the laws of a field. -/


namespace Go.Proofs.YtlnogkmnklfjlaaDoor
open Go.Dbr
set_option maxRecDepth 100000
set_option maxHeartbeats 2000000
set_option linter.unusedVariables false
set_option linter.unusedSimpArgs false

theorem lucF {f : Int} (hf : f = 1 ∨ f = 2 ∨ f = 3 ∨ f = 4) : Luc (mF f) := by
  rcases hf with rfl | rfl | rfl | rfl
  · exact lu_57896044618658097711785492504343953926634992332820282019728792003956564819949
  · exact lu_115792089210356248762697446949407573530086143415290314195533631308867097853951
  · exact lu_115792089210356248762697446949407573529996955224135760342422259061068512044369
  · exact lu_7237005577332262213973186563042994240857116359379907606001950938285454250989
theorem mpos {f : Int} (hf : f = 1 ∨ f = 2 ∨ f = 3 ∨ f = 4) : 0 < mF f := Nat.lt_trans Nat.zero_lt_one (mF_pos hf)
theorem mulM_ltM {f : Int} (hf : f = 1 ∨ f = 2 ∨ f = 3 ∨ f = 4) (x y : Nat) : zt f x y < mF f := ZB _ (mpos hf)
theorem powM_ltM {f : Int} (hf : f = 1 ∨ f = 2 ∨ f = 3 ∨ f = 4) (x y : Nat) : z0 f x y < mF f := ZB _ (mpos hf)
theorem mulM_comm (f : Int) (x y : Nat) : zt f x y = zt f y x := by rw [zt, zt, z5]
theorem mulM_assoc (f : Int) (x y z : Nat) : zt f (zt f x y) z = zt f x (zt f y z) := by
  simp only [zt, Yq, Jq, Ze]
theorem mulM_one (f : Int) (x : Nat) : zt f x 1 = x % mF f := by rw [zt, Zo]
theorem fermat {f : Int} (hf : f = 1 ∨ f = 2 ∨ f = 3 ∨ f = 4) {x : Nat} (h : x % mF f ≠ 0) : z0 f x (mF f - 1) = 1 := (lucF hf).2 x h
theorem pow_0 {f : Int} {x n : Nat} (h : x % mF f = 0) (hn : n ≠ 0) : z0 f x n = 0 := by
  obtain ⟨k, rfl⟩ : ∃ k, n = k + 1 := ⟨n - 1, by omega⟩
  rw [z0, Zl, ZY, h, Qv, QI]
theorem mul_0 {f : Int} {x y : Nat} (h : x % mF f = 0) : zt f x y = 0 := by rw [zt, ZY, h, ZN, QI]
theorem powM_lsucc (f : Int) (x n : Nat) : zt f x (z0 f x n) = z0 f x (n + 1) := by rw [mulM_comm, powM_succ]
theorem inv_yes {f : Int} (hf : f = 1 ∨ f = 2 ∨ f = 3 ∨ f = 4) {x : Nat} (h : x % mF f ≠ 0) : zt f x (z0 f x (mF f - 2)) = 1 := by
  have h1 := mF_pos hf
  rw [powM_lsucc, show mF f - 2 + 1 = mF f - 1 by omega, fermat hf h]
theorem powM_pw {f : Int} (x : Nat) {n : Nat} (h : n < 2 ^ 256) : z0 f x n = pw (mF f) 256 x n := (pw_eq 256 x n h).symm
/-- squares have roots -/
theorem powM_sq (f : Int) (x n : Nat) : z0 f (zt f x x) n = z0 f x (2 * n) := by
  rw [z0, zt, ← YZ, ← JI, ← Qk, z0]
theorem pow_M1 {f : Int} (hf : f = 1 ∨ f = 2 ∨ f = 3 ∨ f = 4) (x : Nat) : z0 f x (mF f + 1) = zt f x x := by
  have h1 := mF_pos hf
  by_cases h : x % mF f = 0
  · rw [pow_0 h (by omega), mul_0 h]
  · have e : z0 f x (mF f + 1) = zt f (z0 f x (mF f - 1)) (z0 f x 2) := by rw [Jn]; congr 1; omega
    rw [e, fermat hf h, zt, Xe, z0, QQ, JI, zt]
theorem mod_M (f : Int) (x y : Nat) : zt f x y % mF f = zt f x y := QQ _ _
theorem sq_two (x : Nat) : zt 2 (rs 2 (zt 2 x x)) (rs 2 (zt 2 x x)) = zt 2 x x := by
  rw [rs, if_pos (.inl rfl), rq, if_pos rfl, Jn, powM_sq, show 2 * ((mF 2 + 1) / 4 + (mF 2 + 1) / 4) = mF 2 + 1 by decide +kernel, pow_M1 h2f]
theorem ri_sq : zt 1 ri ri = mF 1 - 1 := by
  rw [ri, Jn, powM_pw 2 (by decide +kernel)]
  decide +kernel
theorem pr_mod {p a b : Nat} (hp : Pr p) (h : a * b % p = 0) : a % p = 0 ∨ b % p = 0 := by
  rcases hp.mul (Y9 h) with g | g
  · exact .inl (Y7 g)
  · exact .inr (Y7 g)
theorem sq_one {u M : Nat} (hp : Pr M) (hu : u < M) (h : u * u % M = 1) : u = 1 ∨ u = M - 1 := by
  have hM := hp.1
  have hu0 : u ≠ 0 := fun e => by subst e; rw [Qv, QI] at h; cases h
  have e : (u + 1) * (u - 1) % M = 0 := by
    have e1 : (u + 1) * (u - 1) + 1 = u * u := by
      obtain ⟨k, rfl⟩ : ∃ k, u = k + 1 := ⟨u - 1, by omega⟩
      rw [YV, Zm, Nat.mul_add]
      omega
    have e2 := Yo (u * u) M
    rw [h] at e2
    have : (u + 1) * (u - 1) = M * (u * u / M) := by omega
    rw [this, Nat.mul_mod_right]
  rcases pr_mod hp e with g | g
  · right
    rcases Z9 (u + 1) M with q | q
    · rw [zK q] at g; omega
    · omega
  · left
    rw [zK (by omega)] at g
    omega
theorem mul4 (f : Int) (a b : Nat) : zt f (zt f a b) (zt f a b) = zt f (zt f a a) (zt f b b) := by
  simp only [zt, Yq, Jq]
  rw [Nat.mul_mul_mul_comm]
theorem sq_onef (x : Nat) : zt 1 (rs 1 (zt 1 x x)) (rs 1 (zt 1 x x)) = zt 1 x x := by
  rw [rs]
  by_cases c : zt 1 (rq 1 (zt 1 x x)) (rq 1 (zt 1 x x)) = zt 1 (zt 1 x x) 1
  · rw [if_pos (.inr c), c, mulM_one, mod_M]
  · rw [if_neg (fun q => q.elim (by decide) c)]
    have hr : zt 1 (rq 1 (zt 1 x x)) (rq 1 (zt 1 x x)) = zt 1 (z0 1 x ((mF 1 - 1) / 2)) (zt 1 x x) := by
      have e2 : zt 1 x x = z0 1 x 2 := by rw [z0, JI, zt]
      rw [rq, if_neg (by decide), Jn, powM_sq, e2, Jn]
      congr 1
    have hx : x % mF 1 ≠ 0 := fun h => c (by rw [hr, mulM_one, mod_M, mul_0 h, zt, Qv, QI])
    have hu : zt 1 (z0 1 x ((mF 1 - 1) / 2)) (z0 1 x ((mF 1 - 1) / 2)) = 1 := by
      rw [Jn, show (mF 1 - 1) / 2 + (mF 1 - 1) / 2 = mF 1 - 1 by decide +kernel, fermat h1f hx]
    rcases sq_one (lucF h1f).1 (powM_ltM h1f _ _) hu with g | g
    · exact absurd (by rw [hr, g, mulM_one, mod_M, zt, Xe, mod_M]) c
    · rw [mul4, hr, g, ri_sq, mulM_comm 1 (mF 1 - 1) (zt 1 x x), mulM_assoc, show zt 1 (mF 1 - 1) (mF 1 - 1) = 1 by decide +kernel, mulM_one, mod_M]
theorem neg_sq {f : Int} {r : Nat} (hr : r < mF f) (h0 : r ≠ 0) : Zd f 0 r = mF f - r ∧ zt f (mF f - r) (mF f - r) = zt f r r := by
  have e : Zd f 0 r = mF f - r := by rw [Zd, QI, Nat.zero_add, zK hr, zK (by omega)]
  refine ⟨e, ?_⟩
  rw [zt, zt]
  obtain ⟨s, hs⟩ : ∃ s, mF f - r = s := ⟨_, rfl⟩
  rw [hs]
  have e2 : s * s + mF f * r = r * r + mF f * s := by
    rw [show mF f = s + r by omega, Zm, Zm]
    have := z5 s r
    omega
  have e3 := congrArg (· % mF f) e2
  simp only [Nat.add_mul_mod_self_left] at e3
  exact e3
theorem odd_M {f : Int} (hf : f = 1 ∨ f = 2 ∨ f = 3 ∨ f = 4) : mF f % 2 = 1 := by rcases hf with rfl | rfl | rfl | rfl <;> rfl
theorem rs_ltM {f : Int} (hf : f = 1 ∨ f = 2 ∨ f = 3 ∨ f = 4) (A : Nat) : rs f A < mF f := by
  unfold rs
  split
  · exact powM_ltM hf _ _
  · exact mulM_ltM hf _ _
theorem sq_law {f : Int} (h12 : f = 1 ∨ f = 2) (x : Nat) : rootOk f (zt f x x) = true ∧ zt f (rootN f (zt f x x)) (rootN f (zt f x x)) = zt f x x ∧ rootN f (zt f x x) % 2 = 0 := by
  have hs : zt f (rs f (zt f x x)) (rs f (zt f x x)) = zt f x x := by
    rcases h12 with rfl | rfl
    · exact sq_onef x
    · exact sq_two x
  have ok : rootOk f (zt f x x) = true := decide_eq_true ⟨h12, by rw [hs, mulM_one, mod_M]⟩
  have hl := rs_ltM (f := f) (by omega) (zt f x x)
  have ho := odd_M (f := f) (by omega)
  refine ⟨ok, ?_⟩
  rw [rootN, if_pos ok]
  split
  · have hn := neg_sq hl (by omega)
    rw [hn.1, hn.2, hs]
    exact ⟨rfl, by omega⟩
  · exact ⟨hs, by omega⟩

end Go.Proofs.YtlnogkmnklfjlaaDoor

/- Points of a curve y^2 = x^3 + a x^2 + b x + c over a prime: a group. -/

namespace Go.Wei
open Go.Dbr
set_option linter.unusedVariables false
section
variable {p : Nat} [NeZero p]
structure Fld (p : Nat) [NeZero p] : Prop where
  nz : ∀ x y : Fin p, x * y = 0 → x = 0 ∨ y = 0
  two : ∀ x : Fin p, x + x = 0 → x = 0
  iv : ∀ x : Fin p, x ≠ 0 → ∃ y, x * y = 1
theorem Fld.cancel {F : Fld p} {k x y : Fin p} (hk : k ≠ 0) (h : k * (x - y) = 0) : x = y := by
  rcases F.nz _ _ h with g | g
  · exact absurd g hk
  · grind -lia
end
theorem fin_mul {p : Nat} (x y : Fin p) : (x * y).val = x.val * y.val % p := rfl
theorem fin_add {p : Nat} (x y : Fin p) : (x + y).val = (x.val + y.val) % p := rfl
section
variable {p : Nat} [NeZero p]
theorem fin_zero : (0 : Fin p).val = 0 := by show 0 % p = 0; exact QI _
/-- numbers modulo a prime -/
theorem fld_of (h : Luc p) (h2 : p ≠ 2) : Fld p := by
  have hp := h.1.1
  refine ⟨fun x y e => ?_, fun x e => ?_, fun x hx => ?_⟩
  · have e1 : x.val * y.val % p = 0 := (congrArg Fin.val e).trans fin_zero
    rcases h.1.mul (Y9 e1) with g | g
    · left
      apply Fin.ext
      rw [fin_zero]
      exact YQ g x.isLt
    · right
      apply Fin.ext
      rw [fin_zero]
      exact YQ g y.isLt
  · have e1 : (x.val + x.val) % p = 0 := (congrArg Fin.val e).trans fin_zero
    have e2 : p ∣ 2 * x.val := by rw [Nat.two_mul]; exact Y9 e1
    rcases h.1.mul e2 with g | g
    · have := Xm (by decide) g
      omega
    · apply Fin.ext
      rw [fin_zero]
      exact YQ g x.isLt
  · have hv : x.val % p ≠ 0 := by
      rw [zK x.isLt]
      intro g
      exact hx (Fin.ext (g.trans fin_zero.symm))
    refine ⟨⟨x.val ^ (p - 2) % p, ZB _ (by omega)⟩, ?_⟩
    apply Fin.ext
    show x.val * (x.val ^ (p - 2) % p) % p = 1 % p
    rw [Jq, z5, ← Zl, show (p - 2).succ = p - 1 by omega, h.2 _ hv, zK hp]
/-- a number modulo p -/
def fn (p : Nat) [NeZero p] (x : Nat) : Fin p := Fin.ofNat p x
theorem fn_val (x : Nat) : (fn p x).val = x % p := rfl
theorem fn_mod (x : Nat) : fn p (x % p) = fn p x := Fin.ext (by rw [fn_val, fn_val, QQ])
theorem fn_of (x : Fin p) : fn p x.val = x := Fin.ext (by rw [fn_val, zK x.isLt])
theorem fn_inj {x y : Nat} (hx : x < p) (hy : y < p) (h : fn p x = fn p y) : x = y := by
  have := congrArg Fin.val h
  rwa [fn_val, fn_val, zK hx, zK hy] at this
theorem fn_mul (x y : Nat) : fn p (x * y % p) = fn p x * fn p y := Fin.ext (by rw [fn_val, fin_mul, fn_val, fn_val, QQ, ZY])
theorem fn_add (x y : Nat) : fn p ((x + y) % p) = fn p x + fn p y := Fin.ext (by rw [fn_val, fin_add, fn_val, fn_val, QQ, Nat.add_mod])
theorem fn_sub (x y : Nat) : fn p ((x % p + p - y % p) % p) = fn p x - fn p y := Fin.ext (by
  have hp : 0 < p := Nat.pos_of_ne_zero (NeZero.ne p)
  have hy := ZB y hp
  rw [fn_val, QQ, Fin.sub_def]
  show (x % p + p - y % p) % p = (p - y % p + x % p) % p
  congr 1
  omega)
theorem fn_zero : fn p 0 = 0 := rfl
theorem fn_one : fn p 1 = 1 := rfl
theorem Fld.mul {F : Fld p} {x y : Fin p} (hx : x ≠ 0) (hy : y ≠ 0) : x * y ≠ 0 := fun h => (F.nz _ _ h).elim hx hy
theorem Fld.eq {F : Fld p} {k x y : Fin p} (hk : k ≠ 0) (h : k * x = k * y) : x = y := Fld.cancel (F := F) hk (by grind -lia)
end
end Go.Wei

/- The curve y^2 - x^2 = 1 + d x^2 y^2 over a prime: a group, when -1 is a square and d none. -/

namespace Go.Ed
open Go.Dbr Go.Wei
set_option linter.unusedVariables false
section
variable {p : Nat} [NeZero p]
/-- on the curve -/
def OnE (d x y : Fin p) : Prop := y*y - x*x = 1 + d*(x*x)*(y*y)
/-- the sum of two points -/
def SumE (d x1 y1 x2 y2 x3 y3 : Fin p) : Prop := x3*(1 + d*(x1*x2)*(y1*y2)) = x1*y2 + x2*y1 ∧ y3*(1 - d*(x1*x2)*(y1*y2)) = y1*y2 + x1*x2
structure Ec (p : Nat) [NeZero p] where
  d : Fin p
  i : Fin p
  F : Fld p
  hi : i*i = -1
  hd : ∀ x : Fin p, x*x ≠ d
  one : (1 : Fin p) ≠ 0
theorem sq_key {d i e x1 y1 x2 y2 : Fin p} (h1 : OnE d x1 y1) (h2 : OnE d x2 y2) (hi : i*i = -1) (he : e = d*(x1*x2)*(y1*y2)) (hs : e*e = 1) : d*((x1*y1*(i*x2+y2))*(x1*y1*(i*x2+y2))) = (i*x1+e*y1)*(i*x1+e*y1) := by
  unfold OnE at h1 h2
  have a1 : d*((x1*y1*(i*x2+y2))*(x1*y1*(i*x2+y2))) = d*(x1*x1)*(y1*y1)*(y2*y2-x2*x2) + (e+e)*(i*x1*y1) := by
    have : (i*x2+y2)*(i*x2+y2) = y2*y2 - x2*x2 + (i*x2*y2 + i*x2*y2) := by
      have : (i*x2+y2)*(i*x2+y2) = (i*i)*(x2*x2) + y2*y2 + (i*x2*y2 + i*x2*y2) := by grind -lia
      rw [this, hi]
      grind -lia
    have h : d*((x1*y1*(i*x2+y2))*(x1*y1*(i*x2+y2))) = d*(x1*x1)*(y1*y1)*((i*x2+y2)*(i*x2+y2)) := by clear this hs he h1 h2; grind -lia
    rw [h, this, he]
    clear this h hs he h1 h2
    grind -lia
  have a2 : (i*x1+e*y1)*(i*x1+e*y1) = y1*y1 - x1*x1 + (e+e)*(i*x1*y1) := by
    have : (i*x1+e*y1)*(i*x1+e*y1) = (i*i)*(x1*x1) + (e*e)*(y1*y1) + (e+e)*(i*x1*y1) := by clear h1 h2 hi he hs a1; grind -lia
    rw [this, hi, hs]
    clear this a1 h1 h2 hi he hs
    grind -lia
  rw [a1, a2, h2, h1]
  have a3 : d*(x1*x1)*(y1*y1)*(1 + d*(x2*x2)*(y2*y2)) = d*(x1*x1)*(y1*y1) + e*e := by rw [he]; clear a1 a2 h1 h2 hi he hs; grind -lia
  rw [a3, hs]
  clear a1 a2 a3 h1 h2 hi he hs
  grind -lia
theorem no_sq {C : Ec p} {a b : Fin p} (ha : a ≠ 0) (h : C.d*(a*a) = b*b) : False := by
  obtain ⟨v, hv⟩ := C.F.iv a ha
  apply C.hd (b*v)
  have : (b*v)*(b*v) = (b*b)*(v*v) := by grind -lia
  rw [this, ← h]
  have : C.d*(a*a)*(v*v) = C.d*((a*v)*(a*v)) := by grind -lia
  rw [this, hv]
  grind -lia
theorem Ec.two_ne {C : Ec p} {x : Fin p} (h : x ≠ 0) : x + x ≠ 0 := fun g => h (C.F.two _ g)
/-- it never divides by nothing -/
theorem complete {C : Ec p} {x1 y1 x2 y2 : Fin p} (h1 : OnE C.d x1 y1) (h2 : OnE C.d x2 y2) {e : Fin p} (he : e = C.d*(x1*x2)*(y1*y2)) : e*e ≠ 1 := by
  intro hs
  have hx : x1*y1 ≠ 0 := fun g => C.one (by
    have : e*e = (C.d*x2*y2)*(x1*y1)*e := by rw [he]; grind -lia
    rw [← hs, this, g]; grind -lia)
  have hy : x2*y2 ≠ 0 := fun g => C.one (by
    have : e*e = (C.d*x1*y1)*(x2*y2)*e := by rw [he]; grind -lia
    rw [← hs, this, g]; grind -lia)
  have k1 := sq_key h1 h2 C.hi he hs
  have h2' : OnE C.d x2 (-y2) := by unfold OnE at *; clear hx hy k1 h1 he hs; grind -lia
  have k2 := sq_key h1 h2' C.hi (e := -e) (by rw [he]; clear hx hy k1 h1 he hs h2'; grind -lia) (by rw [← hs]; clear hx hy k1 h1 he hs h2'; grind -lia)
  by_cases g : C.i*x2+y2 = 0
  · by_cases g2 : C.i*x2+(-y2) = 0
    · have : y2 + y2 = 0 := by
        have : y2 + y2 = (C.i*x2+y2) - (C.i*x2+(-y2)) := by clear hx hy k1 k2 h1 h2 h2' he hs g g2; grind -lia
        rw [this, g, g2]
        clear hx hy k1 k2 h1 h2 h2' he hs g g2 this
        grind -lia
      have y0 := C.F.two _ this
      exact hy (by rw [y0]; clear hx hy k1 k2 h1 h2 h2' he hs g g2 this; grind -lia)
    · exact no_sq (C := C) (Fld.mul (F := C.F) hx g2) k2
  · exact no_sq (C := C) (Fld.mul (F := C.F) hx g) k1
theorem comp_p {C : Ec p} {x1 y1 x2 y2 : Fin p} (h1 : OnE C.d x1 y1) (h2 : OnE C.d x2 y2) : 1 + C.d*(x1*x2)*(y1*y2) ≠ 0 := fun g => complete h1 h2 rfl (by
  have : C.d*(x1*x2)*(y1*y2) = -1 := by
    have : C.d*(x1*x2)*(y1*y2) = (1 + C.d*(x1*x2)*(y1*y2)) - 1 := by clear g h1 h2; grind -lia
    rw [this, g]
    clear this g h1 h2
    grind -lia
  rw [this]
  clear this g h1 h2
  grind -lia)
theorem comp_m {C : Ec p} {x1 y1 x2 y2 : Fin p} (h1 : OnE C.d x1 y1) (h2 : OnE C.d x2 y2) : 1 - C.d*(x1*x2)*(y1*y2) ≠ 0 := fun g => complete h1 h2 rfl (by
  have : C.d*(x1*x2)*(y1*y2) = 1 := by
    have : C.d*(x1*x2)*(y1*y2) = 1 - (1 - C.d*(x1*x2)*(y1*y2)) := by clear g h1 h2; grind -lia
    rw [this, g]
    clear this g h1 h2
    grind -lia
  rw [this]
  clear this g h1 h2
  grind -lia)
theorem sum_ex {C : Ec p} {x1 y1 x2 y2 : Fin p} (h1 : OnE C.d x1 y1) (h2 : OnE C.d x2 y2) : ∃ x3 y3, SumE C.d x1 y1 x2 y2 x3 y3 := by
  obtain ⟨u, hu⟩ := C.F.iv _ (comp_p h1 h2)
  obtain ⟨v, hv⟩ := C.F.iv _ (comp_m h1 h2)
  refine ⟨(x1*y2+x2*y1)*u, (y1*y2+x1*x2)*v, ?_, ?_⟩
  · have : (x1*y2+x2*y1)*u*(1 + C.d*(x1*x2)*(y1*y2)) = (x1*y2+x2*y1)*((1 + C.d*(x1*x2)*(y1*y2))*u) := by clear hu hv h1 h2; grind -lia
    rw [this, hu]
    clear this hu hv h1 h2
    grind -lia
  · have : (y1*y2+x1*x2)*v*(1 - C.d*(x1*x2)*(y1*y2)) = (y1*y2+x1*x2)*((1 - C.d*(x1*x2)*(y1*y2))*v) := by clear hu hv h1 h2; grind -lia
    rw [this, hv]
    clear this hu hv h1 h2
    grind -lia
theorem sum_uniq {C : Ec p} {x1 y1 x2 y2 x3 y3 x4 y4 : Fin p} (h1 : OnE C.d x1 y1) (h2 : OnE C.d x2 y2) (h : SumE C.d x1 y1 x2 y2 x3 y3) (h' : SumE C.d x1 y1 x2 y2 x4 y4) : x3 = x4 ∧ y3 = y4 := by
  refine ⟨Fld.eq (F := C.F) (comp_p h1 h2) ?_, Fld.eq (F := C.F) (comp_m h1 h2) ?_⟩
  · have a := h.1
    have b := h'.1
    rw [← b] at a
    clear h h' h1 h2 b
    grind -lia
  · have a := h.2
    have b := h'.2
    rw [← b] at a
    clear h h' h1 h2 b
    grind -lia
theorem on_core {d x1 y1 x2 y2 e A B : Fin p} (h1 : OnE d x1 y1) (h2 : OnE d x2 y2) (he : e = d*(x1*x2)*(y1*y2)) (hA : A = x1*y2 + x2*y1) (hB : B = y1*y2 + x1*x2) : (B*B)*((1+e)*(1+e)) - (A*A)*((1-e)*(1-e)) = ((1-e)*(1+e))*((1-e)*(1+e)) + d*(A*A)*(B*B) := by
  unfold OnE at h1 h2
  subst he hA hB
  grind -lia
theorem sum_on {C : Ec p} {x1 y1 x2 y2 x3 y3 : Fin p} (h1 : OnE C.d x1 y1) (h2 : OnE C.d x2 y2) (h : SumE C.d x1 y1 x2 y2 x3 y3) : OnE C.d x3 y3 := by
  have k := on_core h1 h2 rfl h.1 h.2
  have c1 := comp_p h1 h2
  have c2 := comp_m h1 h2
  generalize C.d*(x1*x2)*(y1*y2) = e at *
  refine Fld.eq (F := C.F) (k := ((1-e)*(1+e))*((1-e)*(1+e))) (Fld.mul (F := C.F) (Fld.mul (F := C.F) c2 c1) (Fld.mul (F := C.F) c2 c1)) ?_
  clear h h1 h2 c1 c2
  grind -lia
theorem as_x {d x1 y1 x2 y2 x3 y3 : Fin p} (h1 : OnE d x1 y1) (h2 : OnE d x2 y2) (h3 : OnE d x3 y3) :
    ((x1*y2+x2*y1)*(1-d*(x1*x2)*(y1*y2))*y3 + x3*((y1*y2+x1*x2)*(1+d*(x1*x2)*(y1*y2)))) * ((1-d*(x2*x3)*(y2*y3))*(1+d*(x2*x3)*(y2*y3)) + d*(x1*(x2*y3+x3*y2))*(y1*(y2*y3+x2*x3))) =
    (x1*((y2*y3+x2*x3)*(1+d*(x2*x3)*(y2*y3))) + (x2*y3+x3*y2)*(1-d*(x2*x3)*(y2*y3))*y1) * ((1-d*(x1*x2)*(y1*y2))*(1+d*(x1*x2)*(y1*y2)) + d*((x1*y2+x2*y1)*x3)*((y1*y2+x1*x2)*y3)) := by
  unfold OnE at h1 h2 h3
  grind -lia
theorem as_y {d x1 y1 x2 y2 x3 y3 : Fin p} (h1 : OnE d x1 y1) (h2 : OnE d x2 y2) (h3 : OnE d x3 y3) :
    ((y1*y2+x1*x2)*(1+d*(x1*x2)*(y1*y2))*y3 + (x1*y2+x2*y1)*(1-d*(x1*x2)*(y1*y2))*x3) * ((1-d*(x2*x3)*(y2*y3))*(1+d*(x2*x3)*(y2*y3)) - d*(x1*(x2*y3+x3*y2))*(y1*(y2*y3+x2*x3))) =
    (y1*((y2*y3+x2*x3)*(1+d*(x2*x3)*(y2*y3))) + x1*((x2*y3+x3*y2)*(1-d*(x2*x3)*(y2*y3)))) * ((1-d*(x1*x2)*(y1*y2))*(1+d*(x1*x2)*(y1*y2)) - d*((x1*y2+x2*y1)*x3)*((y1*y2+x1*x2)*y3)) := by
  unfold OnE at h1 h2 h3
  grind -lia
theorem fin_cancel {F : Fld p} {D1 D2 N1 N2 Q1 Q2 X Y : Fin p} (d1 : D1 ≠ 0) (d2 : D2 ≠ 0) (q1 : Q1 ≠ 0) (q2 : Q2 ≠ 0) (h : (D1*N1)*(D2*Q2) = (D2*N2)*(D1*Q1)) (hX : X*Q1 = N1) (hY : Y*Q2 = N2) : X = Y := by
  refine Fld.eq (F := F) (k := (D1*D2)*(Q1*Q2)) (Fld.mul (F := F) (Fld.mul (F := F) d1 d2) (Fld.mul (F := F) q1 q2)) ?_
  subst hX hY
  clear d1 d2 q1 q2
  grind -lia
theorem sum_assoc {C : Ec p} {x1 y1 x2 y2 x3 y3 xS yS xU yU X Y X' Y' : Fin p} (h1 : OnE C.d x1 y1) (h2 : OnE C.d x2 y2) (h3 : OnE C.d x3 y3)
    (hS : SumE C.d x1 y1 x2 y2 xS yS) (hU : SumE C.d x2 y2 x3 y3 xU yU) (hX : SumE C.d xS yS x3 y3 X Y) (hY : SumE C.d x1 y1 xU yU X' Y') : X = X' ∧ Y = Y' := by
  have oS := sum_on h1 h2 hS
  have oU := sum_on h2 h3 hU
  have a1 := comp_p h1 h2
  have a2 := comp_m h1 h2
  have a3 := comp_p h2 h3
  have a4 := comp_m h2 h3
  have a5 := comp_p oS h3
  have a6 := comp_m oS h3
  have a7 := comp_p h1 oU
  have a8 := comp_m h1 oU
  have kx := as_x h1 h2 h3
  have ky := as_y h1 h2 h3
  obtain ⟨s1, s2⟩ := hS
  obtain ⟨u1, u2⟩ := hU
  rw [← s1, ← s2, ← u1, ← u2] at kx ky
  have d1 := Fld.mul (F := C.F) a2 a1
  have d2 := Fld.mul (F := C.F) a4 a3
  constructor
  · refine fin_cancel (F := C.F) d1 d2 a5 a7 ?_ hX.1 hY.1
    clear oS oU hX hY h1 h2 h3 ky a1 a2 a3 a4 a5 a6 a7 a8 d1 d2
    clear s1 s2 u1 u2
    generalize C.d*(x1*x2)*(y1*y2) = e at *
    generalize C.d*(x2*x3)*(y2*y3) = f at *
    grind -lia
  · refine fin_cancel (F := C.F) d1 d2 a6 a8 ?_ hX.2 hY.2
    clear oS oU hX hY h1 h2 h3 kx a1 a2 a3 a4 a5 a6 a7 a8 d1 d2
    clear s1 s2 u1 u2
    generalize C.d*(x1*x2)*(y1*y2) = e at *
    generalize C.d*(x2*x3)*(y2*y3) = f at *
    grind -lia
/-- the points -/
def Ec.G (C : Ec p) : Type := {P : Fin p × Fin p // OnE C.d P.1 P.2}
noncomputable def Ec.add {C : Ec p} (P Q : C.G) : C.G := ⟨((sum_ex P.2 Q.2).choose, (sum_ex P.2 Q.2).choose_spec.choose), sum_on P.2 Q.2 (sum_ex P.2 Q.2).choose_spec.choose_spec⟩
theorem Ec.is {C : Ec p} (P Q : C.G) : SumE C.d P.1.1 P.1.2 Q.1.1 Q.1.2 (Ec.add P Q).1.1 (Ec.add P Q).1.2 := (sum_ex P.2 Q.2).choose_spec.choose_spec
theorem Ec.eq {C : Ec p} {P Q R : C.G} (h : SumE C.d P.1.1 P.1.2 Q.1.1 Q.1.2 R.1.1 R.1.2) : Ec.add P Q = R := by
  have := sum_uniq P.2 Q.2 (Ec.is P Q) h
  exact Subtype.ext (Prod.ext this.1 this.2)
theorem Ec.assoc {C : Ec p} (P Q R : C.G) : Ec.add (Ec.add P Q) R = Ec.add P (Ec.add Q R) := by
  have := sum_assoc P.2 Q.2 R.2 (Ec.is P Q) (Ec.is Q R) (Ec.is (Ec.add P Q) R) (Ec.is P (Ec.add Q R))
  exact Subtype.ext (Prod.ext this.1 this.2)
theorem Ec.comm {C : Ec p} (P Q : C.G) : Ec.add P Q = Ec.add Q P := Ec.eq (by
  have := Ec.is Q P
  generalize (Ec.add Q P).1 = R at *
  obtain ⟨h1, h2⟩ := this
  exact ⟨by grind -lia, by grind -lia⟩)
def Ec.zero {C : Ec p} : C.G := ⟨(0, 1), by unfold OnE; grind -lia⟩
theorem Ec.zero_add {C : Ec p} (P : C.G) : Ec.add Ec.zero P = P := Ec.eq (by
  obtain ⟨⟨x, y⟩, h⟩ := P
  show SumE C.d 0 1 x y x y
  clear h
  exact ⟨by grind -lia, by grind -lia⟩)
theorem Ec.add_zero {C : Ec p} (P : C.G) : Ec.add P Ec.zero = P := by rw [Ec.comm, Ec.zero_add]
noncomputable def Ec.mul {C : Ec p} : Nat → C.G → C.G
  | 0, _ => Ec.zero
  | n + 1, P => Ec.add (Ec.mul n P) P
theorem Ec.mul_add {C : Ec p} (P : C.G) (m : Nat) : ∀ n, Ec.mul (m + n) P = Ec.add (Ec.mul m P) (Ec.mul n P)
  | 0 => by rw [Nat.add_zero, Ec.mul, Ec.add_zero]
  | n + 1 => by rw [← Nat.add_assoc, Ec.mul, Ec.mul_add P m n, Ec.mul, Ec.assoc]
theorem Ec.mul_zero {C : Ec p} : ∀ n, Ec.mul n (Ec.zero : C.G) = Ec.zero
  | 0 => rfl
  | n + 1 => by rw [Ec.mul, Ec.mul_zero n, Ec.zero_add]
theorem Ec.mul_one {C : Ec p} (P : C.G) : Ec.mul 1 P = P := by rw [Ec.mul, Ec.mul, Ec.zero_add]
theorem Ec.mul_mul {C : Ec p} (P : C.G) (n : Nat) : ∀ m, Ec.mul (m * n) P = Ec.mul m (Ec.mul n P)
  | 0 => by rw [ZN, Ec.mul, Ec.mul]
  | m + 1 => by rw [Nat.succ_mul, Ec.mul_add, Ec.mul_mul P n m, Ec.mul]
/-- a point's three numbers, and its four -/
def Rep3 (X Y Z : Fin p) (P : Fin p × Fin p) : Prop := Z ≠ 0 ∧ X = P.1*Z ∧ Y = P.2*Z
def Rep4 (X Y Z T : Fin p) (P : Fin p × Fin p) : Prop := Z ≠ 0 ∧ X = P.1*Z ∧ Y = P.2*Z ∧ T = P.1*P.2*Z
/-- the program's sum -/
theorem rep4_add {C : Ec p} {P Q : C.G} {X1 Y1 Z1 T1 X2 Y2 Z2 T2 : Fin p} (hp : Rep4 X1 Y1 Z1 T1 P.1) (hq : Rep4 X2 Y2 Z2 T2 Q.1) {a b c d e f g h : Fin p} (ha : a = (Y1-X1)*(Y2-X2)) (hb : b = (Y1+X1)*(Y2+X2)) (hc : c = (T1*T2)*(C.d+C.d)) (hd : d = Z1*Z2+Z1*Z2) (he : e = b - a) (hf : f = d - c) (hg : g = d + c) (hh : h = b + a) :
    Rep4 (e*f) (g*h) (f*g) (e*h) (Ec.add P Q).1 := by
  have c1 := comp_p P.2 Q.2
  have c2 := comp_m P.2 Q.2
  have hs := Ec.is P Q
  generalize (Ec.add P Q).1 = R at *
  obtain ⟨⟨x1, y1⟩, o1⟩ := P
  obtain ⟨⟨x2, y2⟩, o2⟩ := Q
  obtain ⟨x3, y3⟩ := R
  obtain ⟨z1, rfl, rfl, rfl⟩ := hp
  obtain ⟨z2, rfl, rfl, rfl⟩ := hq
  simp only at c1 c2 hs ha hb hc hd ⊢
  clear o1 o2
  have zz := Fld.mul (F := C.F) z1 z2
  have k2 := Ec.two_ne (C := C) zz
  have e1 : f = (Z1*Z2+Z1*Z2)*(1 - C.d*(x1*x2)*(y1*y2)) := by rw [hf, hd, hc]; clear hs c1 c2 zz z1 z2 k2 ha hb hc hd he hf hg hh; grind -lia
  have e2 : g = (Z1*Z2+Z1*Z2)*(1 + C.d*(x1*x2)*(y1*y2)) := by rw [hg, hd, hc]; clear hs c1 c2 zz z1 z2 k2 ha hb hc hd he hf hg hh e1; grind -lia
  have e3 : e = (Z1*Z2+Z1*Z2)*(x1*y2+x2*y1) := by rw [he, hb, ha]; clear hs c1 c2 zz z1 z2 k2 ha hb hc hd he hf hg hh e1 e2; grind -lia
  have e4 : h = (Z1*Z2+Z1*Z2)*(y1*y2+x1*x2) := by rw [hh, hb, ha]; clear hs c1 c2 zz z1 z2 k2 ha hb hc hd he hf hg hh e1 e2 e3; grind -lia
  obtain ⟨s1, s2⟩ := hs
  rw [← s1] at e3
  rw [← s2] at e4
  rw [e1, e2, e3, e4]
  clear s1 s2 e1 e2 e3 e4 ha hb hc hd he hf hg hh
  generalize C.d*(x1*x2)*(y1*y2) = u at *
  generalize Z1*Z2+Z1*Z2 = k at *
  refine ⟨Fld.mul (F := C.F) (Fld.mul (F := C.F) k2 c2) (Fld.mul (F := C.F) k2 c1), ?_, ?_, ?_⟩
  · clear c1 c2 zz z1 z2 k2; simp only; grind -lia
  · clear c1 c2 zz z1 z2 k2; simp only; grind -lia
  · clear c1 c2 zz z1 z2 k2; simp only; grind -lia
/-- the same point? -/
theorem rep3_same {C : Ec p} {P Q : Fin p × Fin p} {X1 Y1 Z1 X2 Y2 Z2 : Fin p} (hp : Rep3 X1 Y1 Z1 P) (hq : Rep3 X2 Y2 Z2 Q) : (X1*Z2 = X2*Z1 ∧ Y1*Z2 = Y2*Z1) ↔ P = Q := by
  obtain ⟨x1, y1⟩ := P
  obtain ⟨x2, y2⟩ := Q
  obtain ⟨z1, rfl, rfl⟩ := hp
  obtain ⟨z2, rfl, rfl⟩ := hq
  have zz := Fld.mul (F := C.F) z1 z2
  constructor
  · rintro ⟨a, b⟩
    simp only at a b
    have ex : x1 = x2 := Fld.eq (F := C.F) zz (by clear b zz z1 z2; grind -lia)
    have ey : y1 = y2 := Fld.eq (F := C.F) zz (by clear a zz z1 z2 ex; grind -lia)
    rw [ex, ey]
  · intro h
    cases h
    simp only
    clear zz z1 z2
    exact ⟨by grind -lia, by grind -lia⟩
/-- d y^2 + 1 is not nothing -/
theorem den_ne {C : Ec p} (y : Fin p) : C.d*(y*y) + 1 ≠ 0 := fun g => by
  have h : C.d*(y*y) = C.i*C.i := by rw [C.hi]; have : C.d*(y*y) = (C.d*(y*y) + 1) - 1 := by clear g; grind -lia
                                     rw [this, g]; clear this g; grind -lia
  by_cases hy : y = 0
  · subst hy
    exact C.one (by rw [← g]; clear g h; grind -lia)
  · exact no_sq (C := C) hy h
/-- an x that goes with a y -/
theorem on_of {C : Ec p} {x y v : Fin p} (hv : (C.d*(y*y) + 1)*v = 1) (h : x*x = (y*y - 1)*v) : OnE C.d x y := by
  have e : x*x*(C.d*(y*y) + 1) = (y*y-1)*((C.d*(y*y) + 1)*v) := by rw [h]; clear h hv; grind -lia
  rw [hv] at e
  unfold OnE
  clear hv h
  grind -lia
theorem of_on {C : Ec p} {x y v : Fin p} (hv : (C.d*(y*y) + 1)*v = 1) (h : OnE C.d x y) : x*x = (y*y - 1)*v := by
  unfold OnE at h
  have e : y*y - 1 = x*x*(C.d*(y*y)+1) := by
    have : y*y - 1 = x*x + (y*y - x*x) - 1 := by clear h hv; grind -lia
    rw [this, h]
    clear this h hv
    grind -lia
  rw [e]
  have : x*x*(C.d*(y*y)+1)*v = x*x*((C.d*(y*y)+1)*v) := by clear h hv e; grind -lia
  rw [this, hv]
  clear this h hv e
  grind -lia
end
end Go.Ed
