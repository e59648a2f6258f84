/- Layer 11: a point so many times. -/
import Derived.Test.YteainioaejnecaaX1
namespace Go.Proofs.Yteainioaejnecaa
open Go.Dbr
set_option maxRecDepth 100000
set_option maxHeartbeats 2000000
set_option linter.unusedVariables false
set_option linter.unusedSimpArgs false

theorem mult_go (w : World) (k u : List UInt8) (hk : List.length k = 32) (hu : List.length u = 32) : Calls Try.prog 9 #[.agg (List.toArray (bys k)), .agg (List.toArray (bys u))] w fun e w' => e = .returned (.agg (List.toArray (bys (multL (xP u) (lv (clP k)))))) ∧ Ev w [] w' [] := by
 refine d_0 [(0, .agg (List.toArray (bys k))), (1, .agg (List.toArray (bys u)))] 67 Go.Proofs.Try.func9 Go.Proofs.Try.ntmps9 (Heap.nil _) fun act0 En0 Hv0 => ?_
 refine wp_seq ?_
 refine region_from ?_
 refine f_o ?_
 refine m_m 22 (bys k) En0 Hv0 fun ac2 wo3 bk1 En4 Hv5 => ?_
 refine f_o ?_
 refine m_m 22 (bys u) En4 Hv5 fun ac7 wo8 bk6 En9 Hv10 => ?_
 refine f_o ?_
 refine m_z 22 (bys (List.replicate 32 0)) En9 Hv10 fun ac12 wo13 bk11 En14 Hv15 => ?_
 refine f_e ?_
 refine then_normal ?_
 refine wp_seq ?_
 refine region_from ?_
 refine d_k [2,3,4,9] [] 1 En14 fun ac16 En17 => ?_
 refine f_o ?_
 have hb18 : 0 < List.length k := by rw [hk]; omega
 refine m_v 0 0 (bv (List.getD k 0 0)) En17 Hv15 rfl (bys_getD hb18) fun ac19 En20 => ?_
 refine d_k [2,3,4,11,12] [(2, g_i .u8 (Go.Dbr.u8_and (x := List.getD k 0 0) (y := (248 : UInt8)) rfl rfl))] 4 En20 fun ac21 En22 => ?_
 refine f_o ?_
 have hb23 : 0 < List.length k := by rw [hk]; omega
 refine m_t 0 0 (bv ((List.getD k 0 0) &&& (248 : UInt8))) [.box bk1 (bys (List.set k 0 ((List.getD k 0 0) &&& (248 : UInt8)))) 22, .box bk6 (bys u) 22, .box bk11 (bys (List.replicate 32 0)) 22] En22 Hv15 rfl (bys_getD hb23) (bys_set _ _ _) rfl fun ac24 wo25 En26 Hv27 => ?_
 refine f_e ?_
 refine then_normal ?_
 refine wp_seq ?_
 refine region_from ?_
 refine d_k [2,3,4,13] [] 1 En26 fun ac28 En29 => ?_
 refine f_o ?_
 have hb30 : 31 < List.length (List.set k 0 ((List.getD k 0 0) &&& (248 : UInt8))) := by rw [(List.length_set.trans hk)]; omega
 refine m_v 0 31 (bv (List.getD (List.set k 0 ((List.getD k 0 0) &&& (248 : UInt8))) 31 0)) En29 Hv27 rfl (bys_getD hb30) fun ac31 En32 => ?_
 refine d_k [2,3,4,16,17] [(2, g_i .u8 (Go.Dbr.u8_and (x := List.getD (List.set k 0 ((List.getD k 0 0) &&& (248 : UInt8))) 31 0) (y := (63 : UInt8)) rfl rfl)), (3, g_i .u8 (Go.Dbr.u8_or (x := (List.getD (List.set k 0 ((List.getD k 0 0) &&& (248 : UInt8))) 31 0) &&& (63 : UInt8)) (y := (64 : UInt8)) rfl rfl))] 5 En32 fun ac33 En34 => ?_
 refine f_o ?_
 have hb35 : 31 < List.length (List.set k 0 ((List.getD k 0 0) &&& (248 : UInt8))) := by rw [(List.length_set.trans hk)]; omega
 refine m_t 0 31 (bv (((List.getD (List.set k 0 ((List.getD k 0 0) &&& (248 : UInt8))) 31 0) &&& (63 : UInt8)) ||| (64 : UInt8))) [.box bk1 (bys (List.set (List.set k 0 ((List.getD k 0 0) &&& (248 : UInt8))) 31 (((List.getD (List.set k 0 ((List.getD k 0 0) &&& (248 : UInt8))) 31 0) &&& (63 : UInt8)) ||| (64 : UInt8)))) 22, .box bk6 (bys u) 22, .box bk11 (bys (List.replicate 32 0)) 22] En34 Hv27 rfl (bys_getD hb35) (bys_set _ _ _) rfl fun ac36 wo37 En38 Hv39 => ?_
 refine f_e ?_
 refine then_normal ?_
 refine wp_seq ?_
 replace Hv39 : Ev w [] _ [.box bk1 (bys (clP k)) 22, .box bk6 (bys u) 22, .box bk11 (bys (List.replicate 32 0)) 22] := Hv39
 refine region_from ?_
 refine d_k [2,3,4,18] [] 1 En38 fun ac40 En41 => ?_
 refine f_o ?_
 have hb42 : 31 < List.length u := by rw [hu]; omega
 refine m_v 1 31 (bv (List.getD u 31 0)) En41 Hv39 rfl (bys_getD hb42) fun ac43 En44 => ?_
 refine d_k [2,3,4,20,21] [(2, g_i .u8 (Go.Dbr.u8_and (x := List.getD u 31 0) (y := (127 : UInt8)) rfl rfl))] 4 En44 fun ac45 En46 => ?_
 refine f_o ?_
 have hb47 : 31 < List.length u := by rw [hu]; omega
 refine m_t 1 31 (bv ((List.getD u 31 0) &&& (127 : UInt8))) [.box bk1 (bys (clP k)) 22, .box bk6 (bys (List.set u 31 ((List.getD u 31 0) &&& (127 : UInt8)))) 22, .box bk11 (bys (List.replicate 32 0)) 22] En46 Hv39 rfl (bys_getD hb47) (bys_set _ _ _) rfl fun ac48 wo49 En50 Hv51 => ?_
 refine f_e ?_
 refine then_normal ?_
 refine wp_seq ?_
 replace Hv51 : Ev w [] _ [.box bk1 (bys (clP k)) 22, .box bk6 (bys (clU u)) 22, .box bk11 (bys (List.replicate 32 0)) 22] := Hv51
 refine region_from ?_
 refine f_o ?_
 refine m_a 1 0 32 (bys (clU u)) En50 Hv51 rfl (load_whole (bys_lenh (clU_len hu))) (bys_lenh (clU_len hu)) fun ac52 En53 => ?_
 refine f_o ?_
 refine c_p En53 Hv51 (fromle_go _ (clU u) (clU_len hu)) fun ac58 wo55 En59 Hv60 => ?_
 refine d_k [2,3,4,23,24] [] 3 En59 fun ac61 En62 => ?_
 refine f_o ?_
 refine c_p En62 Hv60 (xmul_go _ (nd (lv (clU u))) ([1, 0, 0, 0] : List UInt64) (nds_len _ _) (show List.length ([1, 0, 0, 0] : List UInt64) = 4 from rfl)) fun ac67 wo64 En68 Hv69 => ?_
 refine f_o ?_
 refine m_z 33 (u64s (List.replicate 4 0)) En68 Hv69 fun ac71 wo72 bk70 En73 Hv74 => ?_
 refine f_o ?_
 refine m_g 3 0 4 (u64s (mL (nd (lv (clU u))) ([1, 0, 0, 0] : List UInt64))) (u64s (mL (nd (lv (clU u))) ([1, 0, 0, 0] : List UInt64))) [.box bk1 (bys (clP k)) 22, .box bk6 (bys (clU u)) 22, .box bk11 (bys (List.replicate 32 0)) 22, .box bk70 (u64s (mL (nd (lv (clU u))) ([1, 0, 0, 0] : List UInt64))) 33] En73 Hv74 rfl (u64s_lenh (mL_len _ _)) (by rw [(u64s_lenh (List.length_replicate))]; decide) (u64s_one _) (store_whole (u64s_lenh (List.length_replicate))) rfl fun ac75 wo76 En77 Hv78 => ?_
 refine f_e ?_
 refine then_normal ?_
 refine wp_seq ?_
 replace Hv78 : Ev w [] _ [.box bk1 (bys (clP k)) 22, .box bk6 (bys (clU u)) 22, .box bk11 (bys (List.replicate 32 0)) 22, .box bk70 (u64s (xP u)) 33] := Hv78
 refine r_c (fun ac wo => ∃ (bk206 : Nat) (bk211 : Nat), Env ac 67 [(2, pt bk1), (3, pt bk6), (4, pt bk11), (5, pt bk70), (6, pt bk206), (7, pt bk211)] ∧ Ev w [] wo [.box bk1 (bys (clP k)) 22, .box bk6 (bys (clU u)) 22, .box bk11 (bys (List.replicate 32 0)) 22, .box bk70 (u64s (xP u)) 33, .box bk206 ((u64s ([1, 0, 0, 0] : List UInt64)) ++ (u64s (List.replicate 4 0))) 37, .box bk211 ((u64s (xP u)) ++ (u64s ([1, 0, 0, 0] : List UInt64))) 37]) ?_ ?_
 ·
  refine h_s (fun wv => Ev w [] wv [.box bk70 (u64s (xP u)) 33]) [] 9 ?_
  have wo79 := Hv78.trans (Ev.drew Hv78.heap)
  refine h_name fun G hG => ?_
  have nd242 : ∀ (ac : Act) (wo : World) (bk206 : Nat), Env ac 67 [(2, pt bk1), (3, pt bk6), (4, pt bk11), (5, pt bk70), (6, pt bk206), (27, .agg (List.toArray ((u64s ([1, 0, 0, 0] : List UInt64)) ++ (u64s (List.replicate 4 0))))), (30, .agg (List.toArray ((u64s (xP u)) ++ (u64s ([1, 0, 0, 0] : List UInt64)))))] → Ev w [] wo [.box bk1 (bys (clP k)) 22, .box bk6 (bys (clU u)) 22, .box bk11 (bys (List.replicate 32 0)) 22, .box bk70 (u64s (xP u)) 33, .box bk206 ((u64s (List.replicate 4 0)) ++ (u64s (List.replicate 4 0))) 37] → G 3 #[true, true, true, true, true, true, false, false, false] ac wo := by
   intro ac243 wo244 bk206 En245 Hv246
   refine h_from hG ?_
   refine q_t 6 ?_
   refine m_z 37 ((u64s (List.replicate 4 0)) ++ (u64s (List.replicate 4 0))) En245 Hv246 fun ac248 wo249 bk247 En250 Hv251 => ?_
   refine ⟨fun _ => Hv251.pk [3], ?_⟩
   refine q_t 7 ?_
   refine m_g 4 0 8 ((u64s ([1, 0, 0, 0] : List UInt64)) ++ (u64s (List.replicate 4 0))) ((u64s ([1, 0, 0, 0] : List UInt64)) ++ (u64s (List.replicate 4 0))) [.box bk1 (bys (clP k)) 22, .box bk6 (bys (clU u)) 22, .box bk11 (bys (List.replicate 32 0)) 22, .box bk70 (u64s (xP u)) 33, .box bk206 ((u64s ([1, 0, 0, 0] : List UInt64)) ++ (u64s (List.replicate 4 0))) 37, .box bk247 ((u64s (List.replicate 4 0)) ++ (u64s (List.replicate 4 0))) 37] En250 Hv251 rfl (len_app (u64s_lenh (show List.length ([1, 0, 0, 0] : List UInt64) = 4 from rfl)) (u64s_lenh (List.length_replicate))) (by rw [(len_app (u64s_lenh (List.length_replicate)) (u64s_lenh (List.length_replicate)))]; decide) (one_app (u64s_one _) (u64s_one _)) (store_whole (len_app (u64s_lenh (List.length_replicate)) (u64s_lenh (List.length_replicate)))) rfl fun ac252 wo253 En254 Hv255 => ?_
   refine ⟨fun _ => Hv255.pk [3], ?_⟩
   refine q_t 8 ?_
   refine m_g 5 0 8 ((u64s (xP u)) ++ (u64s ([1, 0, 0, 0] : List UInt64))) ((u64s (xP u)) ++ (u64s ([1, 0, 0, 0] : List UInt64))) [.box bk1 (bys (clP k)) 22, .box bk6 (bys (clU u)) 22, .box bk11 (bys (List.replicate 32 0)) 22, .box bk70 (u64s (xP u)) 33, .box bk206 ((u64s ([1, 0, 0, 0] : List UInt64)) ++ (u64s (List.replicate 4 0))) 37, .box bk247 ((u64s (xP u)) ++ (u64s ([1, 0, 0, 0] : List UInt64))) 37] En254 Hv255 rfl (len_app (u64s_lenh (xP_len _)) (u64s_lenh (show List.length ([1, 0, 0, 0] : List UInt64) = 4 from rfl))) (by rw [(len_app (u64s_lenh (List.length_replicate)) (u64s_lenh (List.length_replicate)))]; decide) (one_app (u64s_one _) (u64s_one _)) (store_whole (len_app (u64s_lenh (List.length_replicate)) (u64s_lenh (List.length_replicate)))) rfl fun ac256 wo257 En258 Hv259 => ?_
   refine ⟨fun _ => Hv259.pk [3], ?_⟩
   exact h_e ⟨bk206, bk247, En258.sb, Hv259.pk [0, 1, 2, 3, 4, 5]⟩
  have nd260 : ∀ (ac : Act) (wo : World) (bk224 : Nat), Env ac 67 [(2, pt bk1), (3, pt bk6), (4, pt bk11), (5, pt bk70), (7, pt bk224), (27, .agg (List.toArray ((u64s ([1, 0, 0, 0] : List UInt64)) ++ (u64s (List.replicate 4 0))))), (30, .agg (List.toArray ((u64s (xP u)) ++ (u64s ([1, 0, 0, 0] : List UInt64)))))] → Ev w [] wo [.box bk1 (bys (clP k)) 22, .box bk6 (bys (clU u)) 22, .box bk11 (bys (List.replicate 32 0)) 22, .box bk70 (u64s (xP u)) 33, .box bk224 ((u64s (List.replicate 4 0)) ++ (u64s (List.replicate 4 0))) 37] → G 3 #[true, true, true, true, true, false, true, false, false] ac wo := by
   intro ac261 wo262 bk224 En263 Hv264
   refine h_from hG ?_
   refine q_t 5 ?_
   refine m_z 37 ((u64s (List.replicate 4 0)) ++ (u64s (List.replicate 4 0))) En263 Hv264 fun ac266 wo267 bk265 En268 Hv269 => ?_
   refine ⟨fun _ => Hv269.pk [3], ?_⟩
   refine q_t 7 ?_
   refine m_g 5 0 8 ((u64s ([1, 0, 0, 0] : List UInt64)) ++ (u64s (List.replicate 4 0))) ((u64s ([1, 0, 0, 0] : List UInt64)) ++ (u64s (List.replicate 4 0))) [.box bk1 (bys (clP k)) 22, .box bk6 (bys (clU u)) 22, .box bk11 (bys (List.replicate 32 0)) 22, .box bk70 (u64s (xP u)) 33, .box bk224 ((u64s (List.replicate 4 0)) ++ (u64s (List.replicate 4 0))) 37, .box bk265 ((u64s ([1, 0, 0, 0] : List UInt64)) ++ (u64s (List.replicate 4 0))) 37] En268 Hv269 rfl (len_app (u64s_lenh (show List.length ([1, 0, 0, 0] : List UInt64) = 4 from rfl)) (u64s_lenh (List.length_replicate))) (by rw [(len_app (u64s_lenh (List.length_replicate)) (u64s_lenh (List.length_replicate)))]; decide) (one_app (u64s_one _) (u64s_one _)) (store_whole (len_app (u64s_lenh (List.length_replicate)) (u64s_lenh (List.length_replicate)))) rfl fun ac270 wo271 En272 Hv273 => ?_
   refine ⟨fun _ => Hv273.pk [3], ?_⟩
   refine q_t 8 ?_
   refine m_g 4 0 8 ((u64s (xP u)) ++ (u64s ([1, 0, 0, 0] : List UInt64))) ((u64s (xP u)) ++ (u64s ([1, 0, 0, 0] : List UInt64))) [.box bk1 (bys (clP k)) 22, .box bk6 (bys (clU u)) 22, .box bk11 (bys (List.replicate 32 0)) 22, .box bk70 (u64s (xP u)) 33, .box bk224 ((u64s (xP u)) ++ (u64s ([1, 0, 0, 0] : List UInt64))) 37, .box bk265 ((u64s ([1, 0, 0, 0] : List UInt64)) ++ (u64s (List.replicate 4 0))) 37] En272 Hv273 rfl (len_app (u64s_lenh (xP_len _)) (u64s_lenh (show List.length ([1, 0, 0, 0] : List UInt64) = 4 from rfl))) (by rw [(len_app (u64s_lenh (List.length_replicate)) (u64s_lenh (List.length_replicate)))]; decide) (one_app (u64s_one _) (u64s_one _)) (store_whole (len_app (u64s_lenh (List.length_replicate)) (u64s_lenh (List.length_replicate)))) rfl fun ac274 wo275 En276 Hv277 => ?_
   refine ⟨fun _ => Hv277.pk [3], ?_⟩
   exact h_e ⟨bk265, bk224, En276.sb, Hv277.pk [0, 1, 2, 3, 5, 4]⟩
  refine h_from hG ?_
  refine q_s [0,1] [] 7 En77 (wo79.pk [3]) fun ac278 En279 => ?_
  refine q_r 2 (s := Instr.loadAt 33 (pt bk70)) (v := .agg (List.toArray (u64s (xP u)))) En279 (fun w hS => run_loadAgg2 (m := 4) (cs := u64s (xP u)) (u64s_lenh (xP_len _)) (by kernel_rfl) (by kernel_rfl) (hS.heap.cells (k := 0) (off := 0) (m := 4) rfl (load_whole (u64s_lenh (xP_len _))))) (wo79.pk [3]) fun ac280 En281 => ?_
  refine q_s [3,4] [] 4 En281 (wo79.pk [3]) fun ac282 En283 => ?_
  refine h_ways [5, 6] (by kernel_rfl) rfl ?_
  refine ⟨?_, ?_, trivial⟩
  ·
   rintro _ rfl
   refine m_z 37 ((u64s (List.replicate 4 0)) ++ (u64s (List.replicate 4 0))) En283 wo79 fun ac285 wo286 bk284 En287 Hv288 => ?_
   refine ⟨fun _ => Hv288.pk [3], ?_⟩
   exact h_to hG (by kernel_rfl) (nd242 _ _ bk284 (En287.sb) (Hv288.pk [0, 1, 2, 3, 4]))
  ·
   rintro _ rfl
   refine m_z 37 ((u64s (List.replicate 4 0)) ++ (u64s (List.replicate 4 0))) En283 wo79 fun ac290 wo291 bk289 En292 Hv293 => ?_
   refine ⟨fun _ => Hv293.pk [3], ?_⟩
   exact h_to hG (by kernel_rfl) (nd260 _ _ bk289 (En292.sb) (Hv293.pk [0, 1, 2, 3, 4]))
 rintro ac294 wo295 ⟨bk206, bk211, En296, Hv297⟩
 refine then_normal ?_
 refine wp_seq ?_
 refine wp_seq ?_
 refine d_r [2,3,4,5,6,7,31] [] En296 fun ac298 En299 => ?_
 refine then_normal ?_
 refine wp_block ?_
 refine loop_m (fun ms300 ac wo => ∃ (i : Nat) (a : List UInt64) (b : List UInt64) (c : List UInt64) (d : List UInt64), ms300 = (256 - i : Nat) ∧ Env ac 67 [(2, pt bk1), (3, pt bk6), (4, pt bk11), (5, pt bk70), (6, pt bk206), (7, pt bk211), (31, ni i)] ∧ Ev w [] wo [.box bk206 ((u64s a) ++ (u64s b)) 37, .box bk211 ((u64s c) ++ (u64s d)) 37, .box bk1 (bys (clP k)) 22, .box bk6 (bys (clU u)) 22, .box bk11 (bys (List.replicate 32 0)) 22, .box bk70 (u64s (xP u)) 33] ∧ (i ≤ 255) ∧ (List.length a = 4) ∧ (List.length b = 4) ∧ (List.length c = 4) ∧ (List.length d = 4) ∧ (ladL (xP u) (lv (clP k)) i = (a, b, c, d))) ⟨_, 0, ([1, 0, 0, 0] : List UInt64), (List.replicate 4 0), (xP u), ([1, 0, 0, 0] : List UInt64), rfl, En299.sb, Hv297.pk [4, 5, 0, 1, 2, 3], by omega, by rfl, by rfl, (xP_len _), by rfl, by rfl⟩ ?_
 rintro mm306 ac302 wo303 ⟨i, a, b, c, d, rfl, En304, Hv305, hi, hla, hlb, hlc, hld, hlad⟩
 refine wp_seq ?_
 refine d_r [2,3,4,5,6,7,31,32] [] En304 fun ac307 En308 => ?_
 refine then_normal ?_
 refine wp_seq ?_
 refine c_d (((i : Nat) : Int) < (255 : Int)) En308 (fun hc309 => ?_) (fun hc309 => ?_)
 ·
  refine wp_skip ?_
  refine then_normal ?_
  refine wp_seq ?_
  refine wp_block ?_
  refine wp_seq ?_
  refine d_r [2,3,4,5,6,7,8,31] [] En308 fun ac310 En311 => ?_
  refine then_normal ?_
  refine wp_seq ?_
  have hbv := bit8_at (clP k) (254 - i)
  refine region_from ?_
  refine d_k [2,3,4,5,6,7,8,31,36] [(1, g_n (w_r (e := (254 : Int) - ((i : Nat) : Int)) (x := ((254 - i : Nat) : Int)) (by omega))), (2, g_i .i64 (show IntKind.wrap .i64 (Int.tdiv ((254 - i : Nat) : Int) (8 : Int)) = (((254 - i) / 8 : Nat) : Int) from Go.Dbr.i64_quo_nat (a := ((254 - i : Nat) : Int)) (n := 254 - i) (m := 8) rfl (by omega)))] 3 En311 fun ac312 En313 => ?_
  refine f_o ?_
  refine q_v (x := Instr.indexAt 22 (pt bk1) (ni ((254 - i) / 8))) (v := .pointer (some ⟨bk1, (254 - i) / 8, none⟩)) En313 (Go.Dbr.run_indexarr (e := 5) (sz := 1) (m := 32) (j := (254 - i) / 8) (o := (254 - i) / 8) (by kernel_rfl) (by kernel_rfl) (by omega) (by omega) (by omega) _) fun ac314 En315 => ?_
  refine f_o ?_
  have hb316 : (254 - i) / 8 < List.length (clP k) := by rw [(clP_len hk)]; omega
  refine m_v 2 ((254 - i) / 8) (bv (List.getD (clP k) ((254 - i) / 8) 0)) En315 Hv305 rfl (bys_getD hb316) fun ac317 En318 => ?_
  refine d_k [2,3,4,5,6,7,31,38,41] [(6, g_n (w_r (e := (254 : Int) - ((i : Nat) : Int)) (x := ((254 - i : Nat) : Int)) (by omega))), (7, g_i .i64 (show Int.tmod ((254 - i : Nat) : Int) (8 : Int) = (((254 - i) % 8 : Nat) : Int) from Go.Dbr.i64_rem_nat (a := ((254 - i : Nat) : Int)) (n := 254 - i) (m := 8) rfl (by omega)))] 8 En318 fun ac319 En320 => ?_
  refine f_o ?_
  refine q_v En320 (Go.Dbr.run_shr_u8 (List.getD (clP k) ((254 - i) / 8) 0) .i64 ((254 - i) % 8) (by omega) _) fun ac321 En322 => ?_
  refine d_e [2,3,4,5,6,7,31,44] [(9, g_i .u8 (Go.Dbr.u8_and (x := (List.getD (clP k) ((254 - i) / 8) 0) >>> UInt8.ofNat ((254 - i) % 8)) (y := (1 : UInt8)) rfl rfl))] En322 fun ac323 En324 => ?_
  refine then_normal ?_
  refine c_e ((UInt8.toNat (((List.getD (clP k) ((254 - i) / 8) 0) >>> UInt8.ofNat ((254 - i) % 8)) &&& (1 : UInt8)) : Nat) : Int) (0 : Int) En324 (fun hc325 => ?_) (fun hc325 => ?_)
  ·
   refine region_from ?_
   refine f_o ?_
   refine m_a 0 0 8 ((u64s a) ++ (u64s b)) En324 Hv305 rfl (load_whole (len_app (u64s_lenh hla) (u64s_lenh hlb))) (len_app (u64s_lenh hla) (u64s_lenh hlb)) fun ac326 En327 => ?_
   refine f_o ?_
   refine m_a 1 0 8 ((u64s c) ++ (u64s d)) En327 Hv305 rfl (load_whole (len_app (u64s_lenh hlc) (u64s_lenh hld))) (len_app (u64s_lenh hlc) (u64s_lenh hld)) fun ac328 En329 => ?_
   refine f_o ?_
   refine m_a 5 0 4 (u64s (xP u)) En329 Hv305 rfl (load_whole (u64s_lenh (xP_len _))) (u64s_lenh (xP_len _)) fun ac330 En331 => ?_
   refine f_o ?_
   refine c_p En331 Hv305 (step_go _ a b c d (xP u) hla hlb hlc hld (xP_len _)) fun ac336 wo333 En337 Hv338 => ?_
   refine d_k [2,3,4,5,6,7,31,50,51] [] 7 En337 fun ac339 En340 => ?_
   refine f_o ?_
   refine m_g 0 0 8 ((u64s (sA a b)) ++ (u64s (sB a b))) ((u64s (sA a b)) ++ (u64s (sB a b))) [.box bk206 ((u64s (sA a b)) ++ (u64s (sB a b))) 37, .box bk211 ((u64s c) ++ (u64s d)) 37, .box bk1 (bys (clP k)) 22, .box bk6 (bys (clU u)) 22, .box bk11 (bys (List.replicate 32 0)) 22, .box bk70 (u64s (xP u)) 33] En340 Hv338 rfl (len_app (u64s_lenh (mL_len _ _)) (u64s_lenh (mL_len _ _))) (by rw [(len_app (u64s_lenh hla) (u64s_lenh hlb))]; decide) (one_app (u64s_one _) (u64s_one _)) (store_whole (len_app (u64s_lenh hla) (u64s_lenh hlb))) rfl fun ac341 wo342 En343 Hv344 => ?_
   refine f_o ?_
   refine m_g 1 0 8 ((u64s (sC a b c d)) ++ (u64s (sD (xP u) a b c d))) ((u64s (sC a b c d)) ++ (u64s (sD (xP u) a b c d))) [.box bk206 ((u64s (sA a b)) ++ (u64s (sB a b))) 37, .box bk211 ((u64s (sC a b c d)) ++ (u64s (sD (xP u) a b c d))) 37, .box bk1 (bys (clP k)) 22, .box bk6 (bys (clU u)) 22, .box bk11 (bys (List.replicate 32 0)) 22, .box bk70 (u64s (xP u)) 33] En343 Hv344 rfl (len_app (u64s_lenh (mL_len _ _)) (u64s_lenh (mL_len _ _))) (by rw [(len_app (u64s_lenh hlc) (u64s_lenh hld))]; decide) (one_app (u64s_one _) (u64s_one _)) (store_whole (len_app (u64s_lenh hlc) (u64s_lenh hld))) rfl fun ac345 wo346 En347 Hv348 => ?_
   refine f_e ?_
   refine block_normal ?_
   refine then_normal ?_
   refine d_r [2,3,4,5,6,7,31] [(0, g_n (w_a i 1))] En347 fun ac349 En350 => ?_
   refine then_normal ?_
   refine ⟨_, ⟨i + 1, (sA a b), (sB a b), (sC a b c d), (sD (xP u) a b c d), rfl, En350.sb, Hv348.pk [0, 1, 2, 3, 4, 5], by omega, (mL_len _ _), (mL_len _ _), (mL_len _ _), (mL_len _ _), lad_no hlad rfl (bit_0 hbv (by assumption))⟩, ?_⟩
   omega
  ·
   refine region_from ?_
   refine f_o ?_
   refine m_a 1 0 8 ((u64s c) ++ (u64s d)) En324 Hv305 rfl (load_whole (len_app (u64s_lenh hlc) (u64s_lenh hld))) (len_app (u64s_lenh hlc) (u64s_lenh hld)) fun ac351 En352 => ?_
   refine f_o ?_
   refine m_a 0 0 8 ((u64s a) ++ (u64s b)) En352 Hv305 rfl (load_whole (len_app (u64s_lenh hla) (u64s_lenh hlb))) (len_app (u64s_lenh hla) (u64s_lenh hlb)) fun ac353 En354 => ?_
   refine f_o ?_
   refine m_a 5 0 4 (u64s (xP u)) En354 Hv305 rfl (load_whole (u64s_lenh (xP_len _))) (u64s_lenh (xP_len _)) fun ac355 En356 => ?_
   refine f_o ?_
   refine c_p En356 Hv305 (step_go _ c d a b (xP u) hlc hld hla hlb (xP_len _)) fun ac361 wo358 En362 Hv363 => ?_
   refine d_k [2,3,4,5,6,7,31,57,58] [] 7 En362 fun ac364 En365 => ?_
   refine f_o ?_
   refine m_g 1 0 8 ((u64s (sA c d)) ++ (u64s (sB c d))) ((u64s (sA c d)) ++ (u64s (sB c d))) [.box bk206 ((u64s a) ++ (u64s b)) 37, .box bk211 ((u64s (sA c d)) ++ (u64s (sB c d))) 37, .box bk1 (bys (clP k)) 22, .box bk6 (bys (clU u)) 22, .box bk11 (bys (List.replicate 32 0)) 22, .box bk70 (u64s (xP u)) 33] En365 Hv363 rfl (len_app (u64s_lenh (mL_len _ _)) (u64s_lenh (mL_len _ _))) (by rw [(len_app (u64s_lenh hlc) (u64s_lenh hld))]; decide) (one_app (u64s_one _) (u64s_one _)) (store_whole (len_app (u64s_lenh hlc) (u64s_lenh hld))) rfl fun ac366 wo367 En368 Hv369 => ?_
   refine f_o ?_
   refine m_g 0 0 8 ((u64s (sC c d a b)) ++ (u64s (sD (xP u) c d a b))) ((u64s (sC c d a b)) ++ (u64s (sD (xP u) c d a b))) [.box bk206 ((u64s (sC c d a b)) ++ (u64s (sD (xP u) c d a b))) 37, .box bk211 ((u64s (sA c d)) ++ (u64s (sB c d))) 37, .box bk1 (bys (clP k)) 22, .box bk6 (bys (clU u)) 22, .box bk11 (bys (List.replicate 32 0)) 22, .box bk70 (u64s (xP u)) 33] En368 Hv369 rfl (len_app (u64s_lenh (mL_len _ _)) (u64s_lenh (mL_len _ _))) (by rw [(len_app (u64s_lenh hla) (u64s_lenh hlb))]; decide) (one_app (u64s_one _) (u64s_one _)) (store_whole (len_app (u64s_lenh hla) (u64s_lenh hlb))) rfl fun ac370 wo371 En372 Hv373 => ?_
   refine f_e ?_
   refine block_normal ?_
   refine then_normal ?_
   refine d_r [2,3,4,5,6,7,31] [(0, g_n (w_a i 1))] En372 fun ac374 En375 => ?_
   refine then_normal ?_
   refine ⟨_, ⟨i + 1, (sC c d a b), (sD (xP u) c d a b), (sA c d), (sB c d), rfl, En375.sb, Hv373.pk [0, 1, 2, 3, 4, 5], by omega, (mL_len _ _), (mL_len _ _), (mL_len _ _), (mL_len _ _), lad_yes hlad rfl (bit_1 hbv (by assumption))⟩, ?_⟩
   omega
 ·
  refine wp_exit ?_
  refine then_exit ?_
  refine then_exit ?_
  refine block_exit ?_
  refine then_normal ?_
  refine wp_seq ?_
  have hi255 : i = 255 := by omega
  rw [hi255] at hlad
  refine r_c (fun ac wo => Env ac 67 [(2, pt bk1), (3, pt bk6), (4, pt bk11), (5, pt bk70), (6, pt bk206), (7, pt bk211), (31, ni i)] ∧ Ev w [] wo [.box bk206 ((u64s a) ++ (u64s b)) 37, .box bk211 ((u64s c) ++ (u64s d)) 37, .box bk1 (bys (clP k)) 22, .box bk6 (bys (clU u)) 22, .box bk11 (bys (lb 32 (nv (mL a (iL b))))) 22, .box bk70 (u64s (xP u)) 33]) ?_ ?_
  ·
   refine h_s (fun wv => Ev w [] wv [.box bk206 ((u64s a) ++ (u64s b)) 37]) [] 8 ?_
   have wo376 := Hv305.trans (Ev.drew Hv305.heap)
   refine q_s [0] [] 7 En308 (wo376.pk [0]) fun ac497 En498 => ?_
   refine q_r 1 (s := Instr.loadAt 33 (pt bk206)) (v := .agg (List.toArray (u64s a))) En498 (fun w hS => run_loadAgg2 (m := 4) (cs := u64s a) (u64s_lenh hla) (by kernel_rfl) (by kernel_rfl) (hS.heap.cells (k := 0) (off := 0) (m := 4) rfl (by simp [u64s_lenh hla, u64s_lenh hlb, List.drop_append, List.take_append]))) (wo376.pk [0]) fun ac499 En500 => ?_
   refine q_s [2] [] 5 En500 (wo376.pk [0]) fun ac501 En502 => ?_
   refine q_r 3 (s := Instr.loadAt 33 (.pointer (some ⟨bk206, 4, none⟩))) (v := .agg (List.toArray (u64s b))) En502 (fun w hS => run_loadAgg2 (m := 4) (cs := u64s b) (u64s_lenh hlb) (by kernel_rfl) (by kernel_rfl) (hS.heap.cells (k := 0) (off := 4) (m := 4) rfl (by simp [u64s_lenh hla, u64s_lenh hlb, List.drop_append, List.take_append, List.take_of_length_le]))) (wo376.pk [0]) fun ac503 En504 => ?_
   refine q_t 4 ?_
   refine c_p En504 wo376 (inv_go _ 1 (.inl rfl) hM1 b hlb) fun ac509 wo506 En510 Hv511 => ?_
   refine ⟨fun _ => Hv511.pk [0], ?_⟩
   refine q_t 5 ?_
   refine c_p En510 Hv511 (xmul_go _ a (iL b) hla (iL_len _)) fun ac516 wo513 En517 Hv518 => ?_
   refine ⟨fun _ => Hv518.pk [0], ?_⟩
   refine q_t 6 ?_
   refine c_p En517 Hv518 (tole_go _ (mL a (iL b)) (mL_len _ _)) fun ac523 wo520 En524 Hv525 => ?_
   refine ⟨fun _ => Hv525.pk [0], ?_⟩
   refine q_t 7 ?_
   refine m_g 4 0 32 (bys (lb 32 (nv (mL a (iL b))))) (bys (lb 32 (nv (mL a (iL b))))) [.box bk206 ((u64s a) ++ (u64s b)) 37, .box bk211 ((u64s c) ++ (u64s d)) 37, .box bk1 (bys (clP k)) 22, .box bk6 (bys (clU u)) 22, .box bk11 (bys (lb 32 (nv (mL a (iL b))))) 22, .box bk70 (u64s (xP u)) 33] En524 Hv525 rfl (bys_lenh (lb_len _ _)) (by rw [(bys_lenh (List.length_replicate))]; decide) (bys_one _) (store_whole (bys_lenh (List.length_replicate))) rfl fun ac526 wo527 En528 Hv529 => ?_
   refine ⟨fun _ => Hv529.pk [0], ?_⟩
   exact h_e ⟨En528.sb, Hv529.pk [0, 1, 2, 3, 4, 5]⟩
  rintro ac530 wo531 ⟨En532, Hv533⟩
  refine then_normal ?_
  refine wp_ret ?_
  refine d_cell1 (v := .agg (List.toArray (bys (lb 32 (nv (mL a (iL b))))))) (t := 4) (T := 22) (ad := ⟨bk11, 0, none⟩) En532 (by kernel_rfl) (by kernel_rfl) (Ev.cellAgg (t := 22) (k := 4) (off := 0) (m := 32) (xs := bys (lb 32 (nv (mL a (iL b))))) Hv533 rfl (load_whole (bys_lenh (lb_len _ _))) (bys_lenh (lb_len _ _)) (by kernel_rfl) (by kernel_rfl)) ?_
  have eq : lb 32 (nv (mL a (iL b))) = multL (xP u) (lv (clP k)) := mult_of hlad
  exact ⟨by rw [eq], Hv533.pk []⟩

theorem rmult_go (w : World) (k u : List UInt8) (hk : List.length k = 32) (hu : List.length u = 32) : Calls Try.prog 10 #[.agg (List.toArray (bys k)), .agg (List.toArray (bys u))] w fun e w' => e = .returned (.agg (List.toArray (bys (multL (xD u) (lv (clD k)))))) ∧ Ev w [] w' [] := by
 refine d_0 [(0, .agg (List.toArray (bys k))), (1, .agg (List.toArray (bys u)))] 120 Go.Proofs.Try.func10 Go.Proofs.Try.ntmps10 (Heap.nil _) fun act0 En0 Hv0 => ?_
 refine wp_seq ?_
 refine region_from ?_
 refine f_o ?_
 refine m_m 22 (bys k) En0 Hv0 fun ac2 wo3 bk1 En4 Hv5 => ?_
 refine f_o ?_
 refine m_m 22 (bys u) En4 Hv5 fun ac7 wo8 bk6 En9 Hv10 => ?_
 refine f_o ?_
 refine m_z 22 (bys (List.replicate 32 0)) En9 Hv10 fun ac12 wo13 bk11 En14 Hv15 => ?_
 refine f_e ?_
 refine then_normal ?_
 refine wp_seq ?_
 refine region_from ?_
 refine d_k [2,3,4,22] [] 1 En14 fun ac16 En17 => ?_
 refine f_o ?_
 have hb18 : 0 < List.length k := by rw [hk]; omega
 refine m_v 0 0 (bv (List.getD k 0 0)) En17 Hv15 rfl (bys_getD hb18) fun ac19 En20 => ?_
 refine d_k [2,3,4,24,25] [(2, g_i .u8 (Go.Dbr.u8_and (x := List.getD k 0 0) (y := (248 : UInt8)) rfl rfl))] 4 En20 fun ac21 En22 => ?_
 refine f_o ?_
 have hb23 : 0 < List.length k := by rw [hk]; omega
 refine m_t 0 0 (bv ((List.getD k 0 0) &&& (248 : UInt8))) [.box bk1 (bys (List.set k 0 ((List.getD k 0 0) &&& (248 : UInt8)))) 22, .box bk6 (bys u) 22, .box bk11 (bys (List.replicate 32 0)) 22] En22 Hv15 rfl (bys_getD hb23) (bys_set _ _ _) rfl fun ac24 wo25 En26 Hv27 => ?_
 refine f_e ?_
 refine then_normal ?_
 refine wp_seq ?_
 refine region_from ?_
 refine d_k [2,3,4,26] [] 1 En26 fun ac28 En29 => ?_
 refine f_o ?_
 have hb30 : 31 < List.length (List.set k 0 ((List.getD k 0 0) &&& (248 : UInt8))) := by rw [(List.length_set.trans hk)]; omega
 refine m_v 0 31 (bv (List.getD (List.set k 0 ((List.getD k 0 0) &&& (248 : UInt8))) 31 0)) En29 Hv27 rfl (bys_getD hb30) fun ac31 En32 => ?_
 refine d_k [2,3,4,29,30] [(2, g_i .u8 (Go.Dbr.u8_and (x := List.getD (List.set k 0 ((List.getD k 0 0) &&& (248 : UInt8))) 31 0) (y := (127 : UInt8)) rfl rfl)), (3, g_i .u8 (Go.Dbr.u8_or (x := (List.getD (List.set k 0 ((List.getD k 0 0) &&& (248 : UInt8))) 31 0) &&& (127 : UInt8)) (y := (64 : UInt8)) rfl rfl))] 5 En32 fun ac33 En34 => ?_
 refine f_o ?_
 have hb35 : 31 < List.length (List.set k 0 ((List.getD k 0 0) &&& (248 : UInt8))) := by rw [(List.length_set.trans hk)]; omega
 refine m_t 0 31 (bv (((List.getD (List.set k 0 ((List.getD k 0 0) &&& (248 : UInt8))) 31 0) &&& (127 : UInt8)) ||| (64 : UInt8))) [.box bk1 (bys (List.set (List.set k 0 ((List.getD k 0 0) &&& (248 : UInt8))) 31 (((List.getD (List.set k 0 ((List.getD k 0 0) &&& (248 : UInt8))) 31 0) &&& (127 : UInt8)) ||| (64 : UInt8)))) 22, .box bk6 (bys u) 22, .box bk11 (bys (List.replicate 32 0)) 22] En34 Hv27 rfl (bys_getD hb35) (bys_set _ _ _) rfl fun ac36 wo37 En38 Hv39 => ?_
 refine f_e ?_
 refine then_normal ?_
 refine wp_seq ?_
 replace Hv39 : Ev w [] _ [.box bk1 (bys (clD k)) 22, .box bk6 (bys u) 22, .box bk11 (bys (List.replicate 32 0)) 22] := Hv39
 refine region_from ?_
 refine d_k [2,3,4,31] [] 1 En38 fun ac40 En41 => ?_
 refine f_o ?_
 have hb42 : 31 < List.length u := by rw [hu]; omega
 refine m_v 1 31 (bv (List.getD u 31 0)) En41 Hv39 rfl (bys_getD hb42) fun ac43 En44 => ?_
 refine d_k [2,3,4,33,34] [(2, g_i .u8 (Go.Dbr.u8_and (x := List.getD u 31 0) (y := (127 : UInt8)) rfl rfl))] 4 En44 fun ac45 En46 => ?_
 refine f_o ?_
 have hb47 : 31 < List.length u := by rw [hu]; omega
 refine m_t 1 31 (bv ((List.getD u 31 0) &&& (127 : UInt8))) [.box bk1 (bys (clD k)) 22, .box bk6 (bys (List.set u 31 ((List.getD u 31 0) &&& (127 : UInt8)))) 22, .box bk11 (bys (List.replicate 32 0)) 22] En46 Hv39 rfl (bys_getD hb47) (bys_set _ _ _) rfl fun ac48 wo49 En50 Hv51 => ?_
 refine f_e ?_
 refine then_normal ?_
 refine wp_seq ?_
 replace Hv51 : Ev w [] _ [.box bk1 (bys (clD k)) 22, .box bk6 (bys (clU u)) 22, .box bk11 (bys (List.replicate 32 0)) 22] := Hv51
 refine region_from ?_
 refine f_o ?_
 refine m_a 0 0 32 (bys (clD k)) En50 Hv51 rfl (load_whole (bys_lenh (clD_len hk))) (bys_lenh (clD_len hk)) fun ac52 En53 => ?_
 refine f_o ?_
 refine c_p En53 Hv51 (rfromle_go _ (clD k) (clD_len hk)) fun ac58 wo55 En59 Hv60 => ?_
 refine f_o ?_
 refine m_z 33 (u64s (List.replicate 4 0)) En59 Hv60 fun ac62 wo63 bk61 En64 Hv65 => ?_
 refine f_o ?_
 refine m_g 3 0 4 (u64s (nd (lv (clD k)))) (u64s (nd (lv (clD k)))) [.box bk1 (bys (clD k)) 22, .box bk6 (bys (clU u)) 22, .box bk11 (bys (List.replicate 32 0)) 22, .box bk61 (u64s (nd (lv (clD k)))) 33] En64 Hv65 rfl (u64s_lenh (nds_len _ _)) (by rw [(u64s_lenh (List.length_replicate))]; decide) (u64s_one _) (store_whole (u64s_lenh (List.length_replicate))) rfl fun ac66 wo67 En68 Hv69 => ?_
 refine f_e ?_
 refine then_normal ?_
 refine wp_seq ?_
 refine region_from ?_
 refine f_o ?_
 refine op_slicearr (d := some 37) (t := 22) (e := 5) (sz := 1) (m := 32) (lo := 0) (hi := 32) (b := bk6) (off := 0) (lov := none) (hiv := none) (o := 0) En68 (by kernel_rfl) (by kernel_rfl) (by kernel_rfl) (by omega) (by omega) (by omega) (.inl ⟨rfl, rfl⟩) (.inl ⟨rfl, rfl⟩) (by omega) ?_
 intro ac70 En71
 refine f_o ?_
 refine c_p En71 Hv69 (rwide_go _ 1 (.inl rfl) hL1 (some ⟨bk6, 0, none⟩) 32 32 (clU u) (clU_len hu).symm (bys_inbox (Hv69.heap.roBox (k := 1) (m := 32) rfl (load_whole (bys_lenh (clU_len hu))) [] (by kernel_rfl) rfl) (clU_len hu) (by decide))) fun ac76 wo73 En77 Hv78 => ?_
 refine f_o ?_
 refine m_z 33 (u64s (List.replicate 4 0)) En77 Hv78 fun ac80 wo81 bk79 En82 Hv83 => ?_
 refine f_o ?_
 refine m_g 4 0 4 (u64s (nd (lv (clU u) % mF 1))) (u64s (nd (lv (clU u) % mF 1))) [.box bk1 (bys (clD k)) 22, .box bk6 (bys (clU u)) 22, .box bk11 (bys (List.replicate 32 0)) 22, .box bk61 (u64s (nd (lv (clD k)))) 33, .box bk79 (u64s (nd (lv (clU u) % mF 1))) 33] En82 Hv83 rfl (u64s_lenh (nds_len _ _)) (by rw [(u64s_lenh (List.length_replicate))]; decide) (u64s_one _) (store_whole (u64s_lenh (List.length_replicate))) rfl fun ac84 wo85 En86 Hv87 => ?_
 refine f_e ?_
 refine then_normal ?_
 refine wp_seq ?_
 replace Hv87 : Ev w [] _ [.box bk1 (bys (clD k)) 22, .box bk6 (bys (clU u)) 22, .box bk11 (bys (List.replicate 32 0)) 22, .box bk61 (u64s (nd (lv (clD k)))) 33, .box bk79 (u64s (xD u)) 33] := Hv87
 refine region_from ?_
 refine d_k [2,3,4,5,6,39] [] 1 En86 fun ac88 En89 => ?_
 refine f_o ?_
 refine m_z 33 (u64s (List.replicate 4 0)) En89 Hv87 fun ac91 wo92 bk90 En93 Hv94 => ?_
 refine f_o ?_
 refine m_g 5 0 4 (u64s ([1, 0, 0, 0] : List UInt64)) (u64s ([1, 0, 0, 0] : List UInt64)) [.box bk1 (bys (clD k)) 22, .box bk6 (bys (clU u)) 22, .box bk11 (bys (List.replicate 32 0)) 22, .box bk61 (u64s (nd (lv (clD k)))) 33, .box bk79 (u64s (xD u)) 33, .box bk90 (u64s ([1, 0, 0, 0] : List UInt64)) 33] En93 Hv94 rfl (u64s_lenh (show List.length ([1, 0, 0, 0] : List UInt64) = 4 from rfl)) (by rw [(u64s_lenh (List.length_replicate))]; decide) (u64s_one _) (store_whole (u64s_lenh (List.length_replicate))) rfl fun ac95 wo96 En97 Hv98 => ?_
 refine f_e ?_
 refine then_normal ?_
 refine wp_seq ?_
 refine region_from ?_
 refine d_k [2,3,4,5,6,7,40] [] 1 En97 fun ac99 En100 => ?_
 refine f_o ?_
 refine m_z 33 (u64s (List.replicate 4 0)) En100 Hv98 fun ac102 wo103 bk101 En104 Hv105 => ?_
 refine f_o ?_
 refine m_g 6 0 4 (u64s ([0, 0, 0, 0] : List UInt64)) (u64s ([0, 0, 0, 0] : List UInt64)) [.box bk1 (bys (clD k)) 22, .box bk6 (bys (clU u)) 22, .box bk11 (bys (List.replicate 32 0)) 22, .box bk61 (u64s (nd (lv (clD k)))) 33, .box bk79 (u64s (xD u)) 33, .box bk90 (u64s ([1, 0, 0, 0] : List UInt64)) 33, .box bk101 (u64s ([0, 0, 0, 0] : List UInt64)) 33] En104 Hv105 rfl (u64s_lenh (show List.length ([0, 0, 0, 0] : List UInt64) = 4 from rfl)) (by rw [(u64s_lenh (List.length_replicate))]; decide) (u64s_one _) (store_whole (u64s_lenh (List.length_replicate))) rfl fun ac106 wo107 En108 Hv109 => ?_
 refine f_e ?_
 refine then_normal ?_
 refine wp_seq ?_
 refine region_from ?_
 refine f_o ?_
 refine m_a 4 0 4 (u64s (xD u)) En108 Hv109 rfl (load_whole (u64s_lenh (xD_len _))) (u64s_lenh (xD_len _)) fun ac110 En111 => ?_
 refine f_o ?_
 refine m_z 33 (u64s (List.replicate 4 0)) En111 Hv109 fun ac113 wo114 bk112 En115 Hv116 => ?_
 refine f_o ?_
 refine m_g 7 0 4 (u64s (xD u)) (u64s (xD u)) [.box bk1 (bys (clD k)) 22, .box bk6 (bys (clU u)) 22, .box bk11 (bys (List.replicate 32 0)) 22, .box bk61 (u64s (nd (lv (clD k)))) 33, .box bk79 (u64s (xD u)) 33, .box bk90 (u64s ([1, 0, 0, 0] : List UInt64)) 33, .box bk101 (u64s ([0, 0, 0, 0] : List UInt64)) 33, .box bk112 (u64s (xD u)) 33] En115 Hv116 rfl (u64s_lenh (xD_len _)) (by rw [(u64s_lenh (List.length_replicate))]; decide) (u64s_one _) (store_whole (u64s_lenh (List.length_replicate))) rfl fun ac117 wo118 En119 Hv120 => ?_
 refine f_e ?_
 refine then_normal ?_
 refine wp_seq ?_
 refine region_from ?_
 refine d_k [2,3,4,5,6,7,8,9,42] [] 1 En119 fun ac121 En122 => ?_
 refine f_o ?_
 refine m_z 33 (u64s (List.replicate 4 0)) En122 Hv120 fun ac124 wo125 bk123 En126 Hv127 => ?_
 refine f_o ?_
 refine m_g 8 0 4 (u64s ([1, 0, 0, 0] : List UInt64)) (u64s ([1, 0, 0, 0] : List UInt64)) [.box bk1 (bys (clD k)) 22, .box bk6 (bys (clU u)) 22, .box bk11 (bys (List.replicate 32 0)) 22, .box bk61 (u64s (nd (lv (clD k)))) 33, .box bk79 (u64s (xD u)) 33, .box bk90 (u64s ([1, 0, 0, 0] : List UInt64)) 33, .box bk101 (u64s ([0, 0, 0, 0] : List UInt64)) 33, .box bk112 (u64s (xD u)) 33, .box bk123 (u64s ([1, 0, 0, 0] : List UInt64)) 33] En126 Hv127 rfl (u64s_lenh (show List.length ([1, 0, 0, 0] : List UInt64) = 4 from rfl)) (by rw [(u64s_lenh (List.length_replicate))]; decide) (u64s_one _) (store_whole (u64s_lenh (List.length_replicate))) rfl fun ac128 wo129 En130 Hv131 => ?_
 refine f_e ?_
 refine then_normal ?_
 refine wp_seq ?_
 refine wp_seq ?_
 refine d_r [2,3,4,5,6,7,8,9,10,11] [] En130 fun ac132 En133 => ?_
 refine then_normal ?_
 refine wp_block ?_
 refine loop_m (fun ms134 ac wo => ∃ (q : Nat) (a : List UInt64) (b : List UInt64) (c : List UInt64) (d : List UInt64), ms134 = (q + 1 : Nat) ∧ Env ac 120 [(2, pt bk1), (3, pt bk6), (4, pt bk11), (5, pt bk61), (6, pt bk79), (7, pt bk90), (8, pt bk101), (9, pt bk112), (10, pt bk123), (11, .int .i64 (((q : Nat) : Int) - (1 : Int)))] ∧ Ev w [] wo [.box bk90 (u64s a) 33, .box bk101 (u64s b) 33, .box bk112 (u64s c) 33, .box bk123 (u64s d) 33, .box bk1 (bys (clD k)) 22, .box bk6 (bys (clU u)) 22, .box bk11 (bys (List.replicate 32 0)) 22, .box bk61 (u64s (nd (lv (clD k)))) 33, .box bk79 (u64s (xD u)) 33] ∧ (q ≤ 255) ∧ (List.length a = 4) ∧ (List.length b = 4) ∧ (List.length c = 4) ∧ (List.length d = 4) ∧ (ladL (xD u) (lv (clD k)) (255 - q) = (a, b, c, d))) ⟨_, 255, ([1, 0, 0, 0] : List UInt64), ([0, 0, 0, 0] : List UInt64), (xD u), ([1, 0, 0, 0] : List UInt64), rfl, En133.sb, Hv131.pk [5, 6, 7, 8, 0, 1, 2, 3, 4], by omega, by rfl, by rfl, (xD_len _), by rfl, by rfl⟩ ?_
 rintro mm140 ac136 wo137 ⟨q, a, b, c, d, rfl, En138, Hv139, hq, hla, hlb, hlc, hld, hlad⟩
 refine wp_seq ?_
 refine wp_seq ?_
 refine d_r [2,3,4,5,6,7,8,9,10,11,44] [] En138 fun ac141 En142 => ?_
 refine then_normal ?_
 refine c_d (((q : Nat) : Int) - (1 : Int) ≥ (0 : Int)) En142 (fun hc143 => ?_) (fun hc143 => ?_)
 ·
  refine wp_skip ?_
  refine then_normal ?_
  refine wp_seq ?_
  refine wp_block ?_
  refine wp_seq ?_
  have En144 := Env.fx (t := 11) (v := .int .i64 (((q : Nat) : Int) - (1 : Int))) (u := ni (q - 1)) En142 (congrArg (Value.int .i64) (show ((q : Nat) : Int) - (1 : Int) = ((q - 1 : Nat) : Int) by omega))
  have hbv := dbit (clD_len hk) (q - 1)
  have hj : 254 - (255 - q) = q - 1 := by omega
  refine region_from ?_
  refine d_k [2,3,4,5,6,7,8,9,10,11,48] [(1, g_i .i64 (show IntKind.wrap .i64 (Int.tdiv ((q - 1 : Nat) : Int) (64 : Int)) = (((q - 1) / 64 : Nat) : Int) from Go.Dbr.i64_quo_nat (a := ((q - 1 : Nat) : Int)) (n := q - 1) (m := 64) rfl (by omega)))] 2 En144 fun ac145 En146 => ?_
  refine f_o ?_
  refine q_v (x := Instr.indexAt 33 (pt bk61) (ni ((q - 1) / 64))) (v := .pointer (some ⟨bk61, (q - 1) / 64, none⟩)) En146 (Go.Dbr.run_indexarr (e := 31) (sz := 1) (m := 4) (j := (q - 1) / 64) (o := (q - 1) / 64) (by kernel_rfl) (by kernel_rfl) (by omega) (by omega) (by omega) _) fun ac147 En148 => ?_
  refine f_o ?_
  have hb149 : (q - 1) / 64 < List.length (nd (lv (clD k))) := by rw [(nds_len _ _)]; omega
  refine m_v 7 ((q - 1) / 64) (uv64 (List.getD (nd (lv (clD k))) ((q - 1) / 64) 0)) En148 Hv139 rfl (u64s_getD hb149) fun ac150 En151 => ?_
  refine d_k [2,3,4,5,6,7,8,9,10,11,50,52] [(5, g_i .i64 (show Int.tmod ((q - 1 : Nat) : Int) (64 : Int) = (((q - 1) % 64 : Nat) : Int) from Go.Dbr.i64_rem_nat (a := ((q - 1 : Nat) : Int)) (n := q - 1) (m := 64) rfl (by omega)))] 6 En151 fun ac152 En153 => ?_
  refine f_o ?_
  refine q_v En153 (Go.Dbr.run_shr_u64 (List.getD (nd (lv (clD k))) ((q - 1) / 64) 0) .i64 ((q - 1) % 64) (by omega) _) fun ac154 En155 => ?_
  refine d_e [2,3,4,5,6,7,8,9,10,11,12] [(7, g_i .u64 (Go.Dbr.u64_and (x := (List.getD (nd (lv (clD k))) ((q - 1) / 64) 0) >>> UInt64.ofNat ((q - 1) % 64)) (y := (1 : UInt64)) rfl rfl))] En155 fun ac156 En157 => ?_
  refine then_normal ?_
  refine wp_seq ?_
  refine wp_seq ?_
  refine d_r [2,3,4,5,6,7,8,9,10,11,12,56] [] En157 fun ac158 En159 => ?_
  refine then_normal ?_
  refine c_e ((UInt64.toNat (((List.getD (nd (lv (clD k))) ((q - 1) / 64) 0) >>> UInt64.ofNat ((q - 1) % 64)) &&& (1 : UInt64)) : Nat) : Int) (1 : Int) En159 (fun hc160 => ?_) (fun hc160 => ?_)
  ·
   have En161 := En159.fx (t := 12) (congrArg Value.bool (beq_iff_eq.2 hc160))
   refine wp_seq ?_
   refine region_from ?_
   refine f_o ?_
   refine m_a 2 0 4 (u64s c) En161 Hv139 rfl (load_whole (u64s_lenh hlc)) (u64s_lenh hlc) fun ac162 En163 => ?_
   refine f_o ?_
   refine m_a 0 0 4 (u64s a) En163 Hv139 rfl (load_whole (u64s_lenh hla)) (u64s_lenh hla) fun ac164 En165 => ?_
   refine f_o ?_
   refine m_g 0 0 4 (u64s c) (u64s c) [.box bk90 (u64s c) 33, .box bk101 (u64s b) 33, .box bk112 (u64s c) 33, .box bk123 (u64s d) 33, .box bk1 (bys (clD k)) 22, .box bk6 (bys (clU u)) 22, .box bk11 (bys (List.replicate 32 0)) 22, .box bk61 (u64s (nd (lv (clD k)))) 33, .box bk79 (u64s (xD u)) 33] En165 Hv139 rfl (u64s_lenh hlc) (by rw [(u64s_lenh hla)]; decide) (u64s_one _) (store_whole (u64s_lenh hla)) rfl fun ac166 wo167 En168 Hv169 => ?_
   refine f_o ?_
   refine m_g 2 0 4 (u64s a) (u64s a) [.box bk90 (u64s c) 33, .box bk101 (u64s b) 33, .box bk112 (u64s a) 33, .box bk123 (u64s d) 33, .box bk1 (bys (clD k)) 22, .box bk6 (bys (clU u)) 22, .box bk11 (bys (List.replicate 32 0)) 22, .box bk61 (u64s (nd (lv (clD k)))) 33, .box bk79 (u64s (xD u)) 33] En168 Hv169 rfl (u64s_lenh hla) (by rw [(u64s_lenh hlc)]; decide) (u64s_one _) (store_whole (u64s_lenh hlc)) rfl fun ac170 wo171 En172 Hv173 => ?_
   refine f_e ?_
   refine then_normal ?_
   refine region_from ?_
   refine f_o ?_
   refine m_a 3 0 4 (u64s d) En172 Hv173 rfl (load_whole (u64s_lenh hld)) (u64s_lenh hld) fun ac174 En175 => ?_
   refine f_o ?_
   refine m_a 1 0 4 (u64s b) En175 Hv173 rfl (load_whole (u64s_lenh hlb)) (u64s_lenh hlb) fun ac176 En177 => ?_
   refine f_o ?_
   refine m_g 1 0 4 (u64s d) (u64s d) [.box bk90 (u64s c) 33, .box bk101 (u64s d) 33, .box bk112 (u64s a) 33, .box bk123 (u64s d) 33, .box bk1 (bys (clD k)) 22, .box bk6 (bys (clU u)) 22, .box bk11 (bys (List.replicate 32 0)) 22, .box bk61 (u64s (nd (lv (clD k)))) 33, .box bk79 (u64s (xD u)) 33] En177 Hv173 rfl (u64s_lenh hld) (by rw [(u64s_lenh hlb)]; decide) (u64s_one _) (store_whole (u64s_lenh hlb)) rfl fun ac178 wo179 En180 Hv181 => ?_
   refine f_o ?_
   refine m_g 3 0 4 (u64s b) (u64s b) [.box bk90 (u64s c) 33, .box bk101 (u64s d) 33, .box bk112 (u64s a) 33, .box bk123 (u64s b) 33, .box bk1 (bys (clD k)) 22, .box bk6 (bys (clU u)) 22, .box bk11 (bys (List.replicate 32 0)) 22, .box bk61 (u64s (nd (lv (clD k)))) 33, .box bk79 (u64s (xD u)) 33] En180 Hv181 rfl (u64s_lenh hlb) (by rw [(u64s_lenh hld)]; decide) (u64s_one _) (store_whole (u64s_lenh hld)) rfl fun ac182 wo183 En184 Hv185 => ?_
   refine f_e ?_
   refine then_normal ?_
   refine wp_seq ?_
   refine region_from ?_
   refine f_o ?_
   refine m_a 0 0 4 (u64s c) En184 Hv185 rfl (load_whole (u64s_lenh hlc)) (u64s_lenh hlc) fun ac186 En187 => ?_
   refine f_o ?_
   refine m_a 1 0 4 (u64s d) En187 Hv185 rfl (load_whole (u64s_lenh hld)) (u64s_lenh hld) fun ac188 En189 => ?_
   refine f_o ?_
   refine c_p En189 Hv185 (yadd_go _ c d hlc hld) fun ac194 wo191 En195 Hv196 => ?_
   refine f_o ?_
   refine m_z 33 (u64s (List.replicate 4 0)) En195 Hv196 fun ac198 wo199 bk197 En200 Hv201 => ?_
   refine f_o ?_
   refine m_g 9 0 4 (u64s (aL c d)) (u64s (aL c d)) [.box bk90 (u64s c) 33, .box bk101 (u64s d) 33, .box bk112 (u64s a) 33, .box bk123 (u64s b) 33, .box bk1 (bys (clD k)) 22, .box bk6 (bys (clU u)) 22, .box bk11 (bys (List.replicate 32 0)) 22, .box bk61 (u64s (nd (lv (clD k)))) 33, .box bk79 (u64s (xD u)) 33, .box bk197 (u64s (aL c d)) 33] En200 Hv201 rfl (u64s_lenh (aL_len _ _)) (by rw [(u64s_lenh (List.length_replicate))]; decide) (u64s_one _) (store_whole (u64s_lenh (List.length_replicate))) rfl fun ac202 wo203 En204 Hv205 => ?_
   refine f_e ?_
   refine then_normal ?_
   refine wp_seq ?_
   refine region_from ?_
   refine f_o ?_
   refine m_a 0 0 4 (u64s c) En204 Hv205 rfl (load_whole (u64s_lenh hlc)) (u64s_lenh hlc) fun ac206 En207 => ?_
   refine f_o ?_
   refine m_a 1 0 4 (u64s d) En207 Hv205 rfl (load_whole (u64s_lenh hld)) (u64s_lenh hld) fun ac208 En209 => ?_
   refine f_o ?_
   refine c_p En209 Hv205 (ysub_go _ c d hlc hld) fun ac214 wo211 En215 Hv216 => ?_
   refine f_o ?_
   refine m_z 33 (u64s (List.replicate 4 0)) En215 Hv216 fun ac218 wo219 bk217 En220 Hv221 => ?_
   refine f_o ?_
   refine m_g 10 0 4 (u64s (sL c d)) (u64s (sL c d)) [.box bk90 (u64s c) 33, .box bk101 (u64s d) 33, .box bk112 (u64s a) 33, .box bk123 (u64s b) 33, .box bk1 (bys (clD k)) 22, .box bk6 (bys (clU u)) 22, .box bk11 (bys (List.replicate 32 0)) 22, .box bk61 (u64s (nd (lv (clD k)))) 33, .box bk79 (u64s (xD u)) 33, .box bk197 (u64s (aL c d)) 33, .box bk217 (u64s (sL c d)) 33] En220 Hv221 rfl (u64s_lenh (sL_len _ _)) (by rw [(u64s_lenh (List.length_replicate))]; decide) (u64s_one _) (store_whole (u64s_lenh (List.length_replicate))) rfl fun ac222 wo223 En224 Hv225 => ?_
   refine f_e ?_
   refine then_normal ?_
   refine wp_seq ?_
   refine region_from ?_
   refine f_o ?_
   refine m_a 9 0 4 (u64s (aL c d)) En224 Hv225 rfl (load_whole (u64s_lenh (aL_len _ _))) (u64s_lenh (aL_len _ _)) fun ac226 En227 => ?_
   refine f_o ?_
   refine m_a 9 0 4 (u64s (aL c d)) En227 Hv225 rfl (load_whole (u64s_lenh (aL_len _ _))) (u64s_lenh (aL_len _ _)) fun ac228 En229 => ?_
   refine f_o ?_
   refine c_p En229 Hv225 (ymul_go _ (aL c d) (aL c d) (aL_len _ _) (aL_len _ _)) fun ac234 wo231 En235 Hv236 => ?_
   refine f_o ?_
   refine m_z 33 (u64s (List.replicate 4 0)) En235 Hv236 fun ac238 wo239 bk237 En240 Hv241 => ?_
   refine f_o ?_
   refine m_g 11 0 4 (u64s (mL (aL c d) (aL c d))) (u64s (mL (aL c d) (aL c d))) [.box bk90 (u64s c) 33, .box bk101 (u64s d) 33, .box bk112 (u64s a) 33, .box bk123 (u64s b) 33, .box bk1 (bys (clD k)) 22, .box bk6 (bys (clU u)) 22, .box bk11 (bys (List.replicate 32 0)) 22, .box bk61 (u64s (nd (lv (clD k)))) 33, .box bk79 (u64s (xD u)) 33, .box bk197 (u64s (aL c d)) 33, .box bk217 (u64s (sL c d)) 33, .box bk237 (u64s (mL (aL c d) (aL c d))) 33] En240 Hv241 rfl (u64s_lenh (mL_len _ _)) (by rw [(u64s_lenh (List.length_replicate))]; decide) (u64s_one _) (store_whole (u64s_lenh (List.length_replicate))) rfl fun ac242 wo243 En244 Hv245 => ?_
   refine f_e ?_
   refine then_normal ?_
   refine wp_seq ?_
   refine region_from ?_
   refine f_o ?_
   refine m_a 10 0 4 (u64s (sL c d)) En244 Hv245 rfl (load_whole (u64s_lenh (sL_len _ _))) (u64s_lenh (sL_len _ _)) fun ac246 En247 => ?_
   refine f_o ?_
   refine m_a 10 0 4 (u64s (sL c d)) En247 Hv245 rfl (load_whole (u64s_lenh (sL_len _ _))) (u64s_lenh (sL_len _ _)) fun ac248 En249 => ?_
   refine f_o ?_
   refine c_p En249 Hv245 (ymul_go _ (sL c d) (sL c d) (sL_len _ _) (sL_len _ _)) fun ac254 wo251 En255 Hv256 => ?_
   refine f_o ?_
   refine m_z 33 (u64s (List.replicate 4 0)) En255 Hv256 fun ac258 wo259 bk257 En260 Hv261 => ?_
   refine f_o ?_
   refine m_g 12 0 4 (u64s (mL (sL c d) (sL c d))) (u64s (mL (sL c d) (sL c d))) [.box bk90 (u64s c) 33, .box bk101 (u64s d) 33, .box bk112 (u64s a) 33, .box bk123 (u64s b) 33, .box bk1 (bys (clD k)) 22, .box bk6 (bys (clU u)) 22, .box bk11 (bys (List.replicate 32 0)) 22, .box bk61 (u64s (nd (lv (clD k)))) 33, .box bk79 (u64s (xD u)) 33, .box bk197 (u64s (aL c d)) 33, .box bk217 (u64s (sL c d)) 33, .box bk237 (u64s (mL (aL c d) (aL c d))) 33, .box bk257 (u64s (mL (sL c d) (sL c d))) 33] En260 Hv261 rfl (u64s_lenh (mL_len _ _)) (by rw [(u64s_lenh (List.length_replicate))]; decide) (u64s_one _) (store_whole (u64s_lenh (List.length_replicate))) rfl fun ac262 wo263 En264 Hv265 => ?_
   refine f_e ?_
   refine then_normal ?_
   refine wp_seq ?_
   refine region_from ?_
   refine f_o ?_
   refine m_a 11 0 4 (u64s (mL (aL c d) (aL c d))) En264 Hv265 rfl (load_whole (u64s_lenh (mL_len _ _))) (u64s_lenh (mL_len _ _)) fun ac266 En267 => ?_
   refine f_o ?_
   refine m_a 12 0 4 (u64s (mL (sL c d) (sL c d))) En267 Hv265 rfl (load_whole (u64s_lenh (mL_len _ _))) (u64s_lenh (mL_len _ _)) fun ac268 En269 => ?_
   refine f_o ?_
   refine c_p En269 Hv265 (ysub_go _ (mL (aL c d) (aL c d)) (mL (sL c d) (sL c d)) (mL_len _ _) (mL_len _ _)) fun ac274 wo271 En275 Hv276 => ?_
   refine f_o ?_
   refine m_z 33 (u64s (List.replicate 4 0)) En275 Hv276 fun ac278 wo279 bk277 En280 Hv281 => ?_
   refine f_o ?_
   refine m_g 13 0 4 (u64s (sL (mL (aL c d) (aL c d)) (mL (sL c d) (sL c d)))) (u64s (sL (mL (aL c d) (aL c d)) (mL (sL c d) (sL c d)))) [.box bk90 (u64s c) 33, .box bk101 (u64s d) 33, .box bk112 (u64s a) 33, .box bk123 (u64s b) 33, .box bk1 (bys (clD k)) 22, .box bk6 (bys (clU u)) 22, .box bk11 (bys (List.replicate 32 0)) 22, .box bk61 (u64s (nd (lv (clD k)))) 33, .box bk79 (u64s (xD u)) 33, .box bk197 (u64s (aL c d)) 33, .box bk217 (u64s (sL c d)) 33, .box bk237 (u64s (mL (aL c d) (aL c d))) 33, .box bk257 (u64s (mL (sL c d) (sL c d))) 33, .box bk277 (u64s (sL (mL (aL c d) (aL c d)) (mL (sL c d) (sL c d)))) 33] En280 Hv281 rfl (u64s_lenh (sL_len _ _)) (by rw [(u64s_lenh (List.length_replicate))]; decide) (u64s_one _) (store_whole (u64s_lenh (List.length_replicate))) rfl fun ac282 wo283 En284 Hv285 => ?_
   refine f_e ?_
   refine then_normal ?_
   refine wp_seq ?_
   refine r_c (fun ac wo => ∃ (bk522 : Nat), Env ac 120 [(2, pt bk1), (3, pt bk6), (4, pt bk11), (5, pt bk61), (6, pt bk79), (7, pt bk90), (8, pt bk101), (9, pt bk112), (10, pt bk123), (11, ni (q - 1)), (12, .bool true), (13, pt bk197), (14, pt bk217), (15, pt bk237), (16, pt bk257), (17, pt bk277), (18, pt bk522)] ∧ Ev w [] wo [.box bk90 (u64s c) 33, .box bk101 (u64s d) 33, .box bk112 (u64s a) 33, .box bk123 (u64s b) 33, .box bk1 (bys (clD k)) 22, .box bk6 (bys (clU u)) 22, .box bk11 (bys (List.replicate 32 0)) 22, .box bk61 (u64s (nd (lv (clD k)))) 33, .box bk79 (u64s (xD u)) 33, .box bk197 (u64s (aL c d)) 33, .box bk217 (u64s (sL c d)) 33, .box bk237 (u64s (mL (aL c d) (aL c d))) 33, .box bk257 (u64s (mL (sL c d) (sL c d))) 33, .box bk277 (u64s (sL (mL (aL c d) (aL c d)) (mL (sL c d) (sL c d)))) 33, .box bk522 (u64s (mL (sL a b) (aL c d))) 33]) ?_ ?_
   ·
    refine h_s (fun wv => Ev w [] wv [.box bk112 (u64s a) 33, .box bk123 (u64s b) 33, .box bk197 (u64s (aL c d)) 33]) [] 7 ?_
    have wo286 := Hv285.trans (Ev.drew Hv285.heap)
    refine h_name fun G hG => ?_
    have nd570 : ∀ (ac : Act) (wo : World), Env ac 120 [(2, pt bk1), (3, pt bk6), (4, pt bk11), (5, pt bk61), (6, pt bk79), (7, pt bk90), (8, pt bk101), (9, pt bk112), (10, pt bk123), (11, ni (q - 1)), (12, .bool true), (13, pt bk197), (14, pt bk217), (15, pt bk237), (16, pt bk257), (17, pt bk277), (80, .agg (List.toArray (u64s (mL (sL a b) (aL c d)))))] → Ev w [] wo [.box bk90 (u64s c) 33, .box bk101 (u64s d) 33, .box bk112 (u64s a) 33, .box bk123 (u64s b) 33, .box bk1 (bys (clD k)) 22, .box bk6 (bys (clU u)) 22, .box bk11 (bys (List.replicate 32 0)) 22, .box bk61 (u64s (nd (lv (clD k)))) 33, .box bk79 (u64s (xD u)) 33, .box bk197 (u64s (aL c d)) 33, .box bk217 (u64s (sL c d)) 33, .box bk237 (u64s (mL (aL c d) (aL c d))) 33, .box bk257 (u64s (mL (sL c d) (sL c d))) 33, .box bk277 (u64s (sL (mL (aL c d) (aL c d)) (mL (sL c d) (sL c d)))) 33] → G 2 #[true, true, true, true, true, false, false] ac wo := by
     intro ac571 wo572 En573 Hv574
     refine h_from hG ?_
     refine q_t 5 ?_
     refine m_z 33 (u64s (List.replicate 4 0)) En573 Hv574 fun ac576 wo577 bk575 En578 Hv579 => ?_
     refine ⟨fun _ => Hv579.pk [2, 3, 9], ?_⟩
     refine q_t 6 ?_
     refine m_g 14 0 4 (u64s (mL (sL a b) (aL c d))) (u64s (mL (sL a b) (aL c d))) [.box bk90 (u64s c) 33, .box bk101 (u64s d) 33, .box bk112 (u64s a) 33, .box bk123 (u64s b) 33, .box bk1 (bys (clD k)) 22, .box bk6 (bys (clU u)) 22, .box bk11 (bys (List.replicate 32 0)) 22, .box bk61 (u64s (nd (lv (clD k)))) 33, .box bk79 (u64s (xD u)) 33, .box bk197 (u64s (aL c d)) 33, .box bk217 (u64s (sL c d)) 33, .box bk237 (u64s (mL (aL c d) (aL c d))) 33, .box bk257 (u64s (mL (sL c d) (sL c d))) 33, .box bk277 (u64s (sL (mL (aL c d) (aL c d)) (mL (sL c d) (sL c d)))) 33, .box bk575 (u64s (mL (sL a b) (aL c d))) 33] En578 Hv579 rfl (u64s_lenh (mL_len _ _)) (by rw [(u64s_lenh (List.length_replicate))]; decide) (u64s_one _) (store_whole (u64s_lenh (List.length_replicate))) rfl fun ac580 wo581 En582 Hv583 => ?_
     refine ⟨fun _ => Hv583.pk [2, 3, 9], ?_⟩
     exact h_e ⟨bk575, En582.sb, Hv583.pk [0, 1, 2, 3, 4, 5, 6, 7, 8, 9, 10, 11, 12, 13, 14]⟩
    have nd584 : ∀ (ac : Act) (wo : World) (bk531 : Nat), Env ac 120 [(2, pt bk1), (3, pt bk6), (4, pt bk11), (5, pt bk61), (6, pt bk79), (7, pt bk90), (8, pt bk101), (9, pt bk112), (10, pt bk123), (11, ni (q - 1)), (12, .bool true), (13, pt bk197), (14, pt bk217), (15, pt bk237), (16, pt bk257), (17, pt bk277), (18, pt bk531), (78, .agg (List.toArray (u64s (sL a b)))), (79, .agg (List.toArray (u64s (aL c d))))] → Ev w [] wo [.box bk90 (u64s c) 33, .box bk101 (u64s d) 33, .box bk112 (u64s a) 33, .box bk123 (u64s b) 33, .box bk1 (bys (clD k)) 22, .box bk6 (bys (clU u)) 22, .box bk11 (bys (List.replicate 32 0)) 22, .box bk61 (u64s (nd (lv (clD k)))) 33, .box bk79 (u64s (xD u)) 33, .box bk197 (u64s (aL c d)) 33, .box bk217 (u64s (sL c d)) 33, .box bk237 (u64s (mL (aL c d) (aL c d))) 33, .box bk257 (u64s (mL (sL c d) (sL c d))) 33, .box bk277 (u64s (sL (mL (aL c d) (aL c d)) (mL (sL c d) (sL c d)))) 33, .box bk531 (u64s (List.replicate 4 0)) 33] → G 2 #[true, true, true, true, false, true, false] ac wo := by
     intro ac585 wo586 bk531 En587 Hv588
     refine h_from hG ?_
     refine q_t 4 ?_
     refine c_p En587 Hv588 (ymul_go _ (sL a b) (aL c d) (sL_len _ _) (aL_len _ _)) fun ac593 wo590 En594 Hv595 => ?_
     refine ⟨fun _ => Hv595.pk [2, 3, 9], ?_⟩
     refine q_t 6 ?_
     refine m_g 14 0 4 (u64s (mL (sL a b) (aL c d))) (u64s (mL (sL a b) (aL c d))) [.box bk90 (u64s c) 33, .box bk101 (u64s d) 33, .box bk112 (u64s a) 33, .box bk123 (u64s b) 33, .box bk1 (bys (clD k)) 22, .box bk6 (bys (clU u)) 22, .box bk11 (bys (List.replicate 32 0)) 22, .box bk61 (u64s (nd (lv (clD k)))) 33, .box bk79 (u64s (xD u)) 33, .box bk197 (u64s (aL c d)) 33, .box bk217 (u64s (sL c d)) 33, .box bk237 (u64s (mL (aL c d) (aL c d))) 33, .box bk257 (u64s (mL (sL c d) (sL c d))) 33, .box bk277 (u64s (sL (mL (aL c d) (aL c d)) (mL (sL c d) (sL c d)))) 33, .box bk531 (u64s (mL (sL a b) (aL c d))) 33] En594 Hv595 rfl (u64s_lenh (mL_len _ _)) (by rw [(u64s_lenh (List.length_replicate))]; decide) (u64s_one _) (store_whole (u64s_lenh (List.length_replicate))) rfl fun ac596 wo597 En598 Hv599 => ?_
     refine ⟨fun _ => Hv599.pk [2, 3, 9], ?_⟩
     exact h_e ⟨bk531, En598.sb, Hv599.pk [0, 1, 2, 3, 4, 5, 6, 7, 8, 9, 10, 11, 12, 13, 14]⟩
    have nd600 : ∀ (ac : Act) (wo : World), Env ac 120 [(2, pt bk1), (3, pt bk6), (4, pt bk11), (5, pt bk61), (6, pt bk79), (7, pt bk90), (8, pt bk101), (9, pt bk112), (10, pt bk123), (11, ni (q - 1)), (12, .bool true), (13, pt bk197), (14, pt bk217), (15, pt bk237), (16, pt bk257), (17, pt bk277), (78, .agg (List.toArray (u64s (sL a b)))), (79, .agg (List.toArray (u64s (aL c d))))] → Ev w [] wo [.box bk90 (u64s c) 33, .box bk101 (u64s d) 33, .box bk112 (u64s a) 33, .box bk123 (u64s b) 33, .box bk1 (bys (clD k)) 22, .box bk6 (bys (clU u)) 22, .box bk11 (bys (List.replicate 32 0)) 22, .box bk61 (u64s (nd (lv (clD k)))) 33, .box bk79 (u64s (xD u)) 33, .box bk197 (u64s (aL c d)) 33, .box bk217 (u64s (sL c d)) 33, .box bk237 (u64s (mL (aL c d) (aL c d))) 33, .box bk257 (u64s (mL (sL c d) (sL c d))) 33, .box bk277 (u64s (sL (mL (aL c d) (aL c d)) (mL (sL c d) (sL c d)))) 33] → G 3 #[true, true, true, true, false, false, false] ac wo := by
     intro ac601 wo602 En603 Hv604
     refine h_from hG ?_
     refine h_ways [4, 5] (by kernel_rfl) rfl ?_
     refine ⟨?_, ?_, trivial⟩
     ·
      rintro _ rfl
      refine c_p En603 Hv604 (ymul_go _ (sL a b) (aL c d) (sL_len _ _) (aL_len _ _)) fun ac609 wo606 En610 Hv611 => ?_
      refine ⟨fun _ => Hv611.pk [2, 3, 9], ?_⟩
      exact h_to hG (by kernel_rfl) (nd570 _ _ (En610.sb) (Hv611.pk [0, 1, 2, 3, 4, 5, 6, 7, 8, 9, 10, 11, 12, 13]))
     ·
      rintro _ rfl
      refine m_z 33 (u64s (List.replicate 4 0)) En603 Hv604 fun ac613 wo614 bk612 En615 Hv616 => ?_
      refine ⟨fun _ => Hv616.pk [2, 3, 9], ?_⟩
      exact h_to hG (by kernel_rfl) (nd584 _ _ bk612 (En615.sb) (Hv616.pk [0, 1, 2, 3, 4, 5, 6, 7, 8, 9, 10, 11, 12, 13, 14]))
    have nd617 : ∀ (ac : Act) (wo : World) (bk547 : Nat), Env ac 120 [(2, pt bk1), (3, pt bk6), (4, pt bk11), (5, pt bk61), (6, pt bk79), (7, pt bk90), (8, pt bk101), (9, pt bk112), (10, pt bk123), (11, ni (q - 1)), (12, .bool true), (13, pt bk197), (14, pt bk217), (15, pt bk237), (16, pt bk257), (17, pt bk277), (18, pt bk547), (76, .agg (List.toArray (u64s a))), (77, .agg (List.toArray (u64s b))), (79, .agg (List.toArray (u64s (aL c d))))] → Ev w [] wo [.box bk90 (u64s c) 33, .box bk101 (u64s d) 33, .box bk112 (u64s a) 33, .box bk123 (u64s b) 33, .box bk1 (bys (clD k)) 22, .box bk6 (bys (clU u)) 22, .box bk11 (bys (List.replicate 32 0)) 22, .box bk61 (u64s (nd (lv (clD k)))) 33, .box bk79 (u64s (xD u)) 33, .box bk197 (u64s (aL c d)) 33, .box bk217 (u64s (sL c d)) 33, .box bk237 (u64s (mL (aL c d) (aL c d))) 33, .box bk257 (u64s (mL (sL c d) (sL c d))) 33, .box bk277 (u64s (sL (mL (aL c d) (aL c d)) (mL (sL c d) (sL c d)))) 33, .box bk547 (u64s (List.replicate 4 0)) 33] → G 3 #[true, true, false, true, false, true, false] ac wo := by
     intro ac618 wo619 bk547 En620 Hv621
     refine h_from hG ?_
     refine q_t 2 ?_
     refine c_p En620 Hv621 (ysub_go _ a b hla hlb) fun ac626 wo623 En627 Hv628 => ?_
     refine ⟨fun _ => Hv628.pk [2, 3, 9], ?_⟩
     refine q_t 4 ?_
     refine c_p En627 Hv628 (ymul_go _ (sL a b) (aL c d) (sL_len _ _) (aL_len _ _)) fun ac633 wo630 En634 Hv635 => ?_
     refine ⟨fun _ => Hv635.pk [2, 3, 9], ?_⟩
     refine q_t 6 ?_
     refine m_g 14 0 4 (u64s (mL (sL a b) (aL c d))) (u64s (mL (sL a b) (aL c d))) [.box bk90 (u64s c) 33, .box bk101 (u64s d) 33, .box bk112 (u64s a) 33, .box bk123 (u64s b) 33, .box bk1 (bys (clD k)) 22, .box bk6 (bys (clU u)) 22, .box bk11 (bys (List.replicate 32 0)) 22, .box bk61 (u64s (nd (lv (clD k)))) 33, .box bk79 (u64s (xD u)) 33, .box bk197 (u64s (aL c d)) 33, .box bk217 (u64s (sL c d)) 33, .box bk237 (u64s (mL (aL c d) (aL c d))) 33, .box bk257 (u64s (mL (sL c d) (sL c d))) 33, .box bk277 (u64s (sL (mL (aL c d) (aL c d)) (mL (sL c d) (sL c d)))) 33, .box bk547 (u64s (mL (sL a b) (aL c d))) 33] En634 Hv635 rfl (u64s_lenh (mL_len _ _)) (by rw [(u64s_lenh (List.length_replicate))]; decide) (u64s_one _) (store_whole (u64s_lenh (List.length_replicate))) rfl fun ac636 wo637 En638 Hv639 => ?_
     refine ⟨fun _ => Hv639.pk [2, 3, 9], ?_⟩
     exact h_e ⟨bk547, En638.sb, Hv639.pk [0, 1, 2, 3, 4, 5, 6, 7, 8, 9, 10, 11, 12, 13, 14]⟩
    refine h_from hG ?_
    refine q_r 0 (s := Instr.loadAt 33 (pt bk112)) (v := .agg (List.toArray (u64s a))) En284 (fun w hS => run_loadAgg2 (m := 4) (cs := u64s a) (u64s_lenh hla) (by kernel_rfl) (by kernel_rfl) (hS.heap.cells (k := 0) (off := 0) (m := 4) rfl (load_whole (u64s_lenh hla)))) (wo286.pk [2, 3, 9]) fun ac640 En641 => ?_
    refine q_r 1 (s := Instr.loadAt 33 (pt bk123)) (v := .agg (List.toArray (u64s b))) En641 (fun w hS => run_loadAgg2 (m := 4) (cs := u64s b) (u64s_lenh hlb) (by kernel_rfl) (by kernel_rfl) (hS.heap.cells (k := 1) (off := 0) (m := 4) rfl (load_whole (u64s_lenh hlb)))) (wo286.pk [2, 3, 9]) fun ac642 En643 => ?_
    refine q_r 3 (s := Instr.loadAt 33 (pt bk197)) (v := .agg (List.toArray (u64s (aL c d)))) En643 (fun w hS => run_loadAgg2 (m := 4) (cs := u64s (aL c d)) (u64s_lenh (aL_len _ _)) (by kernel_rfl) (by kernel_rfl) (hS.heap.cells (k := 2) (off := 0) (m := 4) rfl (load_whole (u64s_lenh (aL_len _ _))))) (wo286.pk [2, 3, 9]) fun ac644 En645 => ?_
    refine h_ways [2, 5] (by kernel_rfl) rfl ?_
    refine ⟨?_, ?_, trivial⟩
    ·
     rintro _ rfl
     refine c_p En645 wo286 (ysub_go _ a b hla hlb) fun ac650 wo647 En651 Hv652 => ?_
     refine ⟨fun _ => Hv652.pk [2, 3, 9], ?_⟩
     exact h_to hG (by kernel_rfl) (nd600 _ _ (En651.sb) (Hv652.pk [0, 1, 2, 3, 4, 5, 6, 7, 8, 9, 10, 11, 12, 13]))
    ·
     rintro _ rfl
     refine m_z 33 (u64s (List.replicate 4 0)) En645 wo286 fun ac654 wo655 bk653 En656 Hv657 => ?_
     refine ⟨fun _ => Hv657.pk [2, 3, 9], ?_⟩
     exact h_to hG (by kernel_rfl) (nd617 _ _ bk653 (En656.sb) (Hv657.pk [0, 1, 2, 3, 4, 5, 6, 7, 8, 9, 10, 11, 12, 13, 14]))
   rintro ac658 wo659 ⟨bk522, En660, Hv661⟩
   refine then_normal ?_
   refine wp_seq ?_
   refine r_c (fun ac wo => ∃ (bk898 : Nat), Env ac 120 [(2, pt bk1), (3, pt bk6), (4, pt bk11), (5, pt bk61), (6, pt bk79), (7, pt bk90), (8, pt bk101), (9, pt bk112), (10, pt bk123), (11, ni (q - 1)), (12, .bool true), (13, pt bk197), (14, pt bk217), (15, pt bk237), (16, pt bk257), (17, pt bk277), (18, pt bk522), (19, pt bk898)] ∧ Ev w [] wo [.box bk90 (u64s c) 33, .box bk101 (u64s d) 33, .box bk112 (u64s a) 33, .box bk123 (u64s b) 33, .box bk1 (bys (clD k)) 22, .box bk6 (bys (clU u)) 22, .box bk11 (bys (List.replicate 32 0)) 22, .box bk61 (u64s (nd (lv (clD k)))) 33, .box bk79 (u64s (xD u)) 33, .box bk197 (u64s (aL c d)) 33, .box bk217 (u64s (sL c d)) 33, .box bk237 (u64s (mL (aL c d) (aL c d))) 33, .box bk257 (u64s (mL (sL c d) (sL c d))) 33, .box bk277 (u64s (sL (mL (aL c d) (aL c d)) (mL (sL c d) (sL c d)))) 33, .box bk522 (u64s (mL (sL a b) (aL c d))) 33, .box bk898 (u64s (mL (aL a b) (sL c d))) 33]) ?_ ?_
   ·
    refine h_s (fun wv => Ev w [] wv [.box bk112 (u64s a) 33, .box bk123 (u64s b) 33, .box bk217 (u64s (sL c d)) 33]) [] 7 ?_
    have wo662 := Hv661.trans (Ev.drew Hv661.heap)
    refine h_name fun G hG => ?_
    have nd946 : ∀ (ac : Act) (wo : World), Env ac 120 [(2, pt bk1), (3, pt bk6), (4, pt bk11), (5, pt bk61), (6, pt bk79), (7, pt bk90), (8, pt bk101), (9, pt bk112), (10, pt bk123), (11, ni (q - 1)), (12, .bool true), (13, pt bk197), (14, pt bk217), (15, pt bk237), (16, pt bk257), (17, pt bk277), (18, pt bk522), (85, .agg (List.toArray (u64s (mL (aL a b) (sL c d)))))] → Ev w [] wo [.box bk90 (u64s c) 33, .box bk101 (u64s d) 33, .box bk112 (u64s a) 33, .box bk123 (u64s b) 33, .box bk1 (bys (clD k)) 22, .box bk6 (bys (clU u)) 22, .box bk11 (bys (List.replicate 32 0)) 22, .box bk61 (u64s (nd (lv (clD k)))) 33, .box bk79 (u64s (xD u)) 33, .box bk197 (u64s (aL c d)) 33, .box bk217 (u64s (sL c d)) 33, .box bk237 (u64s (mL (aL c d) (aL c d))) 33, .box bk257 (u64s (mL (sL c d) (sL c d))) 33, .box bk277 (u64s (sL (mL (aL c d) (aL c d)) (mL (sL c d) (sL c d)))) 33, .box bk522 (u64s (mL (sL a b) (aL c d))) 33] → G 2 #[true, true, true, true, true, false, false] ac wo := by
     intro ac947 wo948 En949 Hv950
     refine h_from hG ?_
     refine q_t 5 ?_
     refine m_z 33 (u64s (List.replicate 4 0)) En949 Hv950 fun ac952 wo953 bk951 En954 Hv955 => ?_
     refine ⟨fun _ => Hv955.pk [2, 3, 10], ?_⟩
     refine q_t 6 ?_
     refine m_g 15 0 4 (u64s (mL (aL a b) (sL c d))) (u64s (mL (aL a b) (sL c d))) [.box bk90 (u64s c) 33, .box bk101 (u64s d) 33, .box bk112 (u64s a) 33, .box bk123 (u64s b) 33, .box bk1 (bys (clD k)) 22, .box bk6 (bys (clU u)) 22, .box bk11 (bys (List.replicate 32 0)) 22, .box bk61 (u64s (nd (lv (clD k)))) 33, .box bk79 (u64s (xD u)) 33, .box bk197 (u64s (aL c d)) 33, .box bk217 (u64s (sL c d)) 33, .box bk237 (u64s (mL (aL c d) (aL c d))) 33, .box bk257 (u64s (mL (sL c d) (sL c d))) 33, .box bk277 (u64s (sL (mL (aL c d) (aL c d)) (mL (sL c d) (sL c d)))) 33, .box bk522 (u64s (mL (sL a b) (aL c d))) 33, .box bk951 (u64s (mL (aL a b) (sL c d))) 33] En954 Hv955 rfl (u64s_lenh (mL_len _ _)) (by rw [(u64s_lenh (List.length_replicate))]; decide) (u64s_one _) (store_whole (u64s_lenh (List.length_replicate))) rfl fun ac956 wo957 En958 Hv959 => ?_
     refine ⟨fun _ => Hv959.pk [2, 3, 10], ?_⟩
     exact h_e ⟨bk951, En958.sb, Hv959.pk [0, 1, 2, 3, 4, 5, 6, 7, 8, 9, 10, 11, 12, 13, 14, 15]⟩
    have nd960 : ∀ (ac : Act) (wo : World) (bk907 : Nat), Env ac 120 [(2, pt bk1), (3, pt bk6), (4, pt bk11), (5, pt bk61), (6, pt bk79), (7, pt bk90), (8, pt bk101), (9, pt bk112), (10, pt bk123), (11, ni (q - 1)), (12, .bool true), (13, pt bk197), (14, pt bk217), (15, pt bk237), (16, pt bk257), (17, pt bk277), (18, pt bk522), (19, pt bk907), (83, .agg (List.toArray (u64s (aL a b)))), (84, .agg (List.toArray (u64s (sL c d))))] → Ev w [] wo [.box bk90 (u64s c) 33, .box bk101 (u64s d) 33, .box bk112 (u64s a) 33, .box bk123 (u64s b) 33, .box bk1 (bys (clD k)) 22, .box bk6 (bys (clU u)) 22, .box bk11 (bys (List.replicate 32 0)) 22, .box bk61 (u64s (nd (lv (clD k)))) 33, .box bk79 (u64s (xD u)) 33, .box bk197 (u64s (aL c d)) 33, .box bk217 (u64s (sL c d)) 33, .box bk237 (u64s (mL (aL c d) (aL c d))) 33, .box bk257 (u64s (mL (sL c d) (sL c d))) 33, .box bk277 (u64s (sL (mL (aL c d) (aL c d)) (mL (sL c d) (sL c d)))) 33, .box bk522 (u64s (mL (sL a b) (aL c d))) 33, .box bk907 (u64s (List.replicate 4 0)) 33] → G 2 #[true, true, true, true, false, true, false] ac wo := by
     intro ac961 wo962 bk907 En963 Hv964
     refine h_from hG ?_
     refine q_t 4 ?_
     refine c_p En963 Hv964 (ymul_go _ (aL a b) (sL c d) (aL_len _ _) (sL_len _ _)) fun ac969 wo966 En970 Hv971 => ?_
     refine ⟨fun _ => Hv971.pk [2, 3, 10], ?_⟩
     refine q_t 6 ?_
     refine m_g 15 0 4 (u64s (mL (aL a b) (sL c d))) (u64s (mL (aL a b) (sL c d))) [.box bk90 (u64s c) 33, .box bk101 (u64s d) 33, .box bk112 (u64s a) 33, .box bk123 (u64s b) 33, .box bk1 (bys (clD k)) 22, .box bk6 (bys (clU u)) 22, .box bk11 (bys (List.replicate 32 0)) 22, .box bk61 (u64s (nd (lv (clD k)))) 33, .box bk79 (u64s (xD u)) 33, .box bk197 (u64s (aL c d)) 33, .box bk217 (u64s (sL c d)) 33, .box bk237 (u64s (mL (aL c d) (aL c d))) 33, .box bk257 (u64s (mL (sL c d) (sL c d))) 33, .box bk277 (u64s (sL (mL (aL c d) (aL c d)) (mL (sL c d) (sL c d)))) 33, .box bk522 (u64s (mL (sL a b) (aL c d))) 33, .box bk907 (u64s (mL (aL a b) (sL c d))) 33] En970 Hv971 rfl (u64s_lenh (mL_len _ _)) (by rw [(u64s_lenh (List.length_replicate))]; decide) (u64s_one _) (store_whole (u64s_lenh (List.length_replicate))) rfl fun ac972 wo973 En974 Hv975 => ?_
     refine ⟨fun _ => Hv975.pk [2, 3, 10], ?_⟩
     exact h_e ⟨bk907, En974.sb, Hv975.pk [0, 1, 2, 3, 4, 5, 6, 7, 8, 9, 10, 11, 12, 13, 14, 15]⟩
    have nd976 : ∀ (ac : Act) (wo : World), Env ac 120 [(2, pt bk1), (3, pt bk6), (4, pt bk11), (5, pt bk61), (6, pt bk79), (7, pt bk90), (8, pt bk101), (9, pt bk112), (10, pt bk123), (11, ni (q - 1)), (12, .bool true), (13, pt bk197), (14, pt bk217), (15, pt bk237), (16, pt bk257), (17, pt bk277), (18, pt bk522), (83, .agg (List.toArray (u64s (aL a b)))), (84, .agg (List.toArray (u64s (sL c d))))] → Ev w [] wo [.box bk90 (u64s c) 33, .box bk101 (u64s d) 33, .box bk112 (u64s a) 33, .box bk123 (u64s b) 33, .box bk1 (bys (clD k)) 22, .box bk6 (bys (clU u)) 22, .box bk11 (bys (List.replicate 32 0)) 22, .box bk61 (u64s (nd (lv (clD k)))) 33, .box bk79 (u64s (xD u)) 33, .box bk197 (u64s (aL c d)) 33, .box bk217 (u64s (sL c d)) 33, .box bk237 (u64s (mL (aL c d) (aL c d))) 33, .box bk257 (u64s (mL (sL c d) (sL c d))) 33, .box bk277 (u64s (sL (mL (aL c d) (aL c d)) (mL (sL c d) (sL c d)))) 33, .box bk522 (u64s (mL (sL a b) (aL c d))) 33] → G 3 #[true, true, true, true, false, false, false] ac wo := by
     intro ac977 wo978 En979 Hv980
     refine h_from hG ?_
     refine h_ways [4, 5] (by kernel_rfl) rfl ?_
     refine ⟨?_, ?_, trivial⟩
     ·
      rintro _ rfl
      refine c_p En979 Hv980 (ymul_go _ (aL a b) (sL c d) (aL_len _ _) (sL_len _ _)) fun ac985 wo982 En986 Hv987 => ?_
      refine ⟨fun _ => Hv987.pk [2, 3, 10], ?_⟩
      exact h_to hG (by kernel_rfl) (nd946 _ _ (En986.sb) (Hv987.pk [0, 1, 2, 3, 4, 5, 6, 7, 8, 9, 10, 11, 12, 13, 14]))
     ·
      rintro _ rfl
      refine m_z 33 (u64s (List.replicate 4 0)) En979 Hv980 fun ac989 wo990 bk988 En991 Hv992 => ?_
      refine ⟨fun _ => Hv992.pk [2, 3, 10], ?_⟩
      exact h_to hG (by kernel_rfl) (nd960 _ _ bk988 (En991.sb) (Hv992.pk [0, 1, 2, 3, 4, 5, 6, 7, 8, 9, 10, 11, 12, 13, 14, 15]))
    have nd993 : ∀ (ac : Act) (wo : World) (bk923 : Nat), Env ac 120 [(2, pt bk1), (3, pt bk6), (4, pt bk11), (5, pt bk61), (6, pt bk79), (7, pt bk90), (8, pt bk101), (9, pt bk112), (10, pt bk123), (11, ni (q - 1)), (12, .bool true), (13, pt bk197), (14, pt bk217), (15, pt bk237), (16, pt bk257), (17, pt bk277), (18, pt bk522), (19, pt bk923), (81, .agg (List.toArray (u64s a))), (82, .agg (List.toArray (u64s b))), (84, .agg (List.toArray (u64s (sL c d))))] → Ev w [] wo [.box bk90 (u64s c) 33, .box bk101 (u64s d) 33, .box bk112 (u64s a) 33, .box bk123 (u64s b) 33, .box bk1 (bys (clD k)) 22, .box bk6 (bys (clU u)) 22, .box bk11 (bys (List.replicate 32 0)) 22, .box bk61 (u64s (nd (lv (clD k)))) 33, .box bk79 (u64s (xD u)) 33, .box bk197 (u64s (aL c d)) 33, .box bk217 (u64s (sL c d)) 33, .box bk237 (u64s (mL (aL c d) (aL c d))) 33, .box bk257 (u64s (mL (sL c d) (sL c d))) 33, .box bk277 (u64s (sL (mL (aL c d) (aL c d)) (mL (sL c d) (sL c d)))) 33, .box bk522 (u64s (mL (sL a b) (aL c d))) 33, .box bk923 (u64s (List.replicate 4 0)) 33] → G 3 #[true, true, false, true, false, true, false] ac wo := by
     intro ac994 wo995 bk923 En996 Hv997
     refine h_from hG ?_
     refine q_t 2 ?_
     refine c_p En996 Hv997 (yadd_go _ a b hla hlb) fun ac1002 wo999 En1003 Hv1004 => ?_
     refine ⟨fun _ => Hv1004.pk [2, 3, 10], ?_⟩
     refine q_t 4 ?_
     refine c_p En1003 Hv1004 (ymul_go _ (aL a b) (sL c d) (aL_len _ _) (sL_len _ _)) fun ac1009 wo1006 En1010 Hv1011 => ?_
     refine ⟨fun _ => Hv1011.pk [2, 3, 10], ?_⟩
     refine q_t 6 ?_
     refine m_g 15 0 4 (u64s (mL (aL a b) (sL c d))) (u64s (mL (aL a b) (sL c d))) [.box bk90 (u64s c) 33, .box bk101 (u64s d) 33, .box bk112 (u64s a) 33, .box bk123 (u64s b) 33, .box bk1 (bys (clD k)) 22, .box bk6 (bys (clU u)) 22, .box bk11 (bys (List.replicate 32 0)) 22, .box bk61 (u64s (nd (lv (clD k)))) 33, .box bk79 (u64s (xD u)) 33, .box bk197 (u64s (aL c d)) 33, .box bk217 (u64s (sL c d)) 33, .box bk237 (u64s (mL (aL c d) (aL c d))) 33, .box bk257 (u64s (mL (sL c d) (sL c d))) 33, .box bk277 (u64s (sL (mL (aL c d) (aL c d)) (mL (sL c d) (sL c d)))) 33, .box bk522 (u64s (mL (sL a b) (aL c d))) 33, .box bk923 (u64s (mL (aL a b) (sL c d))) 33] En1010 Hv1011 rfl (u64s_lenh (mL_len _ _)) (by rw [(u64s_lenh (List.length_replicate))]; decide) (u64s_one _) (store_whole (u64s_lenh (List.length_replicate))) rfl fun ac1012 wo1013 En1014 Hv1015 => ?_
     refine ⟨fun _ => Hv1015.pk [2, 3, 10], ?_⟩
     exact h_e ⟨bk923, En1014.sb, Hv1015.pk [0, 1, 2, 3, 4, 5, 6, 7, 8, 9, 10, 11, 12, 13, 14, 15]⟩
    refine h_from hG ?_
    refine q_r 0 (s := Instr.loadAt 33 (pt bk112)) (v := .agg (List.toArray (u64s a))) En660 (fun w hS => run_loadAgg2 (m := 4) (cs := u64s a) (u64s_lenh hla) (by kernel_rfl) (by kernel_rfl) (hS.heap.cells (k := 0) (off := 0) (m := 4) rfl (load_whole (u64s_lenh hla)))) (wo662.pk [2, 3, 10]) fun ac1016 En1017 => ?_
    refine q_r 1 (s := Instr.loadAt 33 (pt bk123)) (v := .agg (List.toArray (u64s b))) En1017 (fun w hS => run_loadAgg2 (m := 4) (cs := u64s b) (u64s_lenh hlb) (by kernel_rfl) (by kernel_rfl) (hS.heap.cells (k := 1) (off := 0) (m := 4) rfl (load_whole (u64s_lenh hlb)))) (wo662.pk [2, 3, 10]) fun ac1018 En1019 => ?_
    refine q_r 3 (s := Instr.loadAt 33 (pt bk217)) (v := .agg (List.toArray (u64s (sL c d)))) En1019 (fun w hS => run_loadAgg2 (m := 4) (cs := u64s (sL c d)) (u64s_lenh (sL_len _ _)) (by kernel_rfl) (by kernel_rfl) (hS.heap.cells (k := 2) (off := 0) (m := 4) rfl (load_whole (u64s_lenh (sL_len _ _))))) (wo662.pk [2, 3, 10]) fun ac1020 En1021 => ?_
    refine h_ways [2, 5] (by kernel_rfl) rfl ?_
    refine ⟨?_, ?_, trivial⟩
    ·
     rintro _ rfl
     refine c_p En1021 wo662 (yadd_go _ a b hla hlb) fun ac1026 wo1023 En1027 Hv1028 => ?_
     refine ⟨fun _ => Hv1028.pk [2, 3, 10], ?_⟩
     exact h_to hG (by kernel_rfl) (nd976 _ _ (En1027.sb) (Hv1028.pk [0, 1, 2, 3, 4, 5, 6, 7, 8, 9, 10, 11, 12, 13, 14]))
    ·
     rintro _ rfl
     refine m_z 33 (u64s (List.replicate 4 0)) En1021 wo662 fun ac1030 wo1031 bk1029 En1032 Hv1033 => ?_
     refine ⟨fun _ => Hv1033.pk [2, 3, 10], ?_⟩
     exact h_to hG (by kernel_rfl) (nd993 _ _ bk1029 (En1032.sb) (Hv1033.pk [0, 1, 2, 3, 4, 5, 6, 7, 8, 9, 10, 11, 12, 13, 14, 15]))
   rintro ac1034 wo1035 ⟨bk898, En1036, Hv1037⟩
   refine then_normal ?_
   refine wp_seq ?_
   refine region_from ?_
   refine f_o ?_
   refine m_a 14 0 4 (u64s (mL (sL a b) (aL c d))) En1036 Hv1037 rfl (load_whole (u64s_lenh (mL_len _ _))) (u64s_lenh (mL_len _ _)) fun ac1038 En1039 => ?_
   refine f_o ?_
   refine m_a 15 0 4 (u64s (mL (aL a b) (sL c d))) En1039 Hv1037 rfl (load_whole (u64s_lenh (mL_len _ _))) (u64s_lenh (mL_len _ _)) fun ac1040 En1041 => ?_
   refine f_o ?_
   refine c_p En1041 Hv1037 (yadd_go _ (mL (sL a b) (aL c d)) (mL (aL a b) (sL c d)) (mL_len _ _) (mL_len _ _)) fun ac1046 wo1043 En1047 Hv1048 => ?_
   refine f_o ?_
   refine m_z 33 (u64s (List.replicate 4 0)) En1047 Hv1048 fun ac1050 wo1051 bk1049 En1052 Hv1053 => ?_
   refine f_o ?_
   refine m_g 16 0 4 (u64s (aL (mL (sL a b) (aL c d)) (mL (aL a b) (sL c d)))) (u64s (aL (mL (sL a b) (aL c d)) (mL (aL a b) (sL c d)))) [.box bk90 (u64s c) 33, .box bk101 (u64s d) 33, .box bk112 (u64s a) 33, .box bk123 (u64s b) 33, .box bk1 (bys (clD k)) 22, .box bk6 (bys (clU u)) 22, .box bk11 (bys (List.replicate 32 0)) 22, .box bk61 (u64s (nd (lv (clD k)))) 33, .box bk79 (u64s (xD u)) 33, .box bk197 (u64s (aL c d)) 33, .box bk217 (u64s (sL c d)) 33, .box bk237 (u64s (mL (aL c d) (aL c d))) 33, .box bk257 (u64s (mL (sL c d) (sL c d))) 33, .box bk277 (u64s (sL (mL (aL c d) (aL c d)) (mL (sL c d) (sL c d)))) 33, .box bk522 (u64s (mL (sL a b) (aL c d))) 33, .box bk898 (u64s (mL (aL a b) (sL c d))) 33, .box bk1049 (u64s (aL (mL (sL a b) (aL c d)) (mL (aL a b) (sL c d)))) 33] En1052 Hv1053 rfl (u64s_lenh (aL_len _ _)) (by rw [(u64s_lenh (List.length_replicate))]; decide) (u64s_one _) (store_whole (u64s_lenh (List.length_replicate))) rfl fun ac1054 wo1055 En1056 Hv1057 => ?_
   refine f_e ?_
   refine then_normal ?_
   refine wp_seq ?_
   refine region_from ?_
   refine f_o ?_
   refine m_a 14 0 4 (u64s (mL (sL a b) (aL c d))) En1056 Hv1057 rfl (load_whole (u64s_lenh (mL_len _ _))) (u64s_lenh (mL_len _ _)) fun ac1058 En1059 => ?_
   refine f_o ?_
   refine m_a 15 0 4 (u64s (mL (aL a b) (sL c d))) En1059 Hv1057 rfl (load_whole (u64s_lenh (mL_len _ _))) (u64s_lenh (mL_len _ _)) fun ac1060 En1061 => ?_
   refine f_o ?_
   refine c_p En1061 Hv1057 (ysub_go _ (mL (sL a b) (aL c d)) (mL (aL a b) (sL c d)) (mL_len _ _) (mL_len _ _)) fun ac1066 wo1063 En1067 Hv1068 => ?_
   refine f_o ?_
   refine m_z 33 (u64s (List.replicate 4 0)) En1067 Hv1068 fun ac1070 wo1071 bk1069 En1072 Hv1073 => ?_
   refine f_o ?_
   refine m_g 17 0 4 (u64s (sL (mL (sL a b) (aL c d)) (mL (aL a b) (sL c d)))) (u64s (sL (mL (sL a b) (aL c d)) (mL (aL a b) (sL c d)))) [.box bk90 (u64s c) 33, .box bk101 (u64s d) 33, .box bk112 (u64s a) 33, .box bk123 (u64s b) 33, .box bk1 (bys (clD k)) 22, .box bk6 (bys (clU u)) 22, .box bk11 (bys (List.replicate 32 0)) 22, .box bk61 (u64s (nd (lv (clD k)))) 33, .box bk79 (u64s (xD u)) 33, .box bk197 (u64s (aL c d)) 33, .box bk217 (u64s (sL c d)) 33, .box bk237 (u64s (mL (aL c d) (aL c d))) 33, .box bk257 (u64s (mL (sL c d) (sL c d))) 33, .box bk277 (u64s (sL (mL (aL c d) (aL c d)) (mL (sL c d) (sL c d)))) 33, .box bk522 (u64s (mL (sL a b) (aL c d))) 33, .box bk898 (u64s (mL (aL a b) (sL c d))) 33, .box bk1049 (u64s (aL (mL (sL a b) (aL c d)) (mL (aL a b) (sL c d)))) 33, .box bk1069 (u64s (sL (mL (sL a b) (aL c d)) (mL (aL a b) (sL c d)))) 33] En1072 Hv1073 rfl (u64s_lenh (sL_len _ _)) (by rw [(u64s_lenh (List.length_replicate))]; decide) (u64s_one _) (store_whole (u64s_lenh (List.length_replicate))) rfl fun ac1074 wo1075 En1076 Hv1077 => ?_
   refine f_e ?_
   refine then_normal ?_
   refine wp_seq ?_
   refine region_from ?_
   refine f_o ?_
   refine m_a 16 0 4 (u64s (aL (mL (sL a b) (aL c d)) (mL (aL a b) (sL c d)))) En1076 Hv1077 rfl (load_whole (u64s_lenh (aL_len _ _))) (u64s_lenh (aL_len _ _)) fun ac1078 En1079 => ?_
   refine f_o ?_
   refine m_a 16 0 4 (u64s (aL (mL (sL a b) (aL c d)) (mL (aL a b) (sL c d)))) En1079 Hv1077 rfl (load_whole (u64s_lenh (aL_len _ _))) (u64s_lenh (aL_len _ _)) fun ac1080 En1081 => ?_
   refine f_o ?_
   refine c_p En1081 Hv1077 (ymul_go _ (aL (mL (sL a b) (aL c d)) (mL (aL a b) (sL c d))) (aL (mL (sL a b) (aL c d)) (mL (aL a b) (sL c d))) (aL_len _ _) (aL_len _ _)) fun ac1086 wo1083 En1087 Hv1088 => ?_
   refine f_o ?_
   refine m_g 2 0 4 (u64s (mL (aL (mL (sL a b) (aL c d)) (mL (aL a b) (sL c d))) (aL (mL (sL a b) (aL c d)) (mL (aL a b) (sL c d))))) (u64s (mL (aL (mL (sL a b) (aL c d)) (mL (aL a b) (sL c d))) (aL (mL (sL a b) (aL c d)) (mL (aL a b) (sL c d))))) [.box bk90 (u64s c) 33, .box bk101 (u64s d) 33, .box bk112 (u64s (mL (aL (mL (sL a b) (aL c d)) (mL (aL a b) (sL c d))) (aL (mL (sL a b) (aL c d)) (mL (aL a b) (sL c d))))) 33, .box bk123 (u64s b) 33, .box bk1 (bys (clD k)) 22, .box bk6 (bys (clU u)) 22, .box bk11 (bys (List.replicate 32 0)) 22, .box bk61 (u64s (nd (lv (clD k)))) 33, .box bk79 (u64s (xD u)) 33, .box bk197 (u64s (aL c d)) 33, .box bk217 (u64s (sL c d)) 33, .box bk237 (u64s (mL (aL c d) (aL c d))) 33, .box bk257 (u64s (mL (sL c d) (sL c d))) 33, .box bk277 (u64s (sL (mL (aL c d) (aL c d)) (mL (sL c d) (sL c d)))) 33, .box bk522 (u64s (mL (sL a b) (aL c d))) 33, .box bk898 (u64s (mL (aL a b) (sL c d))) 33, .box bk1049 (u64s (aL (mL (sL a b) (aL c d)) (mL (aL a b) (sL c d)))) 33, .box bk1069 (u64s (sL (mL (sL a b) (aL c d)) (mL (aL a b) (sL c d)))) 33] En1087 Hv1088 rfl (u64s_lenh (mL_len _ _)) (by rw [(u64s_lenh hla)]; decide) (u64s_one _) (store_whole (u64s_lenh hla)) rfl fun ac1089 wo1090 En1091 Hv1092 => ?_
   refine f_e ?_
   refine then_normal ?_
   refine wp_seq ?_
   refine r_c (fun ac wo => Env ac 120 [(2, pt bk1), (3, pt bk6), (4, pt bk11), (5, pt bk61), (6, pt bk79), (7, pt bk90), (8, pt bk101), (9, pt bk112), (10, pt bk123), (11, ni (q - 1)), (12, .bool true), (13, pt bk197), (14, pt bk217), (15, pt bk237), (16, pt bk257), (17, pt bk277), (18, pt bk522), (19, pt bk898), (20, pt bk1049), (21, pt bk1069)] ∧ Ev w [] wo [.box bk90 (u64s c) 33, .box bk101 (u64s d) 33, .box bk112 (u64s (mL (aL (mL (sL a b) (aL c d)) (mL (aL a b) (sL c d))) (aL (mL (sL a b) (aL c d)) (mL (aL a b) (sL c d))))) 33, .box bk123 (u64s (mL (xD u) (mL (sL (mL (sL a b) (aL c d)) (mL (aL a b) (sL c d))) (sL (mL (sL a b) (aL c d)) (mL (aL a b) (sL c d)))))) 33, .box bk1 (bys (clD k)) 22, .box bk6 (bys (clU u)) 22, .box bk11 (bys (List.replicate 32 0)) 22, .box bk61 (u64s (nd (lv (clD k)))) 33, .box bk79 (u64s (xD u)) 33, .box bk197 (u64s (aL c d)) 33, .box bk217 (u64s (sL c d)) 33, .box bk237 (u64s (mL (aL c d) (aL c d))) 33, .box bk257 (u64s (mL (sL c d) (sL c d))) 33, .box bk277 (u64s (sL (mL (aL c d) (aL c d)) (mL (sL c d) (sL c d)))) 33, .box bk522 (u64s (mL (sL a b) (aL c d))) 33, .box bk898 (u64s (mL (aL a b) (sL c d))) 33, .box bk1049 (u64s (aL (mL (sL a b) (aL c d)) (mL (aL a b) (sL c d)))) 33, .box bk1069 (u64s (sL (mL (sL a b) (aL c d)) (mL (aL a b) (sL c d)))) 33]) ?_ ?_
   ·
    refine h_s (fun wv => Ev w [] wv [.box bk79 (u64s (xD u)) 33, .box bk1069 (u64s (sL (mL (sL a b) (aL c d)) (mL (aL a b) (sL c d)))) 33]) [] 6 ?_
    have wo1093 := Hv1092.trans (Ev.drew Hv1092.heap)
    refine q_r 0 (s := Instr.loadAt 33 (pt bk79)) (v := .agg (List.toArray (u64s (xD u)))) En1091 (fun w hS => run_loadAgg2 (m := 4) (cs := u64s (xD u)) (u64s_lenh (xD_len _)) (by kernel_rfl) (by kernel_rfl) (hS.heap.cells (k := 0) (off := 0) (m := 4) rfl (load_whole (u64s_lenh (xD_len _))))) (wo1093.pk [8, 17]) fun ac1216 En1217 => ?_
    refine q_r 1 (s := Instr.loadAt 33 (pt bk1069)) (v := .agg (List.toArray (u64s (sL (mL (sL a b) (aL c d)) (mL (aL a b) (sL c d)))))) En1217 (fun w hS => run_loadAgg2 (m := 4) (cs := u64s (sL (mL (sL a b) (aL c d)) (mL (aL a b) (sL c d)))) (u64s_lenh (sL_len _ _)) (by kernel_rfl) (by kernel_rfl) (hS.heap.cells (k := 1) (off := 0) (m := 4) rfl (load_whole (u64s_lenh (sL_len _ _))))) (wo1093.pk [8, 17]) fun ac1218 En1219 => ?_
    refine q_r 2 (s := Instr.loadAt 33 (pt bk1069)) (v := .agg (List.toArray (u64s (sL (mL (sL a b) (aL c d)) (mL (aL a b) (sL c d)))))) En1219 (fun w hS => run_loadAgg2 (m := 4) (cs := u64s (sL (mL (sL a b) (aL c d)) (mL (aL a b) (sL c d)))) (u64s_lenh (sL_len _ _)) (by kernel_rfl) (by kernel_rfl) (hS.heap.cells (k := 1) (off := 0) (m := 4) rfl (load_whole (u64s_lenh (sL_len _ _))))) (wo1093.pk [8, 17]) fun ac1220 En1221 => ?_
    refine q_t 3 ?_
    refine c_p En1221 wo1093 (ymul_go _ (sL (mL (sL a b) (aL c d)) (mL (aL a b) (sL c d))) (sL (mL (sL a b) (aL c d)) (mL (aL a b) (sL c d))) (sL_len _ _) (sL_len _ _)) fun ac1226 wo1223 En1227 Hv1228 => ?_
    refine ⟨fun _ => Hv1228.pk [8, 17], ?_⟩
    refine q_t 4 ?_
    refine c_p En1227 Hv1228 (ymul_go _ (xD u) (mL (sL (mL (sL a b) (aL c d)) (mL (aL a b) (sL c d))) (sL (mL (sL a b) (aL c d)) (mL (aL a b) (sL c d)))) (xD_len _) (mL_len _ _)) fun ac1233 wo1230 En1234 Hv1235 => ?_
    refine ⟨fun _ => Hv1235.pk [8, 17], ?_⟩
    refine q_t 5 ?_
    refine m_g 3 0 4 (u64s (mL (xD u) (mL (sL (mL (sL a b) (aL c d)) (mL (aL a b) (sL c d))) (sL (mL (sL a b) (aL c d)) (mL (aL a b) (sL c d)))))) (u64s (mL (xD u) (mL (sL (mL (sL a b) (aL c d)) (mL (aL a b) (sL c d))) (sL (mL (sL a b) (aL c d)) (mL (aL a b) (sL c d)))))) [.box bk90 (u64s c) 33, .box bk101 (u64s d) 33, .box bk112 (u64s (mL (aL (mL (sL a b) (aL c d)) (mL (aL a b) (sL c d))) (aL (mL (sL a b) (aL c d)) (mL (aL a b) (sL c d))))) 33, .box bk123 (u64s (mL (xD u) (mL (sL (mL (sL a b) (aL c d)) (mL (aL a b) (sL c d))) (sL (mL (sL a b) (aL c d)) (mL (aL a b) (sL c d)))))) 33, .box bk1 (bys (clD k)) 22, .box bk6 (bys (clU u)) 22, .box bk11 (bys (List.replicate 32 0)) 22, .box bk61 (u64s (nd (lv (clD k)))) 33, .box bk79 (u64s (xD u)) 33, .box bk197 (u64s (aL c d)) 33, .box bk217 (u64s (sL c d)) 33, .box bk237 (u64s (mL (aL c d) (aL c d))) 33, .box bk257 (u64s (mL (sL c d) (sL c d))) 33, .box bk277 (u64s (sL (mL (aL c d) (aL c d)) (mL (sL c d) (sL c d)))) 33, .box bk522 (u64s (mL (sL a b) (aL c d))) 33, .box bk898 (u64s (mL (aL a b) (sL c d))) 33, .box bk1049 (u64s (aL (mL (sL a b) (aL c d)) (mL (aL a b) (sL c d)))) 33, .box bk1069 (u64s (sL (mL (sL a b) (aL c d)) (mL (aL a b) (sL c d)))) 33] En1234 Hv1235 rfl (u64s_lenh (mL_len _ _)) (by rw [(u64s_lenh hlb)]; decide) (u64s_one _) (store_whole (u64s_lenh hlb)) rfl fun ac1236 wo1237 En1238 Hv1239 => ?_
    refine ⟨fun _ => Hv1239.pk [8, 17], ?_⟩
    exact h_e ⟨En1238.sb, Hv1239.pk [0, 1, 2, 3, 4, 5, 6, 7, 8, 9, 10, 11, 12, 13, 14, 15, 16, 17]⟩
   rintro ac1240 wo1241 ⟨En1242, Hv1243⟩
   refine then_normal ?_
   refine wp_seq ?_
   refine region_from ?_
   refine f_o ?_
   refine m_a 11 0 4 (u64s (mL (aL c d) (aL c d))) En1242 Hv1243 rfl (load_whole (u64s_lenh (mL_len _ _))) (u64s_lenh (mL_len _ _)) fun ac1244 En1245 => ?_
   refine f_o ?_
   refine m_a 12 0 4 (u64s (mL (sL c d) (sL c d))) En1245 Hv1243 rfl (load_whole (u64s_lenh (mL_len _ _))) (u64s_lenh (mL_len _ _)) fun ac1246 En1247 => ?_
   refine f_o ?_
   refine c_p En1247 Hv1243 (ymul_go _ (mL (aL c d) (aL c d)) (mL (sL c d) (sL c d)) (mL_len _ _) (mL_len _ _)) fun ac1252 wo1249 En1253 Hv1254 => ?_
   refine f_o ?_
   refine m_g 0 0 4 (u64s (mL (mL (aL c d) (aL c d)) (mL (sL c d) (sL c d)))) (u64s (mL (mL (aL c d) (aL c d)) (mL (sL c d) (sL c d)))) [.box bk90 (u64s (mL (mL (aL c d) (aL c d)) (mL (sL c d) (sL c d)))) 33, .box bk101 (u64s d) 33, .box bk112 (u64s (mL (aL (mL (sL a b) (aL c d)) (mL (aL a b) (sL c d))) (aL (mL (sL a b) (aL c d)) (mL (aL a b) (sL c d))))) 33, .box bk123 (u64s (mL (xD u) (mL (sL (mL (sL a b) (aL c d)) (mL (aL a b) (sL c d))) (sL (mL (sL a b) (aL c d)) (mL (aL a b) (sL c d)))))) 33, .box bk1 (bys (clD k)) 22, .box bk6 (bys (clU u)) 22, .box bk11 (bys (List.replicate 32 0)) 22, .box bk61 (u64s (nd (lv (clD k)))) 33, .box bk79 (u64s (xD u)) 33, .box bk197 (u64s (aL c d)) 33, .box bk217 (u64s (sL c d)) 33, .box bk237 (u64s (mL (aL c d) (aL c d))) 33, .box bk257 (u64s (mL (sL c d) (sL c d))) 33, .box bk277 (u64s (sL (mL (aL c d) (aL c d)) (mL (sL c d) (sL c d)))) 33, .box bk522 (u64s (mL (sL a b) (aL c d))) 33, .box bk898 (u64s (mL (aL a b) (sL c d))) 33, .box bk1049 (u64s (aL (mL (sL a b) (aL c d)) (mL (aL a b) (sL c d)))) 33, .box bk1069 (u64s (sL (mL (sL a b) (aL c d)) (mL (aL a b) (sL c d)))) 33] En1253 Hv1254 rfl (u64s_lenh (mL_len _ _)) (by rw [(u64s_lenh hlc)]; decide) (u64s_one _) (store_whole (u64s_lenh hlc)) rfl fun ac1255 wo1256 En1257 Hv1258 => ?_
   refine f_e ?_
   refine then_normal ?_
   refine wp_seq ?_
   refine r_c (fun ac wo => Env ac 120 [(2, pt bk1), (3, pt bk6), (4, pt bk11), (5, pt bk61), (6, pt bk79), (7, pt bk90), (8, pt bk101), (9, pt bk112), (10, pt bk123), (11, ni (q - 1)), (12, .bool true), (13, pt bk197), (14, pt bk217), (15, pt bk237), (16, pt bk257), (17, pt bk277), (18, pt bk522), (19, pt bk898), (20, pt bk1049), (21, pt bk1069)] ∧ Ev w [] wo [.box bk90 (u64s (mL (mL (aL c d) (aL c d)) (mL (sL c d) (sL c d)))) 33, .box bk101 (u64s (mL (sL (mL (aL c d) (aL c d)) (mL (sL c d) (sL c d))) (aL (mL (aL c d) (aL c d)) (mL ([121665, 0, 0, 0] : List UInt64) (sL (mL (aL c d) (aL c d)) (mL (sL c d) (sL c d))))))) 33, .box bk112 (u64s (mL (aL (mL (sL a b) (aL c d)) (mL (aL a b) (sL c d))) (aL (mL (sL a b) (aL c d)) (mL (aL a b) (sL c d))))) 33, .box bk123 (u64s (mL (xD u) (mL (sL (mL (sL a b) (aL c d)) (mL (aL a b) (sL c d))) (sL (mL (sL a b) (aL c d)) (mL (aL a b) (sL c d)))))) 33, .box bk1 (bys (clD k)) 22, .box bk6 (bys (clU u)) 22, .box bk11 (bys (List.replicate 32 0)) 22, .box bk61 (u64s (nd (lv (clD k)))) 33, .box bk79 (u64s (xD u)) 33, .box bk197 (u64s (aL c d)) 33, .box bk217 (u64s (sL c d)) 33, .box bk237 (u64s (mL (aL c d) (aL c d))) 33, .box bk257 (u64s (mL (sL c d) (sL c d))) 33, .box bk277 (u64s (sL (mL (aL c d) (aL c d)) (mL (sL c d) (sL c d)))) 33, .box bk522 (u64s (mL (sL a b) (aL c d))) 33, .box bk898 (u64s (mL (aL a b) (sL c d))) 33, .box bk1049 (u64s (aL (mL (sL a b) (aL c d)) (mL (aL a b) (sL c d)))) 33, .box bk1069 (u64s (sL (mL (sL a b) (aL c d)) (mL (aL a b) (sL c d)))) 33]) ?_ ?_
   ·
    refine h_s (fun wv => Ev w [] wv [.box bk237 (u64s (mL (aL c d) (aL c d))) 33, .box bk277 (u64s (sL (mL (aL c d) (aL c d)) (mL (sL c d) (sL c d)))) 33]) [] 8 ?_
    have wo1259 := Hv1258.trans (Ev.drew Hv1258.heap)
    refine q_r 0 (s := Instr.loadAt 33 (pt bk277)) (v := .agg (List.toArray (u64s (sL (mL (aL c d) (aL c d)) (mL (sL c d) (sL c d)))))) En1257 (fun w hS => run_loadAgg2 (m := 4) (cs := u64s (sL (mL (aL c d) (aL c d)) (mL (sL c d) (sL c d)))) (u64s_lenh (sL_len _ _)) (by kernel_rfl) (by kernel_rfl) (hS.heap.cells (k := 1) (off := 0) (m := 4) rfl (load_whole (u64s_lenh (sL_len _ _))))) (wo1259.pk [11, 13]) fun ac1454 En1455 => ?_
    refine q_r 1 (s := Instr.loadAt 33 (pt bk237)) (v := .agg (List.toArray (u64s (mL (aL c d) (aL c d))))) En1455 (fun w hS => run_loadAgg2 (m := 4) (cs := u64s (mL (aL c d) (aL c d))) (u64s_lenh (mL_len _ _)) (by kernel_rfl) (by kernel_rfl) (hS.heap.cells (k := 0) (off := 0) (m := 4) rfl (load_whole (u64s_lenh (mL_len _ _))))) (wo1259.pk [11, 13]) fun ac1456 En1457 => ?_
    refine q_s [2] [] 5 En1457 (wo1259.pk [11, 13]) fun ac1458 En1459 => ?_
    refine q_r 3 (s := Instr.loadAt 33 (pt bk277)) (v := .agg (List.toArray (u64s (sL (mL (aL c d) (aL c d)) (mL (sL c d) (sL c d)))))) En1459 (fun w hS => run_loadAgg2 (m := 4) (cs := u64s (sL (mL (aL c d) (aL c d)) (mL (sL c d) (sL c d)))) (u64s_lenh (sL_len _ _)) (by kernel_rfl) (by kernel_rfl) (hS.heap.cells (k := 1) (off := 0) (m := 4) rfl (load_whole (u64s_lenh (sL_len _ _))))) (wo1259.pk [11, 13]) fun ac1460 En1461 => ?_
    refine q_t 4 ?_
    refine c_p En1461 wo1259 (ymul_go _ ([121665, 0, 0, 0] : List UInt64) (sL (mL (aL c d) (aL c d)) (mL (sL c d) (sL c d))) (show List.length ([121665, 0, 0, 0] : List UInt64) = 4 from rfl) (sL_len _ _)) fun ac1466 wo1463 En1467 Hv1468 => ?_
    refine ⟨fun _ => Hv1468.pk [11, 13], ?_⟩
    refine q_t 5 ?_
    refine c_p En1467 Hv1468 (yadd_go _ (mL (aL c d) (aL c d)) (mL ([121665, 0, 0, 0] : List UInt64) (sL (mL (aL c d) (aL c d)) (mL (sL c d) (sL c d)))) (mL_len _ _) (mL_len _ _)) fun ac1473 wo1470 En1474 Hv1475 => ?_
    refine ⟨fun _ => Hv1475.pk [11, 13], ?_⟩
    refine q_t 6 ?_
    refine c_p En1474 Hv1475 (ymul_go _ (sL (mL (aL c d) (aL c d)) (mL (sL c d) (sL c d))) (aL (mL (aL c d) (aL c d)) (mL ([121665, 0, 0, 0] : List UInt64) (sL (mL (aL c d) (aL c d)) (mL (sL c d) (sL c d))))) (sL_len _ _) (aL_len _ _)) fun ac1480 wo1477 En1481 Hv1482 => ?_
    refine ⟨fun _ => Hv1482.pk [11, 13], ?_⟩
    refine q_t 7 ?_
    refine m_g 1 0 4 (u64s (mL (sL (mL (aL c d) (aL c d)) (mL (sL c d) (sL c d))) (aL (mL (aL c d) (aL c d)) (mL ([121665, 0, 0, 0] : List UInt64) (sL (mL (aL c d) (aL c d)) (mL (sL c d) (sL c d))))))) (u64s (mL (sL (mL (aL c d) (aL c d)) (mL (sL c d) (sL c d))) (aL (mL (aL c d) (aL c d)) (mL ([121665, 0, 0, 0] : List UInt64) (sL (mL (aL c d) (aL c d)) (mL (sL c d) (sL c d))))))) [.box bk90 (u64s (mL (mL (aL c d) (aL c d)) (mL (sL c d) (sL c d)))) 33, .box bk101 (u64s (mL (sL (mL (aL c d) (aL c d)) (mL (sL c d) (sL c d))) (aL (mL (aL c d) (aL c d)) (mL ([121665, 0, 0, 0] : List UInt64) (sL (mL (aL c d) (aL c d)) (mL (sL c d) (sL c d))))))) 33, .box bk112 (u64s (mL (aL (mL (sL a b) (aL c d)) (mL (aL a b) (sL c d))) (aL (mL (sL a b) (aL c d)) (mL (aL a b) (sL c d))))) 33, .box bk123 (u64s (mL (xD u) (mL (sL (mL (sL a b) (aL c d)) (mL (aL a b) (sL c d))) (sL (mL (sL a b) (aL c d)) (mL (aL a b) (sL c d)))))) 33, .box bk1 (bys (clD k)) 22, .box bk6 (bys (clU u)) 22, .box bk11 (bys (List.replicate 32 0)) 22, .box bk61 (u64s (nd (lv (clD k)))) 33, .box bk79 (u64s (xD u)) 33, .box bk197 (u64s (aL c d)) 33, .box bk217 (u64s (sL c d)) 33, .box bk237 (u64s (mL (aL c d) (aL c d))) 33, .box bk257 (u64s (mL (sL c d) (sL c d))) 33, .box bk277 (u64s (sL (mL (aL c d) (aL c d)) (mL (sL c d) (sL c d)))) 33, .box bk522 (u64s (mL (sL a b) (aL c d))) 33, .box bk898 (u64s (mL (aL a b) (sL c d))) 33, .box bk1049 (u64s (aL (mL (sL a b) (aL c d)) (mL (aL a b) (sL c d)))) 33, .box bk1069 (u64s (sL (mL (sL a b) (aL c d)) (mL (aL a b) (sL c d)))) 33] En1481 Hv1482 rfl (u64s_lenh (mL_len _ _)) (by rw [(u64s_lenh hld)]; decide) (u64s_one _) (store_whole (u64s_lenh hld)) rfl fun ac1483 wo1484 En1485 Hv1486 => ?_
    refine ⟨fun _ => Hv1486.pk [11, 13], ?_⟩
    exact h_e ⟨En1485.sb, Hv1486.pk [0, 1, 2, 3, 4, 5, 6, 7, 8, 9, 10, 11, 12, 13, 14, 15, 16, 17]⟩
   rintro ac1487 wo1488 ⟨En1489, Hv1490⟩
   refine then_normal ?_
   refine wp_seq ?_
   refine d_r [2,3,4,5,6,7,8,9,10,11,12,13,14,15,16,17,18,19,20,21,110] [] En1489 fun ac1491 En1492 => ?_
   refine then_normal ?_
   refine c_t En1492 ?_
   refine wp_seq ?_
   refine region_from ?_
   refine f_o ?_
   refine m_a 2 0 4 (u64s (mL (aL (mL (sL a b) (aL c d)) (mL (aL a b) (sL c d))) (aL (mL (sL a b) (aL c d)) (mL (aL a b) (sL c d))))) En1492 Hv1490 rfl (load_whole (u64s_lenh (mL_len _ _))) (u64s_lenh (mL_len _ _)) fun ac1493 En1494 => ?_
   refine f_o ?_
   refine m_a 0 0 4 (u64s (mL (mL (aL c d) (aL c d)) (mL (sL c d) (sL c d)))) En1494 Hv1490 rfl (load_whole (u64s_lenh (mL_len _ _))) (u64s_lenh (mL_len _ _)) fun ac1495 En1496 => ?_
   refine f_o ?_
   refine m_g 0 0 4 (u64s (mL (aL (mL (sL a b) (aL c d)) (mL (aL a b) (sL c d))) (aL (mL (sL a b) (aL c d)) (mL (aL a b) (sL c d))))) (u64s (mL (aL (mL (sL a b) (aL c d)) (mL (aL a b) (sL c d))) (aL (mL (sL a b) (aL c d)) (mL (aL a b) (sL c d))))) [.box bk90 (u64s (mL (aL (mL (sL a b) (aL c d)) (mL (aL a b) (sL c d))) (aL (mL (sL a b) (aL c d)) (mL (aL a b) (sL c d))))) 33, .box bk101 (u64s (mL (sL (mL (aL c d) (aL c d)) (mL (sL c d) (sL c d))) (aL (mL (aL c d) (aL c d)) (mL ([121665, 0, 0, 0] : List UInt64) (sL (mL (aL c d) (aL c d)) (mL (sL c d) (sL c d))))))) 33, .box bk112 (u64s (mL (aL (mL (sL a b) (aL c d)) (mL (aL a b) (sL c d))) (aL (mL (sL a b) (aL c d)) (mL (aL a b) (sL c d))))) 33, .box bk123 (u64s (mL (xD u) (mL (sL (mL (sL a b) (aL c d)) (mL (aL a b) (sL c d))) (sL (mL (sL a b) (aL c d)) (mL (aL a b) (sL c d)))))) 33, .box bk1 (bys (clD k)) 22, .box bk6 (bys (clU u)) 22, .box bk11 (bys (List.replicate 32 0)) 22, .box bk61 (u64s (nd (lv (clD k)))) 33, .box bk79 (u64s (xD u)) 33, .box bk197 (u64s (aL c d)) 33, .box bk217 (u64s (sL c d)) 33, .box bk237 (u64s (mL (aL c d) (aL c d))) 33, .box bk257 (u64s (mL (sL c d) (sL c d))) 33, .box bk277 (u64s (sL (mL (aL c d) (aL c d)) (mL (sL c d) (sL c d)))) 33, .box bk522 (u64s (mL (sL a b) (aL c d))) 33, .box bk898 (u64s (mL (aL a b) (sL c d))) 33, .box bk1049 (u64s (aL (mL (sL a b) (aL c d)) (mL (aL a b) (sL c d)))) 33, .box bk1069 (u64s (sL (mL (sL a b) (aL c d)) (mL (aL a b) (sL c d)))) 33] En1496 Hv1490 rfl (u64s_lenh (mL_len _ _)) (by rw [(u64s_lenh (mL_len _ _))]; decide) (u64s_one _) (store_whole (u64s_lenh (mL_len _ _))) rfl fun ac1497 wo1498 En1499 Hv1500 => ?_
   refine f_o ?_
   refine m_g 2 0 4 (u64s (mL (mL (aL c d) (aL c d)) (mL (sL c d) (sL c d)))) (u64s (mL (mL (aL c d) (aL c d)) (mL (sL c d) (sL c d)))) [.box bk90 (u64s (mL (aL (mL (sL a b) (aL c d)) (mL (aL a b) (sL c d))) (aL (mL (sL a b) (aL c d)) (mL (aL a b) (sL c d))))) 33, .box bk101 (u64s (mL (sL (mL (aL c d) (aL c d)) (mL (sL c d) (sL c d))) (aL (mL (aL c d) (aL c d)) (mL ([121665, 0, 0, 0] : List UInt64) (sL (mL (aL c d) (aL c d)) (mL (sL c d) (sL c d))))))) 33, .box bk112 (u64s (mL (mL (aL c d) (aL c d)) (mL (sL c d) (sL c d)))) 33, .box bk123 (u64s (mL (xD u) (mL (sL (mL (sL a b) (aL c d)) (mL (aL a b) (sL c d))) (sL (mL (sL a b) (aL c d)) (mL (aL a b) (sL c d)))))) 33, .box bk1 (bys (clD k)) 22, .box bk6 (bys (clU u)) 22, .box bk11 (bys (List.replicate 32 0)) 22, .box bk61 (u64s (nd (lv (clD k)))) 33, .box bk79 (u64s (xD u)) 33, .box bk197 (u64s (aL c d)) 33, .box bk217 (u64s (sL c d)) 33, .box bk237 (u64s (mL (aL c d) (aL c d))) 33, .box bk257 (u64s (mL (sL c d) (sL c d))) 33, .box bk277 (u64s (sL (mL (aL c d) (aL c d)) (mL (sL c d) (sL c d)))) 33, .box bk522 (u64s (mL (sL a b) (aL c d))) 33, .box bk898 (u64s (mL (aL a b) (sL c d))) 33, .box bk1049 (u64s (aL (mL (sL a b) (aL c d)) (mL (aL a b) (sL c d)))) 33, .box bk1069 (u64s (sL (mL (sL a b) (aL c d)) (mL (aL a b) (sL c d)))) 33] En1499 Hv1500 rfl (u64s_lenh (mL_len _ _)) (by rw [(u64s_lenh (mL_len _ _))]; decide) (u64s_one _) (store_whole (u64s_lenh (mL_len _ _))) rfl fun ac1501 wo1502 En1503 Hv1504 => ?_
   refine f_e ?_
   refine then_normal ?_
   refine region_from ?_
   refine f_o ?_
   refine m_a 3 0 4 (u64s (mL (xD u) (mL (sL (mL (sL a b) (aL c d)) (mL (aL a b) (sL c d))) (sL (mL (sL a b) (aL c d)) (mL (aL a b) (sL c d)))))) En1503 Hv1504 rfl (load_whole (u64s_lenh (mL_len _ _))) (u64s_lenh (mL_len _ _)) fun ac1505 En1506 => ?_
   refine f_o ?_
   refine m_a 1 0 4 (u64s (mL (sL (mL (aL c d) (aL c d)) (mL (sL c d) (sL c d))) (aL (mL (aL c d) (aL c d)) (mL ([121665, 0, 0, 0] : List UInt64) (sL (mL (aL c d) (aL c d)) (mL (sL c d) (sL c d))))))) En1506 Hv1504 rfl (load_whole (u64s_lenh (mL_len _ _))) (u64s_lenh (mL_len _ _)) fun ac1507 En1508 => ?_
   refine f_o ?_
   refine m_g 1 0 4 (u64s (mL (xD u) (mL (sL (mL (sL a b) (aL c d)) (mL (aL a b) (sL c d))) (sL (mL (sL a b) (aL c d)) (mL (aL a b) (sL c d)))))) (u64s (mL (xD u) (mL (sL (mL (sL a b) (aL c d)) (mL (aL a b) (sL c d))) (sL (mL (sL a b) (aL c d)) (mL (aL a b) (sL c d)))))) [.box bk90 (u64s (mL (aL (mL (sL a b) (aL c d)) (mL (aL a b) (sL c d))) (aL (mL (sL a b) (aL c d)) (mL (aL a b) (sL c d))))) 33, .box bk101 (u64s (mL (xD u) (mL (sL (mL (sL a b) (aL c d)) (mL (aL a b) (sL c d))) (sL (mL (sL a b) (aL c d)) (mL (aL a b) (sL c d)))))) 33, .box bk112 (u64s (mL (mL (aL c d) (aL c d)) (mL (sL c d) (sL c d)))) 33, .box bk123 (u64s (mL (xD u) (mL (sL (mL (sL a b) (aL c d)) (mL (aL a b) (sL c d))) (sL (mL (sL a b) (aL c d)) (mL (aL a b) (sL c d)))))) 33, .box bk1 (bys (clD k)) 22, .box bk6 (bys (clU u)) 22, .box bk11 (bys (List.replicate 32 0)) 22, .box bk61 (u64s (nd (lv (clD k)))) 33, .box bk79 (u64s (xD u)) 33, .box bk197 (u64s (aL c d)) 33, .box bk217 (u64s (sL c d)) 33, .box bk237 (u64s (mL (aL c d) (aL c d))) 33, .box bk257 (u64s (mL (sL c d) (sL c d))) 33, .box bk277 (u64s (sL (mL (aL c d) (aL c d)) (mL (sL c d) (sL c d)))) 33, .box bk522 (u64s (mL (sL a b) (aL c d))) 33, .box bk898 (u64s (mL (aL a b) (sL c d))) 33, .box bk1049 (u64s (aL (mL (sL a b) (aL c d)) (mL (aL a b) (sL c d)))) 33, .box bk1069 (u64s (sL (mL (sL a b) (aL c d)) (mL (aL a b) (sL c d)))) 33] En1508 Hv1504 rfl (u64s_lenh (mL_len _ _)) (by rw [(u64s_lenh (mL_len _ _))]; decide) (u64s_one _) (store_whole (u64s_lenh (mL_len _ _))) rfl fun ac1509 wo1510 En1511 Hv1512 => ?_
   refine f_o ?_
   refine m_g 3 0 4 (u64s (mL (sL (mL (aL c d) (aL c d)) (mL (sL c d) (sL c d))) (aL (mL (aL c d) (aL c d)) (mL ([121665, 0, 0, 0] : List UInt64) (sL (mL (aL c d) (aL c d)) (mL (sL c d) (sL c d))))))) (u64s (mL (sL (mL (aL c d) (aL c d)) (mL (sL c d) (sL c d))) (aL (mL (aL c d) (aL c d)) (mL ([121665, 0, 0, 0] : List UInt64) (sL (mL (aL c d) (aL c d)) (mL (sL c d) (sL c d))))))) [.box bk90 (u64s (mL (aL (mL (sL a b) (aL c d)) (mL (aL a b) (sL c d))) (aL (mL (sL a b) (aL c d)) (mL (aL a b) (sL c d))))) 33, .box bk101 (u64s (mL (xD u) (mL (sL (mL (sL a b) (aL c d)) (mL (aL a b) (sL c d))) (sL (mL (sL a b) (aL c d)) (mL (aL a b) (sL c d)))))) 33, .box bk112 (u64s (mL (mL (aL c d) (aL c d)) (mL (sL c d) (sL c d)))) 33, .box bk123 (u64s (mL (sL (mL (aL c d) (aL c d)) (mL (sL c d) (sL c d))) (aL (mL (aL c d) (aL c d)) (mL ([121665, 0, 0, 0] : List UInt64) (sL (mL (aL c d) (aL c d)) (mL (sL c d) (sL c d))))))) 33, .box bk1 (bys (clD k)) 22, .box bk6 (bys (clU u)) 22, .box bk11 (bys (List.replicate 32 0)) 22, .box bk61 (u64s (nd (lv (clD k)))) 33, .box bk79 (u64s (xD u)) 33, .box bk197 (u64s (aL c d)) 33, .box bk217 (u64s (sL c d)) 33, .box bk237 (u64s (mL (aL c d) (aL c d))) 33, .box bk257 (u64s (mL (sL c d) (sL c d))) 33, .box bk277 (u64s (sL (mL (aL c d) (aL c d)) (mL (sL c d) (sL c d)))) 33, .box bk522 (u64s (mL (sL a b) (aL c d))) 33, .box bk898 (u64s (mL (aL a b) (sL c d))) 33, .box bk1049 (u64s (aL (mL (sL a b) (aL c d)) (mL (aL a b) (sL c d)))) 33, .box bk1069 (u64s (sL (mL (sL a b) (aL c d)) (mL (aL a b) (sL c d)))) 33] En1511 Hv1512 rfl (u64s_lenh (mL_len _ _)) (by rw [(u64s_lenh (mL_len _ _))]; decide) (u64s_one _) (store_whole (u64s_lenh (mL_len _ _))) rfl fun ac1513 wo1514 En1515 Hv1516 => ?_
   refine f_e ?_
   refine block_normal ?_
   refine then_normal ?_
   refine d_r [2,3,4,5,6,7,8,9,10,11,12,13,14,15,16,17,18,19,20,21] [(1, g_n (w_r (e := ((q - 1 : Nat) : Int) - (1 : Int)) (x := ((q - 1 : Nat) : Int) - (1 : Int)) (by omega)))] En1515 fun ac1517 En1518 => ?_
   refine then_normal ?_
   refine ⟨_, ⟨q - 1, (mL (aL (mL (sL a b) (aL c d)) (mL (aL a b) (sL c d))) (aL (mL (sL a b) (aL c d)) (mL (aL a b) (sL c d)))), (mL (xD u) (mL (sL (mL (sL a b) (aL c d)) (mL (aL a b) (sL c d))) (sL (mL (sL a b) (aL c d)) (mL (aL a b) (sL c d))))), (mL (mL (aL c d) (aL c d)) (mL (sL c d) (sL c d))), (mL (sL (mL (aL c d) (aL c d)) (mL (sL c d) (sL c d))) (aL (mL (aL c d) (aL c d)) (mL ([121665, 0, 0, 0] : List UInt64) (sL (mL (aL c d) (aL c d)) (mL (sL c d) (sL c d)))))), rfl, En1518.sb, Hv1516.pk [0, 1, 2, 3, 4, 5, 6, 7, 8], by omega, (mL_len _ _), (mL_len _ _), (mL_len _ _), (mL_len _ _), lad_yes hlad (by omega) (by rw [hj]; exact bit_1' hbv (by assumption))⟩, ?_⟩
   omega
  ·
   have En1519 := En159.fx (t := 12) (congrArg Value.bool (beq_eq_false_iff_ne.2 hc160))
   refine wp_skip ?_
   refine then_normal ?_
   refine wp_seq ?_
   refine region_from ?_
   refine f_o ?_
   refine m_a 0 0 4 (u64s a) En1519 Hv139 rfl (load_whole (u64s_lenh hla)) (u64s_lenh hla) fun ac1520 En1521 => ?_
   refine f_o ?_
   refine m_a 1 0 4 (u64s b) En1521 Hv139 rfl (load_whole (u64s_lenh hlb)) (u64s_lenh hlb) fun ac1522 En1523 => ?_
   refine f_o ?_
   refine c_p En1523 Hv139 (yadd_go _ a b hla hlb) fun ac1528 wo1525 En1529 Hv1530 => ?_
   refine f_o ?_
   refine m_z 33 (u64s (List.replicate 4 0)) En1529 Hv1530 fun ac1532 wo1533 bk1531 En1534 Hv1535 => ?_
   refine f_o ?_
   refine m_g 9 0 4 (u64s (aL a b)) (u64s (aL a b)) [.box bk90 (u64s a) 33, .box bk101 (u64s b) 33, .box bk112 (u64s c) 33, .box bk123 (u64s d) 33, .box bk1 (bys (clD k)) 22, .box bk6 (bys (clU u)) 22, .box bk11 (bys (List.replicate 32 0)) 22, .box bk61 (u64s (nd (lv (clD k)))) 33, .box bk79 (u64s (xD u)) 33, .box bk1531 (u64s (aL a b)) 33] En1534 Hv1535 rfl (u64s_lenh (aL_len _ _)) (by rw [(u64s_lenh (List.length_replicate))]; decide) (u64s_one _) (store_whole (u64s_lenh (List.length_replicate))) rfl fun ac1536 wo1537 En1538 Hv1539 => ?_
   refine f_e ?_
   refine then_normal ?_
   refine wp_seq ?_
   refine region_from ?_
   refine f_o ?_
   refine m_a 0 0 4 (u64s a) En1538 Hv1539 rfl (load_whole (u64s_lenh hla)) (u64s_lenh hla) fun ac1540 En1541 => ?_
   refine f_o ?_
   refine m_a 1 0 4 (u64s b) En1541 Hv1539 rfl (load_whole (u64s_lenh hlb)) (u64s_lenh hlb) fun ac1542 En1543 => ?_
   refine f_o ?_
   refine c_p En1543 Hv1539 (ysub_go _ a b hla hlb) fun ac1548 wo1545 En1549 Hv1550 => ?_
   refine f_o ?_
   refine m_z 33 (u64s (List.replicate 4 0)) En1549 Hv1550 fun ac1552 wo1553 bk1551 En1554 Hv1555 => ?_
   refine f_o ?_
   refine m_g 10 0 4 (u64s (sL a b)) (u64s (sL a b)) [.box bk90 (u64s a) 33, .box bk101 (u64s b) 33, .box bk112 (u64s c) 33, .box bk123 (u64s d) 33, .box bk1 (bys (clD k)) 22, .box bk6 (bys (clU u)) 22, .box bk11 (bys (List.replicate 32 0)) 22, .box bk61 (u64s (nd (lv (clD k)))) 33, .box bk79 (u64s (xD u)) 33, .box bk1531 (u64s (aL a b)) 33, .box bk1551 (u64s (sL a b)) 33] En1554 Hv1555 rfl (u64s_lenh (sL_len _ _)) (by rw [(u64s_lenh (List.length_replicate))]; decide) (u64s_one _) (store_whole (u64s_lenh (List.length_replicate))) rfl fun ac1556 wo1557 En1558 Hv1559 => ?_
   refine f_e ?_
   refine then_normal ?_
   refine wp_seq ?_
   refine region_from ?_
   refine f_o ?_
   refine m_a 9 0 4 (u64s (aL a b)) En1558 Hv1559 rfl (load_whole (u64s_lenh (aL_len _ _))) (u64s_lenh (aL_len _ _)) fun ac1560 En1561 => ?_
   refine f_o ?_
   refine m_a 9 0 4 (u64s (aL a b)) En1561 Hv1559 rfl (load_whole (u64s_lenh (aL_len _ _))) (u64s_lenh (aL_len _ _)) fun ac1562 En1563 => ?_
   refine f_o ?_
   refine c_p En1563 Hv1559 (ymul_go _ (aL a b) (aL a b) (aL_len _ _) (aL_len _ _)) fun ac1568 wo1565 En1569 Hv1570 => ?_
   refine f_o ?_
   refine m_z 33 (u64s (List.replicate 4 0)) En1569 Hv1570 fun ac1572 wo1573 bk1571 En1574 Hv1575 => ?_
   refine f_o ?_
   refine m_g 11 0 4 (u64s (mL (aL a b) (aL a b))) (u64s (mL (aL a b) (aL a b))) [.box bk90 (u64s a) 33, .box bk101 (u64s b) 33, .box bk112 (u64s c) 33, .box bk123 (u64s d) 33, .box bk1 (bys (clD k)) 22, .box bk6 (bys (clU u)) 22, .box bk11 (bys (List.replicate 32 0)) 22, .box bk61 (u64s (nd (lv (clD k)))) 33, .box bk79 (u64s (xD u)) 33, .box bk1531 (u64s (aL a b)) 33, .box bk1551 (u64s (sL a b)) 33, .box bk1571 (u64s (mL (aL a b) (aL a b))) 33] En1574 Hv1575 rfl (u64s_lenh (mL_len _ _)) (by rw [(u64s_lenh (List.length_replicate))]; decide) (u64s_one _) (store_whole (u64s_lenh (List.length_replicate))) rfl fun ac1576 wo1577 En1578 Hv1579 => ?_
   refine f_e ?_
   refine then_normal ?_
   refine wp_seq ?_
   refine region_from ?_
   refine f_o ?_
   refine m_a 10 0 4 (u64s (sL a b)) En1578 Hv1579 rfl (load_whole (u64s_lenh (sL_len _ _))) (u64s_lenh (sL_len _ _)) fun ac1580 En1581 => ?_
   refine f_o ?_
   refine m_a 10 0 4 (u64s (sL a b)) En1581 Hv1579 rfl (load_whole (u64s_lenh (sL_len _ _))) (u64s_lenh (sL_len _ _)) fun ac1582 En1583 => ?_
   refine f_o ?_
   refine c_p En1583 Hv1579 (ymul_go _ (sL a b) (sL a b) (sL_len _ _) (sL_len _ _)) fun ac1588 wo1585 En1589 Hv1590 => ?_
   refine f_o ?_
   refine m_z 33 (u64s (List.replicate 4 0)) En1589 Hv1590 fun ac1592 wo1593 bk1591 En1594 Hv1595 => ?_
   refine f_o ?_
   refine m_g 12 0 4 (u64s (mL (sL a b) (sL a b))) (u64s (mL (sL a b) (sL a b))) [.box bk90 (u64s a) 33, .box bk101 (u64s b) 33, .box bk112 (u64s c) 33, .box bk123 (u64s d) 33, .box bk1 (bys (clD k)) 22, .box bk6 (bys (clU u)) 22, .box bk11 (bys (List.replicate 32 0)) 22, .box bk61 (u64s (nd (lv (clD k)))) 33, .box bk79 (u64s (xD u)) 33, .box bk1531 (u64s (aL a b)) 33, .box bk1551 (u64s (sL a b)) 33, .box bk1571 (u64s (mL (aL a b) (aL a b))) 33, .box bk1591 (u64s (mL (sL a b) (sL a b))) 33] En1594 Hv1595 rfl (u64s_lenh (mL_len _ _)) (by rw [(u64s_lenh (List.length_replicate))]; decide) (u64s_one _) (store_whole (u64s_lenh (List.length_replicate))) rfl fun ac1596 wo1597 En1598 Hv1599 => ?_
   refine f_e ?_
   refine then_normal ?_
   refine wp_seq ?_
   refine region_from ?_
   refine f_o ?_
   refine m_a 11 0 4 (u64s (mL (aL a b) (aL a b))) En1598 Hv1599 rfl (load_whole (u64s_lenh (mL_len _ _))) (u64s_lenh (mL_len _ _)) fun ac1600 En1601 => ?_
   refine f_o ?_
   refine m_a 12 0 4 (u64s (mL (sL a b) (sL a b))) En1601 Hv1599 rfl (load_whole (u64s_lenh (mL_len _ _))) (u64s_lenh (mL_len _ _)) fun ac1602 En1603 => ?_
   refine f_o ?_
   refine c_p En1603 Hv1599 (ysub_go _ (mL (aL a b) (aL a b)) (mL (sL a b) (sL a b)) (mL_len _ _) (mL_len _ _)) fun ac1608 wo1605 En1609 Hv1610 => ?_
   refine f_o ?_
   refine m_z 33 (u64s (List.replicate 4 0)) En1609 Hv1610 fun ac1612 wo1613 bk1611 En1614 Hv1615 => ?_
   refine f_o ?_
   refine m_g 13 0 4 (u64s (sL (mL (aL a b) (aL a b)) (mL (sL a b) (sL a b)))) (u64s (sL (mL (aL a b) (aL a b)) (mL (sL a b) (sL a b)))) [.box bk90 (u64s a) 33, .box bk101 (u64s b) 33, .box bk112 (u64s c) 33, .box bk123 (u64s d) 33, .box bk1 (bys (clD k)) 22, .box bk6 (bys (clU u)) 22, .box bk11 (bys (List.replicate 32 0)) 22, .box bk61 (u64s (nd (lv (clD k)))) 33, .box bk79 (u64s (xD u)) 33, .box bk1531 (u64s (aL a b)) 33, .box bk1551 (u64s (sL a b)) 33, .box bk1571 (u64s (mL (aL a b) (aL a b))) 33, .box bk1591 (u64s (mL (sL a b) (sL a b))) 33, .box bk1611 (u64s (sL (mL (aL a b) (aL a b)) (mL (sL a b) (sL a b)))) 33] En1614 Hv1615 rfl (u64s_lenh (sL_len _ _)) (by rw [(u64s_lenh (List.length_replicate))]; decide) (u64s_one _) (store_whole (u64s_lenh (List.length_replicate))) rfl fun ac1616 wo1617 En1618 Hv1619 => ?_
   refine f_e ?_
   refine then_normal ?_
   refine wp_seq ?_
   refine r_c (fun ac wo => ∃ (bk1856 : Nat), Env ac 120 [(2, pt bk1), (3, pt bk6), (4, pt bk11), (5, pt bk61), (6, pt bk79), (7, pt bk90), (8, pt bk101), (9, pt bk112), (10, pt bk123), (11, ni (q - 1)), (12, .bool false), (13, pt bk1531), (14, pt bk1551), (15, pt bk1571), (16, pt bk1591), (17, pt bk1611), (18, pt bk1856)] ∧ Ev w [] wo [.box bk90 (u64s a) 33, .box bk101 (u64s b) 33, .box bk112 (u64s c) 33, .box bk123 (u64s d) 33, .box bk1 (bys (clD k)) 22, .box bk6 (bys (clU u)) 22, .box bk11 (bys (List.replicate 32 0)) 22, .box bk61 (u64s (nd (lv (clD k)))) 33, .box bk79 (u64s (xD u)) 33, .box bk1531 (u64s (aL a b)) 33, .box bk1551 (u64s (sL a b)) 33, .box bk1571 (u64s (mL (aL a b) (aL a b))) 33, .box bk1591 (u64s (mL (sL a b) (sL a b))) 33, .box bk1611 (u64s (sL (mL (aL a b) (aL a b)) (mL (sL a b) (sL a b)))) 33, .box bk1856 (u64s (mL (sL c d) (aL a b))) 33]) ?_ ?_
   ·
    refine h_s (fun wv => Ev w [] wv [.box bk112 (u64s c) 33, .box bk123 (u64s d) 33, .box bk1531 (u64s (aL a b)) 33]) [] 7 ?_
    have wo1620 := Hv1619.trans (Ev.drew Hv1619.heap)
    refine h_name fun G hG => ?_
    have nd1904 : ∀ (ac : Act) (wo : World), Env ac 120 [(2, pt bk1), (3, pt bk6), (4, pt bk11), (5, pt bk61), (6, pt bk79), (7, pt bk90), (8, pt bk101), (9, pt bk112), (10, pt bk123), (11, ni (q - 1)), (12, .bool false), (13, pt bk1531), (14, pt bk1551), (15, pt bk1571), (16, pt bk1591), (17, pt bk1611), (80, .agg (List.toArray (u64s (mL (sL c d) (aL a b)))))] → Ev w [] wo [.box bk90 (u64s a) 33, .box bk101 (u64s b) 33, .box bk112 (u64s c) 33, .box bk123 (u64s d) 33, .box bk1 (bys (clD k)) 22, .box bk6 (bys (clU u)) 22, .box bk11 (bys (List.replicate 32 0)) 22, .box bk61 (u64s (nd (lv (clD k)))) 33, .box bk79 (u64s (xD u)) 33, .box bk1531 (u64s (aL a b)) 33, .box bk1551 (u64s (sL a b)) 33, .box bk1571 (u64s (mL (aL a b) (aL a b))) 33, .box bk1591 (u64s (mL (sL a b) (sL a b))) 33, .box bk1611 (u64s (sL (mL (aL a b) (aL a b)) (mL (sL a b) (sL a b)))) 33] → G 2 #[true, true, true, true, true, false, false] ac wo := by
     intro ac1905 wo1906 En1907 Hv1908
     refine h_from hG ?_
     refine q_t 5 ?_
     refine m_z 33 (u64s (List.replicate 4 0)) En1907 Hv1908 fun ac1910 wo1911 bk1909 En1912 Hv1913 => ?_
     refine ⟨fun _ => Hv1913.pk [2, 3, 9], ?_⟩
     refine q_t 6 ?_
     refine m_g 14 0 4 (u64s (mL (sL c d) (aL a b))) (u64s (mL (sL c d) (aL a b))) [.box bk90 (u64s a) 33, .box bk101 (u64s b) 33, .box bk112 (u64s c) 33, .box bk123 (u64s d) 33, .box bk1 (bys (clD k)) 22, .box bk6 (bys (clU u)) 22, .box bk11 (bys (List.replicate 32 0)) 22, .box bk61 (u64s (nd (lv (clD k)))) 33, .box bk79 (u64s (xD u)) 33, .box bk1531 (u64s (aL a b)) 33, .box bk1551 (u64s (sL a b)) 33, .box bk1571 (u64s (mL (aL a b) (aL a b))) 33, .box bk1591 (u64s (mL (sL a b) (sL a b))) 33, .box bk1611 (u64s (sL (mL (aL a b) (aL a b)) (mL (sL a b) (sL a b)))) 33, .box bk1909 (u64s (mL (sL c d) (aL a b))) 33] En1912 Hv1913 rfl (u64s_lenh (mL_len _ _)) (by rw [(u64s_lenh (List.length_replicate))]; decide) (u64s_one _) (store_whole (u64s_lenh (List.length_replicate))) rfl fun ac1914 wo1915 En1916 Hv1917 => ?_
     refine ⟨fun _ => Hv1917.pk [2, 3, 9], ?_⟩
     exact h_e ⟨bk1909, En1916.sb, Hv1917.pk [0, 1, 2, 3, 4, 5, 6, 7, 8, 9, 10, 11, 12, 13, 14]⟩
    have nd1918 : ∀ (ac : Act) (wo : World) (bk1865 : Nat), Env ac 120 [(2, pt bk1), (3, pt bk6), (4, pt bk11), (5, pt bk61), (6, pt bk79), (7, pt bk90), (8, pt bk101), (9, pt bk112), (10, pt bk123), (11, ni (q - 1)), (12, .bool false), (13, pt bk1531), (14, pt bk1551), (15, pt bk1571), (16, pt bk1591), (17, pt bk1611), (18, pt bk1865), (78, .agg (List.toArray (u64s (sL c d)))), (79, .agg (List.toArray (u64s (aL a b))))] → Ev w [] wo [.box bk90 (u64s a) 33, .box bk101 (u64s b) 33, .box bk112 (u64s c) 33, .box bk123 (u64s d) 33, .box bk1 (bys (clD k)) 22, .box bk6 (bys (clU u)) 22, .box bk11 (bys (List.replicate 32 0)) 22, .box bk61 (u64s (nd (lv (clD k)))) 33, .box bk79 (u64s (xD u)) 33, .box bk1531 (u64s (aL a b)) 33, .box bk1551 (u64s (sL a b)) 33, .box bk1571 (u64s (mL (aL a b) (aL a b))) 33, .box bk1591 (u64s (mL (sL a b) (sL a b))) 33, .box bk1611 (u64s (sL (mL (aL a b) (aL a b)) (mL (sL a b) (sL a b)))) 33, .box bk1865 (u64s (List.replicate 4 0)) 33] → G 2 #[true, true, true, true, false, true, false] ac wo := by
     intro ac1919 wo1920 bk1865 En1921 Hv1922
     refine h_from hG ?_
     refine q_t 4 ?_
     refine c_p En1921 Hv1922 (ymul_go _ (sL c d) (aL a b) (sL_len _ _) (aL_len _ _)) fun ac1927 wo1924 En1928 Hv1929 => ?_
     refine ⟨fun _ => Hv1929.pk [2, 3, 9], ?_⟩
     refine q_t 6 ?_
     refine m_g 14 0 4 (u64s (mL (sL c d) (aL a b))) (u64s (mL (sL c d) (aL a b))) [.box bk90 (u64s a) 33, .box bk101 (u64s b) 33, .box bk112 (u64s c) 33, .box bk123 (u64s d) 33, .box bk1 (bys (clD k)) 22, .box bk6 (bys (clU u)) 22, .box bk11 (bys (List.replicate 32 0)) 22, .box bk61 (u64s (nd (lv (clD k)))) 33, .box bk79 (u64s (xD u)) 33, .box bk1531 (u64s (aL a b)) 33, .box bk1551 (u64s (sL a b)) 33, .box bk1571 (u64s (mL (aL a b) (aL a b))) 33, .box bk1591 (u64s (mL (sL a b) (sL a b))) 33, .box bk1611 (u64s (sL (mL (aL a b) (aL a b)) (mL (sL a b) (sL a b)))) 33, .box bk1865 (u64s (mL (sL c d) (aL a b))) 33] En1928 Hv1929 rfl (u64s_lenh (mL_len _ _)) (by rw [(u64s_lenh (List.length_replicate))]; decide) (u64s_one _) (store_whole (u64s_lenh (List.length_replicate))) rfl fun ac1930 wo1931 En1932 Hv1933 => ?_
     refine ⟨fun _ => Hv1933.pk [2, 3, 9], ?_⟩
     exact h_e ⟨bk1865, En1932.sb, Hv1933.pk [0, 1, 2, 3, 4, 5, 6, 7, 8, 9, 10, 11, 12, 13, 14]⟩
    have nd1934 : ∀ (ac : Act) (wo : World), Env ac 120 [(2, pt bk1), (3, pt bk6), (4, pt bk11), (5, pt bk61), (6, pt bk79), (7, pt bk90), (8, pt bk101), (9, pt bk112), (10, pt bk123), (11, ni (q - 1)), (12, .bool false), (13, pt bk1531), (14, pt bk1551), (15, pt bk1571), (16, pt bk1591), (17, pt bk1611), (78, .agg (List.toArray (u64s (sL c d)))), (79, .agg (List.toArray (u64s (aL a b))))] → Ev w [] wo [.box bk90 (u64s a) 33, .box bk101 (u64s b) 33, .box bk112 (u64s c) 33, .box bk123 (u64s d) 33, .box bk1 (bys (clD k)) 22, .box bk6 (bys (clU u)) 22, .box bk11 (bys (List.replicate 32 0)) 22, .box bk61 (u64s (nd (lv (clD k)))) 33, .box bk79 (u64s (xD u)) 33, .box bk1531 (u64s (aL a b)) 33, .box bk1551 (u64s (sL a b)) 33, .box bk1571 (u64s (mL (aL a b) (aL a b))) 33, .box bk1591 (u64s (mL (sL a b) (sL a b))) 33, .box bk1611 (u64s (sL (mL (aL a b) (aL a b)) (mL (sL a b) (sL a b)))) 33] → G 3 #[true, true, true, true, false, false, false] ac wo := by
     intro ac1935 wo1936 En1937 Hv1938
     refine h_from hG ?_
     refine h_ways [4, 5] (by kernel_rfl) rfl ?_
     refine ⟨?_, ?_, trivial⟩
     ·
      rintro _ rfl
      refine c_p En1937 Hv1938 (ymul_go _ (sL c d) (aL a b) (sL_len _ _) (aL_len _ _)) fun ac1943 wo1940 En1944 Hv1945 => ?_
      refine ⟨fun _ => Hv1945.pk [2, 3, 9], ?_⟩
      exact h_to hG (by kernel_rfl) (nd1904 _ _ (En1944.sb) (Hv1945.pk [0, 1, 2, 3, 4, 5, 6, 7, 8, 9, 10, 11, 12, 13]))
     ·
      rintro _ rfl
      refine m_z 33 (u64s (List.replicate 4 0)) En1937 Hv1938 fun ac1947 wo1948 bk1946 En1949 Hv1950 => ?_
      refine ⟨fun _ => Hv1950.pk [2, 3, 9], ?_⟩
      exact h_to hG (by kernel_rfl) (nd1918 _ _ bk1946 (En1949.sb) (Hv1950.pk [0, 1, 2, 3, 4, 5, 6, 7, 8, 9, 10, 11, 12, 13, 14]))
    have nd1951 : ∀ (ac : Act) (wo : World) (bk1881 : Nat), Env ac 120 [(2, pt bk1), (3, pt bk6), (4, pt bk11), (5, pt bk61), (6, pt bk79), (7, pt bk90), (8, pt bk101), (9, pt bk112), (10, pt bk123), (11, ni (q - 1)), (12, .bool false), (13, pt bk1531), (14, pt bk1551), (15, pt bk1571), (16, pt bk1591), (17, pt bk1611), (18, pt bk1881), (76, .agg (List.toArray (u64s c))), (77, .agg (List.toArray (u64s d))), (79, .agg (List.toArray (u64s (aL a b))))] → Ev w [] wo [.box bk90 (u64s a) 33, .box bk101 (u64s b) 33, .box bk112 (u64s c) 33, .box bk123 (u64s d) 33, .box bk1 (bys (clD k)) 22, .box bk6 (bys (clU u)) 22, .box bk11 (bys (List.replicate 32 0)) 22, .box bk61 (u64s (nd (lv (clD k)))) 33, .box bk79 (u64s (xD u)) 33, .box bk1531 (u64s (aL a b)) 33, .box bk1551 (u64s (sL a b)) 33, .box bk1571 (u64s (mL (aL a b) (aL a b))) 33, .box bk1591 (u64s (mL (sL a b) (sL a b))) 33, .box bk1611 (u64s (sL (mL (aL a b) (aL a b)) (mL (sL a b) (sL a b)))) 33, .box bk1881 (u64s (List.replicate 4 0)) 33] → G 3 #[true, true, false, true, false, true, false] ac wo := by
     intro ac1952 wo1953 bk1881 En1954 Hv1955
     refine h_from hG ?_
     refine q_t 2 ?_
     refine c_p En1954 Hv1955 (ysub_go _ c d hlc hld) fun ac1960 wo1957 En1961 Hv1962 => ?_
     refine ⟨fun _ => Hv1962.pk [2, 3, 9], ?_⟩
     refine q_t 4 ?_
     refine c_p En1961 Hv1962 (ymul_go _ (sL c d) (aL a b) (sL_len _ _) (aL_len _ _)) fun ac1967 wo1964 En1968 Hv1969 => ?_
     refine ⟨fun _ => Hv1969.pk [2, 3, 9], ?_⟩
     refine q_t 6 ?_
     refine m_g 14 0 4 (u64s (mL (sL c d) (aL a b))) (u64s (mL (sL c d) (aL a b))) [.box bk90 (u64s a) 33, .box bk101 (u64s b) 33, .box bk112 (u64s c) 33, .box bk123 (u64s d) 33, .box bk1 (bys (clD k)) 22, .box bk6 (bys (clU u)) 22, .box bk11 (bys (List.replicate 32 0)) 22, .box bk61 (u64s (nd (lv (clD k)))) 33, .box bk79 (u64s (xD u)) 33, .box bk1531 (u64s (aL a b)) 33, .box bk1551 (u64s (sL a b)) 33, .box bk1571 (u64s (mL (aL a b) (aL a b))) 33, .box bk1591 (u64s (mL (sL a b) (sL a b))) 33, .box bk1611 (u64s (sL (mL (aL a b) (aL a b)) (mL (sL a b) (sL a b)))) 33, .box bk1881 (u64s (mL (sL c d) (aL a b))) 33] En1968 Hv1969 rfl (u64s_lenh (mL_len _ _)) (by rw [(u64s_lenh (List.length_replicate))]; decide) (u64s_one _) (store_whole (u64s_lenh (List.length_replicate))) rfl fun ac1970 wo1971 En1972 Hv1973 => ?_
     refine ⟨fun _ => Hv1973.pk [2, 3, 9], ?_⟩
     exact h_e ⟨bk1881, En1972.sb, Hv1973.pk [0, 1, 2, 3, 4, 5, 6, 7, 8, 9, 10, 11, 12, 13, 14]⟩
    refine h_from hG ?_
    refine q_r 0 (s := Instr.loadAt 33 (pt bk112)) (v := .agg (List.toArray (u64s c))) En1618 (fun w hS => run_loadAgg2 (m := 4) (cs := u64s c) (u64s_lenh hlc) (by kernel_rfl) (by kernel_rfl) (hS.heap.cells (k := 0) (off := 0) (m := 4) rfl (load_whole (u64s_lenh hlc)))) (wo1620.pk [2, 3, 9]) fun ac1974 En1975 => ?_
    refine q_r 1 (s := Instr.loadAt 33 (pt bk123)) (v := .agg (List.toArray (u64s d))) En1975 (fun w hS => run_loadAgg2 (m := 4) (cs := u64s d) (u64s_lenh hld) (by kernel_rfl) (by kernel_rfl) (hS.heap.cells (k := 1) (off := 0) (m := 4) rfl (load_whole (u64s_lenh hld)))) (wo1620.pk [2, 3, 9]) fun ac1976 En1977 => ?_
    refine q_r 3 (s := Instr.loadAt 33 (pt bk1531)) (v := .agg (List.toArray (u64s (aL a b)))) En1977 (fun w hS => run_loadAgg2 (m := 4) (cs := u64s (aL a b)) (u64s_lenh (aL_len _ _)) (by kernel_rfl) (by kernel_rfl) (hS.heap.cells (k := 2) (off := 0) (m := 4) rfl (load_whole (u64s_lenh (aL_len _ _))))) (wo1620.pk [2, 3, 9]) fun ac1978 En1979 => ?_
    refine h_ways [2, 5] (by kernel_rfl) rfl ?_
    refine ⟨?_, ?_, trivial⟩
    ·
     rintro _ rfl
     refine c_p En1979 wo1620 (ysub_go _ c d hlc hld) fun ac1984 wo1981 En1985 Hv1986 => ?_
     refine ⟨fun _ => Hv1986.pk [2, 3, 9], ?_⟩
     exact h_to hG (by kernel_rfl) (nd1934 _ _ (En1985.sb) (Hv1986.pk [0, 1, 2, 3, 4, 5, 6, 7, 8, 9, 10, 11, 12, 13]))
    ·
     rintro _ rfl
     refine m_z 33 (u64s (List.replicate 4 0)) En1979 wo1620 fun ac1988 wo1989 bk1987 En1990 Hv1991 => ?_
     refine ⟨fun _ => Hv1991.pk [2, 3, 9], ?_⟩
     exact h_to hG (by kernel_rfl) (nd1951 _ _ bk1987 (En1990.sb) (Hv1991.pk [0, 1, 2, 3, 4, 5, 6, 7, 8, 9, 10, 11, 12, 13, 14]))
   rintro ac1992 wo1993 ⟨bk1856, En1994, Hv1995⟩
   refine then_normal ?_
   refine wp_seq ?_
   refine r_c (fun ac wo => ∃ (bk2232 : Nat), Env ac 120 [(2, pt bk1), (3, pt bk6), (4, pt bk11), (5, pt bk61), (6, pt bk79), (7, pt bk90), (8, pt bk101), (9, pt bk112), (10, pt bk123), (11, ni (q - 1)), (12, .bool false), (13, pt bk1531), (14, pt bk1551), (15, pt bk1571), (16, pt bk1591), (17, pt bk1611), (18, pt bk1856), (19, pt bk2232)] ∧ Ev w [] wo [.box bk90 (u64s a) 33, .box bk101 (u64s b) 33, .box bk112 (u64s c) 33, .box bk123 (u64s d) 33, .box bk1 (bys (clD k)) 22, .box bk6 (bys (clU u)) 22, .box bk11 (bys (List.replicate 32 0)) 22, .box bk61 (u64s (nd (lv (clD k)))) 33, .box bk79 (u64s (xD u)) 33, .box bk1531 (u64s (aL a b)) 33, .box bk1551 (u64s (sL a b)) 33, .box bk1571 (u64s (mL (aL a b) (aL a b))) 33, .box bk1591 (u64s (mL (sL a b) (sL a b))) 33, .box bk1611 (u64s (sL (mL (aL a b) (aL a b)) (mL (sL a b) (sL a b)))) 33, .box bk1856 (u64s (mL (sL c d) (aL a b))) 33, .box bk2232 (u64s (mL (aL c d) (sL a b))) 33]) ?_ ?_
   ·
    refine h_s (fun wv => Ev w [] wv [.box bk112 (u64s c) 33, .box bk123 (u64s d) 33, .box bk1551 (u64s (sL a b)) 33]) [] 7 ?_
    have wo1996 := Hv1995.trans (Ev.drew Hv1995.heap)
    refine h_name fun G hG => ?_
    have nd2280 : ∀ (ac : Act) (wo : World), Env ac 120 [(2, pt bk1), (3, pt bk6), (4, pt bk11), (5, pt bk61), (6, pt bk79), (7, pt bk90), (8, pt bk101), (9, pt bk112), (10, pt bk123), (11, ni (q - 1)), (12, .bool false), (13, pt bk1531), (14, pt bk1551), (15, pt bk1571), (16, pt bk1591), (17, pt bk1611), (18, pt bk1856), (85, .agg (List.toArray (u64s (mL (aL c d) (sL a b)))))] → Ev w [] wo [.box bk90 (u64s a) 33, .box bk101 (u64s b) 33, .box bk112 (u64s c) 33, .box bk123 (u64s d) 33, .box bk1 (bys (clD k)) 22, .box bk6 (bys (clU u)) 22, .box bk11 (bys (List.replicate 32 0)) 22, .box bk61 (u64s (nd (lv (clD k)))) 33, .box bk79 (u64s (xD u)) 33, .box bk1531 (u64s (aL a b)) 33, .box bk1551 (u64s (sL a b)) 33, .box bk1571 (u64s (mL (aL a b) (aL a b))) 33, .box bk1591 (u64s (mL (sL a b) (sL a b))) 33, .box bk1611 (u64s (sL (mL (aL a b) (aL a b)) (mL (sL a b) (sL a b)))) 33, .box bk1856 (u64s (mL (sL c d) (aL a b))) 33] → G 2 #[true, true, true, true, true, false, false] ac wo := by
     intro ac2281 wo2282 En2283 Hv2284
     refine h_from hG ?_
     refine q_t 5 ?_
     refine m_z 33 (u64s (List.replicate 4 0)) En2283 Hv2284 fun ac2286 wo2287 bk2285 En2288 Hv2289 => ?_
     refine ⟨fun _ => Hv2289.pk [2, 3, 10], ?_⟩
     refine q_t 6 ?_
     refine m_g 15 0 4 (u64s (mL (aL c d) (sL a b))) (u64s (mL (aL c d) (sL a b))) [.box bk90 (u64s a) 33, .box bk101 (u64s b) 33, .box bk112 (u64s c) 33, .box bk123 (u64s d) 33, .box bk1 (bys (clD k)) 22, .box bk6 (bys (clU u)) 22, .box bk11 (bys (List.replicate 32 0)) 22, .box bk61 (u64s (nd (lv (clD k)))) 33, .box bk79 (u64s (xD u)) 33, .box bk1531 (u64s (aL a b)) 33, .box bk1551 (u64s (sL a b)) 33, .box bk1571 (u64s (mL (aL a b) (aL a b))) 33, .box bk1591 (u64s (mL (sL a b) (sL a b))) 33, .box bk1611 (u64s (sL (mL (aL a b) (aL a b)) (mL (sL a b) (sL a b)))) 33, .box bk1856 (u64s (mL (sL c d) (aL a b))) 33, .box bk2285 (u64s (mL (aL c d) (sL a b))) 33] En2288 Hv2289 rfl (u64s_lenh (mL_len _ _)) (by rw [(u64s_lenh (List.length_replicate))]; decide) (u64s_one _) (store_whole (u64s_lenh (List.length_replicate))) rfl fun ac2290 wo2291 En2292 Hv2293 => ?_
     refine ⟨fun _ => Hv2293.pk [2, 3, 10], ?_⟩
     exact h_e ⟨bk2285, En2292.sb, Hv2293.pk [0, 1, 2, 3, 4, 5, 6, 7, 8, 9, 10, 11, 12, 13, 14, 15]⟩
    have nd2294 : ∀ (ac : Act) (wo : World) (bk2241 : Nat), Env ac 120 [(2, pt bk1), (3, pt bk6), (4, pt bk11), (5, pt bk61), (6, pt bk79), (7, pt bk90), (8, pt bk101), (9, pt bk112), (10, pt bk123), (11, ni (q - 1)), (12, .bool false), (13, pt bk1531), (14, pt bk1551), (15, pt bk1571), (16, pt bk1591), (17, pt bk1611), (18, pt bk1856), (19, pt bk2241), (83, .agg (List.toArray (u64s (aL c d)))), (84, .agg (List.toArray (u64s (sL a b))))] → Ev w [] wo [.box bk90 (u64s a) 33, .box bk101 (u64s b) 33, .box bk112 (u64s c) 33, .box bk123 (u64s d) 33, .box bk1 (bys (clD k)) 22, .box bk6 (bys (clU u)) 22, .box bk11 (bys (List.replicate 32 0)) 22, .box bk61 (u64s (nd (lv (clD k)))) 33, .box bk79 (u64s (xD u)) 33, .box bk1531 (u64s (aL a b)) 33, .box bk1551 (u64s (sL a b)) 33, .box bk1571 (u64s (mL (aL a b) (aL a b))) 33, .box bk1591 (u64s (mL (sL a b) (sL a b))) 33, .box bk1611 (u64s (sL (mL (aL a b) (aL a b)) (mL (sL a b) (sL a b)))) 33, .box bk1856 (u64s (mL (sL c d) (aL a b))) 33, .box bk2241 (u64s (List.replicate 4 0)) 33] → G 2 #[true, true, true, true, false, true, false] ac wo := by
     intro ac2295 wo2296 bk2241 En2297 Hv2298
     refine h_from hG ?_
     refine q_t 4 ?_
     refine c_p En2297 Hv2298 (ymul_go _ (aL c d) (sL a b) (aL_len _ _) (sL_len _ _)) fun ac2303 wo2300 En2304 Hv2305 => ?_
     refine ⟨fun _ => Hv2305.pk [2, 3, 10], ?_⟩
     refine q_t 6 ?_
     refine m_g 15 0 4 (u64s (mL (aL c d) (sL a b))) (u64s (mL (aL c d) (sL a b))) [.box bk90 (u64s a) 33, .box bk101 (u64s b) 33, .box bk112 (u64s c) 33, .box bk123 (u64s d) 33, .box bk1 (bys (clD k)) 22, .box bk6 (bys (clU u)) 22, .box bk11 (bys (List.replicate 32 0)) 22, .box bk61 (u64s (nd (lv (clD k)))) 33, .box bk79 (u64s (xD u)) 33, .box bk1531 (u64s (aL a b)) 33, .box bk1551 (u64s (sL a b)) 33, .box bk1571 (u64s (mL (aL a b) (aL a b))) 33, .box bk1591 (u64s (mL (sL a b) (sL a b))) 33, .box bk1611 (u64s (sL (mL (aL a b) (aL a b)) (mL (sL a b) (sL a b)))) 33, .box bk1856 (u64s (mL (sL c d) (aL a b))) 33, .box bk2241 (u64s (mL (aL c d) (sL a b))) 33] En2304 Hv2305 rfl (u64s_lenh (mL_len _ _)) (by rw [(u64s_lenh (List.length_replicate))]; decide) (u64s_one _) (store_whole (u64s_lenh (List.length_replicate))) rfl fun ac2306 wo2307 En2308 Hv2309 => ?_
     refine ⟨fun _ => Hv2309.pk [2, 3, 10], ?_⟩
     exact h_e ⟨bk2241, En2308.sb, Hv2309.pk [0, 1, 2, 3, 4, 5, 6, 7, 8, 9, 10, 11, 12, 13, 14, 15]⟩
    have nd2310 : ∀ (ac : Act) (wo : World), Env ac 120 [(2, pt bk1), (3, pt bk6), (4, pt bk11), (5, pt bk61), (6, pt bk79), (7, pt bk90), (8, pt bk101), (9, pt bk112), (10, pt bk123), (11, ni (q - 1)), (12, .bool false), (13, pt bk1531), (14, pt bk1551), (15, pt bk1571), (16, pt bk1591), (17, pt bk1611), (18, pt bk1856), (83, .agg (List.toArray (u64s (aL c d)))), (84, .agg (List.toArray (u64s (sL a b))))] → Ev w [] wo [.box bk90 (u64s a) 33, .box bk101 (u64s b) 33, .box bk112 (u64s c) 33, .box bk123 (u64s d) 33, .box bk1 (bys (clD k)) 22, .box bk6 (bys (clU u)) 22, .box bk11 (bys (List.replicate 32 0)) 22, .box bk61 (u64s (nd (lv (clD k)))) 33, .box bk79 (u64s (xD u)) 33, .box bk1531 (u64s (aL a b)) 33, .box bk1551 (u64s (sL a b)) 33, .box bk1571 (u64s (mL (aL a b) (aL a b))) 33, .box bk1591 (u64s (mL (sL a b) (sL a b))) 33, .box bk1611 (u64s (sL (mL (aL a b) (aL a b)) (mL (sL a b) (sL a b)))) 33, .box bk1856 (u64s (mL (sL c d) (aL a b))) 33] → G 3 #[true, true, true, true, false, false, false] ac wo := by
     intro ac2311 wo2312 En2313 Hv2314
     refine h_from hG ?_
     refine h_ways [4, 5] (by kernel_rfl) rfl ?_
     refine ⟨?_, ?_, trivial⟩
     ·
      rintro _ rfl
      refine c_p En2313 Hv2314 (ymul_go _ (aL c d) (sL a b) (aL_len _ _) (sL_len _ _)) fun ac2319 wo2316 En2320 Hv2321 => ?_
      refine ⟨fun _ => Hv2321.pk [2, 3, 10], ?_⟩
      exact h_to hG (by kernel_rfl) (nd2280 _ _ (En2320.sb) (Hv2321.pk [0, 1, 2, 3, 4, 5, 6, 7, 8, 9, 10, 11, 12, 13, 14]))
     ·
      rintro _ rfl
      refine m_z 33 (u64s (List.replicate 4 0)) En2313 Hv2314 fun ac2323 wo2324 bk2322 En2325 Hv2326 => ?_
      refine ⟨fun _ => Hv2326.pk [2, 3, 10], ?_⟩
      exact h_to hG (by kernel_rfl) (nd2294 _ _ bk2322 (En2325.sb) (Hv2326.pk [0, 1, 2, 3, 4, 5, 6, 7, 8, 9, 10, 11, 12, 13, 14, 15]))
    have nd2327 : ∀ (ac : Act) (wo : World) (bk2257 : Nat), Env ac 120 [(2, pt bk1), (3, pt bk6), (4, pt bk11), (5, pt bk61), (6, pt bk79), (7, pt bk90), (8, pt bk101), (9, pt bk112), (10, pt bk123), (11, ni (q - 1)), (12, .bool false), (13, pt bk1531), (14, pt bk1551), (15, pt bk1571), (16, pt bk1591), (17, pt bk1611), (18, pt bk1856), (19, pt bk2257), (81, .agg (List.toArray (u64s c))), (82, .agg (List.toArray (u64s d))), (84, .agg (List.toArray (u64s (sL a b))))] → Ev w [] wo [.box bk90 (u64s a) 33, .box bk101 (u64s b) 33, .box bk112 (u64s c) 33, .box bk123 (u64s d) 33, .box bk1 (bys (clD k)) 22, .box bk6 (bys (clU u)) 22, .box bk11 (bys (List.replicate 32 0)) 22, .box bk61 (u64s (nd (lv (clD k)))) 33, .box bk79 (u64s (xD u)) 33, .box bk1531 (u64s (aL a b)) 33, .box bk1551 (u64s (sL a b)) 33, .box bk1571 (u64s (mL (aL a b) (aL a b))) 33, .box bk1591 (u64s (mL (sL a b) (sL a b))) 33, .box bk1611 (u64s (sL (mL (aL a b) (aL a b)) (mL (sL a b) (sL a b)))) 33, .box bk1856 (u64s (mL (sL c d) (aL a b))) 33, .box bk2257 (u64s (List.replicate 4 0)) 33] → G 3 #[true, true, false, true, false, true, false] ac wo := by
     intro ac2328 wo2329 bk2257 En2330 Hv2331
     refine h_from hG ?_
     refine q_t 2 ?_
     refine c_p En2330 Hv2331 (yadd_go _ c d hlc hld) fun ac2336 wo2333 En2337 Hv2338 => ?_
     refine ⟨fun _ => Hv2338.pk [2, 3, 10], ?_⟩
     refine q_t 4 ?_
     refine c_p En2337 Hv2338 (ymul_go _ (aL c d) (sL a b) (aL_len _ _) (sL_len _ _)) fun ac2343 wo2340 En2344 Hv2345 => ?_
     refine ⟨fun _ => Hv2345.pk [2, 3, 10], ?_⟩
     refine q_t 6 ?_
     refine m_g 15 0 4 (u64s (mL (aL c d) (sL a b))) (u64s (mL (aL c d) (sL a b))) [.box bk90 (u64s a) 33, .box bk101 (u64s b) 33, .box bk112 (u64s c) 33, .box bk123 (u64s d) 33, .box bk1 (bys (clD k)) 22, .box bk6 (bys (clU u)) 22, .box bk11 (bys (List.replicate 32 0)) 22, .box bk61 (u64s (nd (lv (clD k)))) 33, .box bk79 (u64s (xD u)) 33, .box bk1531 (u64s (aL a b)) 33, .box bk1551 (u64s (sL a b)) 33, .box bk1571 (u64s (mL (aL a b) (aL a b))) 33, .box bk1591 (u64s (mL (sL a b) (sL a b))) 33, .box bk1611 (u64s (sL (mL (aL a b) (aL a b)) (mL (sL a b) (sL a b)))) 33, .box bk1856 (u64s (mL (sL c d) (aL a b))) 33, .box bk2257 (u64s (mL (aL c d) (sL a b))) 33] En2344 Hv2345 rfl (u64s_lenh (mL_len _ _)) (by rw [(u64s_lenh (List.length_replicate))]; decide) (u64s_one _) (store_whole (u64s_lenh (List.length_replicate))) rfl fun ac2346 wo2347 En2348 Hv2349 => ?_
     refine ⟨fun _ => Hv2349.pk [2, 3, 10], ?_⟩
     exact h_e ⟨bk2257, En2348.sb, Hv2349.pk [0, 1, 2, 3, 4, 5, 6, 7, 8, 9, 10, 11, 12, 13, 14, 15]⟩
    refine h_from hG ?_
    refine q_r 0 (s := Instr.loadAt 33 (pt bk112)) (v := .agg (List.toArray (u64s c))) En1994 (fun w hS => run_loadAgg2 (m := 4) (cs := u64s c) (u64s_lenh hlc) (by kernel_rfl) (by kernel_rfl) (hS.heap.cells (k := 0) (off := 0) (m := 4) rfl (load_whole (u64s_lenh hlc)))) (wo1996.pk [2, 3, 10]) fun ac2350 En2351 => ?_
    refine q_r 1 (s := Instr.loadAt 33 (pt bk123)) (v := .agg (List.toArray (u64s d))) En2351 (fun w hS => run_loadAgg2 (m := 4) (cs := u64s d) (u64s_lenh hld) (by kernel_rfl) (by kernel_rfl) (hS.heap.cells (k := 1) (off := 0) (m := 4) rfl (load_whole (u64s_lenh hld)))) (wo1996.pk [2, 3, 10]) fun ac2352 En2353 => ?_
    refine q_r 3 (s := Instr.loadAt 33 (pt bk1551)) (v := .agg (List.toArray (u64s (sL a b)))) En2353 (fun w hS => run_loadAgg2 (m := 4) (cs := u64s (sL a b)) (u64s_lenh (sL_len _ _)) (by kernel_rfl) (by kernel_rfl) (hS.heap.cells (k := 2) (off := 0) (m := 4) rfl (load_whole (u64s_lenh (sL_len _ _))))) (wo1996.pk [2, 3, 10]) fun ac2354 En2355 => ?_
    refine h_ways [2, 5] (by kernel_rfl) rfl ?_
    refine ⟨?_, ?_, trivial⟩
    ·
     rintro _ rfl
     refine c_p En2355 wo1996 (yadd_go _ c d hlc hld) fun ac2360 wo2357 En2361 Hv2362 => ?_
     refine ⟨fun _ => Hv2362.pk [2, 3, 10], ?_⟩
     exact h_to hG (by kernel_rfl) (nd2310 _ _ (En2361.sb) (Hv2362.pk [0, 1, 2, 3, 4, 5, 6, 7, 8, 9, 10, 11, 12, 13, 14]))
    ·
     rintro _ rfl
     refine m_z 33 (u64s (List.replicate 4 0)) En2355 wo1996 fun ac2364 wo2365 bk2363 En2366 Hv2367 => ?_
     refine ⟨fun _ => Hv2367.pk [2, 3, 10], ?_⟩
     exact h_to hG (by kernel_rfl) (nd2327 _ _ bk2363 (En2366.sb) (Hv2367.pk [0, 1, 2, 3, 4, 5, 6, 7, 8, 9, 10, 11, 12, 13, 14, 15]))
   rintro ac2368 wo2369 ⟨bk2232, En2370, Hv2371⟩
   refine then_normal ?_
   refine wp_seq ?_
   refine region_from ?_
   refine f_o ?_
   refine m_a 14 0 4 (u64s (mL (sL c d) (aL a b))) En2370 Hv2371 rfl (load_whole (u64s_lenh (mL_len _ _))) (u64s_lenh (mL_len _ _)) fun ac2372 En2373 => ?_
   refine f_o ?_
   refine m_a 15 0 4 (u64s (mL (aL c d) (sL a b))) En2373 Hv2371 rfl (load_whole (u64s_lenh (mL_len _ _))) (u64s_lenh (mL_len _ _)) fun ac2374 En2375 => ?_
   refine f_o ?_
   refine c_p En2375 Hv2371 (yadd_go _ (mL (sL c d) (aL a b)) (mL (aL c d) (sL a b)) (mL_len _ _) (mL_len _ _)) fun ac2380 wo2377 En2381 Hv2382 => ?_
   refine f_o ?_
   refine m_z 33 (u64s (List.replicate 4 0)) En2381 Hv2382 fun ac2384 wo2385 bk2383 En2386 Hv2387 => ?_
   refine f_o ?_
   refine m_g 16 0 4 (u64s (aL (mL (sL c d) (aL a b)) (mL (aL c d) (sL a b)))) (u64s (aL (mL (sL c d) (aL a b)) (mL (aL c d) (sL a b)))) [.box bk90 (u64s a) 33, .box bk101 (u64s b) 33, .box bk112 (u64s c) 33, .box bk123 (u64s d) 33, .box bk1 (bys (clD k)) 22, .box bk6 (bys (clU u)) 22, .box bk11 (bys (List.replicate 32 0)) 22, .box bk61 (u64s (nd (lv (clD k)))) 33, .box bk79 (u64s (xD u)) 33, .box bk1531 (u64s (aL a b)) 33, .box bk1551 (u64s (sL a b)) 33, .box bk1571 (u64s (mL (aL a b) (aL a b))) 33, .box bk1591 (u64s (mL (sL a b) (sL a b))) 33, .box bk1611 (u64s (sL (mL (aL a b) (aL a b)) (mL (sL a b) (sL a b)))) 33, .box bk1856 (u64s (mL (sL c d) (aL a b))) 33, .box bk2232 (u64s (mL (aL c d) (sL a b))) 33, .box bk2383 (u64s (aL (mL (sL c d) (aL a b)) (mL (aL c d) (sL a b)))) 33] En2386 Hv2387 rfl (u64s_lenh (aL_len _ _)) (by rw [(u64s_lenh (List.length_replicate))]; decide) (u64s_one _) (store_whole (u64s_lenh (List.length_replicate))) rfl fun ac2388 wo2389 En2390 Hv2391 => ?_
   refine f_e ?_
   refine then_normal ?_
   refine wp_seq ?_
   refine region_from ?_
   refine f_o ?_
   refine m_a 14 0 4 (u64s (mL (sL c d) (aL a b))) En2390 Hv2391 rfl (load_whole (u64s_lenh (mL_len _ _))) (u64s_lenh (mL_len _ _)) fun ac2392 En2393 => ?_
   refine f_o ?_
   refine m_a 15 0 4 (u64s (mL (aL c d) (sL a b))) En2393 Hv2391 rfl (load_whole (u64s_lenh (mL_len _ _))) (u64s_lenh (mL_len _ _)) fun ac2394 En2395 => ?_
   refine f_o ?_
   refine c_p En2395 Hv2391 (ysub_go _ (mL (sL c d) (aL a b)) (mL (aL c d) (sL a b)) (mL_len _ _) (mL_len _ _)) fun ac2400 wo2397 En2401 Hv2402 => ?_
   refine f_o ?_
   refine m_z 33 (u64s (List.replicate 4 0)) En2401 Hv2402 fun ac2404 wo2405 bk2403 En2406 Hv2407 => ?_
   refine f_o ?_
   refine m_g 17 0 4 (u64s (sL (mL (sL c d) (aL a b)) (mL (aL c d) (sL a b)))) (u64s (sL (mL (sL c d) (aL a b)) (mL (aL c d) (sL a b)))) [.box bk90 (u64s a) 33, .box bk101 (u64s b) 33, .box bk112 (u64s c) 33, .box bk123 (u64s d) 33, .box bk1 (bys (clD k)) 22, .box bk6 (bys (clU u)) 22, .box bk11 (bys (List.replicate 32 0)) 22, .box bk61 (u64s (nd (lv (clD k)))) 33, .box bk79 (u64s (xD u)) 33, .box bk1531 (u64s (aL a b)) 33, .box bk1551 (u64s (sL a b)) 33, .box bk1571 (u64s (mL (aL a b) (aL a b))) 33, .box bk1591 (u64s (mL (sL a b) (sL a b))) 33, .box bk1611 (u64s (sL (mL (aL a b) (aL a b)) (mL (sL a b) (sL a b)))) 33, .box bk1856 (u64s (mL (sL c d) (aL a b))) 33, .box bk2232 (u64s (mL (aL c d) (sL a b))) 33, .box bk2383 (u64s (aL (mL (sL c d) (aL a b)) (mL (aL c d) (sL a b)))) 33, .box bk2403 (u64s (sL (mL (sL c d) (aL a b)) (mL (aL c d) (sL a b)))) 33] En2406 Hv2407 rfl (u64s_lenh (sL_len _ _)) (by rw [(u64s_lenh (List.length_replicate))]; decide) (u64s_one _) (store_whole (u64s_lenh (List.length_replicate))) rfl fun ac2408 wo2409 En2410 Hv2411 => ?_
   refine f_e ?_
   refine then_normal ?_
   refine wp_seq ?_
   refine region_from ?_
   refine f_o ?_
   refine m_a 16 0 4 (u64s (aL (mL (sL c d) (aL a b)) (mL (aL c d) (sL a b)))) En2410 Hv2411 rfl (load_whole (u64s_lenh (aL_len _ _))) (u64s_lenh (aL_len _ _)) fun ac2412 En2413 => ?_
   refine f_o ?_
   refine m_a 16 0 4 (u64s (aL (mL (sL c d) (aL a b)) (mL (aL c d) (sL a b)))) En2413 Hv2411 rfl (load_whole (u64s_lenh (aL_len _ _))) (u64s_lenh (aL_len _ _)) fun ac2414 En2415 => ?_
   refine f_o ?_
   refine c_p En2415 Hv2411 (ymul_go _ (aL (mL (sL c d) (aL a b)) (mL (aL c d) (sL a b))) (aL (mL (sL c d) (aL a b)) (mL (aL c d) (sL a b))) (aL_len _ _) (aL_len _ _)) fun ac2420 wo2417 En2421 Hv2422 => ?_
   refine f_o ?_
   refine m_g 2 0 4 (u64s (mL (aL (mL (sL c d) (aL a b)) (mL (aL c d) (sL a b))) (aL (mL (sL c d) (aL a b)) (mL (aL c d) (sL a b))))) (u64s (mL (aL (mL (sL c d) (aL a b)) (mL (aL c d) (sL a b))) (aL (mL (sL c d) (aL a b)) (mL (aL c d) (sL a b))))) [.box bk90 (u64s a) 33, .box bk101 (u64s b) 33, .box bk112 (u64s (mL (aL (mL (sL c d) (aL a b)) (mL (aL c d) (sL a b))) (aL (mL (sL c d) (aL a b)) (mL (aL c d) (sL a b))))) 33, .box bk123 (u64s d) 33, .box bk1 (bys (clD k)) 22, .box bk6 (bys (clU u)) 22, .box bk11 (bys (List.replicate 32 0)) 22, .box bk61 (u64s (nd (lv (clD k)))) 33, .box bk79 (u64s (xD u)) 33, .box bk1531 (u64s (aL a b)) 33, .box bk1551 (u64s (sL a b)) 33, .box bk1571 (u64s (mL (aL a b) (aL a b))) 33, .box bk1591 (u64s (mL (sL a b) (sL a b))) 33, .box bk1611 (u64s (sL (mL (aL a b) (aL a b)) (mL (sL a b) (sL a b)))) 33, .box bk1856 (u64s (mL (sL c d) (aL a b))) 33, .box bk2232 (u64s (mL (aL c d) (sL a b))) 33, .box bk2383 (u64s (aL (mL (sL c d) (aL a b)) (mL (aL c d) (sL a b)))) 33, .box bk2403 (u64s (sL (mL (sL c d) (aL a b)) (mL (aL c d) (sL a b)))) 33] En2421 Hv2422 rfl (u64s_lenh (mL_len _ _)) (by rw [(u64s_lenh hlc)]; decide) (u64s_one _) (store_whole (u64s_lenh hlc)) rfl fun ac2423 wo2424 En2425 Hv2426 => ?_
   refine f_e ?_
   refine then_normal ?_
   refine wp_seq ?_
   refine r_c (fun ac wo => Env ac 120 [(2, pt bk1), (3, pt bk6), (4, pt bk11), (5, pt bk61), (6, pt bk79), (7, pt bk90), (8, pt bk101), (9, pt bk112), (10, pt bk123), (11, ni (q - 1)), (12, .bool false), (13, pt bk1531), (14, pt bk1551), (15, pt bk1571), (16, pt bk1591), (17, pt bk1611), (18, pt bk1856), (19, pt bk2232), (20, pt bk2383), (21, pt bk2403)] ∧ Ev w [] wo [.box bk90 (u64s a) 33, .box bk101 (u64s b) 33, .box bk112 (u64s (mL (aL (mL (sL c d) (aL a b)) (mL (aL c d) (sL a b))) (aL (mL (sL c d) (aL a b)) (mL (aL c d) (sL a b))))) 33, .box bk123 (u64s (mL (xD u) (mL (sL (mL (sL c d) (aL a b)) (mL (aL c d) (sL a b))) (sL (mL (sL c d) (aL a b)) (mL (aL c d) (sL a b)))))) 33, .box bk1 (bys (clD k)) 22, .box bk6 (bys (clU u)) 22, .box bk11 (bys (List.replicate 32 0)) 22, .box bk61 (u64s (nd (lv (clD k)))) 33, .box bk79 (u64s (xD u)) 33, .box bk1531 (u64s (aL a b)) 33, .box bk1551 (u64s (sL a b)) 33, .box bk1571 (u64s (mL (aL a b) (aL a b))) 33, .box bk1591 (u64s (mL (sL a b) (sL a b))) 33, .box bk1611 (u64s (sL (mL (aL a b) (aL a b)) (mL (sL a b) (sL a b)))) 33, .box bk1856 (u64s (mL (sL c d) (aL a b))) 33, .box bk2232 (u64s (mL (aL c d) (sL a b))) 33, .box bk2383 (u64s (aL (mL (sL c d) (aL a b)) (mL (aL c d) (sL a b)))) 33, .box bk2403 (u64s (sL (mL (sL c d) (aL a b)) (mL (aL c d) (sL a b)))) 33]) ?_ ?_
   ·
    refine h_s (fun wv => Ev w [] wv [.box bk79 (u64s (xD u)) 33, .box bk2403 (u64s (sL (mL (sL c d) (aL a b)) (mL (aL c d) (sL a b)))) 33]) [] 6 ?_
    have wo2427 := Hv2426.trans (Ev.drew Hv2426.heap)
    refine q_r 0 (s := Instr.loadAt 33 (pt bk79)) (v := .agg (List.toArray (u64s (xD u)))) En2425 (fun w hS => run_loadAgg2 (m := 4) (cs := u64s (xD u)) (u64s_lenh (xD_len _)) (by kernel_rfl) (by kernel_rfl) (hS.heap.cells (k := 0) (off := 0) (m := 4) rfl (load_whole (u64s_lenh (xD_len _))))) (wo2427.pk [8, 17]) fun ac2550 En2551 => ?_
    refine q_r 1 (s := Instr.loadAt 33 (pt bk2403)) (v := .agg (List.toArray (u64s (sL (mL (sL c d) (aL a b)) (mL (aL c d) (sL a b)))))) En2551 (fun w hS => run_loadAgg2 (m := 4) (cs := u64s (sL (mL (sL c d) (aL a b)) (mL (aL c d) (sL a b)))) (u64s_lenh (sL_len _ _)) (by kernel_rfl) (by kernel_rfl) (hS.heap.cells (k := 1) (off := 0) (m := 4) rfl (load_whole (u64s_lenh (sL_len _ _))))) (wo2427.pk [8, 17]) fun ac2552 En2553 => ?_
    refine q_r 2 (s := Instr.loadAt 33 (pt bk2403)) (v := .agg (List.toArray (u64s (sL (mL (sL c d) (aL a b)) (mL (aL c d) (sL a b)))))) En2553 (fun w hS => run_loadAgg2 (m := 4) (cs := u64s (sL (mL (sL c d) (aL a b)) (mL (aL c d) (sL a b)))) (u64s_lenh (sL_len _ _)) (by kernel_rfl) (by kernel_rfl) (hS.heap.cells (k := 1) (off := 0) (m := 4) rfl (load_whole (u64s_lenh (sL_len _ _))))) (wo2427.pk [8, 17]) fun ac2554 En2555 => ?_
    refine q_t 3 ?_
    refine c_p En2555 wo2427 (ymul_go _ (sL (mL (sL c d) (aL a b)) (mL (aL c d) (sL a b))) (sL (mL (sL c d) (aL a b)) (mL (aL c d) (sL a b))) (sL_len _ _) (sL_len _ _)) fun ac2560 wo2557 En2561 Hv2562 => ?_
    refine ⟨fun _ => Hv2562.pk [8, 17], ?_⟩
    refine q_t 4 ?_
    refine c_p En2561 Hv2562 (ymul_go _ (xD u) (mL (sL (mL (sL c d) (aL a b)) (mL (aL c d) (sL a b))) (sL (mL (sL c d) (aL a b)) (mL (aL c d) (sL a b)))) (xD_len _) (mL_len _ _)) fun ac2567 wo2564 En2568 Hv2569 => ?_
    refine ⟨fun _ => Hv2569.pk [8, 17], ?_⟩
    refine q_t 5 ?_
    refine m_g 3 0 4 (u64s (mL (xD u) (mL (sL (mL (sL c d) (aL a b)) (mL (aL c d) (sL a b))) (sL (mL (sL c d) (aL a b)) (mL (aL c d) (sL a b)))))) (u64s (mL (xD u) (mL (sL (mL (sL c d) (aL a b)) (mL (aL c d) (sL a b))) (sL (mL (sL c d) (aL a b)) (mL (aL c d) (sL a b)))))) [.box bk90 (u64s a) 33, .box bk101 (u64s b) 33, .box bk112 (u64s (mL (aL (mL (sL c d) (aL a b)) (mL (aL c d) (sL a b))) (aL (mL (sL c d) (aL a b)) (mL (aL c d) (sL a b))))) 33, .box bk123 (u64s (mL (xD u) (mL (sL (mL (sL c d) (aL a b)) (mL (aL c d) (sL a b))) (sL (mL (sL c d) (aL a b)) (mL (aL c d) (sL a b)))))) 33, .box bk1 (bys (clD k)) 22, .box bk6 (bys (clU u)) 22, .box bk11 (bys (List.replicate 32 0)) 22, .box bk61 (u64s (nd (lv (clD k)))) 33, .box bk79 (u64s (xD u)) 33, .box bk1531 (u64s (aL a b)) 33, .box bk1551 (u64s (sL a b)) 33, .box bk1571 (u64s (mL (aL a b) (aL a b))) 33, .box bk1591 (u64s (mL (sL a b) (sL a b))) 33, .box bk1611 (u64s (sL (mL (aL a b) (aL a b)) (mL (sL a b) (sL a b)))) 33, .box bk1856 (u64s (mL (sL c d) (aL a b))) 33, .box bk2232 (u64s (mL (aL c d) (sL a b))) 33, .box bk2383 (u64s (aL (mL (sL c d) (aL a b)) (mL (aL c d) (sL a b)))) 33, .box bk2403 (u64s (sL (mL (sL c d) (aL a b)) (mL (aL c d) (sL a b)))) 33] En2568 Hv2569 rfl (u64s_lenh (mL_len _ _)) (by rw [(u64s_lenh hld)]; decide) (u64s_one _) (store_whole (u64s_lenh hld)) rfl fun ac2570 wo2571 En2572 Hv2573 => ?_
    refine ⟨fun _ => Hv2573.pk [8, 17], ?_⟩
    exact h_e ⟨En2572.sb, Hv2573.pk [0, 1, 2, 3, 4, 5, 6, 7, 8, 9, 10, 11, 12, 13, 14, 15, 16, 17]⟩
   rintro ac2574 wo2575 ⟨En2576, Hv2577⟩
   refine then_normal ?_
   refine wp_seq ?_
   refine region_from ?_
   refine f_o ?_
   refine m_a 11 0 4 (u64s (mL (aL a b) (aL a b))) En2576 Hv2577 rfl (load_whole (u64s_lenh (mL_len _ _))) (u64s_lenh (mL_len _ _)) fun ac2578 En2579 => ?_
   refine f_o ?_
   refine m_a 12 0 4 (u64s (mL (sL a b) (sL a b))) En2579 Hv2577 rfl (load_whole (u64s_lenh (mL_len _ _))) (u64s_lenh (mL_len _ _)) fun ac2580 En2581 => ?_
   refine f_o ?_
   refine c_p En2581 Hv2577 (ymul_go _ (mL (aL a b) (aL a b)) (mL (sL a b) (sL a b)) (mL_len _ _) (mL_len _ _)) fun ac2586 wo2583 En2587 Hv2588 => ?_
   refine f_o ?_
   refine m_g 0 0 4 (u64s (mL (mL (aL a b) (aL a b)) (mL (sL a b) (sL a b)))) (u64s (mL (mL (aL a b) (aL a b)) (mL (sL a b) (sL a b)))) [.box bk90 (u64s (mL (mL (aL a b) (aL a b)) (mL (sL a b) (sL a b)))) 33, .box bk101 (u64s b) 33, .box bk112 (u64s (mL (aL (mL (sL c d) (aL a b)) (mL (aL c d) (sL a b))) (aL (mL (sL c d) (aL a b)) (mL (aL c d) (sL a b))))) 33, .box bk123 (u64s (mL (xD u) (mL (sL (mL (sL c d) (aL a b)) (mL (aL c d) (sL a b))) (sL (mL (sL c d) (aL a b)) (mL (aL c d) (sL a b)))))) 33, .box bk1 (bys (clD k)) 22, .box bk6 (bys (clU u)) 22, .box bk11 (bys (List.replicate 32 0)) 22, .box bk61 (u64s (nd (lv (clD k)))) 33, .box bk79 (u64s (xD u)) 33, .box bk1531 (u64s (aL a b)) 33, .box bk1551 (u64s (sL a b)) 33, .box bk1571 (u64s (mL (aL a b) (aL a b))) 33, .box bk1591 (u64s (mL (sL a b) (sL a b))) 33, .box bk1611 (u64s (sL (mL (aL a b) (aL a b)) (mL (sL a b) (sL a b)))) 33, .box bk1856 (u64s (mL (sL c d) (aL a b))) 33, .box bk2232 (u64s (mL (aL c d) (sL a b))) 33, .box bk2383 (u64s (aL (mL (sL c d) (aL a b)) (mL (aL c d) (sL a b)))) 33, .box bk2403 (u64s (sL (mL (sL c d) (aL a b)) (mL (aL c d) (sL a b)))) 33] En2587 Hv2588 rfl (u64s_lenh (mL_len _ _)) (by rw [(u64s_lenh hla)]; decide) (u64s_one _) (store_whole (u64s_lenh hla)) rfl fun ac2589 wo2590 En2591 Hv2592 => ?_
   refine f_e ?_
   refine then_normal ?_
   refine wp_seq ?_
   refine r_c (fun ac wo => Env ac 120 [(2, pt bk1), (3, pt bk6), (4, pt bk11), (5, pt bk61), (6, pt bk79), (7, pt bk90), (8, pt bk101), (9, pt bk112), (10, pt bk123), (11, ni (q - 1)), (12, .bool false), (13, pt bk1531), (14, pt bk1551), (15, pt bk1571), (16, pt bk1591), (17, pt bk1611), (18, pt bk1856), (19, pt bk2232), (20, pt bk2383), (21, pt bk2403)] ∧ Ev w [] wo [.box bk90 (u64s (mL (mL (aL a b) (aL a b)) (mL (sL a b) (sL a b)))) 33, .box bk101 (u64s (mL (sL (mL (aL a b) (aL a b)) (mL (sL a b) (sL a b))) (aL (mL (aL a b) (aL a b)) (mL ([121665, 0, 0, 0] : List UInt64) (sL (mL (aL a b) (aL a b)) (mL (sL a b) (sL a b))))))) 33, .box bk112 (u64s (mL (aL (mL (sL c d) (aL a b)) (mL (aL c d) (sL a b))) (aL (mL (sL c d) (aL a b)) (mL (aL c d) (sL a b))))) 33, .box bk123 (u64s (mL (xD u) (mL (sL (mL (sL c d) (aL a b)) (mL (aL c d) (sL a b))) (sL (mL (sL c d) (aL a b)) (mL (aL c d) (sL a b)))))) 33, .box bk1 (bys (clD k)) 22, .box bk6 (bys (clU u)) 22, .box bk11 (bys (List.replicate 32 0)) 22, .box bk61 (u64s (nd (lv (clD k)))) 33, .box bk79 (u64s (xD u)) 33, .box bk1531 (u64s (aL a b)) 33, .box bk1551 (u64s (sL a b)) 33, .box bk1571 (u64s (mL (aL a b) (aL a b))) 33, .box bk1591 (u64s (mL (sL a b) (sL a b))) 33, .box bk1611 (u64s (sL (mL (aL a b) (aL a b)) (mL (sL a b) (sL a b)))) 33, .box bk1856 (u64s (mL (sL c d) (aL a b))) 33, .box bk2232 (u64s (mL (aL c d) (sL a b))) 33, .box bk2383 (u64s (aL (mL (sL c d) (aL a b)) (mL (aL c d) (sL a b)))) 33, .box bk2403 (u64s (sL (mL (sL c d) (aL a b)) (mL (aL c d) (sL a b)))) 33]) ?_ ?_
   ·
    refine h_s (fun wv => Ev w [] wv [.box bk1571 (u64s (mL (aL a b) (aL a b))) 33, .box bk1611 (u64s (sL (mL (aL a b) (aL a b)) (mL (sL a b) (sL a b)))) 33]) [] 8 ?_
    have wo2593 := Hv2592.trans (Ev.drew Hv2592.heap)
    refine q_r 0 (s := Instr.loadAt 33 (pt bk1611)) (v := .agg (List.toArray (u64s (sL (mL (aL a b) (aL a b)) (mL (sL a b) (sL a b)))))) En2591 (fun w hS => run_loadAgg2 (m := 4) (cs := u64s (sL (mL (aL a b) (aL a b)) (mL (sL a b) (sL a b)))) (u64s_lenh (sL_len _ _)) (by kernel_rfl) (by kernel_rfl) (hS.heap.cells (k := 1) (off := 0) (m := 4) rfl (load_whole (u64s_lenh (sL_len _ _))))) (wo2593.pk [11, 13]) fun ac2788 En2789 => ?_
    refine q_r 1 (s := Instr.loadAt 33 (pt bk1571)) (v := .agg (List.toArray (u64s (mL (aL a b) (aL a b))))) En2789 (fun w hS => run_loadAgg2 (m := 4) (cs := u64s (mL (aL a b) (aL a b))) (u64s_lenh (mL_len _ _)) (by kernel_rfl) (by kernel_rfl) (hS.heap.cells (k := 0) (off := 0) (m := 4) rfl (load_whole (u64s_lenh (mL_len _ _))))) (wo2593.pk [11, 13]) fun ac2790 En2791 => ?_
    refine q_s [2] [] 5 En2791 (wo2593.pk [11, 13]) fun ac2792 En2793 => ?_
    refine q_r 3 (s := Instr.loadAt 33 (pt bk1611)) (v := .agg (List.toArray (u64s (sL (mL (aL a b) (aL a b)) (mL (sL a b) (sL a b)))))) En2793 (fun w hS => run_loadAgg2 (m := 4) (cs := u64s (sL (mL (aL a b) (aL a b)) (mL (sL a b) (sL a b)))) (u64s_lenh (sL_len _ _)) (by kernel_rfl) (by kernel_rfl) (hS.heap.cells (k := 1) (off := 0) (m := 4) rfl (load_whole (u64s_lenh (sL_len _ _))))) (wo2593.pk [11, 13]) fun ac2794 En2795 => ?_
    refine q_t 4 ?_
    refine c_p En2795 wo2593 (ymul_go _ ([121665, 0, 0, 0] : List UInt64) (sL (mL (aL a b) (aL a b)) (mL (sL a b) (sL a b))) (show List.length ([121665, 0, 0, 0] : List UInt64) = 4 from rfl) (sL_len _ _)) fun ac2800 wo2797 En2801 Hv2802 => ?_
    refine ⟨fun _ => Hv2802.pk [11, 13], ?_⟩
    refine q_t 5 ?_
    refine c_p En2801 Hv2802 (yadd_go _ (mL (aL a b) (aL a b)) (mL ([121665, 0, 0, 0] : List UInt64) (sL (mL (aL a b) (aL a b)) (mL (sL a b) (sL a b)))) (mL_len _ _) (mL_len _ _)) fun ac2807 wo2804 En2808 Hv2809 => ?_
    refine ⟨fun _ => Hv2809.pk [11, 13], ?_⟩
    refine q_t 6 ?_
    refine c_p En2808 Hv2809 (ymul_go _ (sL (mL (aL a b) (aL a b)) (mL (sL a b) (sL a b))) (aL (mL (aL a b) (aL a b)) (mL ([121665, 0, 0, 0] : List UInt64) (sL (mL (aL a b) (aL a b)) (mL (sL a b) (sL a b))))) (sL_len _ _) (aL_len _ _)) fun ac2814 wo2811 En2815 Hv2816 => ?_
    refine ⟨fun _ => Hv2816.pk [11, 13], ?_⟩
    refine q_t 7 ?_
    refine m_g 1 0 4 (u64s (mL (sL (mL (aL a b) (aL a b)) (mL (sL a b) (sL a b))) (aL (mL (aL a b) (aL a b)) (mL ([121665, 0, 0, 0] : List UInt64) (sL (mL (aL a b) (aL a b)) (mL (sL a b) (sL a b))))))) (u64s (mL (sL (mL (aL a b) (aL a b)) (mL (sL a b) (sL a b))) (aL (mL (aL a b) (aL a b)) (mL ([121665, 0, 0, 0] : List UInt64) (sL (mL (aL a b) (aL a b)) (mL (sL a b) (sL a b))))))) [.box bk90 (u64s (mL (mL (aL a b) (aL a b)) (mL (sL a b) (sL a b)))) 33, .box bk101 (u64s (mL (sL (mL (aL a b) (aL a b)) (mL (sL a b) (sL a b))) (aL (mL (aL a b) (aL a b)) (mL ([121665, 0, 0, 0] : List UInt64) (sL (mL (aL a b) (aL a b)) (mL (sL a b) (sL a b))))))) 33, .box bk112 (u64s (mL (aL (mL (sL c d) (aL a b)) (mL (aL c d) (sL a b))) (aL (mL (sL c d) (aL a b)) (mL (aL c d) (sL a b))))) 33, .box bk123 (u64s (mL (xD u) (mL (sL (mL (sL c d) (aL a b)) (mL (aL c d) (sL a b))) (sL (mL (sL c d) (aL a b)) (mL (aL c d) (sL a b)))))) 33, .box bk1 (bys (clD k)) 22, .box bk6 (bys (clU u)) 22, .box bk11 (bys (List.replicate 32 0)) 22, .box bk61 (u64s (nd (lv (clD k)))) 33, .box bk79 (u64s (xD u)) 33, .box bk1531 (u64s (aL a b)) 33, .box bk1551 (u64s (sL a b)) 33, .box bk1571 (u64s (mL (aL a b) (aL a b))) 33, .box bk1591 (u64s (mL (sL a b) (sL a b))) 33, .box bk1611 (u64s (sL (mL (aL a b) (aL a b)) (mL (sL a b) (sL a b)))) 33, .box bk1856 (u64s (mL (sL c d) (aL a b))) 33, .box bk2232 (u64s (mL (aL c d) (sL a b))) 33, .box bk2383 (u64s (aL (mL (sL c d) (aL a b)) (mL (aL c d) (sL a b)))) 33, .box bk2403 (u64s (sL (mL (sL c d) (aL a b)) (mL (aL c d) (sL a b)))) 33] En2815 Hv2816 rfl (u64s_lenh (mL_len _ _)) (by rw [(u64s_lenh hlb)]; decide) (u64s_one _) (store_whole (u64s_lenh hlb)) rfl fun ac2817 wo2818 En2819 Hv2820 => ?_
    refine ⟨fun _ => Hv2820.pk [11, 13], ?_⟩
    exact h_e ⟨En2819.sb, Hv2820.pk [0, 1, 2, 3, 4, 5, 6, 7, 8, 9, 10, 11, 12, 13, 14, 15, 16, 17]⟩
   rintro ac2821 wo2822 ⟨En2823, Hv2824⟩
   refine then_normal ?_
   refine wp_seq ?_
   refine d_r [2,3,4,5,6,7,8,9,10,11,12,13,14,15,16,17,18,19,20,21,110] [] En2823 fun ac2825 En2826 => ?_
   refine then_normal ?_
   refine c_f En2826 ?_
   refine wp_skip ?_
   refine block_normal ?_
   refine then_normal ?_
   refine d_r [2,3,4,5,6,7,8,9,10,11,12,13,14,15,16,17,18,19,20,21] [(1, g_n (w_r (e := ((q - 1 : Nat) : Int) - (1 : Int)) (x := ((q - 1 : Nat) : Int) - (1 : Int)) (by omega)))] En2826 fun ac2827 En2828 => ?_
   refine then_normal ?_
   refine ⟨_, ⟨q - 1, (mL (mL (aL a b) (aL a b)) (mL (sL a b) (sL a b))), (mL (sL (mL (aL a b) (aL a b)) (mL (sL a b) (sL a b))) (aL (mL (aL a b) (aL a b)) (mL ([121665, 0, 0, 0] : List UInt64) (sL (mL (aL a b) (aL a b)) (mL (sL a b) (sL a b)))))), (mL (aL (mL (sL c d) (aL a b)) (mL (aL c d) (sL a b))) (aL (mL (sL c d) (aL a b)) (mL (aL c d) (sL a b)))), (mL (xD u) (mL (sL (mL (sL c d) (aL a b)) (mL (aL c d) (sL a b))) (sL (mL (sL c d) (aL a b)) (mL (aL c d) (sL a b))))), rfl, En2828.sb, Hv2824.pk [0, 1, 2, 3, 4, 5, 6, 7, 8], by omega, (mL_len _ _), (mL_len _ _), (mL_len _ _), (mL_len _ _), lad_no hlad (by omega) (by rw [hj]; exact bit_0' hbv (by assumption))⟩, ?_⟩
   omega
 ·
  refine wp_exit ?_
  refine then_exit ?_
  refine then_exit ?_
  refine block_exit ?_
  refine then_normal ?_
  refine wp_seq ?_
  have hq0 : q = 0 := by omega
  rw [hq0] at hlad
  refine r_c (fun ac wo => Env ac 120 [(2, pt bk1), (3, pt bk6), (4, pt bk11), (5, pt bk61), (6, pt bk79), (7, pt bk90), (8, pt bk101), (9, pt bk112), (10, pt bk123), (11, .int .i64 (((q : Nat) : Int) - (1 : Int)))] ∧ Ev w [] wo [.box bk90 (u64s a) 33, .box bk101 (u64s b) 33, .box bk112 (u64s c) 33, .box bk123 (u64s d) 33, .box bk1 (bys (clD k)) 22, .box bk6 (bys (clU u)) 22, .box bk11 (bys (lb 32 (nv (mL a (iL b))))) 22, .box bk61 (u64s (nd (lv (clD k)))) 33, .box bk79 (u64s (xD u)) 33]) ?_ ?_
  ·
   refine h_s (fun wv => Ev w [] wv [.box bk90 (u64s a) 33, .box bk101 (u64s b) 33]) [] 6 ?_
   have wo2829 := Hv139.trans (Ev.drew Hv139.heap)
   refine q_r 0 (s := Instr.loadAt 33 (pt bk90)) (v := .agg (List.toArray (u64s a))) En142 (fun w hS => run_loadAgg2 (m := 4) (cs := u64s a) (u64s_lenh hla) (by kernel_rfl) (by kernel_rfl) (hS.heap.cells (k := 0) (off := 0) (m := 4) rfl (load_whole (u64s_lenh hla)))) (wo2829.pk [0, 1]) fun ac2944 En2945 => ?_
   refine q_r 1 (s := Instr.loadAt 33 (pt bk101)) (v := .agg (List.toArray (u64s b))) En2945 (fun w hS => run_loadAgg2 (m := 4) (cs := u64s b) (u64s_lenh hlb) (by kernel_rfl) (by kernel_rfl) (hS.heap.cells (k := 1) (off := 0) (m := 4) rfl (load_whole (u64s_lenh hlb)))) (wo2829.pk [0, 1]) fun ac2946 En2947 => ?_
   refine q_t 2 ?_
   refine c_p En2947 wo2829 (rinv_go _ 1 (.inl rfl) hR1 b hlb) fun ac2952 wo2949 En2953 Hv2954 => ?_
   refine ⟨fun _ => Hv2954.pk [0, 1], ?_⟩
   refine q_t 3 ?_
   refine c_p En2953 Hv2954 (ymul_go _ a (iL b) hla (iL_len _)) fun ac2959 wo2956 En2960 Hv2961 => ?_
   refine ⟨fun _ => Hv2961.pk [0, 1], ?_⟩
   refine q_t 4 ?_
   refine c_p En2960 Hv2961 (rtole_go _ (mL a (iL b)) (mL_len _ _)) fun ac2966 wo2963 En2967 Hv2968 => ?_
   refine ⟨fun _ => Hv2968.pk [0, 1], ?_⟩
   refine q_t 5 ?_
   refine m_g 6 0 32 (bys (lb 32 (nv (mL a (iL b))))) (bys (lb 32 (nv (mL a (iL b))))) [.box bk90 (u64s a) 33, .box bk101 (u64s b) 33, .box bk112 (u64s c) 33, .box bk123 (u64s d) 33, .box bk1 (bys (clD k)) 22, .box bk6 (bys (clU u)) 22, .box bk11 (bys (lb 32 (nv (mL a (iL b))))) 22, .box bk61 (u64s (nd (lv (clD k)))) 33, .box bk79 (u64s (xD u)) 33] En2967 Hv2968 rfl (bys_lenh (lb_len _ _)) (by rw [(bys_lenh (List.length_replicate))]; decide) (bys_one _) (store_whole (bys_lenh (List.length_replicate))) rfl fun ac2969 wo2970 En2971 Hv2972 => ?_
   refine ⟨fun _ => Hv2972.pk [0, 1], ?_⟩
   exact h_e ⟨En2971.sb, Hv2972.pk [0, 1, 2, 3, 4, 5, 6, 7, 8]⟩
  rintro ac2973 wo2974 ⟨En2975, Hv2976⟩
  refine then_normal ?_
  refine wp_ret ?_
  refine d_cell1 (v := .agg (List.toArray (bys (lb 32 (nv (mL a (iL b))))))) (t := 4) (T := 22) (ad := ⟨bk11, 0, none⟩) En2975 (by kernel_rfl) (by kernel_rfl) (Ev.cellAgg (t := 22) (k := 6) (off := 0) (m := 32) (xs := bys (lb 32 (nv (mL a (iL b))))) Hv2976 rfl (load_whole (bys_lenh (lb_len _ _))) (bys_lenh (lb_len _ _)) (by kernel_rfl) (by kernel_rfl)) ?_
  have eq : lb 32 (nv (mL a (iL b))) = multL (xD u) (lv (clD k)) := mult_of hlad
  exact ⟨by rw [eq], Hv2976.pk []⟩

end Go.Proofs.Yteainioaejnecaa
