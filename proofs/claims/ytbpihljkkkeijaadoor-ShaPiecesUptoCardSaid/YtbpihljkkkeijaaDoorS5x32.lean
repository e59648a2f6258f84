/- Layer 5: bytes that are put behind: the walk. -/
import Derived.Test.YtbpihljkkkeijaaDoorS3x32
import Derived.Test.YtbpihljkkkeijaaDoorS5
namespace Go.Proofs.YtbpihljkkkeijaaDoor
open Go.Dbr
set_option maxRecDepth 100000
set_option maxHeartbeats 2000000
set_option linter.unusedVariables false
set_option linter.unusedSimpArgs false

theorem write32_go (w : World) (bd : Nat) (s : List UInt32) (hls : List.length s = 8) (s2 : List UInt64) (hls2 : List.length s2 = 8) (ar : Option Addr) (cr : Nat) (rs : List UInt8) (hrs : List.length rs < 64) (dn : UInt64) (ax : Option Addr) (nx cx : Nat) (lx : List UInt8) (ex : nx = List.length lx) (ix : InB w [dB bd 1 s s2 ar (List.length rs) cr dn, .vec ar cr 1 (bys rs) 5] ax cx lx)  (hB : List.length rs + List.length lx ≤ 140737488355200) (gk32 : InU32 w [dB bd 1 s s2 ar (List.length rs) cr dn, .vec ar cr 1 (bys rs) 5] (some ⟨0, 0, none⟩) 64 K32) (hH : Heap w [dB bd 1 s s2 ar (List.length rs) cr dn, .vec ar cr 1 (bys rs) 5]) : Calls Tryd.prog 20 #[pt bd, .slice ax nx cx] w fun e w' => ∃ ao co, e = .returned (.tuple #[]) ∧ Ev w [dB bd 1 s s2 ar (List.length rs) cr dn, .vec ar cr 1 (bys rs) 5] w' [.box bd (([.int .i64 1] : List Value) ++ ((u32s (feed32 s (rs ++ lx) (List.length (rs ++ lx) / 64))) ++ ((u64s s2) ++ ([.slice ao (List.length (List.drop (64 * (List.length (rs ++ lx) / 64)) (rs ++ lx))) co, uv64 (dn + UInt64.ofNat (List.length lx))] : List Value)))) 58, .vec ao co 1 (bys (List.drop (64 * (List.length (rs ++ lx) / 64)) (rs ++ lx))) 5] := by
 subst ex
 have hs := ix.small
 have hcx := ix.cap
 refine d_0 [(0, pt bd), (1, .slice ax (List.length lx) cx)] 93 Go.Proofs.Tryd.func20 Go.Proofs.Tryd.ntmps20 (hH) fun act0 En0 Hv0 => ?_
 refine wp_seq ?_
 refine region_from ?_
 refine d_k [0,1,5,7] [] 3 En0 fun ac1 En2 => ?_
 refine f_o ?_
 refine m_v 0 18 (uv64 dn) En2 Hv0 rfl (seg_skip (n := 1) (j := 17) rfl (seg_skip (n := 8) (j := 9) (u32s_lenh hls) (seg_skip (n := 8) (j := 1) (u64s_lenh hls2) rfl))) fun ac3 En4 => ?_
 refine d_k [0,1,12,14] [(6, g_i .u64 (Go.Dbr.nat_to_u64 (a := ((List.length lx : Nat) : Int)) (n := List.length lx) rfl)), (7, g_i .u64 (Go.Dbr.u64_add (x := dn) (y := UInt64.ofNat (List.length lx)) rfl rfl))] 10 En4 fun ac5 En6 => ?_
 refine f_o ?_
 refine m_t 0 18 (uv64 (dn + (UInt64.ofNat (List.length lx)))) [.box bd (([.int .i64 1] : List Value) ++ ((u32s s) ++ ((u64s s2) ++ ([.slice ar (List.length rs) cr, uv64 (dn + (UInt64.ofNat (List.length lx)))] : List Value)))) 58, .vec ar cr 1 (bys rs) 5] En6 Hv0 rfl (seg_skip (n := 1) (j := 17) rfl (seg_skip (n := 8) (j := 9) (u32s_lenh hls) (seg_skip (n := 8) (j := 1) (u64s_lenh hls2) rfl))) ((set_skip (n := 1) (j := 17) rfl).trans (congrArg (([.int .i64 1] : List Value) ++ ·) ((set_skip (n := 8) (j := 9) (u32s_lenh hls)).trans (congrArg ((u32s s) ++ ·) ((set_skip (n := 8) (j := 1) (u64s_lenh hls2)).trans (congrArg ((u64s s2) ++ ·) rfl)))))) rfl fun ac7 wo8 En9 Hv10 => ?_
 refine f_e ?_
 refine then_normal ?_
 refine wp_seq ?_
 refine region_from ?_
 refine d_k [0,1,17] [] 3 En9 fun ac11 En12 => ?_
 refine f_o ?_
 refine m_v 0 0 (.int .i64 1) En12 Hv10 rfl (seg_in rfl) fun ac13 En14 => ?_
 refine f_o ?_
 refine c_p En14 Hv10 (block_go1 _) fun ac19 wo16 En20 Hv21 => ?_
 refine d_e [0,1,4] [] En20 fun ac22 En23 => ?_
 refine then_normal ?_
 refine wp_seq ?_
 refine r_c (fun ac wo => ∃ (ao210 : Option Addr) (cp211 : Nat), Env ac 93 [(0, pt bd), (1, .slice ax (List.length lx) cx), (4, .int .i64 64)] ∧ Ev w [dB bd 1 s s2 ar (List.length rs) cr dn, .vec ar cr 1 (bys rs) 5] wo [.box bd (([.int .i64 1] : List Value) ++ ((u32s s) ++ ((u64s s2) ++ ([.slice ao210 (List.length (rs ++ lx)) cp211, uv64 (dn + (UInt64.ofNat (List.length lx)))] : List Value)))) 58, .vec ao210 cp211 1 (bys (rs ++ lx)) 5]) ?_ ?_
 ·
  refine h_s (fun wv => Ev w [dB bd 1 s s2 ar (List.length rs) cr dn, .vec ar cr 1 (bys rs) 5] wv [.box bd (([.int .i64 1] : List Value) ++ ((u32s s) ++ ((u64s s2) ++ ([.slice ar (List.length rs) cr, uv64 (dn + (UInt64.ofNat (List.length lx)))] : List Value)))) 58, .vec ar cr 1 (bys rs) 5]) [15, 20] 21 ?_
  have wo24 := Hv21.trans (Ev.drew Hv21.heap)
  refine q_s [0,1,2,3] [] 17 En23 (wo24.pk [0, 1]) fun ac224 En225 => ?_
  refine q_r 4 (s := Instr.loadAt 23 (.pointer (some ⟨bd, 17, none⟩))) (v := .slice ar (List.length rs) cr) En225 (fun w hS => run_load1 (by kernel_rfl) (hS.heap.cell (k := 0) rfl (seg_skip (n := 1) (j := 16) rfl (seg_skip (n := 8) (j := 8) (u32s_lenh hls) (seg_skip (n := 8) (j := 0) (u64s_lenh hls2) rfl))))) (wo24.pk [0, 1]) fun ac226 En227 => ?_
  refine q_s [5,6,7] [] 13 En227 (wo24.pk [0, 1]) fun ac228 En229 => ?_
  refine q_r 8 (s := Instr.loadAt 23 (.pointer (some ⟨bd, 17, none⟩))) (v := .slice ar (List.length rs) cr) En229 (fun w hS => run_load1 (by kernel_rfl) (hS.heap.cell (k := 0) rfl (seg_skip (n := 1) (j := 16) rfl (seg_skip (n := 8) (j := 8) (u32s_lenh hls) (seg_skip (n := 8) (j := 0) (u64s_lenh hls2) rfl))))) (wo24.pk [0, 1]) fun ac230 En231 => ?_
  refine q_s [9,10,11,12] [] 8 En231 (wo24.pk [0, 1]) fun ac232 En233 => ?_
  refine q_r 13 (s := Instr.loadAt 23 (.pointer (some ⟨bd, 17, none⟩))) (v := .slice ar (List.length rs) cr) En233 (fun w hS => run_load1 (by kernel_rfl) (hS.heap.cell (k := 0) rfl (seg_skip (n := 1) (j := 16) rfl (seg_skip (n := 8) (j := 8) (u32s_lenh hls) (seg_skip (n := 8) (j := 0) (u64s_lenh hls2) rfl))))) (wo24.pk [0, 1]) fun ac234 En235 => ?_
  refine q_s [14,16] [] 5 En235 (wo24.pk [0, 1]) fun ac236 En237 => ?_
  refine q_t 15 ?_
  have hcap238 := bys_vcap wo24.heap (k := 1) rfl
  refine op_slicefull (d := some 35) (t := 23) (e := 5) (k := 1) (p := List.length rs) (cap := cr) (ao := ar) (xs := bys rs) (kk := .i64) (kl := .i64) En237 (by kernel_rfl) (by kernel_rfl) (by kernel_rfl) wo24 rfl ((bys_len _).trans (Nat.mul_one _)) (by omega) ?_
  intro ac239 En240 Hv241
  refine ⟨q_y, ?_⟩
  refine q_t 17 ?_
  have hsm242 := ix.small
  refine op_append (d := some 37) (t := 23) (tx := 23) (ty := 23) (k := 1) (p := List.length rs) (m := List.length lx) (x := .slice ax (List.length lx) cx) (bytes := 1) En240 (by kernel_rfl) Hv241 rfl (bys_len _) (Reads.src (size := 1) (tx := 23) (e' := 5) (by kernel_rfl) (ix.ev Hv241).reads (bys_len _) ix.nz (bys_one _)) (by kernel_rfl) (z := .int .u8 0) (by kernel_rfl) rfl (by decide) (by omega) (by unfold maxLen; omega) ?_
  intro ac247 wo248 ao243 cp244 En249 Hv250 hnz _
  clear hnz
  rw [← bys_append] at Hv250
  have ehz245 : (List.length rs) + (List.length lx) = List.length (rs ++ lx) := (by first | (simp; done) | (simp; omega) | omega)
  rw [ehz245] at En249
  refine ⟨q_y, ?_⟩
  refine q_n [18,19] [] 1 En249 fun ac251 En252 => ?_
  refine q_t 20 ?_
  refine m_t 0 17 (.slice ao243 (List.length (rs ++ lx)) cp244) [.box bd (([.int .i64 1] : List Value) ++ ((u32s s) ++ ((u64s s2) ++ ([.slice ao243 (List.length (rs ++ lx)) cp244, uv64 (dn + (UInt64.ofNat (List.length lx)))] : List Value)))) 58, .vec ao243 cp244 1 (bys (rs ++ lx)) 5] En252 Hv250 rfl (seg_skip (n := 1) (j := 16) rfl (seg_skip (n := 8) (j := 8) (u32s_lenh hls) (seg_skip (n := 8) (j := 0) (u64s_lenh hls2) rfl))) ((set_skip (n := 1) (j := 16) rfl).trans (congrArg (([.int .i64 1] : List Value) ++ ·) ((set_skip (n := 8) (j := 8) (u32s_lenh hls)).trans (congrArg ((u32s s) ++ ·) ((set_skip (n := 8) (j := 0) (u64s_lenh hls2)).trans (congrArg ((u64s s2) ++ ·) rfl)))))) rfl fun ac253 wo254 En255 Hv256 => ?_
  refine ⟨q_y, ?_⟩
  exact h_e ⟨ao243, cp244, En255.sb, Hv256.pk [0, 1]⟩
 rintro ac257 wo258 ⟨ao210, cp211, En259, Hv260⟩
 refine then_normal ?_
 refine wp_block ?_
 have hR : List.length (rs ++ lx) ≤ 140737488355200 := by rw [List.length_append]; omega
 have hz : rs ++ lx = List.drop (64 * 0) (rs ++ lx) := rfl
 refine loop_m (fun ms261 ac wo => ∃ (q : Nat) (at1 : Option Addr) (ct : Nat) (sx : List UInt32), ms261 = (List.length (rs ++ lx) - 64 * q : Nat) ∧ Env ac 93 [(0, pt bd), (1, .slice ax (List.length lx) cx), (4, .int .i64 64)] ∧ Ev w [dB bd 1 s s2 ar (List.length rs) cr dn, .vec ar cr 1 (bys rs) 5] wo [.box bd (([.int .i64 1] : List Value) ++ ((u32s sx) ++ ((u64s s2) ++ ([.slice at1 (List.length (List.drop (64 * q) (rs ++ lx))) ct, uv64 (dn + (UInt64.ofNat (List.length lx)))] : List Value)))) 58, .vec at1 ct 1 (bys (List.drop (64 * q) (rs ++ lx))) 5] ∧ (64 * q ≤ List.length (rs ++ lx)) ∧ (List.length sx = 8) ∧ (sx = feed32 s (rs ++ lx) q)) ⟨_, 0, ao210, cp211, s, rfl, En259.sb, Hv260.pk [0, 1], by omega, hls, rfl⟩ ?_
 rintro mm267 ac263 wo264 ⟨q, at1, ct, sx, rfl, En265, Hv266, hq, hlx, hes⟩
 refine wp_seq ?_
 refine wp_seq ?_
 have hDl : List.length (List.drop (64 * q) (rs ++ lx)) = List.length (rs ++ lx) - 64 * q := List.length_drop
 refine region_from ?_
 refine d_k [0,1,4,42] [] 3 En265 fun ac268 En269 => ?_
 refine f_o ?_
 refine m_v 0 17 (.slice at1 (List.length (List.drop (64 * q) (rs ++ lx))) ct) En269 Hv266 rfl (seg_skip (n := 1) (j := 16) rfl (seg_skip (n := 8) (j := 8) (u32s_lenh hlx) (seg_skip (n := 8) (j := 0) (u64s_lenh hls2) rfl))) fun ac270 En271 => ?_
 refine d_e [0,1,4,46] [] En271 fun ac272 En273 => ?_
 refine then_normal ?_
 refine c_d (((List.length (List.drop (64 * q) (rs ++ lx)) : Nat) : Int) ≥ (64 : Int)) En273 (fun hc274 => ?_) (fun hc274 => ?_)
 ·
  refine wp_skip ?_
  refine then_normal ?_
  refine wp_seq ?_
  refine wp_block ?_
  refine wp_seq ?_
  refine wp_seq ?_
  refine region_from ?_
  refine d_k [0,1,4,58] [] 3 En273 fun ac275 En276 => ?_
  refine f_o ?_
  refine m_v 0 0 (.int .i64 1) En276 Hv266 rfl (seg_in rfl) fun ac277 En278 => ?_
  refine d_e [0,1,4,60] [] En278 fun ac279 En280 => ?_
  refine then_normal ?_
  refine c_t En280 ?_
  refine wp_seq ?_
  have hD64 : List.length (List.take 64 (List.drop (64 * q) (rs ++ lx))) = 64 := by rw [List.length_take]; omega
  refine r_c (fun ac wo => Env ac 93 [(0, pt bd), (1, .slice ax (List.length lx) cx), (4, .int .i64 64)] ∧ Ev w [dB bd 1 s s2 ar (List.length rs) cr dn, .vec ar cr 1 (bys rs) 5] wo [.box bd (([.int .i64 1] : List Value) ++ ((u32s (blk32 sx (wB32 (List.take 64 (List.drop (64 * q) (rs ++ lx))) 16))) ++ ((u64s s2) ++ ([.slice at1 (List.length (List.drop (64 * q) (rs ++ lx))) ct, uv64 (dn + (UInt64.ofNat (List.length lx)))] : List Value)))) 58, .vec at1 ct 1 (bys (List.drop (64 * q) (rs ++ lx))) 5]) ?_ ?_
  ·
   refine h_s (fun wv => Ev w [dB bd 1 s s2 ar (List.length rs) cr dn, .vec ar cr 1 (bys rs) 5] wv [.box bd (([.int .i64 1] : List Value) ++ ((u32s sx) ++ ((u64s s2) ++ ([.slice at1 (List.length (List.drop (64 * q) (rs ++ lx))) ct, uv64 (dn + (UInt64.ofNat (List.length lx)))] : List Value)))) 58, .vec at1 ct 1 (bys (List.drop (64 * q) (rs ++ lx))) 5]) [15] 16 ?_
   have wo281 := Hv266.trans (Ev.drew Hv266.heap)
   refine h_name fun G hG => ?_
   have nd428 : ∀ (ac : Act) (wo : World) (aoq374 : _) (coq374 : _), Env ac 93 [(0, pt bd), (1, .slice ax (List.length lx) cx), (4, .int .i64 64), (63, .pointer (some ⟨bd, 1, none⟩)), (69, .slice aoq374 16 coq374), (75, .agg (List.toArray kL32))] → Ev w [dB bd 1 s s2 ar (List.length rs) cr dn, .vec ar cr 1 (bys rs) 5] wo [.vec aoq374 coq374 1 (u32s (wB32 (List.take 64 (List.drop (64 * q) (rs ++ lx))) 16)) 55, .box bd (([.int .i64 1] : List Value) ++ ((u32s sx) ++ ((u64s s2) ++ ([.slice at1 (List.length (List.drop (64 * q) (rs ++ lx))) ct, uv64 (dn + (UInt64.ofNat (List.length lx)))] : List Value)))) 58, .vec at1 ct 1 (bys (List.drop (64 * q) (rs ++ lx))) 5] → G 2 #[true, true, true, true, true, true, true, true, true, false, true, true, true, true, true, false] ac wo := by
    intro ac429 wo430 aoq374 coq374 En431 Hv432
    refine h_from hG ?_
    refine q_t 9 ?_
    refine op_slicearr (d := some 70) (t := 63) (e := 55) (sz := 1) (m := 64) (lo := 0) (hi := 64) (b := 0) (off := 0) (lov := none) (hiv := none) (o := 0) En431 (by kernel_rfl) (by kernel_rfl) (by kernel_rfl) (by omega) (by omega) (by omega) (.inl ⟨rfl, rfl⟩) (.inl ⟨rfl, rfl⟩) (by omega) ?_
    intro ac433 En434
    refine ⟨fun _ => Hv432.pk [1, 2], ?_⟩
    refine q_t 15 ?_
    refine c_l [1,0] (M := [.box bd (([.int .i64 1] : List Value) ++ ((u32s sx) ++ ((u64s s2) ++ ([.slice at1 (List.length (List.drop (64 * q) (rs ++ lx))) ct, uv64 (dn + (UInt64.ofNat (List.length lx)))] : List Value)))) 58, .vec aoq374 coq374 1 (u32s (wB32 (List.take 64 (List.drop (64 * q) (rs ++ lx))) 16)) 55]) En434 Hv432 (fun hM435 => blocked32_go _ bd 1 sx hlx s2 hls2 at1 (List.length (List.drop (64 * q) (rs ++ lx))) ct (dn + (UInt64.ofNat (List.length lx))) aoq374 coq374 (wB32 (List.take 64 (List.drop (64 * q) (rs ++ lx))) 16) (wB32_len _ 16) ((gk32.ev Hv432).pick [1, 0] (by kernel_rfl)) hM435) ?_
    rintro _ wo436 ⟨rfl, he437⟩
    refine ⟨_, _, [.box bd (([.int .i64 1] : List Value) ++ ((u32s (blk32 sx (wB32 (List.take 64 (List.drop (64 * q) (rs ++ lx))) 16))) ++ ((u64s s2) ++ ([.slice at1 (List.length (List.drop (64 * q) (rs ++ lx))) ct, uv64 (dn + (UInt64.ofNat (List.length lx)))] : List Value)))) 58, .vec at1 ct 1 (bys (List.drop (64 * q) (rs ++ lx))) 5], rfl, he437, by kernel_rfl, fun ac439 En440 Hv441 => ?_⟩
    refine ⟨q_y, ?_⟩
    exact h_e ⟨En440.sb, Hv441.pk [0, 1]⟩
   have nd442 : ∀ (ac : Act) (wo : World), Env ac 93 [(0, pt bd), (1, .slice ax (List.length lx) cx), (4, .int .i64 64), (63, .pointer (some ⟨bd, 1, none⟩)), (68, .slice at1 64 ct), (70, .slice (some ⟨0, 0, none⟩) 64 64), (75, .agg (List.toArray kL32))] → Ev w [dB bd 1 s s2 ar (List.length rs) cr dn, .vec ar cr 1 (bys rs) 5] wo [.box bd (([.int .i64 1] : List Value) ++ ((u32s sx) ++ ((u64s s2) ++ ([.slice at1 (List.length (List.drop (64 * q) (rs ++ lx))) ct, uv64 (dn + (UInt64.ofNat (List.length lx)))] : List Value)))) 58, .vec at1 ct 1 (bys (List.drop (64 * q) (rs ++ lx))) 5] → G 2 #[true, true, true, true, true, true, true, true, false, true, true, true, true, true, true, false] ac wo := by
    intro ac443 wo444 En445 Hv446
    refine h_from hG ?_
    refine q_t 8 ?_
    refine c_0 En445 Hv446 (words32_16 _ at1 64 ct (List.take 64 (List.drop (64 * q) (rs ++ lx))) (by first | rfl | (simp; done) | (simp; omega) | omega) (bys_in_take Hv446.heap (k := 1) rfl [] (by kernel_rfl) rfl 64 (by first | decide | omega)) hD64) ?_
    rintro _ wo449 ⟨aoq447, coq447, rfl, he450⟩
    refine ⟨_, _, _, rfl, he450, rfl, fun ac452 En453 Hv454 => ?_⟩
    refine ⟨fun _ => Hv454.pk [1, 2], ?_⟩
    refine q_t 15 ?_
    refine c_l [1,0] (M := [.box bd (([.int .i64 1] : List Value) ++ ((u32s sx) ++ ((u64s s2) ++ ([.slice at1 (List.length (List.drop (64 * q) (rs ++ lx))) ct, uv64 (dn + (UInt64.ofNat (List.length lx)))] : List Value)))) 58, .vec aoq447 coq447 1 (u32s (wB32 (List.take 64 (List.drop (64 * q) (rs ++ lx))) 16)) 55]) En453 Hv454 (fun hM455 => blocked32_go _ bd 1 sx hlx s2 hls2 at1 (List.length (List.drop (64 * q) (rs ++ lx))) ct (dn + (UInt64.ofNat (List.length lx))) aoq447 coq447 (wB32 (List.take 64 (List.drop (64 * q) (rs ++ lx))) 16) (wB32_len _ 16) ((gk32.ev Hv454).pick [1, 0] (by kernel_rfl)) hM455) ?_
    rintro _ wo456 ⟨rfl, he457⟩
    refine ⟨_, _, [.box bd (([.int .i64 1] : List Value) ++ ((u32s (blk32 sx (wB32 (List.take 64 (List.drop (64 * q) (rs ++ lx))) 16))) ++ ((u64s s2) ++ ([.slice at1 (List.length (List.drop (64 * q) (rs ++ lx))) ct, uv64 (dn + (UInt64.ofNat (List.length lx)))] : List Value)))) 58, .vec at1 ct 1 (bys (List.drop (64 * q) (rs ++ lx))) 5], rfl, he457, by kernel_rfl, fun ac459 En460 Hv461 => ?_⟩
    refine ⟨q_y, ?_⟩
    exact h_e ⟨En460.sb, Hv461.pk [0, 1]⟩
   have nd462 : ∀ (ac : Act) (wo : World), Env ac 93 [(0, pt bd), (1, .slice ax (List.length lx) cx), (4, .int .i64 64), (63, .pointer (some ⟨bd, 1, none⟩)), (68, .slice at1 64 ct), (75, .agg (List.toArray kL32))] → Ev w [dB bd 1 s s2 ar (List.length rs) cr dn, .vec ar cr 1 (bys rs) 5] wo [.box bd (([.int .i64 1] : List Value) ++ ((u32s sx) ++ ((u64s s2) ++ ([.slice at1 (List.length (List.drop (64 * q) (rs ++ lx))) ct, uv64 (dn + (UInt64.ofNat (List.length lx)))] : List Value)))) 58, .vec at1 ct 1 (bys (List.drop (64 * q) (rs ++ lx))) 5] → G 3 #[true, true, true, true, true, true, true, true, false, false, true, true, true, true, true, false] ac wo := by
    intro ac463 wo464 En465 Hv466
    refine h_from hG ?_
    refine h_ways [8, 9] (by kernel_rfl) rfl ?_
    refine ⟨?_, ?_, trivial⟩
    ·
     rintro _ rfl
     refine c_0 En465 Hv466 (words32_16 _ at1 64 ct (List.take 64 (List.drop (64 * q) (rs ++ lx))) (by first | rfl | (simp; done) | (simp; omega) | omega) (bys_in_take Hv466.heap (k := 1) rfl [] (by kernel_rfl) rfl 64 (by first | decide | omega)) hD64) ?_
     rintro _ wo469 ⟨aoq467, coq467, rfl, he470⟩
     refine ⟨_, _, _, rfl, he470, rfl, fun ac472 En473 Hv474 => ?_⟩
     refine ⟨fun _ => Hv474.pk [1, 2], ?_⟩
     exact h_to hG (by kernel_rfl) (nd428 _ _ aoq467 coq467 (En473.sb) (Hv474.pk [0, 1, 2]))
    ·
     rintro _ rfl
     refine op_slicearr (d := some 70) (t := 63) (e := 55) (sz := 1) (m := 64) (lo := 0) (hi := 64) (b := 0) (off := 0) (lov := none) (hiv := none) (o := 0) En465 (by kernel_rfl) (by kernel_rfl) (by kernel_rfl) (by omega) (by omega) (by omega) (.inl ⟨rfl, rfl⟩) (.inl ⟨rfl, rfl⟩) (by omega) ?_
     intro ac475 En476
     refine ⟨fun _ => Hv466.pk [0, 1], ?_⟩
     exact h_to hG (by kernel_rfl) (nd442 _ _ (En476.sb) (Hv466.pk [0, 1]))
   have nd477 : ∀ (ac : Act) (wo : World), Env ac 93 [(0, pt bd), (1, .slice ax (List.length lx) cx), (4, .int .i64 64), (63, .pointer (some ⟨bd, 1, none⟩)), (67, .slice at1 (List.length (List.drop (64 * q) (rs ++ lx))) ct), (70, .slice (some ⟨0, 0, none⟩) 64 64), (75, .agg (List.toArray kL32))] → Ev w [dB bd 1 s s2 ar (List.length rs) cr dn, .vec ar cr 1 (bys rs) 5] wo [.box bd (([.int .i64 1] : List Value) ++ ((u32s sx) ++ ((u64s s2) ++ ([.slice at1 (List.length (List.drop (64 * q) (rs ++ lx))) ct, uv64 (dn + (UInt64.ofNat (List.length lx)))] : List Value)))) 58, .vec at1 ct 1 (bys (List.drop (64 * q) (rs ++ lx))) 5] → G 3 #[true, true, true, true, true, true, true, false, false, true, true, true, true, true, true, false] ac wo := by
    intro ac478 wo479 En480 Hv481
    refine h_from hG ?_
    refine q_t 7 ?_
    have hcap482 := bys_vcap Hv481.heap (k := 1) rfl
    refine op_slice0 (d := some 68) (t := 23) (e := 5) (sz := 1) (len := List.length (List.drop (64 * q) (rs ++ lx))) (cap := ct) (hi := 64) (ao := at1) (lov := none) (hiv := (some (.int .i64 64))) En480 (by kernel_rfl) (by kernel_rfl) (by kernel_rfl) (by omega) (.inl ⟨rfl, rfl⟩) (.inr ⟨.i64, rfl⟩) ?_
    intro ac483 En484
    refine ⟨fun _ => Hv481.pk [0, 1], ?_⟩
    refine q_t 8 ?_
    refine c_0 En484 Hv481 (words32_16 _ at1 64 ct (List.take 64 (List.drop (64 * q) (rs ++ lx))) (by first | rfl | (simp; done) | (simp; omega) | omega) (bys_in_take Hv481.heap (k := 1) rfl [] (by kernel_rfl) rfl 64 (by first | decide | omega)) hD64) ?_
    rintro _ wo487 ⟨aoq485, coq485, rfl, he488⟩
    refine ⟨_, _, _, rfl, he488, rfl, fun ac490 En491 Hv492 => ?_⟩
    refine ⟨fun _ => Hv492.pk [1, 2], ?_⟩
    refine q_t 15 ?_
    refine c_l [1,0] (M := [.box bd (([.int .i64 1] : List Value) ++ ((u32s sx) ++ ((u64s s2) ++ ([.slice at1 (List.length (List.drop (64 * q) (rs ++ lx))) ct, uv64 (dn + (UInt64.ofNat (List.length lx)))] : List Value)))) 58, .vec aoq485 coq485 1 (u32s (wB32 (List.take 64 (List.drop (64 * q) (rs ++ lx))) 16)) 55]) En491 Hv492 (fun hM493 => blocked32_go _ bd 1 sx hlx s2 hls2 at1 (List.length (List.drop (64 * q) (rs ++ lx))) ct (dn + (UInt64.ofNat (List.length lx))) aoq485 coq485 (wB32 (List.take 64 (List.drop (64 * q) (rs ++ lx))) 16) (wB32_len _ 16) ((gk32.ev Hv492).pick [1, 0] (by kernel_rfl)) hM493) ?_
    rintro _ wo494 ⟨rfl, he495⟩
    refine ⟨_, _, [.box bd (([.int .i64 1] : List Value) ++ ((u32s (blk32 sx (wB32 (List.take 64 (List.drop (64 * q) (rs ++ lx))) 16))) ++ ((u64s s2) ++ ([.slice at1 (List.length (List.drop (64 * q) (rs ++ lx))) ct, uv64 (dn + (UInt64.ofNat (List.length lx)))] : List Value)))) 58, .vec at1 ct 1 (bys (List.drop (64 * q) (rs ++ lx))) 5], rfl, he495, by kernel_rfl, fun ac497 En498 Hv499 => ?_⟩
    refine ⟨q_y, ?_⟩
    exact h_e ⟨En498.sb, Hv499.pk [0, 1]⟩
   refine h_from hG ?_
   refine q_s [0,1,2,3,4,5] [] 10 En280 (wo281.pk [0, 1]) fun ac500 En501 => ?_
   refine q_r 6 (s := Instr.loadAt 23 (.pointer (some ⟨bd, 17, none⟩))) (v := .slice at1 (List.length (List.drop (64 * q) (rs ++ lx))) ct) En501 (fun w hS => run_load1 (by kernel_rfl) (hS.heap.cell (k := 0) rfl (seg_skip (n := 1) (j := 16) rfl (seg_skip (n := 8) (j := 8) (u32s_lenh hlx) (seg_skip (n := 8) (j := 0) (u64s_lenh hls2) rfl))))) (wo281.pk [0, 1]) fun ac502 En503 => ?_
   refine q_s [10,11,12,13,14] [] 4 En503 (wo281.pk [0, 1]) fun ac504 En505 => ?_
   refine h_ways [7, 9] (by kernel_rfl) rfl ?_
   refine ⟨?_, ?_, trivial⟩
   ·
    rintro _ rfl
    have hcap506 := bys_vcap wo281.heap (k := 1) rfl
    refine op_slice0 (d := some 68) (t := 23) (e := 5) (sz := 1) (len := List.length (List.drop (64 * q) (rs ++ lx))) (cap := ct) (hi := 64) (ao := at1) (lov := none) (hiv := (some (.int .i64 64))) En505 (by kernel_rfl) (by kernel_rfl) (by kernel_rfl) (by omega) (.inl ⟨rfl, rfl⟩) (.inr ⟨.i64, rfl⟩) ?_
    intro ac507 En508
    refine ⟨fun _ => wo281.pk [0, 1], ?_⟩
    exact h_to hG (by kernel_rfl) (nd462 _ _ (En508.sb) (wo281.pk [0, 1]))
   ·
    rintro _ rfl
    refine op_slicearr (d := some 70) (t := 63) (e := 55) (sz := 1) (m := 64) (lo := 0) (hi := 64) (b := 0) (off := 0) (lov := none) (hiv := none) (o := 0) En505 (by kernel_rfl) (by kernel_rfl) (by kernel_rfl) (by omega) (by omega) (by omega) (.inl ⟨rfl, rfl⟩) (.inl ⟨rfl, rfl⟩) (by omega) ?_
    intro ac509 En510
    refine ⟨fun _ => wo281.pk [0, 1], ?_⟩
    exact h_to hG (by kernel_rfl) (nd477 _ _ (En510.sb) (wo281.pk [0, 1]))
  rintro ac511 wo512 ⟨En513, Hv514⟩
  refine then_normal ?_
  refine wp_exit ?_
  refine then_exit ?_
  refine block_exit ?_
  refine then_normal ?_
  have hDl : List.length (List.drop (64 * q) (rs ++ lx)) = List.length (rs ++ lx) - 64 * q := List.length_drop
  refine region_from ?_
  refine d_k [0,1,4,47,50] [] 4 En513 fun ac515 En516 => ?_
  refine f_o ?_
  refine m_v 0 17 (.slice at1 (List.length (List.drop (64 * q) (rs ++ lx))) ct) En516 Hv514 rfl (seg_skip (n := 1) (j := 16) rfl (seg_skip (n := 8) (j := 8) (u32s_lenh (blk32_len hlx (wB32 (List.take 64 (List.drop (64 * q) (rs ++ lx))) 16))) (seg_skip (n := 8) (j := 0) (u64s_lenh hls2) rfl))) fun ac517 En518 => ?_
  refine d_k [0,1,4,47,51,52] [] 6 En518 fun ac519 En520 => ?_
  refine f_o ?_
  have hcap521 := bys_vcap Hv514.heap (k := 1) rfl
  refine op_slice (d := some 53) (t := 23) (e := 5) (sz := 1) (len := List.length (List.drop (64 * q) (rs ++ lx))) (cap := ct) (lo := 64) (hi := List.length (List.drop (64 * q) (rs ++ lx))) (ao := at1) (lov := (some (.int .i64 64))) (hiv := none) En520 (by kernel_rfl) (by kernel_rfl) (by kernel_rfl) (by omega) (by omega) (.inr ⟨.i64, rfl⟩) (.inl ⟨rfl, rfl⟩) ?_
  intro ac522 En523
  have Hv524 : Ev w [dB bd 1 s s2 ar (List.length rs) cr dn, .vec ar cr 1 (bys rs) 5] wo512 [.box bd (([.int .i64 1] : List Value) ++ ((u32s (blk32 sx (wB32 (List.take 64 (List.drop (64 * q) (rs ++ lx))) 16))) ++ ((u64s s2) ++ ([.slice at1 (List.length (List.drop (64 * q) (rs ++ lx))) ct, uv64 (dn + (UInt64.ofNat (List.length lx)))] : List Value)))) 58, .vec (cutAt at1 ct 64 1) (ct - 64) 1 (bys (List.drop 64 (List.drop (64 * q) (rs ++ lx)))) 5] := by
   have h := Ev.cut (k := 1) (n := List.length (List.drop (64 * q) (rs ++ lx))) (sz := 1) Hv514 rfl (bys_len _) (by omega) 64 (List.length (List.drop (64 * q) (rs ++ lx))) (by omega) (by omega)
   rw [bys_cutw (l := List.drop (64 * q) (rs ++ lx)) (lo := 64) (n := List.length (List.drop (64 * q) (rs ++ lx))) (by simp)] at h
   exact h
  have el525 : (List.length (List.drop (64 * q) (rs ++ lx))) - 64 = List.length (List.drop 64 (List.drop (64 * q) (rs ++ lx))) := by first | (simp; done) | (rw [List.length_take]; omega) | (rw [List.length_drop]; omega) | (simp; omega)
  rw [el525] at En523
  refine d_k [0,1,4,53,55] [] 9 En523 fun ac526 En527 => ?_
  refine f_o ?_
  refine m_t 0 17 (.slice (cutAt at1 ct 64 1) (List.length (List.drop 64 (List.drop (64 * q) (rs ++ lx)))) (ct - 64)) [.box bd (([.int .i64 1] : List Value) ++ ((u32s (blk32 sx (wB32 (List.take 64 (List.drop (64 * q) (rs ++ lx))) 16))) ++ ((u64s s2) ++ ([.slice (cutAt at1 ct 64 1) (List.length (List.drop 64 (List.drop (64 * q) (rs ++ lx)))) (ct - 64), uv64 (dn + (UInt64.ofNat (List.length lx)))] : List Value)))) 58, .vec (cutAt at1 ct 64 1) (ct - 64) 1 (bys (List.drop 64 (List.drop (64 * q) (rs ++ lx)))) 5] En527 Hv524 rfl (seg_skip (n := 1) (j := 16) rfl (seg_skip (n := 8) (j := 8) (u32s_lenh (blk32_len hlx (wB32 (List.take 64 (List.drop (64 * q) (rs ++ lx))) 16))) (seg_skip (n := 8) (j := 0) (u64s_lenh hls2) rfl))) ((set_skip (n := 1) (j := 16) rfl).trans (congrArg (([.int .i64 1] : List Value) ++ ·) ((set_skip (n := 8) (j := 8) (u32s_lenh (blk32_len hlx (wB32 (List.take 64 (List.drop (64 * q) (rs ++ lx))) 16)))).trans (congrArg ((u32s (blk32 sx (wB32 (List.take 64 (List.drop (64 * q) (rs ++ lx))) 16))) ++ ·) ((set_skip (n := 8) (j := 0) (u64s_lenh hls2)).trans (congrArg ((u64s s2) ++ ·) rfl)))))) rfl fun ac528 wo529 En530 Hv531 => ?_
  refine f_e ?_
  rw [show (List.drop 64 (List.drop (64 * q) (rs ++ lx))) = (List.drop (64 * (q + 1)) (rs ++ lx)) from by rw [List.drop_drop]; rfl] at Hv531
  refine then_normal ?_
  refine ⟨_, ⟨q + 1, (cutAt at1 ct 64 1), (ct - 64), (blk32 sx (wB32 (List.take 64 (List.drop (64 * q) (rs ++ lx))) 16)), rfl, En530.sb, Hv531.pk [0, 1], by omega, (blk32_len hlx (wB32 (List.take 64 (List.drop (64 * q) (rs ++ lx))) 16)), by rw [hes]; rfl⟩, ?_⟩
  omega
 ·
  refine wp_exit ?_
  refine then_exit ?_
  refine then_exit ?_
  refine block_exit ?_
  refine d_end0 En273 (by kernel_rfl) ?_
  have hqe : q = List.length (rs ++ lx) / 64 := by omega
  rw [hqe] at hes
  subst hes
  subst hqe
  exact ⟨at1, ct, rfl, Hv266.pk [0, 1]⟩

end Go.Proofs.YtbpihljkkkeijaaDoor
