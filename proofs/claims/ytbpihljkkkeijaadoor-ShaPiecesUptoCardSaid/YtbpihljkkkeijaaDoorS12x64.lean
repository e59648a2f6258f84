/- Layer 5: the sum of the document, 64 bits: the walk. -/
import Derived.Test.YtbpihljkkkeijaaDoorS12
namespace Go.Proofs.YtbpihljkkkeijaaDoor
open Go.Dbr
set_option maxRecDepth 100000
set_option maxHeartbeats 2000000
set_option linter.unusedVariables false
set_option linter.unusedSimpArgs false

theorem sum64_ref (w : World) (ax : Option Addr) (nx cx : Nat) (lx : List UInt8) (ex : nx = List.length lx) (ix : InB w [] ax cx lx) (s0 : List UInt64) (hs0 : List.length s0 = 8) : Calls Tryd.prog 34 #[.slice ax nx cx, .agg (List.toArray (u64s s0))] w fun e w' => ∃ ao co, e = .returned (.slice ao (List.length (ro64 (rfeed64 s0 (lx ++ padB 128 (List.length lx % 128) (List.length lx)) (List.length (lx ++ padB 128 (List.length lx % 128) (List.length lx)) / 128)) 8)) co) ∧ Ev w [] w' [.vec ao co 1 (bys (ro64 (rfeed64 s0 (lx ++ padB 128 (List.length lx % 128) (List.length lx)) (List.length (lx ++ padB 128 (List.length lx % 128) (List.length lx)) / 128)) 8)) 5] := by
 subst ex
 have hs := ix.small
 have hcx := ix.cap
 refine d_0 [(0, .slice ax (List.length lx) cx), (1, .agg (List.toArray (u64s s0)))] 211 Go.Proofs.Tryd.func34 Go.Proofs.Tryd.ntmps34 (Heap.nil _) fun act0 En0 Hv0 => ?_
 refine wp_seq ?_
 refine region_from ?_
 refine f_o ?_
 refine m_m 54 (u64s s0) En0 Hv0 fun ac2 wo3 bk1 En4 Hv5 => ?_
 refine d_e [0,3,4] [] En4 fun ac6 En7 => ?_
 refine then_normal ?_
 refine wp_seq ?_
 refine region_from ?_
 refine d_k [0,3,4,23] [] 1 En7 fun ac8 En9 => ?_
 refine f_o ?_
 refine m_z 71 (u64s (List.replicate 80 0)) En9 Hv5 fun ac11 wo12 bk10 En13 Hv14 => ?_
 refine f_o ?_
 refine m_g 1 0 80 (u64s ([4794697086780616226, 8158064640168781261, 13096744586834688815, 16840607885511220156, 4131703408338449720, 6480981068601479193, 10538285296894168987, 12329834152419229976, 15566598209576043074, 1334009975649890238, 2608012711638119052, 6128411473006802146, 8268148722764581231, 9286055187155687089, 11230858885718282805, 13951009754708518548, 16472876342353939154, 17275323862435702243, 1135362057144423861, 2597628984639134821, 3308224258029322869, 5365058923640841347, 6679025012923562964, 8573033837759648693, 10970295158949994411, 12119686244451234320, 12683024718118986047, 13788192230050041572, 14330467153632333762, 15395433587784984357, 489312712824947311, 1452737877330783856, 2861767655752347644, 3322285676063803686, 5560940570517711597, 5996557281743188959, 7280758554555802590, 8532644243296465576, 9350256976987008742, 10552545826968843579, 11727347734174303076, 12113106623233404929, 14000437183269869457, 14369950271660146224, 15101387698204529176, 15463397548674623760, 17586052441742319658, 1182934255886127544, 1847814050463011016, 2177327727835720531, 2830643537854262169, 3796741975233480872, 4115178125766777443, 5681478168544905931, 6601373596472566643, 7507060721942968483, 8399075790359081724, 8693463985226723168, 9568029438360202098, 10144078919501101548, 10430055236837252648, 11840083180663258601, 13761210420658862357, 14299343276471374635, 14566680578165727644, 15097957966210449927, 16922976911328602910, 17689382322260857208, 500013540394364858, 748580250866718886, 1242879168328830382, 1977374033974150939, 2944078676154940804, 3659926193048069267, 4368137639120453308, 4836135668995329356, 5532061633213252278, 6448918945643986474, 6902733635092675308, 7801388544844847127] : List UInt64)) (u64s ([4794697086780616226, 8158064640168781261, 13096744586834688815, 16840607885511220156, 4131703408338449720, 6480981068601479193, 10538285296894168987, 12329834152419229976, 15566598209576043074, 1334009975649890238, 2608012711638119052, 6128411473006802146, 8268148722764581231, 9286055187155687089, 11230858885718282805, 13951009754708518548, 16472876342353939154, 17275323862435702243, 1135362057144423861, 2597628984639134821, 3308224258029322869, 5365058923640841347, 6679025012923562964, 8573033837759648693, 10970295158949994411, 12119686244451234320, 12683024718118986047, 13788192230050041572, 14330467153632333762, 15395433587784984357, 489312712824947311, 1452737877330783856, 2861767655752347644, 3322285676063803686, 5560940570517711597, 5996557281743188959, 7280758554555802590, 8532644243296465576, 9350256976987008742, 10552545826968843579, 11727347734174303076, 12113106623233404929, 14000437183269869457, 14369950271660146224, 15101387698204529176, 15463397548674623760, 17586052441742319658, 1182934255886127544, 1847814050463011016, 2177327727835720531, 2830643537854262169, 3796741975233480872, 4115178125766777443, 5681478168544905931, 6601373596472566643, 7507060721942968483, 8399075790359081724, 8693463985226723168, 9568029438360202098, 10144078919501101548, 10430055236837252648, 11840083180663258601, 13761210420658862357, 14299343276471374635, 14566680578165727644, 15097957966210449927, 16922976911328602910, 17689382322260857208, 500013540394364858, 748580250866718886, 1242879168328830382, 1977374033974150939, 2944078676154940804, 3659926193048069267, 4368137639120453308, 4836135668995329356, 5532061633213252278, 6448918945643986474, 6902733635092675308, 7801388544844847127] : List UInt64)) [.box bk1 (u64s s0) 54, .box bk10 (u64s ([4794697086780616226, 8158064640168781261, 13096744586834688815, 16840607885511220156, 4131703408338449720, 6480981068601479193, 10538285296894168987, 12329834152419229976, 15566598209576043074, 1334009975649890238, 2608012711638119052, 6128411473006802146, 8268148722764581231, 9286055187155687089, 11230858885718282805, 13951009754708518548, 16472876342353939154, 17275323862435702243, 1135362057144423861, 2597628984639134821, 3308224258029322869, 5365058923640841347, 6679025012923562964, 8573033837759648693, 10970295158949994411, 12119686244451234320, 12683024718118986047, 13788192230050041572, 14330467153632333762, 15395433587784984357, 489312712824947311, 1452737877330783856, 2861767655752347644, 3322285676063803686, 5560940570517711597, 5996557281743188959, 7280758554555802590, 8532644243296465576, 9350256976987008742, 10552545826968843579, 11727347734174303076, 12113106623233404929, 14000437183269869457, 14369950271660146224, 15101387698204529176, 15463397548674623760, 17586052441742319658, 1182934255886127544, 1847814050463011016, 2177327727835720531, 2830643537854262169, 3796741975233480872, 4115178125766777443, 5681478168544905931, 6601373596472566643, 7507060721942968483, 8399075790359081724, 8693463985226723168, 9568029438360202098, 10144078919501101548, 10430055236837252648, 11840083180663258601, 13761210420658862357, 14299343276471374635, 14566680578165727644, 15097957966210449927, 16922976911328602910, 17689382322260857208, 500013540394364858, 748580250866718886, 1242879168328830382, 1977374033974150939, 2944078676154940804, 3659926193048069267, 4368137639120453308, 4836135668995329356, 5532061633213252278, 6448918945643986474, 6902733635092675308, 7801388544844847127] : List UInt64)) 71] En13 Hv14 rfl (u64s_lenh (show List.length ([4794697086780616226, 8158064640168781261, 13096744586834688815, 16840607885511220156, 4131703408338449720, 6480981068601479193, 10538285296894168987, 12329834152419229976, 15566598209576043074, 1334009975649890238, 2608012711638119052, 6128411473006802146, 8268148722764581231, 9286055187155687089, 11230858885718282805, 13951009754708518548, 16472876342353939154, 17275323862435702243, 1135362057144423861, 2597628984639134821, 3308224258029322869, 5365058923640841347, 6679025012923562964, 8573033837759648693, 10970295158949994411, 12119686244451234320, 12683024718118986047, 13788192230050041572, 14330467153632333762, 15395433587784984357, 489312712824947311, 1452737877330783856, 2861767655752347644, 3322285676063803686, 5560940570517711597, 5996557281743188959, 7280758554555802590, 8532644243296465576, 9350256976987008742, 10552545826968843579, 11727347734174303076, 12113106623233404929, 14000437183269869457, 14369950271660146224, 15101387698204529176, 15463397548674623760, 17586052441742319658, 1182934255886127544, 1847814050463011016, 2177327727835720531, 2830643537854262169, 3796741975233480872, 4115178125766777443, 5681478168544905931, 6601373596472566643, 7507060721942968483, 8399075790359081724, 8693463985226723168, 9568029438360202098, 10144078919501101548, 10430055236837252648, 11840083180663258601, 13761210420658862357, 14299343276471374635, 14566680578165727644, 15097957966210449927, 16922976911328602910, 17689382322260857208, 500013540394364858, 748580250866718886, 1242879168328830382, 1977374033974150939, 2944078676154940804, 3659926193048069267, 4368137639120453308, 4836135668995329356, 5532061633213252278, 6448918945643986474, 6902733635092675308, 7801388544844847127] : List UInt64) = 80 from rfl)) (by rw [(u64s_lenh (List.length_replicate))]; decide) (u64s_one _) (store_whole (u64s_lenh (List.length_replicate))) rfl fun ac15 wo16 En17 Hv18 => ?_
 refine f_e ?_
 replace Hv18 : Ev w [] wo16 [.box bk1 (u64s s0) 54, .box bk10 (u64s K64) 71] := Hv18
 refine then_normal ?_
 refine wp_seq ?_
 refine region_from ?_
 refine d_k [0,3,4,5,24] [] 1 En17 fun ac19 En20 => ?_
 refine f_o ?_
 refine c_0 En20 Hv18 (padded64_ref _ ax (List.length lx) cx lx (by first | rfl | (simp; done) | (simp; omega) | omega) ((ix.ev Hv18).pick [] (by kernel_rfl))) ?_
 rintro _ wo23 ⟨aoq21, coq21, rfl, he24⟩
 refine ⟨_, _, _, rfl, he24, rfl, fun ac26 En27 Hv28 => ?_⟩
 refine d_e [0,3,4,5] [] En27 fun ac29 En30 => ?_
 have hbm := pad64_mod lx
 have hbs := padB_len 128 (List.length lx % 128) (List.length lx) (by decide) (by decide)
 have hbl : List.length (lx ++ padB 128 (List.length lx % 128) (List.length lx)) = List.length lx + List.length (padB 128 (List.length lx % 128) (List.length lx)) := List.length_append
 generalize hbe : lx ++ padB 128 (List.length lx % 128) (List.length lx) = bl at *
 refine then_normal ?_
 refine wp_seq ?_
 refine wp_seq ?_
 refine d_r [0,3,4,5,6] [] En30 fun ac31 En32 => ?_
 refine then_normal ?_
 refine wp_block ?_
 refine loop_m (fun ms33 ac wo => ∃ (q : Nat) (sx : List UInt64), ms33 = (List.length bl - 128 * q : Nat) ∧ Env ac 211 [(0, .slice aoq21 (List.length bl) coq21), (3, pt bk1), (4, .slice none 0 0), (5, pt bk10), (6, ni (128 * q))] ∧ Ev w [] wo [.box bk1 (u64s sx) 54, .vec aoq21 coq21 1 (bys bl) 5, .box bk10 (u64s K64) 71] ∧ (128 * q ≤ List.length bl) ∧ (List.length sx = 8) ∧ (sx = rfeed64 s0 bl q)) ⟨_, 0, s0, rfl, En32.sb, Hv28.pk [1, 0, 2], by omega, hs0, rfl⟩ ?_
 rintro mm39 ac35 wo36 ⟨q, sx, rfl, En37, Hv38, hq, hlx, hes⟩
 refine wp_seq ?_
 refine wp_seq ?_
 refine d_r [0,3,4,5,6,29] [] En37 fun ac40 En41 => ?_
 refine then_normal ?_
 refine c_d (((128 * q : Nat) : Int) < ((List.length bl : Nat) : Int)) En41 (fun hc42 => ?_) (fun hc42 => ?_)
 ·
  refine wp_skip ?_
  refine then_normal ?_
  refine wp_seq ?_
  refine wp_block ?_
  refine wp_seq ?_
  refine region_from ?_
  refine f_o ?_
  refine m_z 71 (u64s (List.replicate 80 0)) En41 Hv38 fun ac44 wo45 bk43 En46 Hv47 => ?_
  refine f_e ?_
  refine then_normal ?_
  refine wp_seq ?_
  refine wp_seq ?_
  refine d_r [0,3,4,5,6,7,8] [] En46 fun ac48 En49 => ?_
  refine then_normal ?_
  refine wp_block ?_
  refine loop_m (fun ms50 ac wo => ∃ (t1 : Nat) (wa : List UInt64), ms50 = (16 - t1 : Nat) ∧ Env ac 211 [(0, .slice aoq21 (List.length bl) coq21), (3, pt bk1), (4, .slice none 0 0), (5, pt bk10), (6, ni (128 * q)), (7, pt bk43), (8, ni t1)] ∧ Ev w [] wo [.box bk43 (u64s wa) 71, .box bk1 (u64s sx) 54, .vec aoq21 coq21 1 (bys bl) 5, .box bk10 (u64s K64) 71] ∧ (t1 ≤ 16) ∧ (List.length wa = 80) ∧ (wa = rwF64 bl (128 * q) t1)) ⟨_, 0, List.replicate 80 0, rfl, En49.sb, Hv47.pk [3, 0, 1, 2], by omega, (List.length_replicate), rfl⟩ ?_
  rintro mm56 ac52 wo53 ⟨t1, wa, rfl, En54, Hv55, hiwa, hlwa, hewa⟩
  refine wp_seq ?_
  refine wp_seq ?_
  refine d_r [0,3,4,5,6,7,8,33] [] En54 fun ac57 En58 => ?_
  refine then_normal ?_
  refine c_d (((t1 : Nat) : Int) < (16 : Int)) En58 (fun hc59 => ?_) (fun hc59 => ?_)
  ·
   refine wp_skip ?_
   refine then_normal ?_
   refine wp_seq ?_
   refine wp_block ?_
   refine wp_seq ?_
   refine d_r [0,3,4,5,6,7,8,9] [] En58 fun ac60 En61 => ?_
   refine then_normal ?_
   refine wp_block ?_
   refine loop_m (fun ms62 ac wo => ∃ (ti : Nat) (wi : List UInt64), ms62 = (8 - ti : Nat) ∧ Env ac 211 [(0, .slice aoq21 (List.length bl) coq21), (3, pt bk1), (4, .slice none 0 0), (5, pt bk10), (6, ni (128 * q)), (7, pt bk43), (8, ni t1), (9, ni ti)] ∧ Ev w [] wo [.box bk43 (u64s wi) 71, .box bk1 (u64s sx) 54, .vec aoq21 coq21 1 (bys bl) 5, .box bk10 (u64s K64) 71] ∧ (ti ≤ 8) ∧ (List.length wi = 80) ∧ (wi = rwI64 wa bl (128 * q) t1 ti)) ⟨_, 0, wa, rfl, En61.sb, Hv55.pk [0, 1, 2, 3], by omega, hlwa, rfl⟩ ?_
   rintro mm68 ac64 wo65 ⟨ti, wi, rfl, En66, Hv67, hiwi, hlwi, hewi⟩
   refine wp_seq ?_
   refine wp_seq ?_
   refine d_r [0,3,4,5,6,7,8,9,37] [] En66 fun ac69 En70 => ?_
   refine then_normal ?_
   refine c_d (((ti : Nat) : Int) < (8 : Int)) En70 (fun hc71 => ?_) (fun hc71 => ?_)
   ·
    refine wp_skip ?_
    refine then_normal ?_
    refine wp_seq ?_
    refine wp_block ?_
    refine r_c (fun ac wo => Env ac 211 [(0, .slice aoq21 (List.length bl) coq21), (3, pt bk1), (4, .slice none 0 0), (5, pt bk10), (6, ni (128 * q)), (7, pt bk43), (8, ni t1), (9, ni ti)] ∧ Ev w [] wo [.box bk43 (u64s (List.set wi t1 (((List.getD wi t1 0) <<< UInt64.ofNat 8) ||| (UInt8.toUInt64 (List.getD bl (((128 * q) + (8 * t1)) + ti) 0))))) 71, .box bk1 (u64s sx) 54, .vec aoq21 coq21 1 (bys bl) 5, .box bk10 (u64s K64) 71]) ?_ ?_
    ·
     refine h_s (fun wv => Ev w [] wv [.box bk43 (u64s wi) 71, .vec aoq21 coq21 1 (bys bl) 5]) [17] 18 ?_
     have wo72 := Hv67.trans (Ev.drew Hv67.heap)
     refine q_s [0,1] [] 16 En70 (wo72.pk [0, 2]) fun ac144 En145 => ?_
     refine q_f 2 (s := Instr.indexAt 71 (pt bk43) (ni t1)) (v := .pointer (some ⟨bk43, t1, none⟩)) En145 (fun _ => Go.Dbr.run_indexarr (e := 53) (sz := 1) (m := 80) (j := t1) (o := t1) (by kernel_rfl) (by kernel_rfl) (by omega) (by omega) (by omega) _) (fun _ => wo72.pk [0, 2]) fun ac146 En147 => ?_
     have hb148 : t1 < List.length wi := by rw [hlwi]; omega
     refine q_r 3 (s := Instr.loadAt 53 (.pointer (some ⟨bk43, t1, none⟩))) (v := uv64 (List.getD wi t1 0)) En147 (fun w hS => run_load1 (by kernel_rfl) (hS.heap.cell (k := 0) rfl (u64s_getD hb148))) (wo72.pk [0, 2]) fun ac149 En150 => ?_
     have hb153 : ((128 * q) + (8 * t1)) + ti < List.length bl := (by omega)
     obtain ⟨adr151, had152⟩ := some_of (bys_vnz wo72.heap (k := 2) rfl) hb153
     refine q_s [4,5,6,7,8,9,10,11] [(4, g_i .u64 (Go.Dbr.u64_shl (x := List.getD wi t1 0) (n := 8) rfl (by decide))), (8, g_n (w_m 8 t1)), (9, g_n (w_a (128 * q) (8 * t1))), (11, g_n (w_a ((128 * q) + (8 * t1)) ti))] 6 En150 (wo72.pk [0, 2]) fun ac154 En155 => ?_
     refine q_f 12 (s := Instr.indexAt 23 (.slice aoq21 (List.length bl) coq21) (ni (((128 * q) + (8 * t1)) + ti))) (v := .pointer (some (Addr.add adr151 (((128 * q) + (8 * t1)) + ti)))) En155 (fun _ => Go.Dbr.run_indexsl (e := 5) (sz := 1) (j := ((128 * q) + (8 * t1)) + ti) (jo := ((128 * q) + (8 * t1)) + ti) had152 (by kernel_rfl) (by kernel_rfl) (by omega) hb153 (Nat.mul_one _) _) (fun _ => wo72.pk [0, 2]) fun ac156 En157 => ?_
     have hb158 : ((128 * q) + (8 * t1)) + ti < List.length bl := by omega
     refine q_r 13 (s := Instr.loadAt 5 (.pointer (some (Addr.add adr151 (((128 * q) + (8 * t1)) + ti))))) (v := bv (List.getD bl (((128 * q) + (8 * t1)) + ti) 0)) En157 (fun w hS => run_loadel (ad := adr151) (o := ((128 * q) + (8 * t1)) + ti) rfl (hS.heap.reads (k := 1) rfl) had152 (bys_getD hb158) (by kernel_rfl)) (wo72.pk [0, 2]) fun ac159 En160 => ?_
     refine q_s [14,15] [(14, g_i .u64 (Go.Dbr.u8_to_u64 (x := List.getD bl (((128 * q) + (8 * t1)) + ti) 0) rfl)), (15, g_i .u64 (Go.Dbr.u64_or (x := (List.getD wi t1 0) <<< UInt64.ofNat 8) (y := UInt8.toUInt64 (List.getD bl (((128 * q) + (8 * t1)) + ti) 0)) rfl rfl))] 2 En160 (wo72.pk [0, 2]) fun ac161 En162 => ?_
     refine q_f 16 (s := Instr.indexAt 71 (pt bk43) (ni t1)) (v := .pointer (some ⟨bk43, t1, none⟩)) En162 (fun _ => Go.Dbr.run_indexarr (e := 53) (sz := 1) (m := 80) (j := t1) (o := t1) (by kernel_rfl) (by kernel_rfl) (by omega) (by omega) (by omega) _) (fun _ => wo72.pk [0, 2]) fun ac163 En164 => ?_
     refine q_t 17 ?_
     have hb165 : t1 < List.length wi := by rw [hlwi]; omega
     refine m_t 0 t1 (uv64 (((List.getD wi t1 0) <<< UInt64.ofNat 8) ||| (UInt8.toUInt64 (List.getD bl (((128 * q) + (8 * t1)) + ti) 0)))) [.box bk43 (u64s (List.set wi t1 (((List.getD wi t1 0) <<< UInt64.ofNat 8) ||| (UInt8.toUInt64 (List.getD bl (((128 * q) + (8 * t1)) + ti) 0))))) 71, .box bk1 (u64s sx) 54, .vec aoq21 coq21 1 (bys bl) 5, .box bk10 (u64s K64) 71] En164 wo72 rfl (u64s_getD hb165) (u64s_set _ _ _) rfl fun ac166 wo167 En168 Hv169 => ?_
     refine ⟨q_y, ?_⟩
     exact h_e ⟨En168.sb, Hv169.pk [0, 1, 2, 3]⟩
    rintro ac170 wo171 ⟨En172, Hv173⟩
    refine block_normal ?_
    refine then_normal ?_
    refine d_r [0,3,4,5,6,7,8,9] [(1, g_n (w_a ti 1))] En172 fun ac174 En175 => ?_
    refine then_normal ?_
    refine ⟨_, ⟨ti + 1, (List.set wi t1 (((List.getD wi t1 0) <<< UInt64.ofNat 8) ||| (UInt8.toUInt64 (List.getD bl (((128 * q) + (8 * t1)) + ti) 0)))), rfl, En175.sb, Hv173.pk [0, 1, 2, 3], by omega, (List.length_set.trans hlwi), by first | (rw [hewi]; rfl) | (rw [hewi, hc2]; rfl) | rfl⟩, ?_⟩
    omega
   ·
    refine wp_exit ?_
    refine then_exit ?_
    refine then_exit ?_
    refine block_exit ?_
    refine block_normal ?_
    refine then_normal ?_
    have hti : ti = 8 := by omega
    have hwi : wi = rwF64 bl (128 * q) (t1 + 1) := by rw [hewi, hti, hewa]; rfl
    rw [show wi = (rwF64 bl (128 * q) (t1 + 1)) from hwi] at Hv67
    refine d_r [0,3,4,5,6,7,8,9] [(1, g_n (w_a t1 1))] En70 fun ac176 En177 => ?_
    refine then_normal ?_
    refine ⟨_, ⟨t1 + 1, (rwF64 bl (128 * q) (t1 + 1)), rfl, En177.sb, Hv67.pk [0, 1, 2, 3], by omega, (rwF64_len _ _ _), by first | (rw [hewa]; rfl) | (rw [hewa, hc2]; rfl) | rfl⟩, ?_⟩
    omega
  ·
   refine wp_exit ?_
   refine then_exit ?_
   refine then_exit ?_
   refine block_exit ?_
   refine then_normal ?_
   refine wp_seq ?_
   refine wp_seq ?_
   have hnwa : t1 = 16 := by omega
   have hfwa : wa = rwF64 bl (128 * q) 16 := by rw [hewa, hnwa] <;> rfl
   rw [show wa = (rwF64 bl (128 * q) 16) from hfwa] at Hv55
   refine d_r [0,3,4,5,6,7,8,10] [] En58 fun ac178 En179 => ?_
   refine then_normal ?_
   refine wp_block ?_
   refine loop_m (fun ms180 ac wo => ∃ (t2 : Nat) (wb : List UInt64), ms180 = (64 - t2 : Nat) ∧ Env ac 211 [(0, .slice aoq21 (List.length bl) coq21), (3, pt bk1), (4, .slice none 0 0), (5, pt bk10), (6, ni (128 * q)), (7, pt bk43), (8, ni t1), (10, ni (16 + t2))] ∧ Ev w [] wo [.box bk43 (u64s wb) 71, .box bk1 (u64s sx) 54, .vec aoq21 coq21 1 (bys bl) 5, .box bk10 (u64s K64) 71] ∧ (t2 ≤ 64) ∧ (List.length wb = 80) ∧ (wb = rsF64 (rwF64 bl (128 * q) 16) t2)) ⟨_, 0, rwF64 bl (128 * q) 16, rfl, En179.sb, Hv55.pk [0, 1, 2, 3], by omega, (rwF64_len _ _ _), rfl⟩ ?_
   rintro mm186 ac182 wo183 ⟨t2, wb, rfl, En184, Hv185, hiwb, hlwb, hewb⟩
   refine wp_seq ?_
   refine wp_seq ?_
   refine d_r [0,3,4,5,6,7,8,10,58] [] En184 fun ac187 En188 => ?_
   refine then_normal ?_
   refine c_d (((16 + t2 : Nat) : Int) < (80 : Int)) En188 (fun hc189 => ?_) (fun hc189 => ?_)
   ·
    refine wp_skip ?_
    refine then_normal ?_
    refine wp_seq ?_
    refine wp_block ?_
    refine wp_seq ?_
    refine region_from ?_
    refine d_k [0,3,4,5,6,7,8,10,62] [(1, g_n (w_r (e := ((16 + t2 : Nat) : Int) - (15 : Int)) (x := ((1 + t2 : Nat) : Int)) (by omega)))] 2 En188 fun ac190 En191 => ?_
    refine f_o ?_
    refine q_v (x := Instr.indexAt 71 (pt bk43) (ni (1 + t2))) (v := .pointer (some ⟨bk43, 1 + t2, none⟩)) En191 (Go.Dbr.run_indexarr (e := 53) (sz := 1) (m := 80) (j := 1 + t2) (o := 1 + t2) (by kernel_rfl) (by kernel_rfl) (by omega) (by omega) (by omega) _) fun ac192 En193 => ?_
    refine f_o ?_
    have hb194 : 1 + t2 < List.length wb := by rw [hlwb]; omega
    refine m_v 0 (1 + t2) (uv64 (List.getD wb (1 + t2) 0)) En193 Hv185 rfl (u64s_getD hb194) fun ac195 En196 => ?_
    refine d_e [0,3,4,5,6,7,8,10,11] [] En196 fun ac197 En198 => ?_
    refine then_normal ?_
    refine wp_seq ?_
    refine region_from ?_
    refine d_k [0,3,4,5,6,7,8,10,11,66] [(1, g_n (w_r (e := ((16 + t2 : Nat) : Int) - (2 : Int)) (x := ((14 + t2 : Nat) : Int)) (by omega)))] 2 En198 fun ac199 En200 => ?_
    refine f_o ?_
    refine q_v (x := Instr.indexAt 71 (pt bk43) (ni (14 + t2))) (v := .pointer (some ⟨bk43, 14 + t2, none⟩)) En200 (Go.Dbr.run_indexarr (e := 53) (sz := 1) (m := 80) (j := 14 + t2) (o := 14 + t2) (by kernel_rfl) (by kernel_rfl) (by omega) (by omega) (by omega) _) fun ac201 En202 => ?_
    refine f_o ?_
    have hb203 : 14 + t2 < List.length wb := by rw [hlwb]; omega
    refine m_v 0 (14 + t2) (uv64 (List.getD wb (14 + t2) 0)) En202 Hv185 rfl (u64s_getD hb203) fun ac204 En205 => ?_
    refine d_e [0,3,4,5,6,7,8,10,11,12] [] En205 fun ac206 En207 => ?_
    refine then_normal ?_
    refine r_c (fun ac wo => Env ac 211 [(0, .slice aoq21 (List.length bl) coq21), (3, pt bk1), (4, .slice none 0 0), (5, pt bk10), (6, ni (128 * q)), (7, pt bk43), (8, ni t1), (10, ni (16 + t2))] ∧ Ev w [] wo [.box bk43 (u64s (List.set wb (16 + t2) ((((((rotr64 (List.getD wb (14 + t2) 0) 19) ^^^ (rotr64 (List.getD wb (14 + t2) 0) 61)) ^^^ ((List.getD wb (14 + t2) 0) >>> UInt64.ofNat 6)) + (List.getD wb (9 + t2) 0)) + (((rotr64 (List.getD wb (1 + t2) 0) 1) ^^^ (rotr64 (List.getD wb (1 + t2) 0) 8)) ^^^ ((List.getD wb (1 + t2) 0) >>> UInt64.ofNat 7))) + (List.getD wb t2 0)))) 71, .box bk1 (u64s sx) 54, .vec aoq21 coq21 1 (bys bl) 5, .box bk10 (u64s K64) 71]) ?_ ?_
    ·
     refine h_s (fun wv => Ev w [] wv [.box bk43 (u64s wb) 71]) [29] 30 ?_
     have wo208 := Hv185.trans (Ev.drew Hv185.heap)
     refine q_s [0,1,3,6,7,9,10] [(7, g_i .u64 (Go.Dbr.u64_shr (x := List.getD wb (14 + t2) 0) (n := 6) rfl (by decide))), (10, g_n (w_r (e := ((16 + t2 : Nat) : Int) - (7 : Int)) (x := ((9 + t2 : Nat) : Int)) (by omega)))] 23 En207 (wo208.pk [0]) fun ac657 En658 => ?_
     refine q_f 11 (s := Instr.indexAt 71 (pt bk43) (ni (9 + t2))) (v := .pointer (some ⟨bk43, 9 + t2, none⟩)) En658 (fun _ => Go.Dbr.run_indexarr (e := 53) (sz := 1) (m := 80) (j := 9 + t2) (o := 9 + t2) (by kernel_rfl) (by kernel_rfl) (by omega) (by omega) (by omega) _) (fun _ => wo208.pk [0]) fun ac659 En660 => ?_
     have hb661 : 9 + t2 < List.length wb := by rw [hlwb]; omega
     refine q_r 12 (s := Instr.loadAt 53 (.pointer (some ⟨bk43, 9 + t2, none⟩))) (v := uv64 (List.getD wb (9 + t2) 0)) En660 (fun w hS => run_load1 (by kernel_rfl) (hS.heap.cell (k := 0) rfl (u64s_getD hb661))) (wo208.pk [0]) fun ac662 En663 => ?_
     refine q_s [14,16,19,20,23,24] [(20, g_i .u64 (Go.Dbr.u64_shr (x := List.getD wb (1 + t2) 0) (n := 7) rfl (by decide))), (24, g_n (w_r (e := ((16 + t2 : Nat) : Int) - (16 : Int)) (x := ((t2 : Nat) : Int)) (by omega)))] 15 En663 (wo208.pk [0]) fun ac664 En665 => ?_
     refine q_f 25 (s := Instr.indexAt 71 (pt bk43) (ni t2)) (v := .pointer (some ⟨bk43, t2, none⟩)) En665 (fun _ => Go.Dbr.run_indexarr (e := 53) (sz := 1) (m := 80) (j := t2) (o := t2) (by kernel_rfl) (by kernel_rfl) (by omega) (by omega) (by omega) _) (fun _ => wo208.pk [0]) fun ac666 En667 => ?_
     have hb668 : t2 < List.length wb := by rw [hlwb]; omega
     refine q_r 26 (s := Instr.loadAt 53 (.pointer (some ⟨bk43, t2, none⟩))) (v := uv64 (List.getD wb t2 0)) En667 (fun w hS => run_load1 (by kernel_rfl) (hS.heap.cell (k := 0) rfl (u64s_getD hb668))) (wo208.pk [0]) fun ac669 En670 => ?_
     refine q_t 2 ?_
     refine c_p En670 wo208 (turn64_ref _ (List.getD wb (14 + t2) 0) 19 (by decide) (by decide)) fun ac675 wo672 En676 Hv677 => ?_
     refine ⟨fun _ => Hv677.pk [0], ?_⟩
     refine q_t 4 ?_
     refine c_p En676 Hv677 (turn64_ref _ (List.getD wb (14 + t2) 0) 61 (by decide) (by decide)) fun ac682 wo679 En683 Hv684 => ?_
     refine ⟨fun _ => Hv684.pk [0], ?_⟩
     refine q_s [5,8,13] [(5, g_i .u64 (Go.Dbr.u64_xor (x := rotr64 (List.getD wb (14 + t2) 0) 19) (y := rotr64 (List.getD wb (14 + t2) 0) 61) rfl rfl)), (8, g_i .u64 (Go.Dbr.u64_xor (x := (rotr64 (List.getD wb (14 + t2) 0) 19) ^^^ (rotr64 (List.getD wb (14 + t2) 0) 61)) (y := (List.getD wb (14 + t2) 0) >>> UInt64.ofNat 6) rfl rfl)), (13, g_i .u64 (Go.Dbr.u64_add (x := ((rotr64 (List.getD wb (14 + t2) 0) 19) ^^^ (rotr64 (List.getD wb (14 + t2) 0) 61)) ^^^ ((List.getD wb (14 + t2) 0) >>> UInt64.ofNat 6)) (y := List.getD wb (9 + t2) 0) rfl rfl))] 8 En683 (Hv684.pk [0]) fun ac685 En686 => ?_
     refine q_t 15 ?_
     refine c_p En686 Hv684 (turn64_ref _ (List.getD wb (1 + t2) 0) 1 (by decide) (by decide)) fun ac691 wo688 En692 Hv693 => ?_
     refine ⟨fun _ => Hv693.pk [0], ?_⟩
     refine q_t 17 ?_
     refine c_p En692 Hv693 (turn64_ref _ (List.getD wb (1 + t2) 0) 8 (by decide) (by decide)) fun ac698 wo695 En699 Hv700 => ?_
     refine ⟨fun _ => Hv700.pk [0], ?_⟩
     refine q_s [18,21,22,27] [(18, g_i .u64 (Go.Dbr.u64_xor (x := rotr64 (List.getD wb (1 + t2) 0) 1) (y := rotr64 (List.getD wb (1 + t2) 0) 8) rfl rfl)), (21, g_i .u64 (Go.Dbr.u64_xor (x := (rotr64 (List.getD wb (1 + t2) 0) 1) ^^^ (rotr64 (List.getD wb (1 + t2) 0) 8)) (y := (List.getD wb (1 + t2) 0) >>> UInt64.ofNat 7) rfl rfl)), (22, g_i .u64 (Go.Dbr.u64_add (x := (((rotr64 (List.getD wb (14 + t2) 0) 19) ^^^ (rotr64 (List.getD wb (14 + t2) 0) 61)) ^^^ ((List.getD wb (14 + t2) 0) >>> UInt64.ofNat 6)) + (List.getD wb (9 + t2) 0)) (y := ((rotr64 (List.getD wb (1 + t2) 0) 1) ^^^ (rotr64 (List.getD wb (1 + t2) 0) 8)) ^^^ ((List.getD wb (1 + t2) 0) >>> UInt64.ofNat 7)) rfl rfl)), (27, g_i .u64 (Go.Dbr.u64_add (x := ((((rotr64 (List.getD wb (14 + t2) 0) 19) ^^^ (rotr64 (List.getD wb (14 + t2) 0) 61)) ^^^ ((List.getD wb (14 + t2) 0) >>> UInt64.ofNat 6)) + (List.getD wb (9 + t2) 0)) + (((rotr64 (List.getD wb (1 + t2) 0) 1) ^^^ (rotr64 (List.getD wb (1 + t2) 0) 8)) ^^^ ((List.getD wb (1 + t2) 0) >>> UInt64.ofNat 7))) (y := List.getD wb t2 0) rfl rfl))] 2 En699 (Hv700.pk [0]) fun ac701 En702 => ?_
     refine q_f 28 (s := Instr.indexAt 71 (pt bk43) (ni (16 + t2))) (v := .pointer (some ⟨bk43, 16 + t2, none⟩)) En702 (fun _ => Go.Dbr.run_indexarr (e := 53) (sz := 1) (m := 80) (j := 16 + t2) (o := 16 + t2) (by kernel_rfl) (by kernel_rfl) (by omega) (by omega) (by omega) _) (fun _ => Hv700.pk [0]) fun ac703 En704 => ?_
     refine q_t 29 ?_
     have hb705 : 16 + t2 < List.length wb := by rw [hlwb]; omega
     refine m_t 0 (16 + t2) (uv64 ((((((rotr64 (List.getD wb (14 + t2) 0) 19) ^^^ (rotr64 (List.getD wb (14 + t2) 0) 61)) ^^^ ((List.getD wb (14 + t2) 0) >>> UInt64.ofNat 6)) + (List.getD wb (9 + t2) 0)) + (((rotr64 (List.getD wb (1 + t2) 0) 1) ^^^ (rotr64 (List.getD wb (1 + t2) 0) 8)) ^^^ ((List.getD wb (1 + t2) 0) >>> UInt64.ofNat 7))) + (List.getD wb t2 0))) [.box bk43 (u64s (List.set wb (16 + t2) ((((((rotr64 (List.getD wb (14 + t2) 0) 19) ^^^ (rotr64 (List.getD wb (14 + t2) 0) 61)) ^^^ ((List.getD wb (14 + t2) 0) >>> UInt64.ofNat 6)) + (List.getD wb (9 + t2) 0)) + (((rotr64 (List.getD wb (1 + t2) 0) 1) ^^^ (rotr64 (List.getD wb (1 + t2) 0) 8)) ^^^ ((List.getD wb (1 + t2) 0) >>> UInt64.ofNat 7))) + (List.getD wb t2 0)))) 71, .box bk1 (u64s sx) 54, .vec aoq21 coq21 1 (bys bl) 5, .box bk10 (u64s K64) 71] En704 Hv700 rfl (u64s_getD hb705) (u64s_set _ _ _) rfl fun ac706 wo707 En708 Hv709 => ?_
     refine ⟨q_y, ?_⟩
     exact h_e ⟨En708.sb, Hv709.pk [0, 1, 2, 3]⟩
    rintro ac710 wo711 ⟨En712, Hv713⟩
    refine block_normal ?_
    refine then_normal ?_
    refine d_r [0,3,4,5,6,7,8,10] [(1, g_n (w_a (16 + t2) 1))] En712 fun ac714 En715 => ?_
    refine then_normal ?_
    refine ⟨_, ⟨t2 + 1, (List.set wb (16 + t2) ((((((rotr64 (List.getD wb (14 + t2) 0) 19) ^^^ (rotr64 (List.getD wb (14 + t2) 0) 61)) ^^^ ((List.getD wb (14 + t2) 0) >>> UInt64.ofNat 6)) + (List.getD wb (9 + t2) 0)) + (((rotr64 (List.getD wb (1 + t2) 0) 1) ^^^ (rotr64 (List.getD wb (1 + t2) 0) 8)) ^^^ ((List.getD wb (1 + t2) 0) >>> UInt64.ofNat 7))) + (List.getD wb t2 0))), rfl, En715.sb, Hv713.pk [0, 1, 2, 3], by omega, (List.length_set.trans hlwb), by first | (rw [hewb]; rfl) | (rw [hewb, hc2]; rfl) | rfl⟩, ?_⟩
    omega
   ·
    refine wp_exit ?_
    refine then_exit ?_
    refine then_exit ?_
    refine block_exit ?_
    refine then_normal ?_
    refine wp_seq ?_
    have hnwb : t2 = 64 := by omega
    have hfwb : wb = rsF64 (rwF64 bl (128 * q) 16) 64 := by rw [hewb, hnwb] <;> rfl
    rw [show wb = (rsF64 (rwF64 bl (128 * q) 16) 64) from hfwb] at Hv185
    refine region_from ?_
    refine f_o ?_
    refine m_a 1 0 8 (u64s sx) En188 Hv185 rfl (load_whole (u64s_lenh hlx)) (u64s_lenh hlx) fun ac716 En717 => ?_
    refine f_o ?_
    refine m_z 54 (u64s (List.replicate 8 0)) En717 Hv185 fun ac719 wo720 bk718 En721 Hv722 => ?_
    refine f_o ?_
    refine m_g 4 0 8 (u64s sx) (u64s sx) [.box bk43 (u64s (rsF64 (rwF64 bl (128 * q) 16) 64)) 71, .box bk1 (u64s sx) 54, .vec aoq21 coq21 1 (bys bl) 5, .box bk10 (u64s K64) 71, .box bk718 (u64s sx) 54] En721 Hv722 rfl (u64s_lenh hlx) (by rw [(u64s_lenh (List.length_replicate))]; decide) (u64s_one _) (store_whole (u64s_lenh (List.length_replicate))) rfl fun ac723 wo724 En725 Hv726 => ?_
    refine f_e ?_
    refine then_normal ?_
    refine wp_seq ?_
    refine wp_seq ?_
    refine d_r [0,3,4,5,6,7,8,10,13,14] [] En725 fun ac727 En728 => ?_
    refine then_normal ?_
    refine wp_block ?_
    refine loop_m (fun ms729 ac wo => ∃ (t3 : Nat) (va : List UInt64), ms729 = (80 - t3 : Nat) ∧ Env ac 211 [(0, .slice aoq21 (List.length bl) coq21), (3, pt bk1), (4, .slice none 0 0), (5, pt bk10), (6, ni (128 * q)), (7, pt bk43), (8, ni t1), (10, ni (16 + t2)), (13, pt bk718), (14, ni t3)] ∧ Ev w [] wo [.box bk718 (u64s va) 54, .box bk43 (u64s (rsF64 (rwF64 bl (128 * q) 16) 64)) 71, .box bk1 (u64s sx) 54, .vec aoq21 coq21 1 (bys bl) 5, .box bk10 (u64s K64) 71] ∧ (t3 ≤ 80) ∧ (List.length va = 8) ∧ (va = rr64 (rsF64 (rwF64 bl (128 * q) 16) 64) sx t3)) ⟨_, 0, sx, rfl, En728.sb, Hv726.pk [4, 0, 1, 2, 3], by omega, hlx, rfl⟩ ?_
    rintro mm735 ac731 wo732 ⟨t3, va, rfl, En733, Hv734, hiva, hlva, heva⟩
    refine wp_seq ?_
    refine wp_seq ?_
    refine d_r [0,3,4,5,6,7,8,10,13,14,100] [] En733 fun ac736 En737 => ?_
    refine then_normal ?_
    refine c_d (((t3 : Nat) : Int) < (80 : Int)) En737 (fun hc738 => ?_) (fun hc738 => ?_)
    ·
     refine wp_skip ?_
     refine then_normal ?_
     refine wp_seq ?_
     refine wp_block ?_
     refine wp_seq ?_
     refine region_from ?_
     refine d_k [0,3,4,5,6,7,8,10,13,14,103] [] 1 En737 fun ac739 En740 => ?_
     refine f_o ?_
     have hb741 : 0 < List.length va := by rw [hlva]; omega
     refine m_v 0 0 (uv64 (List.getD va 0 0)) En740 Hv734 rfl (u64s_getD hb741) fun ac742 En743 => ?_
     refine d_e [0,3,4,5,6,7,8,10,13,14,15] [] En743 fun ac744 En745 => ?_
     refine then_normal ?_
     refine wp_seq ?_
     refine region_from ?_
     refine d_k [0,3,4,5,6,7,8,10,13,14,15,105] [] 1 En745 fun ac746 En747 => ?_
     refine f_o ?_
     have hb748 : 4 < List.length va := by rw [hlva]; omega
     refine m_v 0 4 (uv64 (List.getD va 4 0)) En747 Hv734 rfl (u64s_getD hb748) fun ac749 En750 => ?_
     refine d_e [0,3,4,5,6,7,8,10,13,14,15,16] [] En750 fun ac751 En752 => ?_
     refine then_normal ?_
     refine wp_seq ?_
     refine r_c (fun ac wo => Env ac 211 [(0, .slice aoq21 (List.length bl) coq21), (3, pt bk1), (4, .slice none 0 0), (5, pt bk10), (6, ni (128 * q)), (7, pt bk43), (8, ni t1), (10, ni (16 + t2)), (13, pt bk718), (14, ni t3), (15, uv64 (List.getD va 0 0)), (16, uv64 (List.getD va 4 0)), (17, uv64 (((((List.getD va 7 0) + (((rotr64 (List.getD va 4 0) 14) ^^^ (rotr64 (List.getD va 4 0) 18)) ^^^ (rotr64 (List.getD va 4 0) 41))) + (((List.getD va 4 0) &&& (List.getD va 5 0)) ^^^ (((18446744073709551615 : UInt64) ^^^ (List.getD va 4 0)) &&& (List.getD va 6 0)))) + (List.getD K64 t3 0)) + (List.getD (rsF64 (rwF64 bl (128 * q) 16) 64) t3 0)))] ∧ Ev w [] wo [.box bk718 (u64s va) 54, .box bk43 (u64s (rsF64 (rwF64 bl (128 * q) 16) 64)) 71, .box bk1 (u64s sx) 54, .vec aoq21 coq21 1 (bys bl) 5, .box bk10 (u64s K64) 71]) ?_ ?_
     ·
      refine h_s (fun wv => Ev w [] wv [.box bk718 (u64s va) 54, .box bk43 (u64s (rsF64 (rwF64 bl (128 * q) 16) 64)) 71, .box bk10 (u64s K64) 71]) [] 31 ?_
      have wo753 := Hv734.trans (Ev.drew Hv734.heap)
      have hb5012 : 7 < List.length va := by rw [hlva]; omega
      refine q_s [0] [] 30 En752 (wo753.pk [0, 1, 4]) fun ac5013 En5014 => ?_
      refine q_r 1 (s := Instr.loadAt 53 (.pointer (some ⟨bk718, 7, none⟩))) (v := uv64 (List.getD va 7 0)) En5014 (fun w hS => run_load1 (by kernel_rfl) (hS.heap.cell (k := 0) rfl (u64s_getD hb5012))) (wo753.pk [0, 1, 4]) fun ac5015 En5016 => ?_
      have hb5017 : 5 < List.length va := by rw [hlva]; omega
      refine q_s [2,4,7,11,12] [] 24 En5016 (wo753.pk [0, 1, 4]) fun ac5018 En5019 => ?_
      refine q_r 13 (s := Instr.loadAt 53 (.pointer (some ⟨bk718, 5, none⟩))) (v := uv64 (List.getD va 5 0)) En5019 (fun w hS => run_load1 (by kernel_rfl) (hS.heap.cell (k := 0) rfl (u64s_getD hb5017))) (wo753.pk [0, 1, 4]) fun ac5020 En5021 => ?_
      have hb5022 : 6 < List.length va := by rw [hlva]; omega
      refine q_s [14,15,16,17] [(14, g_i .u64 (Go.Dbr.u64_and (x := List.getD va 4 0) (y := List.getD va 5 0) rfl rfl)), (16, g_i .u64 (Go.Dbr.u64_xor (x := 18446744073709551615) (y := List.getD va 4 0) rfl rfl))] 19 En5021 (wo753.pk [0, 1, 4]) fun ac5023 En5024 => ?_
      refine q_r 18 (s := Instr.loadAt 53 (.pointer (some ⟨bk718, 6, none⟩))) (v := uv64 (List.getD va 6 0)) En5024 (fun w hS => run_load1 (by kernel_rfl) (hS.heap.cell (k := 0) rfl (u64s_getD hb5022))) (wo753.pk [0, 1, 4]) fun ac5025 En5026 => ?_
      refine q_s [19,20,22] [(19, g_i .u64 (Go.Dbr.u64_and (x := (18446744073709551615 : UInt64) ^^^ (List.getD va 4 0)) (y := List.getD va 6 0) rfl rfl)), (20, g_i .u64 (Go.Dbr.u64_xor (x := (List.getD va 4 0) &&& (List.getD va 5 0)) (y := ((18446744073709551615 : UInt64) ^^^ (List.getD va 4 0)) &&& (List.getD va 6 0)) rfl rfl))] 15 En5026 (wo753.pk [0, 1, 4]) fun ac5027 En5028 => ?_
      refine q_f 23 (s := Instr.indexAt 71 (pt bk10) (ni t3)) (v := .pointer (some ⟨bk10, t3, none⟩)) En5028 (fun _ => Go.Dbr.run_indexarr (e := 53) (sz := 1) (m := 80) (j := t3) (o := t3) (by kernel_rfl) (by kernel_rfl) (by omega) (by omega) (by omega) _) (fun _ => wo753.pk [0, 1, 4]) fun ac5029 En5030 => ?_
      have hb5031 : t3 < List.length K64 := by rw [(show List.length K64 = 80 from rfl)]; omega
      refine q_r 24 (s := Instr.loadAt 53 (.pointer (some ⟨bk10, t3, none⟩))) (v := uv64 (List.getD K64 t3 0)) En5030 (fun w hS => run_load1 (by kernel_rfl) (hS.heap.cell (k := 2) rfl (u64s_getD hb5031))) (wo753.pk [0, 1, 4]) fun ac5032 En5033 => ?_
      refine q_s [26] [] 12 En5033 (wo753.pk [0, 1, 4]) fun ac5034 En5035 => ?_
      refine q_f 27 (s := Instr.indexAt 71 (pt bk43) (ni t3)) (v := .pointer (some ⟨bk43, t3, none⟩)) En5035 (fun _ => Go.Dbr.run_indexarr (e := 53) (sz := 1) (m := 80) (j := t3) (o := t3) (by kernel_rfl) (by kernel_rfl) (by omega) (by omega) (by omega) _) (fun _ => wo753.pk [0, 1, 4]) fun ac5036 En5037 => ?_
      have hb5038 : t3 < List.length (rsF64 (rwF64 bl (128 * q) 16) 64) := by rw [(rsF64_len (rwF64_len _ _ _) _)]; omega
      refine q_r 28 (s := Instr.loadAt 53 (.pointer (some ⟨bk43, t3, none⟩))) (v := uv64 (List.getD (rsF64 (rwF64 bl (128 * q) 16) 64) t3 0)) En5037 (fun w hS => run_load1 (by kernel_rfl) (hS.heap.cell (k := 1) rfl (u64s_getD hb5038))) (wo753.pk [0, 1, 4]) fun ac5039 En5040 => ?_
      refine q_t 3 ?_
      refine c_p En5040 wo753 (turn64_ref _ (List.getD va 4 0) 14 (by decide) (by decide)) fun ac5045 wo5042 En5046 Hv5047 => ?_
      refine ⟨fun _ => Hv5047.pk [0, 1, 4], ?_⟩
      refine q_t 5 ?_
      refine c_p En5046 Hv5047 (turn64_ref _ (List.getD va 4 0) 18 (by decide) (by decide)) fun ac5052 wo5049 En5053 Hv5054 => ?_
      refine ⟨fun _ => Hv5054.pk [0, 1, 4], ?_⟩
      refine q_s [6] [(6, g_i .u64 (Go.Dbr.u64_xor (x := rotr64 (List.getD va 4 0) 14) (y := rotr64 (List.getD va 4 0) 18) rfl rfl))] 7 En5053 (Hv5054.pk [0, 1, 4]) fun ac5055 En5056 => ?_
      refine q_t 8 ?_
      refine c_p En5056 Hv5054 (turn64_ref _ (List.getD va 4 0) 41 (by decide) (by decide)) fun ac5061 wo5058 En5062 Hv5063 => ?_
      refine ⟨fun _ => Hv5063.pk [0, 1, 4], ?_⟩
      refine q_s [9,10,21,25,29,30] [(9, g_i .u64 (Go.Dbr.u64_xor (x := (rotr64 (List.getD va 4 0) 14) ^^^ (rotr64 (List.getD va 4 0) 18)) (y := rotr64 (List.getD va 4 0) 41) rfl rfl)), (10, g_i .u64 (Go.Dbr.u64_add (x := List.getD va 7 0) (y := ((rotr64 (List.getD va 4 0) 14) ^^^ (rotr64 (List.getD va 4 0) 18)) ^^^ (rotr64 (List.getD va 4 0) 41)) rfl rfl)), (21, g_i .u64 (Go.Dbr.u64_add (x := (List.getD va 7 0) + (((rotr64 (List.getD va 4 0) 14) ^^^ (rotr64 (List.getD va 4 0) 18)) ^^^ (rotr64 (List.getD va 4 0) 41))) (y := ((List.getD va 4 0) &&& (List.getD va 5 0)) ^^^ (((18446744073709551615 : UInt64) ^^^ (List.getD va 4 0)) &&& (List.getD va 6 0))) rfl rfl)), (25, g_i .u64 (Go.Dbr.u64_add (x := ((List.getD va 7 0) + (((rotr64 (List.getD va 4 0) 14) ^^^ (rotr64 (List.getD va 4 0) 18)) ^^^ (rotr64 (List.getD va 4 0) 41))) + (((List.getD va 4 0) &&& (List.getD va 5 0)) ^^^ (((18446744073709551615 : UInt64) ^^^ (List.getD va 4 0)) &&& (List.getD va 6 0)))) (y := List.getD K64 t3 0) rfl rfl)), (29, g_i .u64 (Go.Dbr.u64_add (x := (((List.getD va 7 0) + (((rotr64 (List.getD va 4 0) 14) ^^^ (rotr64 (List.getD va 4 0) 18)) ^^^ (rotr64 (List.getD va 4 0) 41))) + (((List.getD va 4 0) &&& (List.getD va 5 0)) ^^^ (((18446744073709551615 : UInt64) ^^^ (List.getD va 4 0)) &&& (List.getD va 6 0)))) + (List.getD K64 t3 0)) (y := List.getD (rsF64 (rwF64 bl (128 * q) 16) 64) t3 0) rfl rfl))] 0 En5062 (Hv5063.pk [0, 1, 4]) fun ac5064 En5065 => ?_
      exact h_e ⟨En5065.sb, Hv5063.pk [0, 1, 2, 3, 4]⟩
     rintro ac5066 wo5067 ⟨En5068, Hv5069⟩
     refine then_normal ?_
     refine wp_seq ?_
     refine r_c (fun ac wo => Env ac 211 [(0, .slice aoq21 (List.length bl) coq21), (3, pt bk1), (4, .slice none 0 0), (5, pt bk10), (6, ni (128 * q)), (7, pt bk43), (8, ni t1), (10, ni (16 + t2)), (13, pt bk718), (14, ni t3), (15, uv64 (List.getD va 0 0)), (16, uv64 (List.getD va 4 0)), (17, uv64 (((((List.getD va 7 0) + (((rotr64 (List.getD va 4 0) 14) ^^^ (rotr64 (List.getD va 4 0) 18)) ^^^ (rotr64 (List.getD va 4 0) 41))) + (((List.getD va 4 0) &&& (List.getD va 5 0)) ^^^ (((18446744073709551615 : UInt64) ^^^ (List.getD va 4 0)) &&& (List.getD va 6 0)))) + (List.getD K64 t3 0)) + (List.getD (rsF64 (rwF64 bl (128 * q) 16) 64) t3 0))), (18, uv64 ((((rotr64 (List.getD va 0 0) 28) ^^^ (rotr64 (List.getD va 0 0) 34)) ^^^ (rotr64 (List.getD va 0 0) 39)) + ((((List.getD va 0 0) &&& (List.getD va 1 0)) ^^^ ((List.getD va 0 0) &&& (List.getD va 2 0))) ^^^ ((List.getD va 1 0) &&& (List.getD va 2 0)))))] ∧ Ev w [] wo [.box bk718 (u64s va) 54, .box bk43 (u64s (rsF64 (rwF64 bl (128 * q) 16) 64)) 71, .box bk1 (u64s sx) 54, .vec aoq21 coq21 1 (bys bl) 5, .box bk10 (u64s K64) 71]) ?_ ?_
     ·
      refine h_s (fun wv => Ev w [] wv [.box bk718 (u64s va) 54]) [] 25 ?_
      have wo5070 := Hv5069.trans (Ev.drew Hv5069.heap)
      have hb6984 : 1 < List.length va := by rw [hlva]; omega
      refine q_s [0,2,5,8,9] [] 20 En5068 (wo5070.pk [0]) fun ac6985 En6986 => ?_
      refine q_r 10 (s := Instr.loadAt 53 (.pointer (some ⟨bk718, 1, none⟩))) (v := uv64 (List.getD va 1 0)) En6986 (fun w hS => run_load1 (by kernel_rfl) (hS.heap.cell (k := 0) rfl (u64s_getD hb6984))) (wo5070.pk [0]) fun ac6987 En6988 => ?_
      have hb6989 : 2 < List.length va := by rw [hlva]; omega
      refine q_s [11,12,13] [(11, g_i .u64 (Go.Dbr.u64_and (x := List.getD va 0 0) (y := List.getD va 1 0) rfl rfl))] 16 En6988 (wo5070.pk [0]) fun ac6990 En6991 => ?_
      refine q_r 14 (s := Instr.loadAt 53 (.pointer (some ⟨bk718, 2, none⟩))) (v := uv64 (List.getD va 2 0)) En6991 (fun w hS => run_load1 (by kernel_rfl) (hS.heap.cell (k := 0) rfl (u64s_getD hb6989))) (wo5070.pk [0]) fun ac6992 En6993 => ?_
      have hb6994 : 1 < List.length va := by rw [hlva]; omega
      refine q_s [15,16,17] [(15, g_i .u64 (Go.Dbr.u64_and (x := List.getD va 0 0) (y := List.getD va 2 0) rfl rfl)), (16, g_i .u64 (Go.Dbr.u64_xor (x := (List.getD va 0 0) &&& (List.getD va 1 0)) (y := (List.getD va 0 0) &&& (List.getD va 2 0)) rfl rfl))] 12 En6993 (wo5070.pk [0]) fun ac6995 En6996 => ?_
      refine q_r 18 (s := Instr.loadAt 53 (.pointer (some ⟨bk718, 1, none⟩))) (v := uv64 (List.getD va 1 0)) En6996 (fun w hS => run_load1 (by kernel_rfl) (hS.heap.cell (k := 0) rfl (u64s_getD hb6994))) (wo5070.pk [0]) fun ac6997 En6998 => ?_
      have hb6999 : 2 < List.length va := by rw [hlva]; omega
      refine q_s [19] [] 10 En6998 (wo5070.pk [0]) fun ac7000 En7001 => ?_
      refine q_r 20 (s := Instr.loadAt 53 (.pointer (some ⟨bk718, 2, none⟩))) (v := uv64 (List.getD va 2 0)) En7001 (fun w hS => run_load1 (by kernel_rfl) (hS.heap.cell (k := 0) rfl (u64s_getD hb6999))) (wo5070.pk [0]) fun ac7002 En7003 => ?_
      refine q_s [21,22] [(21, g_i .u64 (Go.Dbr.u64_and (x := List.getD va 1 0) (y := List.getD va 2 0) rfl rfl)), (22, g_i .u64 (Go.Dbr.u64_xor (x := ((List.getD va 0 0) &&& (List.getD va 1 0)) ^^^ ((List.getD va 0 0) &&& (List.getD va 2 0))) (y := (List.getD va 1 0) &&& (List.getD va 2 0)) rfl rfl))] 7 En7003 (wo5070.pk [0]) fun ac7004 En7005 => ?_
      refine q_t 1 ?_
      refine c_p En7005 wo5070 (turn64_ref _ (List.getD va 0 0) 28 (by decide) (by decide)) fun ac7010 wo7007 En7011 Hv7012 => ?_
      refine ⟨fun _ => Hv7012.pk [0], ?_⟩
      refine q_t 3 ?_
      refine c_p En7011 Hv7012 (turn64_ref _ (List.getD va 0 0) 34 (by decide) (by decide)) fun ac7017 wo7014 En7018 Hv7019 => ?_
      refine ⟨fun _ => Hv7019.pk [0], ?_⟩
      refine q_s [4] [(4, g_i .u64 (Go.Dbr.u64_xor (x := rotr64 (List.getD va 0 0) 28) (y := rotr64 (List.getD va 0 0) 34) rfl rfl))] 4 En7018 (Hv7019.pk [0]) fun ac7020 En7021 => ?_
      refine q_t 6 ?_
      refine c_p En7021 Hv7019 (turn64_ref _ (List.getD va 0 0) 39 (by decide) (by decide)) fun ac7026 wo7023 En7027 Hv7028 => ?_
      refine ⟨fun _ => Hv7028.pk [0], ?_⟩
      refine q_s [7,23,24] [(7, g_i .u64 (Go.Dbr.u64_xor (x := (rotr64 (List.getD va 0 0) 28) ^^^ (rotr64 (List.getD va 0 0) 34)) (y := rotr64 (List.getD va 0 0) 39) rfl rfl)), (23, g_i .u64 (Go.Dbr.u64_add (x := ((rotr64 (List.getD va 0 0) 28) ^^^ (rotr64 (List.getD va 0 0) 34)) ^^^ (rotr64 (List.getD va 0 0) 39)) (y := (((List.getD va 0 0) &&& (List.getD va 1 0)) ^^^ ((List.getD va 0 0) &&& (List.getD va 2 0))) ^^^ ((List.getD va 1 0) &&& (List.getD va 2 0))) rfl rfl))] 0 En7027 (Hv7028.pk [0]) fun ac7029 En7030 => ?_
      exact h_e ⟨En7030.sb, Hv7028.pk [0, 1, 2, 3, 4]⟩
     rintro ac7031 wo7032 ⟨En7033, Hv7034⟩
     refine then_normal ?_
     refine region_from ?_
     refine d_k [0,3,4,5,6,7,8,10,13,14,15,16,17,163,164,165] [(2, g_i .u64 (Go.Dbr.u64_add (x := ((((List.getD va 7 0) + (((rotr64 (List.getD va 4 0) 14) ^^^ (rotr64 (List.getD va 4 0) 18)) ^^^ (rotr64 (List.getD va 4 0) 41))) + (((List.getD va 4 0) &&& (List.getD va 5 0)) ^^^ (((18446744073709551615 : UInt64) ^^^ (List.getD va 4 0)) &&& (List.getD va 6 0)))) + (List.getD K64 t3 0)) + (List.getD (rsF64 (rwF64 bl (128 * q) 16) 64) t3 0)) (y := (((rotr64 (List.getD va 0 0) 28) ^^^ (rotr64 (List.getD va 0 0) 34)) ^^^ (rotr64 (List.getD va 0 0) 39)) + ((((List.getD va 0 0) &&& (List.getD va 1 0)) ^^^ ((List.getD va 0 0) &&& (List.getD va 2 0))) ^^^ ((List.getD va 1 0) &&& (List.getD va 2 0)))) rfl rfl))] 5 En7033 fun ac7035 En7036 => ?_
     refine f_o ?_
     have hb7037 : 1 < List.length va := by rw [hlva]; omega
     refine m_v 0 1 (uv64 (List.getD va 1 0)) En7036 Hv7034 rfl (u64s_getD hb7037) fun ac7038 En7039 => ?_
     refine d_k [0,3,4,5,6,7,8,10,13,14,15,16,17,163,164,166,167] [] 7 En7039 fun ac7040 En7041 => ?_
     refine f_o ?_
     have hb7042 : 2 < List.length va := by rw [hlva]; omega
     refine m_v 0 2 (uv64 (List.getD va 2 0)) En7041 Hv7034 rfl (u64s_getD hb7042) fun ac7043 En7044 => ?_
     refine d_k [0,3,4,5,6,7,8,10,13,14,15,16,17,163,164,166,168,169] [] 9 En7044 fun ac7045 En7046 => ?_
     refine f_o ?_
     have hb7047 : 3 < List.length va := by rw [hlva]; omega
     refine m_v 0 3 (uv64 (List.getD va 3 0)) En7046 Hv7034 rfl (u64s_getD hb7047) fun ac7048 En7049 => ?_
     refine d_k [0,3,4,5,6,7,8,10,13,14,15,16,163,164,166,168,172,173,174] [(11, g_i .u64 (Go.Dbr.u64_add (x := List.getD va 3 0) (y := ((((List.getD va 7 0) + (((rotr64 (List.getD va 4 0) 14) ^^^ (rotr64 (List.getD va 4 0) 18)) ^^^ (rotr64 (List.getD va 4 0) 41))) + (((List.getD va 4 0) &&& (List.getD va 5 0)) ^^^ (((18446744073709551615 : UInt64) ^^^ (List.getD va 4 0)) &&& (List.getD va 6 0)))) + (List.getD K64 t3 0)) + (List.getD (rsF64 (rwF64 bl (128 * q) 16) 64) t3 0)) rfl rfl))] 14 En7049 fun ac7050 En7051 => ?_
     refine f_o ?_
     have hb7052 : 5 < List.length va := by rw [hlva]; omega
     refine m_v 0 5 (uv64 (List.getD va 5 0)) En7051 Hv7034 rfl (u64s_getD hb7052) fun ac7053 En7054 => ?_
     refine d_k [0,3,4,5,6,7,8,10,13,14,15,16,163,164,166,168,172,173,175,176] [] 16 En7054 fun ac7055 En7056 => ?_
     refine f_o ?_
     have hb7057 : 6 < List.length va := by rw [hlva]; omega
     refine m_v 0 6 (uv64 (List.getD va 6 0)) En7056 Hv7034 rfl (u64s_getD hb7057) fun ac7058 En7059 => ?_
     refine d_k [0,3,4,5,6,7,8,10,13,14,15,16,178] [] 18 En7059 fun ac7060 En7061 => ?_
     refine f_o ?_
     refine m_g 0 0 8 (u64s ([(((((List.getD va 7 0) + (((rotr64 (List.getD va 4 0) 14) ^^^ (rotr64 (List.getD va 4 0) 18)) ^^^ (rotr64 (List.getD va 4 0) 41))) + (((List.getD va 4 0) &&& (List.getD va 5 0)) ^^^ (((18446744073709551615 : UInt64) ^^^ (List.getD va 4 0)) &&& (List.getD va 6 0)))) + (List.getD K64 t3 0)) + (List.getD (rsF64 (rwF64 bl (128 * q) 16) 64) t3 0)) + ((((rotr64 (List.getD va 0 0) 28) ^^^ (rotr64 (List.getD va 0 0) 34)) ^^^ (rotr64 (List.getD va 0 0) 39)) + ((((List.getD va 0 0) &&& (List.getD va 1 0)) ^^^ ((List.getD va 0 0) &&& (List.getD va 2 0))) ^^^ ((List.getD va 1 0) &&& (List.getD va 2 0)))), List.getD va 0 0, List.getD va 1 0, List.getD va 2 0, (List.getD va 3 0) + (((((List.getD va 7 0) + (((rotr64 (List.getD va 4 0) 14) ^^^ (rotr64 (List.getD va 4 0) 18)) ^^^ (rotr64 (List.getD va 4 0) 41))) + (((List.getD va 4 0) &&& (List.getD va 5 0)) ^^^ (((18446744073709551615 : UInt64) ^^^ (List.getD va 4 0)) &&& (List.getD va 6 0)))) + (List.getD K64 t3 0)) + (List.getD (rsF64 (rwF64 bl (128 * q) 16) 64) t3 0)), List.getD va 4 0, List.getD va 5 0, List.getD va 6 0] : List UInt64)) (u64s ([(((((List.getD va 7 0) + (((rotr64 (List.getD va 4 0) 14) ^^^ (rotr64 (List.getD va 4 0) 18)) ^^^ (rotr64 (List.getD va 4 0) 41))) + (((List.getD va 4 0) &&& (List.getD va 5 0)) ^^^ (((18446744073709551615 : UInt64) ^^^ (List.getD va 4 0)) &&& (List.getD va 6 0)))) + (List.getD K64 t3 0)) + (List.getD (rsF64 (rwF64 bl (128 * q) 16) 64) t3 0)) + ((((rotr64 (List.getD va 0 0) 28) ^^^ (rotr64 (List.getD va 0 0) 34)) ^^^ (rotr64 (List.getD va 0 0) 39)) + ((((List.getD va 0 0) &&& (List.getD va 1 0)) ^^^ ((List.getD va 0 0) &&& (List.getD va 2 0))) ^^^ ((List.getD va 1 0) &&& (List.getD va 2 0)))), List.getD va 0 0, List.getD va 1 0, List.getD va 2 0, (List.getD va 3 0) + (((((List.getD va 7 0) + (((rotr64 (List.getD va 4 0) 14) ^^^ (rotr64 (List.getD va 4 0) 18)) ^^^ (rotr64 (List.getD va 4 0) 41))) + (((List.getD va 4 0) &&& (List.getD va 5 0)) ^^^ (((18446744073709551615 : UInt64) ^^^ (List.getD va 4 0)) &&& (List.getD va 6 0)))) + (List.getD K64 t3 0)) + (List.getD (rsF64 (rwF64 bl (128 * q) 16) 64) t3 0)), List.getD va 4 0, List.getD va 5 0, List.getD va 6 0] : List UInt64)) [.box bk718 (u64s ([(((((List.getD va 7 0) + (((rotr64 (List.getD va 4 0) 14) ^^^ (rotr64 (List.getD va 4 0) 18)) ^^^ (rotr64 (List.getD va 4 0) 41))) + (((List.getD va 4 0) &&& (List.getD va 5 0)) ^^^ (((18446744073709551615 : UInt64) ^^^ (List.getD va 4 0)) &&& (List.getD va 6 0)))) + (List.getD K64 t3 0)) + (List.getD (rsF64 (rwF64 bl (128 * q) 16) 64) t3 0)) + ((((rotr64 (List.getD va 0 0) 28) ^^^ (rotr64 (List.getD va 0 0) 34)) ^^^ (rotr64 (List.getD va 0 0) 39)) + ((((List.getD va 0 0) &&& (List.getD va 1 0)) ^^^ ((List.getD va 0 0) &&& (List.getD va 2 0))) ^^^ ((List.getD va 1 0) &&& (List.getD va 2 0)))), List.getD va 0 0, List.getD va 1 0, List.getD va 2 0, (List.getD va 3 0) + (((((List.getD va 7 0) + (((rotr64 (List.getD va 4 0) 14) ^^^ (rotr64 (List.getD va 4 0) 18)) ^^^ (rotr64 (List.getD va 4 0) 41))) + (((List.getD va 4 0) &&& (List.getD va 5 0)) ^^^ (((18446744073709551615 : UInt64) ^^^ (List.getD va 4 0)) &&& (List.getD va 6 0)))) + (List.getD K64 t3 0)) + (List.getD (rsF64 (rwF64 bl (128 * q) 16) 64) t3 0)), List.getD va 4 0, List.getD va 5 0, List.getD va 6 0] : List UInt64)) 54, .box bk43 (u64s (rsF64 (rwF64 bl (128 * q) 16) 64)) 71, .box bk1 (u64s sx) 54, .vec aoq21 coq21 1 (bys bl) 5, .box bk10 (u64s K64) 71] En7061 Hv7034 rfl (u64s_lenh (show List.length ([(((((List.getD va 7 0) + (((rotr64 (List.getD va 4 0) 14) ^^^ (rotr64 (List.getD va 4 0) 18)) ^^^ (rotr64 (List.getD va 4 0) 41))) + (((List.getD va 4 0) &&& (List.getD va 5 0)) ^^^ (((18446744073709551615 : UInt64) ^^^ (List.getD va 4 0)) &&& (List.getD va 6 0)))) + (List.getD K64 t3 0)) + (List.getD (rsF64 (rwF64 bl (128 * q) 16) 64) t3 0)) + ((((rotr64 (List.getD va 0 0) 28) ^^^ (rotr64 (List.getD va 0 0) 34)) ^^^ (rotr64 (List.getD va 0 0) 39)) + ((((List.getD va 0 0) &&& (List.getD va 1 0)) ^^^ ((List.getD va 0 0) &&& (List.getD va 2 0))) ^^^ ((List.getD va 1 0) &&& (List.getD va 2 0)))), List.getD va 0 0, List.getD va 1 0, List.getD va 2 0, (List.getD va 3 0) + (((((List.getD va 7 0) + (((rotr64 (List.getD va 4 0) 14) ^^^ (rotr64 (List.getD va 4 0) 18)) ^^^ (rotr64 (List.getD va 4 0) 41))) + (((List.getD va 4 0) &&& (List.getD va 5 0)) ^^^ (((18446744073709551615 : UInt64) ^^^ (List.getD va 4 0)) &&& (List.getD va 6 0)))) + (List.getD K64 t3 0)) + (List.getD (rsF64 (rwF64 bl (128 * q) 16) 64) t3 0)), List.getD va 4 0, List.getD va 5 0, List.getD va 6 0] : List UInt64) = 8 from rfl)) (by rw [(u64s_lenh hlva)]; decide) (u64s_one _) (store_whole (u64s_lenh hlva)) rfl fun ac7062 wo7063 En7064 Hv7065 => ?_
     refine f_e ?_
     refine block_normal ?_
     refine then_normal ?_
     refine d_r [0,3,4,5,6,7,8,10,13,14,15,16] [(1, g_n (w_a t3 1))] En7064 fun ac7066 En7067 => ?_
     refine then_normal ?_
     refine ⟨_, ⟨t3 + 1, ([(((((List.getD va 7 0) + (((rotr64 (List.getD va 4 0) 14) ^^^ (rotr64 (List.getD va 4 0) 18)) ^^^ (rotr64 (List.getD va 4 0) 41))) + (((List.getD va 4 0) &&& (List.getD va 5 0)) ^^^ (((18446744073709551615 : UInt64) ^^^ (List.getD va 4 0)) &&& (List.getD va 6 0)))) + (List.getD K64 t3 0)) + (List.getD (rsF64 (rwF64 bl (128 * q) 16) 64) t3 0)) + ((((rotr64 (List.getD va 0 0) 28) ^^^ (rotr64 (List.getD va 0 0) 34)) ^^^ (rotr64 (List.getD va 0 0) 39)) + ((((List.getD va 0 0) &&& (List.getD va 1 0)) ^^^ ((List.getD va 0 0) &&& (List.getD va 2 0))) ^^^ ((List.getD va 1 0) &&& (List.getD va 2 0)))), List.getD va 0 0, List.getD va 1 0, List.getD va 2 0, (List.getD va 3 0) + (((((List.getD va 7 0) + (((rotr64 (List.getD va 4 0) 14) ^^^ (rotr64 (List.getD va 4 0) 18)) ^^^ (rotr64 (List.getD va 4 0) 41))) + (((List.getD va 4 0) &&& (List.getD va 5 0)) ^^^ (((18446744073709551615 : UInt64) ^^^ (List.getD va 4 0)) &&& (List.getD va 6 0)))) + (List.getD K64 t3 0)) + (List.getD (rsF64 (rwF64 bl (128 * q) 16) 64) t3 0)), List.getD va 4 0, List.getD va 5 0, List.getD va 6 0] : List UInt64), rfl, En7067.sb, Hv7065.pk [0, 1, 2, 3, 4], by omega, (show List.length ([(((((List.getD va 7 0) + (((rotr64 (List.getD va 4 0) 14) ^^^ (rotr64 (List.getD va 4 0) 18)) ^^^ (rotr64 (List.getD va 4 0) 41))) + (((List.getD va 4 0) &&& (List.getD va 5 0)) ^^^ (((18446744073709551615 : UInt64) ^^^ (List.getD va 4 0)) &&& (List.getD va 6 0)))) + (List.getD K64 t3 0)) + (List.getD (rsF64 (rwF64 bl (128 * q) 16) 64) t3 0)) + ((((rotr64 (List.getD va 0 0) 28) ^^^ (rotr64 (List.getD va 0 0) 34)) ^^^ (rotr64 (List.getD va 0 0) 39)) + ((((List.getD va 0 0) &&& (List.getD va 1 0)) ^^^ ((List.getD va 0 0) &&& (List.getD va 2 0))) ^^^ ((List.getD va 1 0) &&& (List.getD va 2 0)))), List.getD va 0 0, List.getD va 1 0, List.getD va 2 0, (List.getD va 3 0) + (((((List.getD va 7 0) + (((rotr64 (List.getD va 4 0) 14) ^^^ (rotr64 (List.getD va 4 0) 18)) ^^^ (rotr64 (List.getD va 4 0) 41))) + (((List.getD va 4 0) &&& (List.getD va 5 0)) ^^^ (((18446744073709551615 : UInt64) ^^^ (List.getD va 4 0)) &&& (List.getD va 6 0)))) + (List.getD K64 t3 0)) + (List.getD (rsF64 (rwF64 bl (128 * q) 16) 64) t3 0)), List.getD va 4 0, List.getD va 5 0, List.getD va 6 0] : List UInt64) = 8 from rfl), by first | (rw [heva]; rfl) | (rw [heva, hc2]; rfl) | rfl⟩, ?_⟩
     omega
    ·
     refine wp_exit ?_
     refine then_exit ?_
     refine then_exit ?_
     refine block_exit ?_
     refine then_normal ?_
     refine wp_seq ?_
     have hnva : t3 = 80 := by omega
     have hfva : va = rr64 (rsF64 (rwF64 bl (128 * q) 16) 64) sx 80 := by rw [heva, hnva] <;> rfl
     rw [show va = (rr64 (rsF64 (rwF64 bl (128 * q) 16) 64) sx 80) from hfva] at Hv734
     refine d_r [0,3,4,5,6,7,8,10,13,14,19] [] En737 fun ac7068 En7069 => ?_
     refine then_normal ?_
     refine wp_block ?_
     refine loop_m (fun ms7070 ac wo => ∃ (t4 : Nat) (sb : List UInt64), ms7070 = (8 - t4 : Nat) ∧ Env ac 211 [(0, .slice aoq21 (List.length bl) coq21), (3, pt bk1), (4, .slice none 0 0), (5, pt bk10), (6, ni (128 * q)), (7, pt bk43), (8, ni t1), (10, ni (16 + t2)), (13, pt bk718), (14, ni t3), (19, ni t4)] ∧ Ev w [] wo [.box bk1 (u64s sb) 54, .box bk718 (u64s (rr64 (rsF64 (rwF64 bl (128 * q) 16) 64) sx 80)) 54, .box bk43 (u64s (rsF64 (rwF64 bl (128 * q) 16) 64)) 71, .vec aoq21 coq21 1 (bys bl) 5, .box bk10 (u64s K64) 71] ∧ (t4 ≤ 8) ∧ (List.length sb = 8) ∧ (sb = add64 sx (rr64 (rsF64 (rwF64 bl (128 * q) 16) 64) sx 80) t4)) ⟨_, 0, sx, rfl, En7069.sb, Hv734.pk [2, 0, 1, 3, 4], by omega, hlx, rfl⟩ ?_
     rintro mm7076 ac7072 wo7073 ⟨t4, sb, rfl, En7074, Hv7075, hisb, hlsb, hesb⟩
     refine wp_seq ?_
     refine wp_seq ?_
     refine d_r [0,3,4,5,6,7,8,10,13,14,19,180] [] En7074 fun ac7077 En7078 => ?_
     refine then_normal ?_
     refine c_d (((t4 : Nat) : Int) < (8 : Int)) En7078 (fun hc7079 => ?_) (fun hc7079 => ?_)
     ·
      refine wp_skip ?_
      refine then_normal ?_
      refine wp_seq ?_
      refine wp_block ?_
      refine r_c (fun ac wo => Env ac 211 [(0, .slice aoq21 (List.length bl) coq21), (3, pt bk1), (4, .slice none 0 0), (5, pt bk10), (6, ni (128 * q)), (7, pt bk43), (8, ni t1), (10, ni (16 + t2)), (13, pt bk718), (14, ni t3), (19, ni t4)] ∧ Ev w [] wo [.box bk1 (u64s (List.set sb t4 ((List.getD sb t4 0) + (List.getD (rr64 (rsF64 (rwF64 bl (128 * q) 16) 64) sx 80) t4 0)))) 54, .box bk718 (u64s (rr64 (rsF64 (rwF64 bl (128 * q) 16) 64) sx 80)) 54, .box bk43 (u64s (rsF64 (rwF64 bl (128 * q) 16) 64)) 71, .vec aoq21 coq21 1 (bys bl) 5, .box bk10 (u64s K64) 71]) ?_ ?_
      ·
       refine h_s (fun wv => Ev w [] wv [.box bk1 (u64s sb) 54, .box bk718 (u64s (rr64 (rsF64 (rwF64 bl (128 * q) 16) 64) sx 80)) 54]) [9] 10 ?_
       have wo7080 := Hv7075.trans (Ev.drew Hv7075.heap)
       refine q_s [0,1] [] 8 En7078 (wo7080.pk [0, 1]) fun ac7142 En7143 => ?_
       refine q_f 2 (s := Instr.indexAt 54 (pt bk1) (ni t4)) (v := .pointer (some ⟨bk1, t4, none⟩)) En7143 (fun _ => Go.Dbr.run_indexarr (e := 53) (sz := 1) (m := 8) (j := t4) (o := t4) (by kernel_rfl) (by kernel_rfl) (by omega) (by omega) (by omega) _) (fun _ => wo7080.pk [0, 1]) fun ac7144 En7145 => ?_
       have hb7146 : t4 < List.length sb := by rw [hlsb]; omega
       refine q_r 3 (s := Instr.loadAt 53 (.pointer (some ⟨bk1, t4, none⟩))) (v := uv64 (List.getD sb t4 0)) En7145 (fun w hS => run_load1 (by kernel_rfl) (hS.heap.cell (k := 0) rfl (u64s_getD hb7146))) (wo7080.pk [0, 1]) fun ac7147 En7148 => ?_
       refine q_s [4] [] 5 En7148 (wo7080.pk [0, 1]) fun ac7149 En7150 => ?_
       refine q_f 5 (s := Instr.indexAt 54 (pt bk718) (ni t4)) (v := .pointer (some ⟨bk718, t4, none⟩)) En7150 (fun _ => Go.Dbr.run_indexarr (e := 53) (sz := 1) (m := 8) (j := t4) (o := t4) (by kernel_rfl) (by kernel_rfl) (by omega) (by omega) (by omega) _) (fun _ => wo7080.pk [0, 1]) fun ac7151 En7152 => ?_
       have hb7153 : t4 < List.length (rr64 (rsF64 (rwF64 bl (128 * q) 16) 64) sx 80) := by rw [(rr64_len _ hlx _)]; omega
       refine q_r 6 (s := Instr.loadAt 53 (.pointer (some ⟨bk718, t4, none⟩))) (v := uv64 (List.getD (rr64 (rsF64 (rwF64 bl (128 * q) 16) 64) sx 80) t4 0)) En7152 (fun w hS => run_load1 (by kernel_rfl) (hS.heap.cell (k := 1) rfl (u64s_getD hb7153))) (wo7080.pk [0, 1]) fun ac7154 En7155 => ?_
       refine q_s [7] [(7, g_i .u64 (Go.Dbr.u64_add (x := List.getD sb t4 0) (y := List.getD (rr64 (rsF64 (rwF64 bl (128 * q) 16) 64) sx 80) t4 0) rfl rfl))] 2 En7155 (wo7080.pk [0, 1]) fun ac7156 En7157 => ?_
       refine q_f 8 (s := Instr.indexAt 54 (pt bk1) (ni t4)) (v := .pointer (some ⟨bk1, t4, none⟩)) En7157 (fun _ => Go.Dbr.run_indexarr (e := 53) (sz := 1) (m := 8) (j := t4) (o := t4) (by kernel_rfl) (by kernel_rfl) (by omega) (by omega) (by omega) _) (fun _ => wo7080.pk [0, 1]) fun ac7158 En7159 => ?_
       refine q_t 9 ?_
       have hb7160 : t4 < List.length sb := by rw [hlsb]; omega
       refine m_t 0 t4 (uv64 ((List.getD sb t4 0) + (List.getD (rr64 (rsF64 (rwF64 bl (128 * q) 16) 64) sx 80) t4 0))) [.box bk1 (u64s (List.set sb t4 ((List.getD sb t4 0) + (List.getD (rr64 (rsF64 (rwF64 bl (128 * q) 16) 64) sx 80) t4 0)))) 54, .box bk718 (u64s (rr64 (rsF64 (rwF64 bl (128 * q) 16) 64) sx 80)) 54, .box bk43 (u64s (rsF64 (rwF64 bl (128 * q) 16) 64)) 71, .vec aoq21 coq21 1 (bys bl) 5, .box bk10 (u64s K64) 71] En7159 wo7080 rfl (u64s_getD hb7160) (u64s_set _ _ _) rfl fun ac7161 wo7162 En7163 Hv7164 => ?_
       refine ⟨q_y, ?_⟩
       exact h_e ⟨En7163.sb, Hv7164.pk [0, 1, 2, 3, 4]⟩
      rintro ac7165 wo7166 ⟨En7167, Hv7168⟩
      refine block_normal ?_
      refine then_normal ?_
      refine d_r [0,3,4,5,6,7,8,10,13,14,19] [(1, g_n (w_a t4 1))] En7167 fun ac7169 En7170 => ?_
      refine then_normal ?_
      refine ⟨_, ⟨t4 + 1, (List.set sb t4 ((List.getD sb t4 0) + (List.getD (rr64 (rsF64 (rwF64 bl (128 * q) 16) 64) sx 80) t4 0))), rfl, En7170.sb, Hv7168.pk [0, 1, 2, 3, 4], by omega, (List.length_set.trans hlsb), by first | (rw [hesb]; rfl) | (rw [hesb, hc2]; rfl) | rfl⟩, ?_⟩
      omega
     ·
      refine wp_exit ?_
      refine then_exit ?_
      refine then_exit ?_
      refine block_exit ?_
      refine block_normal ?_
      refine then_normal ?_
      have hnsb : t4 = 8 := by omega
      have hfsb : sb = add64 sx (rr64 (rsF64 (rwF64 bl (128 * q) 16) 64) sx 80) 8 := by rw [hesb, hnsb] <;> rfl
      rw [show sb = (add64 sx (rr64 (rsF64 (rwF64 bl (128 * q) 16) 64) sx 80) 8) from hfsb] at Hv7075
      refine d_r [0,3,4,5,6,7,8,10,13,14,19] [(1, g_n (w_a (128 * q) 128))] En7078 fun ac7171 En7172 => ?_
      refine then_normal ?_
      refine ⟨_, ⟨q + 1, (add64 sx (rr64 (rsF64 (rwF64 bl (128 * q) 16) 64) sx 80) 8), rfl, En7172.sb, Hv7075.pk [0, 3, 4], by omega, (add64_len hlx _ _), by rw [hes]; rfl⟩, ?_⟩
      omega
 ·
  refine wp_exit ?_
  refine then_exit ?_
  refine then_exit ?_
  refine block_exit ?_
  refine then_normal ?_
  refine wp_seq ?_
  have hqe : q = List.length bl / 128 := by omega
  refine d_r [0,3,4,5,6,20] [] En41 fun ac7173 En7174 => ?_
  refine then_normal ?_
  refine wp_seq ?_
  refine wp_seq ?_
  refine d_r [0,3,4,5,6,20,21] [] En7174 fun ac7175 En7176 => ?_
  refine then_normal ?_
  refine wp_block ?_
  have Hv7177 := Ev.nil (sz := 1) (T := 5) Hv38
  refine loop_m (fun ms7178 ac wo => ∃ (i : Nat) (a7 : Option Addr) (c7 : Nat) (ol : List UInt8), ms7178 = (8 - i : Nat) ∧ Env ac 211 [(0, .slice aoq21 (List.length bl) coq21), (3, pt bk1), (4, .slice none 0 0), (5, pt bk10), (6, ni (128 * q)), (20, .slice a7 (List.length ol) c7), (21, ni i)] ∧ Ev w [] wo [.vec a7 c7 1 (bys ol) 5, .box bk1 (u64s sx) 54, .vec aoq21 coq21 1 (bys bl) 5, .box bk10 (u64s K64) 71] ∧ (i ≤ 8) ∧ (ol = ro64 sx i) ∧ (List.length ol = 8 * i)) ⟨_, 0, none, 0, [], rfl, En7176.sb, Hv7177.pk [3, 0, 1, 2], by omega, rfl, rfl⟩ ?_
  rintro mm7184 ac7180 wo7181 ⟨i, a7, c7, ol, rfl, En7182, Hv7183, hi, heo, hol⟩
  refine wp_seq ?_
  refine wp_seq ?_
  refine d_r [0,3,4,5,6,20,21,193] [] En7182 fun ac7185 En7186 => ?_
  refine then_normal ?_
  refine c_d (((i : Nat) : Int) < (8 : Int)) En7186 (fun hc7187 => ?_) (fun hc7187 => ?_)
  ·
   refine wp_skip ?_
   refine then_normal ?_
   refine wp_seq ?_
   refine wp_block ?_
   refine wp_seq ?_
   refine d_r [0,3,4,5,6,20,21,22] [] En7186 fun ac7188 En7189 => ?_
   refine then_normal ?_
   refine wp_block ?_
   refine loop_enter ?_
   refine loop_once ?_
   refine wp_seq ?_
   refine wp_seq ?_
   refine d_r [0,3,4,5,6,20,21,22,197] [] En7189 fun ac7190 En7191 => ?_
   refine then_normal ?_
   refine c_t En7191 ?_
   refine wp_skip ?_
   refine then_normal ?_
   refine wp_seq ?_
   refine wp_block ?_
   refine region_from ?_
   refine d_k [0,3,4,5,6,20,21,22,200,201] [] 2 En7191 fun ac7192 En7193 => ?_
   refine f_o ?_
   refine q_v (x := Instr.indexAt 54 (pt bk1) (ni i)) (v := .pointer (some ⟨bk1, i, none⟩)) En7193 (Go.Dbr.run_indexarr (e := 53) (sz := 1) (m := 8) (j := i) (o := i) (by kernel_rfl) (by kernel_rfl) (by omega) (by omega) (by omega) _) fun ac7194 En7195 => ?_
   refine f_o ?_
   have hb7196 : i < List.length sx := by rw [hlx]; omega
   refine m_v 1 i (uv64 (List.getD sx i 0)) En7195 Hv7183 rfl (u64s_getD hb7196) fun ac7197 En7198 => ?_
   refine d_k [0,3,4,5,6,20,21,22,200,207] [(6, g_i .u64 (Go.Dbr.u64_shr (x := List.getD sx i 0) (n := 56) rfl (by decide))), (7, g_i .u8 (Go.Dbr.u64_to_u8 (x := (List.getD sx i 0) >>> UInt64.ofNat 56) rfl))] 8 En7198 fun ac7199 En7200 => ?_
   refine f_o ?_
   refine op_lit (d := some 208) (t := 23) (T := 5) (m := 1) (parts := #[(0, bv (UInt64.toUInt8 ((List.getD sx i 0) >>> UInt64.ofNat 56)))]) (xs := bys [UInt64.toUInt8 ((List.getD sx i 0) >>> UInt64.ofNat 56)]) (sz := 1) En7200 (by kernel_rfl) (by kernel_rfl) rfl (by decide) Hv7183 ?_
   intro ac7202 wo7203 bk7201 En7204 Hv7205
   refine f_o ?_
   refine op_append (d := some 209) (t := 23) (tx := 23) (ty := 23) (k := 0) (p := List.length ol) (m := 1) (x := .slice (some ⟨bk7201, 0, none⟩) 1 1) (bytes := 1) En7204 (by kernel_rfl) Hv7205 rfl (bys_len _) (Reads.src (size := 1) (tx := 23) (e' := 5) (by kernel_rfl) (Hv7205.heap.reads (k := 4) rfl) rfl (fun e => by cases e) (bys_one _)) (by kernel_rfl) (z := .int .u8 0) (by kernel_rfl) rfl (by decide) (by omega) (by unfold maxLen; omega) ?_
   intro ac7210 wo7211 ao7206 cp7207 En7212 Hv7213 hnz _
   clear hnz
   rw [← bys_append] at Hv7213
   have ehz7208 : (List.length ol) + 1 = List.length (ol ++ [UInt64.toUInt8 ((List.getD sx i 0) >>> UInt64.ofNat 56)]) := (by first | (simp; done) | (simp; omega) | omega)
   rw [ehz7208] at En7212
   refine d_e [0,3,4,5,6,20,21,22] [] En7212 fun ac7214 En7215 => ?_
   refine block_normal ?_
   refine then_normal ?_
   have Hv7216 := Hv7213.pk [0, 1, 2, 3] (M := [.vec ao7206 cp7207 1 (bys (ol ++ [UInt64.toUInt8 ((List.getD sx i 0) >>> UInt64.ofNat 56)])) 5, .box bk1 (u64s sx) 54, .vec aoq21 coq21 1 (bys bl) 5, .box bk10 (u64s K64) 71])
   refine d_r [0,3,4,5,6,20,21,22] [] En7215 fun ac7217 En7218 => ?_
   refine then_normal ?_
   refine loop_once ?_
   refine wp_seq ?_
   refine wp_seq ?_
   refine d_r [0,3,4,5,6,20,21,22,197] [] En7218 fun ac7219 En7220 => ?_
   refine then_normal ?_
   refine c_t En7220 ?_
   refine wp_skip ?_
   refine then_normal ?_
   refine wp_seq ?_
   refine wp_block ?_
   refine region_from ?_
   refine d_k [0,3,4,5,6,20,21,22,200,201] [] 2 En7220 fun ac7221 En7222 => ?_
   refine f_o ?_
   refine q_v (x := Instr.indexAt 54 (pt bk1) (ni i)) (v := .pointer (some ⟨bk1, i, none⟩)) En7222 (Go.Dbr.run_indexarr (e := 53) (sz := 1) (m := 8) (j := i) (o := i) (by kernel_rfl) (by kernel_rfl) (by omega) (by omega) (by omega) _) fun ac7223 En7224 => ?_
   refine f_o ?_
   have hb7225 : i < List.length sx := by rw [hlx]; omega
   refine m_v 1 i (uv64 (List.getD sx i 0)) En7224 Hv7216 rfl (u64s_getD hb7225) fun ac7226 En7227 => ?_
   refine d_k [0,3,4,5,6,20,21,22,200,207] [(6, g_i .u64 (Go.Dbr.u64_shr (x := List.getD sx i 0) (n := 48) rfl (by decide))), (7, g_i .u8 (Go.Dbr.u64_to_u8 (x := (List.getD sx i 0) >>> UInt64.ofNat 48) rfl))] 8 En7227 fun ac7228 En7229 => ?_
   refine f_o ?_
   refine op_lit (d := some 208) (t := 23) (T := 5) (m := 1) (parts := #[(0, bv (UInt64.toUInt8 ((List.getD sx i 0) >>> UInt64.ofNat 48)))]) (xs := bys [UInt64.toUInt8 ((List.getD sx i 0) >>> UInt64.ofNat 48)]) (sz := 1) En7229 (by kernel_rfl) (by kernel_rfl) rfl (by decide) Hv7216 ?_
   intro ac7231 wo7232 bk7230 En7233 Hv7234
   refine f_o ?_
   refine op_append (d := some 209) (t := 23) (tx := 23) (ty := 23) (k := 0) (p := List.length (ol ++ [UInt64.toUInt8 ((List.getD sx i 0) >>> UInt64.ofNat 56)])) (m := 1) (x := .slice (some ⟨bk7230, 0, none⟩) 1 1) (bytes := 1) En7233 (by kernel_rfl) Hv7234 rfl (bys_len _) (Reads.src (size := 1) (tx := 23) (e' := 5) (by kernel_rfl) (Hv7234.heap.reads (k := 4) rfl) rfl (fun e => by cases e) (bys_one _)) (by kernel_rfl) (z := .int .u8 0) (by kernel_rfl) rfl (by decide) (by omega) (by unfold maxLen; omega) ?_
   intro ac7239 wo7240 ao7235 cp7236 En7241 Hv7242 hnz _
   clear hnz
   rw [← bys_append] at Hv7242
   have ehz7237 : (List.length (ol ++ [UInt64.toUInt8 ((List.getD sx i 0) >>> UInt64.ofNat 56)])) + 1 = List.length ((ol ++ [UInt64.toUInt8 ((List.getD sx i 0) >>> UInt64.ofNat 56)]) ++ [UInt64.toUInt8 ((List.getD sx i 0) >>> UInt64.ofNat 48)]) := (by first | (simp; done) | (simp; omega) | omega)
   rw [ehz7237] at En7241
   refine d_e [0,3,4,5,6,20,21,22] [] En7241 fun ac7243 En7244 => ?_
   refine block_normal ?_
   refine then_normal ?_
   have Hv7245 := Hv7242.pk [0, 1, 2, 3] (M := [.vec ao7235 cp7236 1 (bys ((ol ++ [UInt64.toUInt8 ((List.getD sx i 0) >>> UInt64.ofNat 56)]) ++ [UInt64.toUInt8 ((List.getD sx i 0) >>> UInt64.ofNat 48)])) 5, .box bk1 (u64s sx) 54, .vec aoq21 coq21 1 (bys bl) 5, .box bk10 (u64s K64) 71])
   refine d_r [0,3,4,5,6,20,21,22] [] En7244 fun ac7246 En7247 => ?_
   refine then_normal ?_
   refine loop_once ?_
   refine wp_seq ?_
   refine wp_seq ?_
   refine d_r [0,3,4,5,6,20,21,22,197] [] En7247 fun ac7248 En7249 => ?_
   refine then_normal ?_
   refine c_t En7249 ?_
   refine wp_skip ?_
   refine then_normal ?_
   refine wp_seq ?_
   refine wp_block ?_
   refine region_from ?_
   refine d_k [0,3,4,5,6,20,21,22,200,201] [] 2 En7249 fun ac7250 En7251 => ?_
   refine f_o ?_
   refine q_v (x := Instr.indexAt 54 (pt bk1) (ni i)) (v := .pointer (some ⟨bk1, i, none⟩)) En7251 (Go.Dbr.run_indexarr (e := 53) (sz := 1) (m := 8) (j := i) (o := i) (by kernel_rfl) (by kernel_rfl) (by omega) (by omega) (by omega) _) fun ac7252 En7253 => ?_
   refine f_o ?_
   have hb7254 : i < List.length sx := by rw [hlx]; omega
   refine m_v 1 i (uv64 (List.getD sx i 0)) En7253 Hv7245 rfl (u64s_getD hb7254) fun ac7255 En7256 => ?_
   refine d_k [0,3,4,5,6,20,21,22,200,207] [(6, g_i .u64 (Go.Dbr.u64_shr (x := List.getD sx i 0) (n := 40) rfl (by decide))), (7, g_i .u8 (Go.Dbr.u64_to_u8 (x := (List.getD sx i 0) >>> UInt64.ofNat 40) rfl))] 8 En7256 fun ac7257 En7258 => ?_
   refine f_o ?_
   refine op_lit (d := some 208) (t := 23) (T := 5) (m := 1) (parts := #[(0, bv (UInt64.toUInt8 ((List.getD sx i 0) >>> UInt64.ofNat 40)))]) (xs := bys [UInt64.toUInt8 ((List.getD sx i 0) >>> UInt64.ofNat 40)]) (sz := 1) En7258 (by kernel_rfl) (by kernel_rfl) rfl (by decide) Hv7245 ?_
   intro ac7260 wo7261 bk7259 En7262 Hv7263
   refine f_o ?_
   refine op_append (d := some 209) (t := 23) (tx := 23) (ty := 23) (k := 0) (p := List.length ((ol ++ [UInt64.toUInt8 ((List.getD sx i 0) >>> UInt64.ofNat 56)]) ++ [UInt64.toUInt8 ((List.getD sx i 0) >>> UInt64.ofNat 48)])) (m := 1) (x := .slice (some ⟨bk7259, 0, none⟩) 1 1) (bytes := 1) En7262 (by kernel_rfl) Hv7263 rfl (bys_len _) (Reads.src (size := 1) (tx := 23) (e' := 5) (by kernel_rfl) (Hv7263.heap.reads (k := 4) rfl) rfl (fun e => by cases e) (bys_one _)) (by kernel_rfl) (z := .int .u8 0) (by kernel_rfl) rfl (by decide) (by omega) (by unfold maxLen; omega) ?_
   intro ac7268 wo7269 ao7264 cp7265 En7270 Hv7271 hnz _
   clear hnz
   rw [← bys_append] at Hv7271
   have ehz7266 : (List.length ((ol ++ [UInt64.toUInt8 ((List.getD sx i 0) >>> UInt64.ofNat 56)]) ++ [UInt64.toUInt8 ((List.getD sx i 0) >>> UInt64.ofNat 48)])) + 1 = List.length (((ol ++ [UInt64.toUInt8 ((List.getD sx i 0) >>> UInt64.ofNat 56)]) ++ [UInt64.toUInt8 ((List.getD sx i 0) >>> UInt64.ofNat 48)]) ++ [UInt64.toUInt8 ((List.getD sx i 0) >>> UInt64.ofNat 40)]) := (by first | (simp; done) | (simp; omega) | omega)
   rw [ehz7266] at En7270
   refine d_e [0,3,4,5,6,20,21,22] [] En7270 fun ac7272 En7273 => ?_
   refine block_normal ?_
   refine then_normal ?_
   have Hv7274 := Hv7271.pk [0, 1, 2, 3] (M := [.vec ao7264 cp7265 1 (bys (((ol ++ [UInt64.toUInt8 ((List.getD sx i 0) >>> UInt64.ofNat 56)]) ++ [UInt64.toUInt8 ((List.getD sx i 0) >>> UInt64.ofNat 48)]) ++ [UInt64.toUInt8 ((List.getD sx i 0) >>> UInt64.ofNat 40)])) 5, .box bk1 (u64s sx) 54, .vec aoq21 coq21 1 (bys bl) 5, .box bk10 (u64s K64) 71])
   refine d_r [0,3,4,5,6,20,21,22] [] En7273 fun ac7275 En7276 => ?_
   refine then_normal ?_
   refine loop_once ?_
   refine wp_seq ?_
   refine wp_seq ?_
   refine d_r [0,3,4,5,6,20,21,22,197] [] En7276 fun ac7277 En7278 => ?_
   refine then_normal ?_
   refine c_t En7278 ?_
   refine wp_skip ?_
   refine then_normal ?_
   refine wp_seq ?_
   refine wp_block ?_
   refine region_from ?_
   refine d_k [0,3,4,5,6,20,21,22,200,201] [] 2 En7278 fun ac7279 En7280 => ?_
   refine f_o ?_
   refine q_v (x := Instr.indexAt 54 (pt bk1) (ni i)) (v := .pointer (some ⟨bk1, i, none⟩)) En7280 (Go.Dbr.run_indexarr (e := 53) (sz := 1) (m := 8) (j := i) (o := i) (by kernel_rfl) (by kernel_rfl) (by omega) (by omega) (by omega) _) fun ac7281 En7282 => ?_
   refine f_o ?_
   have hb7283 : i < List.length sx := by rw [hlx]; omega
   refine m_v 1 i (uv64 (List.getD sx i 0)) En7282 Hv7274 rfl (u64s_getD hb7283) fun ac7284 En7285 => ?_
   refine d_k [0,3,4,5,6,20,21,22,200,207] [(6, g_i .u64 (Go.Dbr.u64_shr (x := List.getD sx i 0) (n := 32) rfl (by decide))), (7, g_i .u8 (Go.Dbr.u64_to_u8 (x := (List.getD sx i 0) >>> UInt64.ofNat 32) rfl))] 8 En7285 fun ac7286 En7287 => ?_
   refine f_o ?_
   refine op_lit (d := some 208) (t := 23) (T := 5) (m := 1) (parts := #[(0, bv (UInt64.toUInt8 ((List.getD sx i 0) >>> UInt64.ofNat 32)))]) (xs := bys [UInt64.toUInt8 ((List.getD sx i 0) >>> UInt64.ofNat 32)]) (sz := 1) En7287 (by kernel_rfl) (by kernel_rfl) rfl (by decide) Hv7274 ?_
   intro ac7289 wo7290 bk7288 En7291 Hv7292
   refine f_o ?_
   refine op_append (d := some 209) (t := 23) (tx := 23) (ty := 23) (k := 0) (p := List.length (((ol ++ [UInt64.toUInt8 ((List.getD sx i 0) >>> UInt64.ofNat 56)]) ++ [UInt64.toUInt8 ((List.getD sx i 0) >>> UInt64.ofNat 48)]) ++ [UInt64.toUInt8 ((List.getD sx i 0) >>> UInt64.ofNat 40)])) (m := 1) (x := .slice (some ⟨bk7288, 0, none⟩) 1 1) (bytes := 1) En7291 (by kernel_rfl) Hv7292 rfl (bys_len _) (Reads.src (size := 1) (tx := 23) (e' := 5) (by kernel_rfl) (Hv7292.heap.reads (k := 4) rfl) rfl (fun e => by cases e) (bys_one _)) (by kernel_rfl) (z := .int .u8 0) (by kernel_rfl) rfl (by decide) (by omega) (by unfold maxLen; omega) ?_
   intro ac7297 wo7298 ao7293 cp7294 En7299 Hv7300 hnz _
   clear hnz
   rw [← bys_append] at Hv7300
   have ehz7295 : (List.length (((ol ++ [UInt64.toUInt8 ((List.getD sx i 0) >>> UInt64.ofNat 56)]) ++ [UInt64.toUInt8 ((List.getD sx i 0) >>> UInt64.ofNat 48)]) ++ [UInt64.toUInt8 ((List.getD sx i 0) >>> UInt64.ofNat 40)])) + 1 = List.length ((((ol ++ [UInt64.toUInt8 ((List.getD sx i 0) >>> UInt64.ofNat 56)]) ++ [UInt64.toUInt8 ((List.getD sx i 0) >>> UInt64.ofNat 48)]) ++ [UInt64.toUInt8 ((List.getD sx i 0) >>> UInt64.ofNat 40)]) ++ [UInt64.toUInt8 ((List.getD sx i 0) >>> UInt64.ofNat 32)]) := (by first | (simp; done) | (simp; omega) | omega)
   rw [ehz7295] at En7299
   refine d_e [0,3,4,5,6,20,21,22] [] En7299 fun ac7301 En7302 => ?_
   refine block_normal ?_
   refine then_normal ?_
   have Hv7303 := Hv7300.pk [0, 1, 2, 3] (M := [.vec ao7293 cp7294 1 (bys ((((ol ++ [UInt64.toUInt8 ((List.getD sx i 0) >>> UInt64.ofNat 56)]) ++ [UInt64.toUInt8 ((List.getD sx i 0) >>> UInt64.ofNat 48)]) ++ [UInt64.toUInt8 ((List.getD sx i 0) >>> UInt64.ofNat 40)]) ++ [UInt64.toUInt8 ((List.getD sx i 0) >>> UInt64.ofNat 32)])) 5, .box bk1 (u64s sx) 54, .vec aoq21 coq21 1 (bys bl) 5, .box bk10 (u64s K64) 71])
   refine d_r [0,3,4,5,6,20,21,22] [] En7302 fun ac7304 En7305 => ?_
   refine then_normal ?_
   refine loop_once ?_
   refine wp_seq ?_
   refine wp_seq ?_
   refine d_r [0,3,4,5,6,20,21,22,197] [] En7305 fun ac7306 En7307 => ?_
   refine then_normal ?_
   refine c_t En7307 ?_
   refine wp_skip ?_
   refine then_normal ?_
   refine wp_seq ?_
   refine wp_block ?_
   refine region_from ?_
   refine d_k [0,3,4,5,6,20,21,22,200,201] [] 2 En7307 fun ac7308 En7309 => ?_
   refine f_o ?_
   refine q_v (x := Instr.indexAt 54 (pt bk1) (ni i)) (v := .pointer (some ⟨bk1, i, none⟩)) En7309 (Go.Dbr.run_indexarr (e := 53) (sz := 1) (m := 8) (j := i) (o := i) (by kernel_rfl) (by kernel_rfl) (by omega) (by omega) (by omega) _) fun ac7310 En7311 => ?_
   refine f_o ?_
   have hb7312 : i < List.length sx := by rw [hlx]; omega
   refine m_v 1 i (uv64 (List.getD sx i 0)) En7311 Hv7303 rfl (u64s_getD hb7312) fun ac7313 En7314 => ?_
   refine d_k [0,3,4,5,6,20,21,22,200,207] [(6, g_i .u64 (Go.Dbr.u64_shr (x := List.getD sx i 0) (n := 24) rfl (by decide))), (7, g_i .u8 (Go.Dbr.u64_to_u8 (x := (List.getD sx i 0) >>> UInt64.ofNat 24) rfl))] 8 En7314 fun ac7315 En7316 => ?_
   refine f_o ?_
   refine op_lit (d := some 208) (t := 23) (T := 5) (m := 1) (parts := #[(0, bv (UInt64.toUInt8 ((List.getD sx i 0) >>> UInt64.ofNat 24)))]) (xs := bys [UInt64.toUInt8 ((List.getD sx i 0) >>> UInt64.ofNat 24)]) (sz := 1) En7316 (by kernel_rfl) (by kernel_rfl) rfl (by decide) Hv7303 ?_
   intro ac7318 wo7319 bk7317 En7320 Hv7321
   refine f_o ?_
   refine op_append (d := some 209) (t := 23) (tx := 23) (ty := 23) (k := 0) (p := List.length ((((ol ++ [UInt64.toUInt8 ((List.getD sx i 0) >>> UInt64.ofNat 56)]) ++ [UInt64.toUInt8 ((List.getD sx i 0) >>> UInt64.ofNat 48)]) ++ [UInt64.toUInt8 ((List.getD sx i 0) >>> UInt64.ofNat 40)]) ++ [UInt64.toUInt8 ((List.getD sx i 0) >>> UInt64.ofNat 32)])) (m := 1) (x := .slice (some ⟨bk7317, 0, none⟩) 1 1) (bytes := 1) En7320 (by kernel_rfl) Hv7321 rfl (bys_len _) (Reads.src (size := 1) (tx := 23) (e' := 5) (by kernel_rfl) (Hv7321.heap.reads (k := 4) rfl) rfl (fun e => by cases e) (bys_one _)) (by kernel_rfl) (z := .int .u8 0) (by kernel_rfl) rfl (by decide) (by omega) (by unfold maxLen; omega) ?_
   intro ac7326 wo7327 ao7322 cp7323 En7328 Hv7329 hnz _
   clear hnz
   rw [← bys_append] at Hv7329
   have ehz7324 : (List.length ((((ol ++ [UInt64.toUInt8 ((List.getD sx i 0) >>> UInt64.ofNat 56)]) ++ [UInt64.toUInt8 ((List.getD sx i 0) >>> UInt64.ofNat 48)]) ++ [UInt64.toUInt8 ((List.getD sx i 0) >>> UInt64.ofNat 40)]) ++ [UInt64.toUInt8 ((List.getD sx i 0) >>> UInt64.ofNat 32)])) + 1 = List.length (((((ol ++ [UInt64.toUInt8 ((List.getD sx i 0) >>> UInt64.ofNat 56)]) ++ [UInt64.toUInt8 ((List.getD sx i 0) >>> UInt64.ofNat 48)]) ++ [UInt64.toUInt8 ((List.getD sx i 0) >>> UInt64.ofNat 40)]) ++ [UInt64.toUInt8 ((List.getD sx i 0) >>> UInt64.ofNat 32)]) ++ [UInt64.toUInt8 ((List.getD sx i 0) >>> UInt64.ofNat 24)]) := (by first | (simp; done) | (simp; omega) | omega)
   rw [ehz7324] at En7328
   refine d_e [0,3,4,5,6,20,21,22] [] En7328 fun ac7330 En7331 => ?_
   refine block_normal ?_
   refine then_normal ?_
   have Hv7332 := Hv7329.pk [0, 1, 2, 3] (M := [.vec ao7322 cp7323 1 (bys (((((ol ++ [UInt64.toUInt8 ((List.getD sx i 0) >>> UInt64.ofNat 56)]) ++ [UInt64.toUInt8 ((List.getD sx i 0) >>> UInt64.ofNat 48)]) ++ [UInt64.toUInt8 ((List.getD sx i 0) >>> UInt64.ofNat 40)]) ++ [UInt64.toUInt8 ((List.getD sx i 0) >>> UInt64.ofNat 32)]) ++ [UInt64.toUInt8 ((List.getD sx i 0) >>> UInt64.ofNat 24)])) 5, .box bk1 (u64s sx) 54, .vec aoq21 coq21 1 (bys bl) 5, .box bk10 (u64s K64) 71])
   refine d_r [0,3,4,5,6,20,21,22] [] En7331 fun ac7333 En7334 => ?_
   refine then_normal ?_
   refine loop_once ?_
   refine wp_seq ?_
   refine wp_seq ?_
   refine d_r [0,3,4,5,6,20,21,22,197] [] En7334 fun ac7335 En7336 => ?_
   refine then_normal ?_
   refine c_t En7336 ?_
   refine wp_skip ?_
   refine then_normal ?_
   refine wp_seq ?_
   refine wp_block ?_
   refine region_from ?_
   refine d_k [0,3,4,5,6,20,21,22,200,201] [] 2 En7336 fun ac7337 En7338 => ?_
   refine f_o ?_
   refine q_v (x := Instr.indexAt 54 (pt bk1) (ni i)) (v := .pointer (some ⟨bk1, i, none⟩)) En7338 (Go.Dbr.run_indexarr (e := 53) (sz := 1) (m := 8) (j := i) (o := i) (by kernel_rfl) (by kernel_rfl) (by omega) (by omega) (by omega) _) fun ac7339 En7340 => ?_
   refine f_o ?_
   have hb7341 : i < List.length sx := by rw [hlx]; omega
   refine m_v 1 i (uv64 (List.getD sx i 0)) En7340 Hv7332 rfl (u64s_getD hb7341) fun ac7342 En7343 => ?_
   refine d_k [0,3,4,5,6,20,21,22,200,207] [(6, g_i .u64 (Go.Dbr.u64_shr (x := List.getD sx i 0) (n := 16) rfl (by decide))), (7, g_i .u8 (Go.Dbr.u64_to_u8 (x := (List.getD sx i 0) >>> UInt64.ofNat 16) rfl))] 8 En7343 fun ac7344 En7345 => ?_
   refine f_o ?_
   refine op_lit (d := some 208) (t := 23) (T := 5) (m := 1) (parts := #[(0, bv (UInt64.toUInt8 ((List.getD sx i 0) >>> UInt64.ofNat 16)))]) (xs := bys [UInt64.toUInt8 ((List.getD sx i 0) >>> UInt64.ofNat 16)]) (sz := 1) En7345 (by kernel_rfl) (by kernel_rfl) rfl (by decide) Hv7332 ?_
   intro ac7347 wo7348 bk7346 En7349 Hv7350
   refine f_o ?_
   refine op_append (d := some 209) (t := 23) (tx := 23) (ty := 23) (k := 0) (p := List.length (((((ol ++ [UInt64.toUInt8 ((List.getD sx i 0) >>> UInt64.ofNat 56)]) ++ [UInt64.toUInt8 ((List.getD sx i 0) >>> UInt64.ofNat 48)]) ++ [UInt64.toUInt8 ((List.getD sx i 0) >>> UInt64.ofNat 40)]) ++ [UInt64.toUInt8 ((List.getD sx i 0) >>> UInt64.ofNat 32)]) ++ [UInt64.toUInt8 ((List.getD sx i 0) >>> UInt64.ofNat 24)])) (m := 1) (x := .slice (some ⟨bk7346, 0, none⟩) 1 1) (bytes := 1) En7349 (by kernel_rfl) Hv7350 rfl (bys_len _) (Reads.src (size := 1) (tx := 23) (e' := 5) (by kernel_rfl) (Hv7350.heap.reads (k := 4) rfl) rfl (fun e => by cases e) (bys_one _)) (by kernel_rfl) (z := .int .u8 0) (by kernel_rfl) rfl (by decide) (by omega) (by unfold maxLen; omega) ?_
   intro ac7355 wo7356 ao7351 cp7352 En7357 Hv7358 hnz _
   clear hnz
   rw [← bys_append] at Hv7358
   have ehz7353 : (List.length (((((ol ++ [UInt64.toUInt8 ((List.getD sx i 0) >>> UInt64.ofNat 56)]) ++ [UInt64.toUInt8 ((List.getD sx i 0) >>> UInt64.ofNat 48)]) ++ [UInt64.toUInt8 ((List.getD sx i 0) >>> UInt64.ofNat 40)]) ++ [UInt64.toUInt8 ((List.getD sx i 0) >>> UInt64.ofNat 32)]) ++ [UInt64.toUInt8 ((List.getD sx i 0) >>> UInt64.ofNat 24)])) + 1 = List.length ((((((ol ++ [UInt64.toUInt8 ((List.getD sx i 0) >>> UInt64.ofNat 56)]) ++ [UInt64.toUInt8 ((List.getD sx i 0) >>> UInt64.ofNat 48)]) ++ [UInt64.toUInt8 ((List.getD sx i 0) >>> UInt64.ofNat 40)]) ++ [UInt64.toUInt8 ((List.getD sx i 0) >>> UInt64.ofNat 32)]) ++ [UInt64.toUInt8 ((List.getD sx i 0) >>> UInt64.ofNat 24)]) ++ [UInt64.toUInt8 ((List.getD sx i 0) >>> UInt64.ofNat 16)]) := (by first | (simp; done) | (simp; omega) | omega)
   rw [ehz7353] at En7357
   refine d_e [0,3,4,5,6,20,21,22] [] En7357 fun ac7359 En7360 => ?_
   refine block_normal ?_
   refine then_normal ?_
   have Hv7361 := Hv7358.pk [0, 1, 2, 3] (M := [.vec ao7351 cp7352 1 (bys ((((((ol ++ [UInt64.toUInt8 ((List.getD sx i 0) >>> UInt64.ofNat 56)]) ++ [UInt64.toUInt8 ((List.getD sx i 0) >>> UInt64.ofNat 48)]) ++ [UInt64.toUInt8 ((List.getD sx i 0) >>> UInt64.ofNat 40)]) ++ [UInt64.toUInt8 ((List.getD sx i 0) >>> UInt64.ofNat 32)]) ++ [UInt64.toUInt8 ((List.getD sx i 0) >>> UInt64.ofNat 24)]) ++ [UInt64.toUInt8 ((List.getD sx i 0) >>> UInt64.ofNat 16)])) 5, .box bk1 (u64s sx) 54, .vec aoq21 coq21 1 (bys bl) 5, .box bk10 (u64s K64) 71])
   refine d_r [0,3,4,5,6,20,21,22] [] En7360 fun ac7362 En7363 => ?_
   refine then_normal ?_
   refine loop_once ?_
   refine wp_seq ?_
   refine wp_seq ?_
   refine d_r [0,3,4,5,6,20,21,22,197] [] En7363 fun ac7364 En7365 => ?_
   refine then_normal ?_
   refine c_t En7365 ?_
   refine wp_skip ?_
   refine then_normal ?_
   refine wp_seq ?_
   refine wp_block ?_
   refine region_from ?_
   refine d_k [0,3,4,5,6,20,21,22,200,201] [] 2 En7365 fun ac7366 En7367 => ?_
   refine f_o ?_
   refine q_v (x := Instr.indexAt 54 (pt bk1) (ni i)) (v := .pointer (some ⟨bk1, i, none⟩)) En7367 (Go.Dbr.run_indexarr (e := 53) (sz := 1) (m := 8) (j := i) (o := i) (by kernel_rfl) (by kernel_rfl) (by omega) (by omega) (by omega) _) fun ac7368 En7369 => ?_
   refine f_o ?_
   have hb7370 : i < List.length sx := by rw [hlx]; omega
   refine m_v 1 i (uv64 (List.getD sx i 0)) En7369 Hv7361 rfl (u64s_getD hb7370) fun ac7371 En7372 => ?_
   refine d_k [0,3,4,5,6,20,21,22,200,207] [(6, g_i .u64 (Go.Dbr.u64_shr (x := List.getD sx i 0) (n := 8) rfl (by decide))), (7, g_i .u8 (Go.Dbr.u64_to_u8 (x := (List.getD sx i 0) >>> UInt64.ofNat 8) rfl))] 8 En7372 fun ac7373 En7374 => ?_
   refine f_o ?_
   refine op_lit (d := some 208) (t := 23) (T := 5) (m := 1) (parts := #[(0, bv (UInt64.toUInt8 ((List.getD sx i 0) >>> UInt64.ofNat 8)))]) (xs := bys [UInt64.toUInt8 ((List.getD sx i 0) >>> UInt64.ofNat 8)]) (sz := 1) En7374 (by kernel_rfl) (by kernel_rfl) rfl (by decide) Hv7361 ?_
   intro ac7376 wo7377 bk7375 En7378 Hv7379
   refine f_o ?_
   refine op_append (d := some 209) (t := 23) (tx := 23) (ty := 23) (k := 0) (p := List.length ((((((ol ++ [UInt64.toUInt8 ((List.getD sx i 0) >>> UInt64.ofNat 56)]) ++ [UInt64.toUInt8 ((List.getD sx i 0) >>> UInt64.ofNat 48)]) ++ [UInt64.toUInt8 ((List.getD sx i 0) >>> UInt64.ofNat 40)]) ++ [UInt64.toUInt8 ((List.getD sx i 0) >>> UInt64.ofNat 32)]) ++ [UInt64.toUInt8 ((List.getD sx i 0) >>> UInt64.ofNat 24)]) ++ [UInt64.toUInt8 ((List.getD sx i 0) >>> UInt64.ofNat 16)])) (m := 1) (x := .slice (some ⟨bk7375, 0, none⟩) 1 1) (bytes := 1) En7378 (by kernel_rfl) Hv7379 rfl (bys_len _) (Reads.src (size := 1) (tx := 23) (e' := 5) (by kernel_rfl) (Hv7379.heap.reads (k := 4) rfl) rfl (fun e => by cases e) (bys_one _)) (by kernel_rfl) (z := .int .u8 0) (by kernel_rfl) rfl (by decide) (by omega) (by unfold maxLen; omega) ?_
   intro ac7384 wo7385 ao7380 cp7381 En7386 Hv7387 hnz _
   clear hnz
   rw [← bys_append] at Hv7387
   have ehz7382 : (List.length ((((((ol ++ [UInt64.toUInt8 ((List.getD sx i 0) >>> UInt64.ofNat 56)]) ++ [UInt64.toUInt8 ((List.getD sx i 0) >>> UInt64.ofNat 48)]) ++ [UInt64.toUInt8 ((List.getD sx i 0) >>> UInt64.ofNat 40)]) ++ [UInt64.toUInt8 ((List.getD sx i 0) >>> UInt64.ofNat 32)]) ++ [UInt64.toUInt8 ((List.getD sx i 0) >>> UInt64.ofNat 24)]) ++ [UInt64.toUInt8 ((List.getD sx i 0) >>> UInt64.ofNat 16)])) + 1 = List.length (((((((ol ++ [UInt64.toUInt8 ((List.getD sx i 0) >>> UInt64.ofNat 56)]) ++ [UInt64.toUInt8 ((List.getD sx i 0) >>> UInt64.ofNat 48)]) ++ [UInt64.toUInt8 ((List.getD sx i 0) >>> UInt64.ofNat 40)]) ++ [UInt64.toUInt8 ((List.getD sx i 0) >>> UInt64.ofNat 32)]) ++ [UInt64.toUInt8 ((List.getD sx i 0) >>> UInt64.ofNat 24)]) ++ [UInt64.toUInt8 ((List.getD sx i 0) >>> UInt64.ofNat 16)]) ++ [UInt64.toUInt8 ((List.getD sx i 0) >>> UInt64.ofNat 8)]) := (by first | (simp; done) | (simp; omega) | omega)
   rw [ehz7382] at En7386
   refine d_e [0,3,4,5,6,20,21,22] [] En7386 fun ac7388 En7389 => ?_
   refine block_normal ?_
   refine then_normal ?_
   have Hv7390 := Hv7387.pk [0, 1, 2, 3] (M := [.vec ao7380 cp7381 1 (bys (((((((ol ++ [UInt64.toUInt8 ((List.getD sx i 0) >>> UInt64.ofNat 56)]) ++ [UInt64.toUInt8 ((List.getD sx i 0) >>> UInt64.ofNat 48)]) ++ [UInt64.toUInt8 ((List.getD sx i 0) >>> UInt64.ofNat 40)]) ++ [UInt64.toUInt8 ((List.getD sx i 0) >>> UInt64.ofNat 32)]) ++ [UInt64.toUInt8 ((List.getD sx i 0) >>> UInt64.ofNat 24)]) ++ [UInt64.toUInt8 ((List.getD sx i 0) >>> UInt64.ofNat 16)]) ++ [UInt64.toUInt8 ((List.getD sx i 0) >>> UInt64.ofNat 8)])) 5, .box bk1 (u64s sx) 54, .vec aoq21 coq21 1 (bys bl) 5, .box bk10 (u64s K64) 71])
   refine d_r [0,3,4,5,6,20,21,22] [] En7389 fun ac7391 En7392 => ?_
   refine then_normal ?_
   refine loop_once ?_
   refine wp_seq ?_
   refine wp_seq ?_
   refine d_r [0,3,4,5,6,20,21,22,197] [] En7392 fun ac7393 En7394 => ?_
   refine then_normal ?_
   refine c_t En7394 ?_
   refine wp_skip ?_
   refine then_normal ?_
   refine wp_seq ?_
   refine wp_block ?_
   refine region_from ?_
   refine d_k [0,3,4,5,6,20,21,22,200,201] [] 2 En7394 fun ac7395 En7396 => ?_
   refine f_o ?_
   refine q_v (x := Instr.indexAt 54 (pt bk1) (ni i)) (v := .pointer (some ⟨bk1, i, none⟩)) En7396 (Go.Dbr.run_indexarr (e := 53) (sz := 1) (m := 8) (j := i) (o := i) (by kernel_rfl) (by kernel_rfl) (by omega) (by omega) (by omega) _) fun ac7397 En7398 => ?_
   refine f_o ?_
   have hb7399 : i < List.length sx := by rw [hlx]; omega
   refine m_v 1 i (uv64 (List.getD sx i 0)) En7398 Hv7390 rfl (u64s_getD hb7399) fun ac7400 En7401 => ?_
   refine d_k [0,3,4,5,6,20,21,22,200,207] [(6, g_i .u64 (Go.Dbr.u64_shr (x := List.getD sx i 0) (n := 0) rfl (by decide))), (7, g_i .u8 (Go.Dbr.u64_to_u8 (x := (List.getD sx i 0) >>> UInt64.ofNat 0) rfl))] 8 En7401 fun ac7402 En7403 => ?_
   refine f_o ?_
   refine op_lit (d := some 208) (t := 23) (T := 5) (m := 1) (parts := #[(0, bv (UInt64.toUInt8 ((List.getD sx i 0) >>> UInt64.ofNat 0)))]) (xs := bys [UInt64.toUInt8 ((List.getD sx i 0) >>> UInt64.ofNat 0)]) (sz := 1) En7403 (by kernel_rfl) (by kernel_rfl) rfl (by decide) Hv7390 ?_
   intro ac7405 wo7406 bk7404 En7407 Hv7408
   refine f_o ?_
   refine op_append (d := some 209) (t := 23) (tx := 23) (ty := 23) (k := 0) (p := List.length (((((((ol ++ [UInt64.toUInt8 ((List.getD sx i 0) >>> UInt64.ofNat 56)]) ++ [UInt64.toUInt8 ((List.getD sx i 0) >>> UInt64.ofNat 48)]) ++ [UInt64.toUInt8 ((List.getD sx i 0) >>> UInt64.ofNat 40)]) ++ [UInt64.toUInt8 ((List.getD sx i 0) >>> UInt64.ofNat 32)]) ++ [UInt64.toUInt8 ((List.getD sx i 0) >>> UInt64.ofNat 24)]) ++ [UInt64.toUInt8 ((List.getD sx i 0) >>> UInt64.ofNat 16)]) ++ [UInt64.toUInt8 ((List.getD sx i 0) >>> UInt64.ofNat 8)])) (m := 1) (x := .slice (some ⟨bk7404, 0, none⟩) 1 1) (bytes := 1) En7407 (by kernel_rfl) Hv7408 rfl (bys_len _) (Reads.src (size := 1) (tx := 23) (e' := 5) (by kernel_rfl) (Hv7408.heap.reads (k := 4) rfl) rfl (fun e => by cases e) (bys_one _)) (by kernel_rfl) (z := .int .u8 0) (by kernel_rfl) rfl (by decide) (by omega) (by unfold maxLen; omega) ?_
   intro ac7413 wo7414 ao7409 cp7410 En7415 Hv7416 hnz _
   clear hnz
   rw [← bys_append] at Hv7416
   have ehz7411 : (List.length (((((((ol ++ [UInt64.toUInt8 ((List.getD sx i 0) >>> UInt64.ofNat 56)]) ++ [UInt64.toUInt8 ((List.getD sx i 0) >>> UInt64.ofNat 48)]) ++ [UInt64.toUInt8 ((List.getD sx i 0) >>> UInt64.ofNat 40)]) ++ [UInt64.toUInt8 ((List.getD sx i 0) >>> UInt64.ofNat 32)]) ++ [UInt64.toUInt8 ((List.getD sx i 0) >>> UInt64.ofNat 24)]) ++ [UInt64.toUInt8 ((List.getD sx i 0) >>> UInt64.ofNat 16)]) ++ [UInt64.toUInt8 ((List.getD sx i 0) >>> UInt64.ofNat 8)])) + 1 = List.length ((((((((ol ++ [UInt64.toUInt8 ((List.getD sx i 0) >>> UInt64.ofNat 56)]) ++ [UInt64.toUInt8 ((List.getD sx i 0) >>> UInt64.ofNat 48)]) ++ [UInt64.toUInt8 ((List.getD sx i 0) >>> UInt64.ofNat 40)]) ++ [UInt64.toUInt8 ((List.getD sx i 0) >>> UInt64.ofNat 32)]) ++ [UInt64.toUInt8 ((List.getD sx i 0) >>> UInt64.ofNat 24)]) ++ [UInt64.toUInt8 ((List.getD sx i 0) >>> UInt64.ofNat 16)]) ++ [UInt64.toUInt8 ((List.getD sx i 0) >>> UInt64.ofNat 8)]) ++ [UInt64.toUInt8 ((List.getD sx i 0) >>> UInt64.ofNat 0)]) := (by first | (simp; done) | (simp; omega) | omega)
   rw [ehz7411] at En7415
   refine d_e [0,3,4,5,6,20,21,22] [] En7415 fun ac7417 En7418 => ?_
   refine block_normal ?_
   refine then_normal ?_
   have Hv7419 := Hv7416.pk [0, 1, 2, 3] (M := [.vec ao7409 cp7410 1 (bys ((((((((ol ++ [UInt64.toUInt8 ((List.getD sx i 0) >>> UInt64.ofNat 56)]) ++ [UInt64.toUInt8 ((List.getD sx i 0) >>> UInt64.ofNat 48)]) ++ [UInt64.toUInt8 ((List.getD sx i 0) >>> UInt64.ofNat 40)]) ++ [UInt64.toUInt8 ((List.getD sx i 0) >>> UInt64.ofNat 32)]) ++ [UInt64.toUInt8 ((List.getD sx i 0) >>> UInt64.ofNat 24)]) ++ [UInt64.toUInt8 ((List.getD sx i 0) >>> UInt64.ofNat 16)]) ++ [UInt64.toUInt8 ((List.getD sx i 0) >>> UInt64.ofNat 8)]) ++ [UInt64.toUInt8 ((List.getD sx i 0) >>> UInt64.ofNat 0)])) 5, .box bk1 (u64s sx) 54, .vec aoq21 coq21 1 (bys bl) 5, .box bk10 (u64s K64) 71])
   refine d_r [0,3,4,5,6,20,21,22] [] En7418 fun ac7420 En7421 => ?_
   refine then_normal ?_
   refine loop_once ?_
   refine wp_seq ?_
   refine wp_seq ?_
   refine d_r [0,3,4,5,6,20,21,22,197] [] En7421 fun ac7422 En7423 => ?_
   refine then_normal ?_
   refine c_f En7423 ?_
   refine wp_exit ?_
   refine then_exit ?_
   refine then_exit ?_
   refine block_exit ?_
   refine block_normal ?_
   refine then_normal ?_
   refine d_r [0,3,4,5,6,20,21,22] [(1, g_n (w_a i 1))] En7423 fun ac7424 En7425 => ?_
   refine then_normal ?_
   refine ⟨_, ⟨i + 1, ao7409, cp7410, ((((((((ol ++ [UInt64.toUInt8 ((List.getD sx i 0) >>> UInt64.ofNat 56)]) ++ [UInt64.toUInt8 ((List.getD sx i 0) >>> UInt64.ofNat 48)]) ++ [UInt64.toUInt8 ((List.getD sx i 0) >>> UInt64.ofNat 40)]) ++ [UInt64.toUInt8 ((List.getD sx i 0) >>> UInt64.ofNat 32)]) ++ [UInt64.toUInt8 ((List.getD sx i 0) >>> UInt64.ofNat 24)]) ++ [UInt64.toUInt8 ((List.getD sx i 0) >>> UInt64.ofNat 16)]) ++ [UInt64.toUInt8 ((List.getD sx i 0) >>> UInt64.ofNat 8)]) ++ [UInt64.toUInt8 ((List.getD sx i 0) >>> UInt64.ofNat 0)]), rfl, En7425.sb, Hv7419.pk [0, 1, 2, 3], by omega, by rw [heo]; simp [ro64, be8], by simp [hol]; omega⟩, ?_⟩
   omega
  ·
   refine wp_exit ?_
   refine then_exit ?_
   refine then_exit ?_
   refine block_exit ?_
   refine then_normal ?_
   refine wp_seq ?_
   refine d_r [0,3,4,5,6,20,21] [] En7186 fun ac7426 En7427 => ?_
   refine then_normal ?_
   refine wp_ret ?_
   refine d_ret1 (t := 4) (v := .slice a7 (List.length ol) c7) En7427 (by kernel_rfl) (by kernel_rfl) ?_
   have hi8 : i = 8 := by omega
   have hoe : ol = ro64 (rfeed64 s0 (lx ++ padB 128 (List.length lx % 128) (List.length lx)) (List.length (lx ++ padB 128 (List.length lx % 128) (List.length lx)) / 128)) 8 := by rw [heo, hi8, hes, hqe, hbe]
   subst hoe
   exact ⟨_, _, rfl, Hv7183.pk [0]⟩

end Go.Proofs.YtbpihljkkkeijaaDoor
