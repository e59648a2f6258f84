/- Layer 5: the sum of the document, 32 bits: the walk. -/
import Derived.Test.YtbpihljkkkeijaaDoorS12
namespace Go.Proofs.YtbpihljkkkeijaaDoor
open Go.Dbr
set_option maxRecDepth 100000
set_option maxHeartbeats 2000000
set_option linter.unusedVariables false
set_option linter.unusedSimpArgs false

theorem sum32_ref (w : World) (ax : Option Addr) (nx cx : Nat) (lx : List UInt8) (ex : nx = List.length lx) (ix : InB w [] ax cx lx) : Calls Tryd.prog 33 #[.slice ax nx cx] w fun e w' => ∃ ao co, e = .returned (.slice ao (List.length (ro32 (rfeed32 init32 (lx ++ padB 64 (List.length lx % 64) (List.length lx)) (List.length (lx ++ padB 64 (List.length lx % 64) (List.length lx)) / 64)) 8)) co) ∧ Ev w [] w' [.vec ao co 1 (bys (ro32 (rfeed32 init32 (lx ++ padB 64 (List.length lx % 64) (List.length lx)) (List.length (lx ++ padB 64 (List.length lx % 64) (List.length lx)) / 64)) 8)) 5] := by
 subst ex
 have hs := ix.small
 have hcx := ix.cap
 refine d_0 [(0, .slice ax (List.length lx) cx)] 232 Go.Proofs.Tryd.func33 Go.Proofs.Tryd.ntmps33 (Heap.nil _) fun act0 En0 Hv0 => ?_
 refine wp_seq ?_
 refine d_r [0,2] [] En0 fun ac1 En2 => ?_
 refine then_normal ?_
 refine wp_seq ?_
 refine region_from ?_
 refine d_k [0,2,21] [] 1 En2 fun ac3 En4 => ?_
 refine f_o ?_
 refine m_z 63 (u32s (List.replicate 64 0)) En4 Hv0 fun ac6 wo7 bk5 En8 Hv9 => ?_
 refine f_o ?_
 refine m_g 0 0 64 (u32s ([1116352408, 1899447441, 3049323471, 3921009573, 961987163, 1508970993, 2453635748, 2870763221, 3624381080, 310598401, 607225278, 1426881987, 1925078388, 2162078206, 2614888103, 3248222580, 3835390401, 4022224774, 264347078, 604807628, 770255983, 1249150122, 1555081692, 1996064986, 2554220882, 2821834349, 2952996808, 3210313671, 3336571891, 3584528711, 113926993, 338241895, 666307205, 773529912, 1294757372, 1396182291, 1695183700, 1986661051, 2177026350, 2456956037, 2730485921, 2820302411, 3259730800, 3345764771, 3516065817, 3600352804, 4094571909, 275423344, 430227734, 506948616, 659060556, 883997877, 958139571, 1322822218, 1537002063, 1747873779, 1955562222, 2024104815, 2227730452, 2361852424, 2428436474, 2756734187, 3204031479, 3329325298] : List UInt32)) (u32s ([1116352408, 1899447441, 3049323471, 3921009573, 961987163, 1508970993, 2453635748, 2870763221, 3624381080, 310598401, 607225278, 1426881987, 1925078388, 2162078206, 2614888103, 3248222580, 3835390401, 4022224774, 264347078, 604807628, 770255983, 1249150122, 1555081692, 1996064986, 2554220882, 2821834349, 2952996808, 3210313671, 3336571891, 3584528711, 113926993, 338241895, 666307205, 773529912, 1294757372, 1396182291, 1695183700, 1986661051, 2177026350, 2456956037, 2730485921, 2820302411, 3259730800, 3345764771, 3516065817, 3600352804, 4094571909, 275423344, 430227734, 506948616, 659060556, 883997877, 958139571, 1322822218, 1537002063, 1747873779, 1955562222, 2024104815, 2227730452, 2361852424, 2428436474, 2756734187, 3204031479, 3329325298] : List UInt32)) [.box bk5 (u32s ([1116352408, 1899447441, 3049323471, 3921009573, 961987163, 1508970993, 2453635748, 2870763221, 3624381080, 310598401, 607225278, 1426881987, 1925078388, 2162078206, 2614888103, 3248222580, 3835390401, 4022224774, 264347078, 604807628, 770255983, 1249150122, 1555081692, 1996064986, 2554220882, 2821834349, 2952996808, 3210313671, 3336571891, 3584528711, 113926993, 338241895, 666307205, 773529912, 1294757372, 1396182291, 1695183700, 1986661051, 2177026350, 2456956037, 2730485921, 2820302411, 3259730800, 3345764771, 3516065817, 3600352804, 4094571909, 275423344, 430227734, 506948616, 659060556, 883997877, 958139571, 1322822218, 1537002063, 1747873779, 1955562222, 2024104815, 2227730452, 2361852424, 2428436474, 2756734187, 3204031479, 3329325298] : List UInt32)) 63] En8 Hv9 rfl (u32s_lenh (show List.length ([1116352408, 1899447441, 3049323471, 3921009573, 961987163, 1508970993, 2453635748, 2870763221, 3624381080, 310598401, 607225278, 1426881987, 1925078388, 2162078206, 2614888103, 3248222580, 3835390401, 4022224774, 264347078, 604807628, 770255983, 1249150122, 1555081692, 1996064986, 2554220882, 2821834349, 2952996808, 3210313671, 3336571891, 3584528711, 113926993, 338241895, 666307205, 773529912, 1294757372, 1396182291, 1695183700, 1986661051, 2177026350, 2456956037, 2730485921, 2820302411, 3259730800, 3345764771, 3516065817, 3600352804, 4094571909, 275423344, 430227734, 506948616, 659060556, 883997877, 958139571, 1322822218, 1537002063, 1747873779, 1955562222, 2024104815, 2227730452, 2361852424, 2428436474, 2756734187, 3204031479, 3329325298] : List UInt32) = 64 from rfl)) (by rw [(u32s_lenh (List.length_replicate))]; decide) (u32s_one _) (store_whole (u32s_lenh (List.length_replicate))) rfl fun ac10 wo11 En12 Hv13 => ?_
 refine f_e ?_
 replace Hv13 : Ev w [] wo11 [.box bk5 (u32s K32) 63] := Hv13
 refine then_normal ?_
 refine wp_seq ?_
 refine region_from ?_
 refine d_k [0,2,3,22] [] 1 En12 fun ac14 En15 => ?_
 refine f_o ?_
 refine m_z 56 (u32s (List.replicate 8 0)) En15 Hv13 fun ac17 wo18 bk16 En19 Hv20 => ?_
 refine f_o ?_
 refine m_g 1 0 8 (u32s ([1779033703, 3144134277, 1013904242, 2773480762, 1359893119, 2600822924, 528734635, 1541459225] : List UInt32)) (u32s ([1779033703, 3144134277, 1013904242, 2773480762, 1359893119, 2600822924, 528734635, 1541459225] : List UInt32)) [.box bk5 (u32s K32) 63, .box bk16 (u32s ([1779033703, 3144134277, 1013904242, 2773480762, 1359893119, 2600822924, 528734635, 1541459225] : List UInt32)) 56] En19 Hv20 rfl (u32s_lenh (show List.length ([1779033703, 3144134277, 1013904242, 2773480762, 1359893119, 2600822924, 528734635, 1541459225] : List UInt32) = 8 from rfl)) (by rw [(u32s_lenh (List.length_replicate))]; decide) (u32s_one _) (store_whole (u32s_lenh (List.length_replicate))) rfl fun ac21 wo22 En23 Hv24 => ?_
 refine f_e ?_
 replace Hv24 : Ev w [] wo22 [.box bk5 (u32s K32) 63, .box bk16 (u32s init32) 56] := Hv24
 refine then_normal ?_
 refine wp_seq ?_
 refine region_from ?_
 refine d_k [0,2,3,4,23] [] 1 En23 fun ac25 En26 => ?_
 refine f_o ?_
 refine c_0 En26 Hv24 (padded32_ref _ ax (List.length lx) cx lx (by first | rfl | (simp; done) | (simp; omega) | omega) ((ix.ev Hv24).pick [] (by kernel_rfl))) ?_
 rintro _ wo29 ⟨aoq27, coq27, rfl, he30⟩
 refine ⟨_, _, _, rfl, he30, rfl, fun ac32 En33 Hv34 => ?_⟩
 refine d_e [0,2,3,4] [] En33 fun ac35 En36 => ?_
 have hbm := pad32_mod lx
 have hbs := padB_len 64 (List.length lx % 64) (List.length lx) (by decide) (by decide)
 have hbl : List.length (lx ++ padB 64 (List.length lx % 64) (List.length lx)) = List.length lx + List.length (padB 64 (List.length lx % 64) (List.length lx)) := List.length_append
 generalize hbe : lx ++ padB 64 (List.length lx % 64) (List.length lx) = bl at *
 refine then_normal ?_
 refine wp_seq ?_
 refine wp_seq ?_
 refine d_r [0,2,3,4,5] [] En36 fun ac37 En38 => ?_
 refine then_normal ?_
 refine wp_block ?_
 refine loop_m (fun ms39 ac wo => ∃ (q : Nat) (sx : List UInt32), ms39 = (List.length bl - 64 * q : Nat) ∧ Env ac 232 [(0, .slice aoq27 (List.length bl) coq27), (2, .slice none 0 0), (3, pt bk5), (4, pt bk16), (5, ni (64 * q))] ∧ Ev w [] wo [.box bk16 (u32s sx) 56, .vec aoq27 coq27 1 (bys bl) 5, .box bk5 (u32s K32) 63] ∧ (64 * q ≤ List.length bl) ∧ (List.length sx = 8) ∧ (sx = rfeed32 init32 bl q)) ⟨_, 0, init32, rfl, En38.sb, Hv34.pk [2, 0, 1], by omega, rfl, rfl⟩ ?_
 rintro mm45 ac41 wo42 ⟨q, sx, rfl, En43, Hv44, hq, hlx, hes⟩
 refine wp_seq ?_
 refine wp_seq ?_
 refine d_r [0,2,3,4,5,28] [] En43 fun ac46 En47 => ?_
 refine then_normal ?_
 refine c_d (((64 * q : Nat) : Int) < ((List.length bl : Nat) : Int)) En47 (fun hc48 => ?_) (fun hc48 => ?_)
 ·
  refine wp_skip ?_
  refine then_normal ?_
  refine wp_seq ?_
  refine wp_block ?_
  refine wp_seq ?_
  refine region_from ?_
  refine f_o ?_
  refine m_z 63 (u32s (List.replicate 64 0)) En47 Hv44 fun ac50 wo51 bk49 En52 Hv53 => ?_
  refine f_e ?_
  refine then_normal ?_
  refine wp_seq ?_
  refine wp_seq ?_
  refine d_r [0,2,3,4,5,6,7] [] En52 fun ac54 En55 => ?_
  refine then_normal ?_
  refine wp_block ?_
  refine loop_m (fun ms56 ac wo => ∃ (t1 : Nat) (wa : List UInt32), ms56 = (16 - t1 : Nat) ∧ Env ac 232 [(0, .slice aoq27 (List.length bl) coq27), (2, .slice none 0 0), (3, pt bk5), (4, pt bk16), (5, ni (64 * q)), (6, pt bk49), (7, ni t1)] ∧ Ev w [] wo [.box bk49 (u32s wa) 63, .box bk16 (u32s sx) 56, .vec aoq27 coq27 1 (bys bl) 5, .box bk5 (u32s K32) 63] ∧ (t1 ≤ 16) ∧ (List.length wa = 64) ∧ (wa = rwF32 bl (64 * q) t1)) ⟨_, 0, List.replicate 64 0, rfl, En55.sb, Hv53.pk [3, 0, 1, 2], by omega, (List.length_replicate), rfl⟩ ?_
  rintro mm62 ac58 wo59 ⟨t1, wa, rfl, En60, Hv61, hiwa, hlwa, hewa⟩
  refine wp_seq ?_
  refine wp_seq ?_
  refine d_r [0,2,3,4,5,6,7,32] [] En60 fun ac63 En64 => ?_
  refine then_normal ?_
  refine c_d (((t1 : Nat) : Int) < (16 : Int)) En64 (fun hc65 => ?_) (fun hc65 => ?_)
  ·
   refine wp_skip ?_
   refine then_normal ?_
   refine wp_seq ?_
   refine wp_block ?_
   refine wp_seq ?_
   refine d_r [0,2,3,4,5,6,7,8] [(2, g_n (w_m 4 t1)), (3, g_n (w_a (64 * q) (4 * t1)))] En64 fun ac66 En67 => ?_
   refine then_normal ?_
   refine r_c (fun ac wo => Env ac 232 [(0, .slice aoq27 (List.length bl) coq27), (2, .slice none 0 0), (3, pt bk5), (4, pt bk16), (5, ni (64 * q)), (6, pt bk49), (7, ni t1)] ∧ Ev w [] wo [.box bk49 (u32s (List.set wa t1 (((((UInt8.toUInt32 (List.getD bl ((64 * q) + (4 * t1)) 0)) <<< UInt32.ofNat 24) ||| ((UInt8.toUInt32 (List.getD bl (((64 * q) + (4 * t1)) + 1) 0)) <<< UInt32.ofNat 16)) ||| ((UInt8.toUInt32 (List.getD bl (((64 * q) + (4 * t1)) + 2) 0)) <<< UInt32.ofNat 8)) ||| (UInt8.toUInt32 (List.getD bl (((64 * q) + (4 * t1)) + 3) 0))))) 63, .box bk16 (u32s sx) 56, .vec aoq27 coq27 1 (bys bl) 5, .box bk5 (u32s K32) 63]) ?_ ?_
   ·
    refine h_s (fun wv => Ev w [] wv [.vec aoq27 coq27 1 (bys bl) 5]) [] 32 ?_
    have wo68 := Hv61.trans (Ev.drew Hv61.heap)
    have hb468 : (64 * q) + (4 * t1) < List.length bl := (by omega)
    obtain ⟨adr466, had467⟩ := some_of (bys_vnz wo68.heap (k := 2) rfl) hb468
    refine q_s [0,1,2] [] 29 En67 (wo68.pk [2]) fun ac469 En470 => ?_
    refine q_f 3 (s := Instr.indexAt 23 (.slice aoq27 (List.length bl) coq27) (ni ((64 * q) + (4 * t1)))) (v := .pointer (some (Addr.add adr466 ((64 * q) + (4 * t1))))) En470 (fun _ => Go.Dbr.run_indexsl (e := 5) (sz := 1) (j := (64 * q) + (4 * t1)) (jo := (64 * q) + (4 * t1)) had467 (by kernel_rfl) (by kernel_rfl) (by omega) hb468 (Nat.mul_one _) _) (fun _ => wo68.pk [2]) fun ac471 En472 => ?_
    have hb473 : (64 * q) + (4 * t1) < List.length bl := by omega
    refine q_r 4 (s := Instr.loadAt 5 (.pointer (some (Addr.add adr466 ((64 * q) + (4 * t1)))))) (v := bv (List.getD bl ((64 * q) + (4 * t1)) 0)) En472 (fun w hS => run_loadel (ad := adr466) (o := (64 * q) + (4 * t1)) rfl (hS.heap.reads (k := 0) rfl) had467 (bys_getD hb473) (by kernel_rfl)) (wo68.pk [2]) fun ac474 En475 => ?_
    have hb478 : ((64 * q) + (4 * t1)) + 1 < List.length bl := (by omega)
    obtain ⟨adr476, had477⟩ := some_of (bys_vnz wo68.heap (k := 2) rfl) hb478
    refine q_s [5,6,7,8,9] [(5, g_i .u32 (Go.Dbr.u8_to_u32 (x := List.getD bl ((64 * q) + (4 * t1)) 0) rfl)), (6, g_i .u32 (Go.Dbr.u32_shl (x := UInt8.toUInt32 (List.getD bl ((64 * q) + (4 * t1)) 0)) (n := 24) rfl (by decide))), (9, g_n (w_a ((64 * q) + (4 * t1)) 1))] 22 En475 (wo68.pk [2]) fun ac479 En480 => ?_
    refine q_f 10 (s := Instr.indexAt 23 (.slice aoq27 (List.length bl) coq27) (ni (((64 * q) + (4 * t1)) + 1))) (v := .pointer (some (Addr.add adr476 (((64 * q) + (4 * t1)) + 1)))) En480 (fun _ => Go.Dbr.run_indexsl (e := 5) (sz := 1) (j := ((64 * q) + (4 * t1)) + 1) (jo := ((64 * q) + (4 * t1)) + 1) had477 (by kernel_rfl) (by kernel_rfl) (by omega) hb478 (Nat.mul_one _) _) (fun _ => wo68.pk [2]) fun ac481 En482 => ?_
    have hb483 : ((64 * q) + (4 * t1)) + 1 < List.length bl := by omega
    refine q_r 11 (s := Instr.loadAt 5 (.pointer (some (Addr.add adr476 (((64 * q) + (4 * t1)) + 1))))) (v := bv (List.getD bl (((64 * q) + (4 * t1)) + 1) 0)) En482 (fun w hS => run_loadel (ad := adr476) (o := ((64 * q) + (4 * t1)) + 1) rfl (hS.heap.reads (k := 0) rfl) had477 (bys_getD hb483) (by kernel_rfl)) (wo68.pk [2]) fun ac484 En485 => ?_
    have hb488 : ((64 * q) + (4 * t1)) + 2 < List.length bl := (by omega)
    obtain ⟨adr486, had487⟩ := some_of (bys_vnz wo68.heap (k := 2) rfl) hb488
    refine q_s [12,13,14,15,16,17] [(12, g_i .u32 (Go.Dbr.u8_to_u32 (x := List.getD bl (((64 * q) + (4 * t1)) + 1) 0) rfl)), (13, g_i .u32 (Go.Dbr.u32_shl (x := UInt8.toUInt32 (List.getD bl (((64 * q) + (4 * t1)) + 1) 0)) (n := 16) rfl (by decide))), (14, g_i .u32 (Go.Dbr.u32_or (x := (UInt8.toUInt32 (List.getD bl ((64 * q) + (4 * t1)) 0)) <<< UInt32.ofNat 24) (y := (UInt8.toUInt32 (List.getD bl (((64 * q) + (4 * t1)) + 1) 0)) <<< UInt32.ofNat 16) rfl rfl)), (17, g_n (w_a ((64 * q) + (4 * t1)) 2))] 14 En485 (wo68.pk [2]) fun ac489 En490 => ?_
    refine q_f 18 (s := Instr.indexAt 23 (.slice aoq27 (List.length bl) coq27) (ni (((64 * q) + (4 * t1)) + 2))) (v := .pointer (some (Addr.add adr486 (((64 * q) + (4 * t1)) + 2)))) En490 (fun _ => Go.Dbr.run_indexsl (e := 5) (sz := 1) (j := ((64 * q) + (4 * t1)) + 2) (jo := ((64 * q) + (4 * t1)) + 2) had487 (by kernel_rfl) (by kernel_rfl) (by omega) hb488 (Nat.mul_one _) _) (fun _ => wo68.pk [2]) fun ac491 En492 => ?_
    have hb493 : ((64 * q) + (4 * t1)) + 2 < List.length bl := by omega
    refine q_r 19 (s := Instr.loadAt 5 (.pointer (some (Addr.add adr486 (((64 * q) + (4 * t1)) + 2))))) (v := bv (List.getD bl (((64 * q) + (4 * t1)) + 2) 0)) En492 (fun w hS => run_loadel (ad := adr486) (o := ((64 * q) + (4 * t1)) + 2) rfl (hS.heap.reads (k := 0) rfl) had487 (bys_getD hb493) (by kernel_rfl)) (wo68.pk [2]) fun ac494 En495 => ?_
    have hb498 : ((64 * q) + (4 * t1)) + 3 < List.length bl := (by omega)
    obtain ⟨adr496, had497⟩ := some_of (bys_vnz wo68.heap (k := 2) rfl) hb498
    refine q_s [20,21,22,23,24,25] [(20, g_i .u32 (Go.Dbr.u8_to_u32 (x := List.getD bl (((64 * q) + (4 * t1)) + 2) 0) rfl)), (21, g_i .u32 (Go.Dbr.u32_shl (x := UInt8.toUInt32 (List.getD bl (((64 * q) + (4 * t1)) + 2) 0)) (n := 8) rfl (by decide))), (22, g_i .u32 (Go.Dbr.u32_or (x := ((UInt8.toUInt32 (List.getD bl ((64 * q) + (4 * t1)) 0)) <<< UInt32.ofNat 24) ||| ((UInt8.toUInt32 (List.getD bl (((64 * q) + (4 * t1)) + 1) 0)) <<< UInt32.ofNat 16)) (y := (UInt8.toUInt32 (List.getD bl (((64 * q) + (4 * t1)) + 2) 0)) <<< UInt32.ofNat 8) rfl rfl)), (25, g_n (w_a ((64 * q) + (4 * t1)) 3))] 6 En495 (wo68.pk [2]) fun ac499 En500 => ?_
    refine q_f 26 (s := Instr.indexAt 23 (.slice aoq27 (List.length bl) coq27) (ni (((64 * q) + (4 * t1)) + 3))) (v := .pointer (some (Addr.add adr496 (((64 * q) + (4 * t1)) + 3)))) En500 (fun _ => Go.Dbr.run_indexsl (e := 5) (sz := 1) (j := ((64 * q) + (4 * t1)) + 3) (jo := ((64 * q) + (4 * t1)) + 3) had497 (by kernel_rfl) (by kernel_rfl) (by omega) hb498 (Nat.mul_one _) _) (fun _ => wo68.pk [2]) fun ac501 En502 => ?_
    have hb503 : ((64 * q) + (4 * t1)) + 3 < List.length bl := by omega
    refine q_r 27 (s := Instr.loadAt 5 (.pointer (some (Addr.add adr496 (((64 * q) + (4 * t1)) + 3))))) (v := bv (List.getD bl (((64 * q) + (4 * t1)) + 3) 0)) En502 (fun w hS => run_loadel (ad := adr496) (o := ((64 * q) + (4 * t1)) + 3) rfl (hS.heap.reads (k := 0) rfl) had497 (bys_getD hb503) (by kernel_rfl)) (wo68.pk [2]) fun ac504 En505 => ?_
    refine q_s [28,29] [(28, g_i .u32 (Go.Dbr.u8_to_u32 (x := List.getD bl (((64 * q) + (4 * t1)) + 3) 0) rfl)), (29, g_i .u32 (Go.Dbr.u32_or (x := (((UInt8.toUInt32 (List.getD bl ((64 * q) + (4 * t1)) 0)) <<< UInt32.ofNat 24) ||| ((UInt8.toUInt32 (List.getD bl (((64 * q) + (4 * t1)) + 1) 0)) <<< UInt32.ofNat 16)) ||| ((UInt8.toUInt32 (List.getD bl (((64 * q) + (4 * t1)) + 2) 0)) <<< UInt32.ofNat 8)) (y := UInt8.toUInt32 (List.getD bl (((64 * q) + (4 * t1)) + 3) 0)) rfl rfl))] 2 En505 (wo68.pk [2]) fun ac506 En507 => ?_
    refine q_f 30 (s := Instr.indexAt 63 (pt bk49) (ni t1)) (v := .pointer (some ⟨bk49, t1, none⟩)) En507 (fun _ => Go.Dbr.run_indexarr (e := 55) (sz := 1) (m := 64) (j := t1) (o := t1) (by kernel_rfl) (by kernel_rfl) (by omega) (by omega) (by omega) _) (fun _ => wo68.pk [2]) fun ac508 En509 => ?_
    refine q_t 31 ?_
    have hb510 : t1 < List.length wa := by rw [hlwa]; omega
    refine m_t 0 t1 (uv32 (((((UInt8.toUInt32 (List.getD bl ((64 * q) + (4 * t1)) 0)) <<< UInt32.ofNat 24) ||| ((UInt8.toUInt32 (List.getD bl (((64 * q) + (4 * t1)) + 1) 0)) <<< UInt32.ofNat 16)) ||| ((UInt8.toUInt32 (List.getD bl (((64 * q) + (4 * t1)) + 2) 0)) <<< UInt32.ofNat 8)) ||| (UInt8.toUInt32 (List.getD bl (((64 * q) + (4 * t1)) + 3) 0)))) [.box bk49 (u32s (List.set wa t1 (((((UInt8.toUInt32 (List.getD bl ((64 * q) + (4 * t1)) 0)) <<< UInt32.ofNat 24) ||| ((UInt8.toUInt32 (List.getD bl (((64 * q) + (4 * t1)) + 1) 0)) <<< UInt32.ofNat 16)) ||| ((UInt8.toUInt32 (List.getD bl (((64 * q) + (4 * t1)) + 2) 0)) <<< UInt32.ofNat 8)) ||| (UInt8.toUInt32 (List.getD bl (((64 * q) + (4 * t1)) + 3) 0))))) 63, .box bk16 (u32s sx) 56, .vec aoq27 coq27 1 (bys bl) 5, .box bk5 (u32s K32) 63] En509 wo68 rfl (u32s_getD hb510) (u32s_set _ _ _) rfl fun ac511 wo512 En513 Hv514 => ?_
    refine ⟨fun _ => Hv514.pk [2], ?_⟩
    exact h_e ⟨En513.sb, Hv514.pk [0, 1, 2, 3]⟩
   rintro ac515 wo516 ⟨En517, Hv518⟩
   refine block_normal ?_
   refine then_normal ?_
   refine d_r [0,2,3,4,5,6,7] [(1, g_n (w_a t1 1))] En517 fun ac519 En520 => ?_
   refine then_normal ?_
   refine ⟨_, ⟨t1 + 1, (List.set wa t1 (((((UInt8.toUInt32 (List.getD bl ((64 * q) + (4 * t1)) 0)) <<< UInt32.ofNat 24) ||| ((UInt8.toUInt32 (List.getD bl (((64 * q) + (4 * t1)) + 1) 0)) <<< UInt32.ofNat 16)) ||| ((UInt8.toUInt32 (List.getD bl (((64 * q) + (4 * t1)) + 2) 0)) <<< UInt32.ofNat 8)) ||| (UInt8.toUInt32 (List.getD bl (((64 * q) + (4 * t1)) + 3) 0)))), rfl, En520.sb, Hv518.pk [0, 1, 2, 3], by omega, (List.length_set.trans hlwa), by first | (rw [hewa]; rfl) | (rw [hewa, hc2]; rfl) | rfl⟩, ?_⟩
   omega
  ·
   refine wp_exit ?_
   refine then_exit ?_
   refine then_exit ?_
   refine block_exit ?_
   refine then_normal ?_
   refine wp_seq ?_
   refine wp_seq ?_
   have hnwa : t1 = 16 := by omega
   have hfwa : wa = rwF32 bl (64 * q) 16 := by rw [hewa, hnwa] <;> rfl
   rw [show wa = (rwF32 bl (64 * q) 16) from hfwa] at Hv61
   refine d_r [0,2,3,4,5,6,7,9] [] En64 fun ac521 En522 => ?_
   refine then_normal ?_
   refine wp_block ?_
   refine loop_m (fun ms523 ac wo => ∃ (t2 : Nat) (wb : List UInt32), ms523 = (48 - t2 : Nat) ∧ Env ac 232 [(0, .slice aoq27 (List.length bl) coq27), (2, .slice none 0 0), (3, pt bk5), (4, pt bk16), (5, ni (64 * q)), (6, pt bk49), (7, ni t1), (9, ni (16 + t2))] ∧ Ev w [] wo [.box bk49 (u32s wb) 63, .box bk16 (u32s sx) 56, .vec aoq27 coq27 1 (bys bl) 5, .box bk5 (u32s K32) 63] ∧ (t2 ≤ 48) ∧ (List.length wb = 64) ∧ (wb = rsF32 (rwF32 bl (64 * q) 16) t2)) ⟨_, 0, rwF32 bl (64 * q) 16, rfl, En522.sb, Hv61.pk [0, 1, 2, 3], by omega, (rwF32_len _ _ _), rfl⟩ ?_
   rintro mm529 ac525 wo526 ⟨t2, wb, rfl, En527, Hv528, hiwb, hlwb, hewb⟩
   refine wp_seq ?_
   refine wp_seq ?_
   refine d_r [0,2,3,4,5,6,7,9,71] [] En527 fun ac530 En531 => ?_
   refine then_normal ?_
   refine c_d (((16 + t2 : Nat) : Int) < (64 : Int)) En531 (fun hc532 => ?_) (fun hc532 => ?_)
   ·
    refine wp_skip ?_
    refine then_normal ?_
    refine wp_seq ?_
    refine wp_block ?_
    refine wp_seq ?_
    refine region_from ?_
    refine d_k [0,2,3,4,5,6,7,9,75] [(1, g_n (w_r (e := ((16 + t2 : Nat) : Int) - (15 : Int)) (x := ((1 + t2 : Nat) : Int)) (by omega)))] 2 En531 fun ac533 En534 => ?_
    refine f_o ?_
    refine q_v (x := Instr.indexAt 63 (pt bk49) (ni (1 + t2))) (v := .pointer (some ⟨bk49, 1 + t2, none⟩)) En534 (Go.Dbr.run_indexarr (e := 55) (sz := 1) (m := 64) (j := 1 + t2) (o := 1 + t2) (by kernel_rfl) (by kernel_rfl) (by omega) (by omega) (by omega) _) fun ac535 En536 => ?_
    refine f_o ?_
    have hb537 : 1 + t2 < List.length wb := by rw [hlwb]; omega
    refine m_v 0 (1 + t2) (uv32 (List.getD wb (1 + t2) 0)) En536 Hv528 rfl (u32s_getD hb537) fun ac538 En539 => ?_
    refine d_e [0,2,3,4,5,6,7,9,10] [] En539 fun ac540 En541 => ?_
    refine then_normal ?_
    refine wp_seq ?_
    refine region_from ?_
    refine d_k [0,2,3,4,5,6,7,9,10,79] [(1, g_n (w_r (e := ((16 + t2 : Nat) : Int) - (2 : Int)) (x := ((14 + t2 : Nat) : Int)) (by omega)))] 2 En541 fun ac542 En543 => ?_
    refine f_o ?_
    refine q_v (x := Instr.indexAt 63 (pt bk49) (ni (14 + t2))) (v := .pointer (some ⟨bk49, 14 + t2, none⟩)) En543 (Go.Dbr.run_indexarr (e := 55) (sz := 1) (m := 64) (j := 14 + t2) (o := 14 + t2) (by kernel_rfl) (by kernel_rfl) (by omega) (by omega) (by omega) _) fun ac544 En545 => ?_
    refine f_o ?_
    have hb546 : 14 + t2 < List.length wb := by rw [hlwb]; omega
    refine m_v 0 (14 + t2) (uv32 (List.getD wb (14 + t2) 0)) En545 Hv528 rfl (u32s_getD hb546) fun ac547 En548 => ?_
    refine d_e [0,2,3,4,5,6,7,9,10,11] [] En548 fun ac549 En550 => ?_
    refine then_normal ?_
    refine r_c (fun ac wo => Env ac 232 [(0, .slice aoq27 (List.length bl) coq27), (2, .slice none 0 0), (3, pt bk5), (4, pt bk16), (5, ni (64 * q)), (6, pt bk49), (7, ni t1), (9, ni (16 + t2))] ∧ Ev w [] wo [.box bk49 (u32s (List.set wb (16 + t2) ((((((rotr32 (List.getD wb (14 + t2) 0) 17) ^^^ (rotr32 (List.getD wb (14 + t2) 0) 19)) ^^^ ((List.getD wb (14 + t2) 0) >>> UInt32.ofNat 10)) + (List.getD wb (9 + t2) 0)) + (((rotr32 (List.getD wb (1 + t2) 0) 7) ^^^ (rotr32 (List.getD wb (1 + t2) 0) 18)) ^^^ ((List.getD wb (1 + t2) 0) >>> UInt32.ofNat 3))) + (List.getD wb t2 0)))) 63, .box bk16 (u32s sx) 56, .vec aoq27 coq27 1 (bys bl) 5, .box bk5 (u32s K32) 63]) ?_ ?_
    ·
     refine h_s (fun wv => Ev w [] wv [.box bk49 (u32s wb) 63]) [29] 30 ?_
     have wo551 := Hv528.trans (Ev.drew Hv528.heap)
     refine q_s [0,1,3,6,7,9,10] [(7, g_i .u32 (Go.Dbr.u32_shr (x := List.getD wb (14 + t2) 0) (n := 10) rfl (by decide))), (10, g_n (w_r (e := ((16 + t2 : Nat) : Int) - (7 : Int)) (x := ((9 + t2 : Nat) : Int)) (by omega)))] 23 En550 (wo551.pk [0]) fun ac1000 En1001 => ?_
     refine q_f 11 (s := Instr.indexAt 63 (pt bk49) (ni (9 + t2))) (v := .pointer (some ⟨bk49, 9 + t2, none⟩)) En1001 (fun _ => Go.Dbr.run_indexarr (e := 55) (sz := 1) (m := 64) (j := 9 + t2) (o := 9 + t2) (by kernel_rfl) (by kernel_rfl) (by omega) (by omega) (by omega) _) (fun _ => wo551.pk [0]) fun ac1002 En1003 => ?_
     have hb1004 : 9 + t2 < List.length wb := by rw [hlwb]; omega
     refine q_r 12 (s := Instr.loadAt 55 (.pointer (some ⟨bk49, 9 + t2, none⟩))) (v := uv32 (List.getD wb (9 + t2) 0)) En1003 (fun w hS => run_load1 (by kernel_rfl) (hS.heap.cell (k := 0) rfl (u32s_getD hb1004))) (wo551.pk [0]) fun ac1005 En1006 => ?_
     refine q_s [14,16,19,20,23,24] [(20, g_i .u32 (Go.Dbr.u32_shr (x := List.getD wb (1 + t2) 0) (n := 3) rfl (by decide))), (24, g_n (w_r (e := ((16 + t2 : Nat) : Int) - (16 : Int)) (x := ((t2 : Nat) : Int)) (by omega)))] 15 En1006 (wo551.pk [0]) fun ac1007 En1008 => ?_
     refine q_f 25 (s := Instr.indexAt 63 (pt bk49) (ni t2)) (v := .pointer (some ⟨bk49, t2, none⟩)) En1008 (fun _ => Go.Dbr.run_indexarr (e := 55) (sz := 1) (m := 64) (j := t2) (o := t2) (by kernel_rfl) (by kernel_rfl) (by omega) (by omega) (by omega) _) (fun _ => wo551.pk [0]) fun ac1009 En1010 => ?_
     have hb1011 : t2 < List.length wb := by rw [hlwb]; omega
     refine q_r 26 (s := Instr.loadAt 55 (.pointer (some ⟨bk49, t2, none⟩))) (v := uv32 (List.getD wb t2 0)) En1010 (fun w hS => run_load1 (by kernel_rfl) (hS.heap.cell (k := 0) rfl (u32s_getD hb1011))) (wo551.pk [0]) fun ac1012 En1013 => ?_
     refine q_t 2 ?_
     refine c_p En1013 wo551 (turn32_ref _ (List.getD wb (14 + t2) 0) 17 (by decide) (by decide)) fun ac1018 wo1015 En1019 Hv1020 => ?_
     refine ⟨fun _ => Hv1020.pk [0], ?_⟩
     refine q_t 4 ?_
     refine c_p En1019 Hv1020 (turn32_ref _ (List.getD wb (14 + t2) 0) 19 (by decide) (by decide)) fun ac1025 wo1022 En1026 Hv1027 => ?_
     refine ⟨fun _ => Hv1027.pk [0], ?_⟩
     refine q_s [5,8,13] [(5, g_i .u32 (Go.Dbr.u32_xor (x := rotr32 (List.getD wb (14 + t2) 0) 17) (y := rotr32 (List.getD wb (14 + t2) 0) 19) rfl rfl)), (8, g_i .u32 (Go.Dbr.u32_xor (x := (rotr32 (List.getD wb (14 + t2) 0) 17) ^^^ (rotr32 (List.getD wb (14 + t2) 0) 19)) (y := (List.getD wb (14 + t2) 0) >>> UInt32.ofNat 10) rfl rfl)), (13, g_i .u32 (Go.Dbr.u32_add (x := ((rotr32 (List.getD wb (14 + t2) 0) 17) ^^^ (rotr32 (List.getD wb (14 + t2) 0) 19)) ^^^ ((List.getD wb (14 + t2) 0) >>> UInt32.ofNat 10)) (y := List.getD wb (9 + t2) 0) rfl rfl))] 8 En1026 (Hv1027.pk [0]) fun ac1028 En1029 => ?_
     refine q_t 15 ?_
     refine c_p En1029 Hv1027 (turn32_ref _ (List.getD wb (1 + t2) 0) 7 (by decide) (by decide)) fun ac1034 wo1031 En1035 Hv1036 => ?_
     refine ⟨fun _ => Hv1036.pk [0], ?_⟩
     refine q_t 17 ?_
     refine c_p En1035 Hv1036 (turn32_ref _ (List.getD wb (1 + t2) 0) 18 (by decide) (by decide)) fun ac1041 wo1038 En1042 Hv1043 => ?_
     refine ⟨fun _ => Hv1043.pk [0], ?_⟩
     refine q_s [18,21,22,27] [(18, g_i .u32 (Go.Dbr.u32_xor (x := rotr32 (List.getD wb (1 + t2) 0) 7) (y := rotr32 (List.getD wb (1 + t2) 0) 18) rfl rfl)), (21, g_i .u32 (Go.Dbr.u32_xor (x := (rotr32 (List.getD wb (1 + t2) 0) 7) ^^^ (rotr32 (List.getD wb (1 + t2) 0) 18)) (y := (List.getD wb (1 + t2) 0) >>> UInt32.ofNat 3) rfl rfl)), (22, g_i .u32 (Go.Dbr.u32_add (x := (((rotr32 (List.getD wb (14 + t2) 0) 17) ^^^ (rotr32 (List.getD wb (14 + t2) 0) 19)) ^^^ ((List.getD wb (14 + t2) 0) >>> UInt32.ofNat 10)) + (List.getD wb (9 + t2) 0)) (y := ((rotr32 (List.getD wb (1 + t2) 0) 7) ^^^ (rotr32 (List.getD wb (1 + t2) 0) 18)) ^^^ ((List.getD wb (1 + t2) 0) >>> UInt32.ofNat 3)) rfl rfl)), (27, g_i .u32 (Go.Dbr.u32_add (x := ((((rotr32 (List.getD wb (14 + t2) 0) 17) ^^^ (rotr32 (List.getD wb (14 + t2) 0) 19)) ^^^ ((List.getD wb (14 + t2) 0) >>> UInt32.ofNat 10)) + (List.getD wb (9 + t2) 0)) + (((rotr32 (List.getD wb (1 + t2) 0) 7) ^^^ (rotr32 (List.getD wb (1 + t2) 0) 18)) ^^^ ((List.getD wb (1 + t2) 0) >>> UInt32.ofNat 3))) (y := List.getD wb t2 0) rfl rfl))] 2 En1042 (Hv1043.pk [0]) fun ac1044 En1045 => ?_
     refine q_f 28 (s := Instr.indexAt 63 (pt bk49) (ni (16 + t2))) (v := .pointer (some ⟨bk49, 16 + t2, none⟩)) En1045 (fun _ => Go.Dbr.run_indexarr (e := 55) (sz := 1) (m := 64) (j := 16 + t2) (o := 16 + t2) (by kernel_rfl) (by kernel_rfl) (by omega) (by omega) (by omega) _) (fun _ => Hv1043.pk [0]) fun ac1046 En1047 => ?_
     refine q_t 29 ?_
     have hb1048 : 16 + t2 < List.length wb := by rw [hlwb]; omega
     refine m_t 0 (16 + t2) (uv32 ((((((rotr32 (List.getD wb (14 + t2) 0) 17) ^^^ (rotr32 (List.getD wb (14 + t2) 0) 19)) ^^^ ((List.getD wb (14 + t2) 0) >>> UInt32.ofNat 10)) + (List.getD wb (9 + t2) 0)) + (((rotr32 (List.getD wb (1 + t2) 0) 7) ^^^ (rotr32 (List.getD wb (1 + t2) 0) 18)) ^^^ ((List.getD wb (1 + t2) 0) >>> UInt32.ofNat 3))) + (List.getD wb t2 0))) [.box bk49 (u32s (List.set wb (16 + t2) ((((((rotr32 (List.getD wb (14 + t2) 0) 17) ^^^ (rotr32 (List.getD wb (14 + t2) 0) 19)) ^^^ ((List.getD wb (14 + t2) 0) >>> UInt32.ofNat 10)) + (List.getD wb (9 + t2) 0)) + (((rotr32 (List.getD wb (1 + t2) 0) 7) ^^^ (rotr32 (List.getD wb (1 + t2) 0) 18)) ^^^ ((List.getD wb (1 + t2) 0) >>> UInt32.ofNat 3))) + (List.getD wb t2 0)))) 63, .box bk16 (u32s sx) 56, .vec aoq27 coq27 1 (bys bl) 5, .box bk5 (u32s K32) 63] En1047 Hv1043 rfl (u32s_getD hb1048) (u32s_set _ _ _) rfl fun ac1049 wo1050 En1051 Hv1052 => ?_
     refine ⟨q_y, ?_⟩
     exact h_e ⟨En1051.sb, Hv1052.pk [0, 1, 2, 3]⟩
    rintro ac1053 wo1054 ⟨En1055, Hv1056⟩
    refine block_normal ?_
    refine then_normal ?_
    refine d_r [0,2,3,4,5,6,7,9] [(1, g_n (w_a (16 + t2) 1))] En1055 fun ac1057 En1058 => ?_
    refine then_normal ?_
    refine ⟨_, ⟨t2 + 1, (List.set wb (16 + t2) ((((((rotr32 (List.getD wb (14 + t2) 0) 17) ^^^ (rotr32 (List.getD wb (14 + t2) 0) 19)) ^^^ ((List.getD wb (14 + t2) 0) >>> UInt32.ofNat 10)) + (List.getD wb (9 + t2) 0)) + (((rotr32 (List.getD wb (1 + t2) 0) 7) ^^^ (rotr32 (List.getD wb (1 + t2) 0) 18)) ^^^ ((List.getD wb (1 + t2) 0) >>> UInt32.ofNat 3))) + (List.getD wb t2 0))), rfl, En1058.sb, Hv1056.pk [0, 1, 2, 3], by omega, (List.length_set.trans hlwb), by first | (rw [hewb]; rfl) | (rw [hewb, hc2]; rfl) | rfl⟩, ?_⟩
    omega
   ·
    refine wp_exit ?_
    refine then_exit ?_
    refine then_exit ?_
    refine block_exit ?_
    refine then_normal ?_
    refine wp_seq ?_
    have hnwb : t2 = 48 := by omega
    have hfwb : wb = rsF32 (rwF32 bl (64 * q) 16) 48 := by rw [hewb, hnwb] <;> rfl
    rw [show wb = (rsF32 (rwF32 bl (64 * q) 16) 48) from hfwb] at Hv528
    refine region_from ?_
    refine f_o ?_
    refine m_a 1 0 8 (u32s sx) En531 Hv528 rfl (load_whole (u32s_lenh hlx)) (u32s_lenh hlx) fun ac1059 En1060 => ?_
    refine f_o ?_
    refine m_z 56 (u32s (List.replicate 8 0)) En1060 Hv528 fun ac1062 wo1063 bk1061 En1064 Hv1065 => ?_
    refine f_o ?_
    refine m_g 4 0 8 (u32s sx) (u32s sx) [.box bk49 (u32s (rsF32 (rwF32 bl (64 * q) 16) 48)) 63, .box bk16 (u32s sx) 56, .vec aoq27 coq27 1 (bys bl) 5, .box bk5 (u32s K32) 63, .box bk1061 (u32s sx) 56] En1064 Hv1065 rfl (u32s_lenh hlx) (by rw [(u32s_lenh (List.length_replicate))]; decide) (u32s_one _) (store_whole (u32s_lenh (List.length_replicate))) rfl fun ac1066 wo1067 En1068 Hv1069 => ?_
    refine f_e ?_
    refine then_normal ?_
    refine wp_seq ?_
    refine wp_seq ?_
    refine d_r [0,2,3,4,5,6,7,9,12,13] [] En1068 fun ac1070 En1071 => ?_
    refine then_normal ?_
    refine wp_block ?_
    refine loop_m (fun ms1072 ac wo => ∃ (t3 : Nat) (va : List UInt32), ms1072 = (64 - t3 : Nat) ∧ Env ac 232 [(0, .slice aoq27 (List.length bl) coq27), (2, .slice none 0 0), (3, pt bk5), (4, pt bk16), (5, ni (64 * q)), (6, pt bk49), (7, ni t1), (9, ni (16 + t2)), (12, pt bk1061), (13, ni t3)] ∧ Ev w [] wo [.box bk1061 (u32s va) 56, .box bk49 (u32s (rsF32 (rwF32 bl (64 * q) 16) 48)) 63, .box bk16 (u32s sx) 56, .vec aoq27 coq27 1 (bys bl) 5, .box bk5 (u32s K32) 63] ∧ (t3 ≤ 64) ∧ (List.length va = 8) ∧ (va = rr32 (rsF32 (rwF32 bl (64 * q) 16) 48) sx t3)) ⟨_, 0, sx, rfl, En1071.sb, Hv1069.pk [4, 0, 1, 2, 3], by omega, hlx, rfl⟩ ?_
    rintro mm1078 ac1074 wo1075 ⟨t3, va, rfl, En1076, Hv1077, hiva, hlva, heva⟩
    refine wp_seq ?_
    refine wp_seq ?_
    refine d_r [0,2,3,4,5,6,7,9,12,13,113] [] En1076 fun ac1079 En1080 => ?_
    refine then_normal ?_
    refine c_d (((t3 : Nat) : Int) < (64 : Int)) En1080 (fun hc1081 => ?_) (fun hc1081 => ?_)
    ·
     refine wp_skip ?_
     refine then_normal ?_
     refine wp_seq ?_
     refine wp_block ?_
     refine wp_seq ?_
     refine region_from ?_
     refine d_k [0,2,3,4,5,6,7,9,12,13,116] [] 1 En1080 fun ac1082 En1083 => ?_
     refine f_o ?_
     have hb1084 : 0 < List.length va := by rw [hlva]; omega
     refine m_v 0 0 (uv32 (List.getD va 0 0)) En1083 Hv1077 rfl (u32s_getD hb1084) fun ac1085 En1086 => ?_
     refine d_e [0,2,3,4,5,6,7,9,12,13,14] [] En1086 fun ac1087 En1088 => ?_
     refine then_normal ?_
     refine wp_seq ?_
     refine region_from ?_
     refine d_k [0,2,3,4,5,6,7,9,12,13,14,118] [] 1 En1088 fun ac1089 En1090 => ?_
     refine f_o ?_
     have hb1091 : 4 < List.length va := by rw [hlva]; omega
     refine m_v 0 4 (uv32 (List.getD va 4 0)) En1090 Hv1077 rfl (u32s_getD hb1091) fun ac1092 En1093 => ?_
     refine d_e [0,2,3,4,5,6,7,9,12,13,14,15] [] En1093 fun ac1094 En1095 => ?_
     refine then_normal ?_
     refine wp_seq ?_
     refine r_c (fun ac wo => Env ac 232 [(0, .slice aoq27 (List.length bl) coq27), (2, .slice none 0 0), (3, pt bk5), (4, pt bk16), (5, ni (64 * q)), (6, pt bk49), (7, ni t1), (9, ni (16 + t2)), (12, pt bk1061), (13, ni t3), (14, uv32 (List.getD va 0 0)), (15, uv32 (List.getD va 4 0)), (16, uv32 (((((List.getD va 7 0) + (((rotr32 (List.getD va 4 0) 6) ^^^ (rotr32 (List.getD va 4 0) 11)) ^^^ (rotr32 (List.getD va 4 0) 25))) + (((List.getD va 4 0) &&& (List.getD va 5 0)) ^^^ (((4294967295 : UInt32) ^^^ (List.getD va 4 0)) &&& (List.getD va 6 0)))) + (List.getD K32 t3 0)) + (List.getD (rsF32 (rwF32 bl (64 * q) 16) 48) t3 0)))] ∧ Ev w [] wo [.box bk1061 (u32s va) 56, .box bk49 (u32s (rsF32 (rwF32 bl (64 * q) 16) 48)) 63, .box bk16 (u32s sx) 56, .vec aoq27 coq27 1 (bys bl) 5, .box bk5 (u32s K32) 63]) ?_ ?_
     ·
      refine h_s (fun wv => Ev w [] wv [.box bk1061 (u32s va) 56, .box bk49 (u32s (rsF32 (rwF32 bl (64 * q) 16) 48)) 63, .box bk5 (u32s K32) 63]) [] 31 ?_
      have wo1096 := Hv1077.trans (Ev.drew Hv1077.heap)
      have hb5355 : 7 < List.length va := by rw [hlva]; omega
      refine q_s [0] [] 30 En1095 (wo1096.pk [0, 1, 4]) fun ac5356 En5357 => ?_
      refine q_r 1 (s := Instr.loadAt 55 (.pointer (some ⟨bk1061, 7, none⟩))) (v := uv32 (List.getD va 7 0)) En5357 (fun w hS => run_load1 (by kernel_rfl) (hS.heap.cell (k := 0) rfl (u32s_getD hb5355))) (wo1096.pk [0, 1, 4]) fun ac5358 En5359 => ?_
      have hb5360 : 5 < List.length va := by rw [hlva]; omega
      refine q_s [2,4,7,11,12] [] 24 En5359 (wo1096.pk [0, 1, 4]) fun ac5361 En5362 => ?_
      refine q_r 13 (s := Instr.loadAt 55 (.pointer (some ⟨bk1061, 5, none⟩))) (v := uv32 (List.getD va 5 0)) En5362 (fun w hS => run_load1 (by kernel_rfl) (hS.heap.cell (k := 0) rfl (u32s_getD hb5360))) (wo1096.pk [0, 1, 4]) fun ac5363 En5364 => ?_
      have hb5365 : 6 < List.length va := by rw [hlva]; omega
      refine q_s [14,15,16,17] [(14, g_i .u32 (Go.Dbr.u32_and (x := List.getD va 4 0) (y := List.getD va 5 0) rfl rfl)), (16, g_i .u32 (Go.Dbr.u32_xor (x := 4294967295) (y := List.getD va 4 0) rfl rfl))] 19 En5364 (wo1096.pk [0, 1, 4]) fun ac5366 En5367 => ?_
      refine q_r 18 (s := Instr.loadAt 55 (.pointer (some ⟨bk1061, 6, none⟩))) (v := uv32 (List.getD va 6 0)) En5367 (fun w hS => run_load1 (by kernel_rfl) (hS.heap.cell (k := 0) rfl (u32s_getD hb5365))) (wo1096.pk [0, 1, 4]) fun ac5368 En5369 => ?_
      refine q_s [19,20,22] [(19, g_i .u32 (Go.Dbr.u32_and (x := (4294967295 : UInt32) ^^^ (List.getD va 4 0)) (y := List.getD va 6 0) rfl rfl)), (20, g_i .u32 (Go.Dbr.u32_xor (x := (List.getD va 4 0) &&& (List.getD va 5 0)) (y := ((4294967295 : UInt32) ^^^ (List.getD va 4 0)) &&& (List.getD va 6 0)) rfl rfl))] 15 En5369 (wo1096.pk [0, 1, 4]) fun ac5370 En5371 => ?_
      refine q_f 23 (s := Instr.indexAt 63 (pt bk5) (ni t3)) (v := .pointer (some ⟨bk5, t3, none⟩)) En5371 (fun _ => Go.Dbr.run_indexarr (e := 55) (sz := 1) (m := 64) (j := t3) (o := t3) (by kernel_rfl) (by kernel_rfl) (by omega) (by omega) (by omega) _) (fun _ => wo1096.pk [0, 1, 4]) fun ac5372 En5373 => ?_
      have hb5374 : t3 < List.length K32 := by rw [(show List.length K32 = 64 from rfl)]; omega
      refine q_r 24 (s := Instr.loadAt 55 (.pointer (some ⟨bk5, t3, none⟩))) (v := uv32 (List.getD K32 t3 0)) En5373 (fun w hS => run_load1 (by kernel_rfl) (hS.heap.cell (k := 2) rfl (u32s_getD hb5374))) (wo1096.pk [0, 1, 4]) fun ac5375 En5376 => ?_
      refine q_s [26] [] 12 En5376 (wo1096.pk [0, 1, 4]) fun ac5377 En5378 => ?_
      refine q_f 27 (s := Instr.indexAt 63 (pt bk49) (ni t3)) (v := .pointer (some ⟨bk49, t3, none⟩)) En5378 (fun _ => Go.Dbr.run_indexarr (e := 55) (sz := 1) (m := 64) (j := t3) (o := t3) (by kernel_rfl) (by kernel_rfl) (by omega) (by omega) (by omega) _) (fun _ => wo1096.pk [0, 1, 4]) fun ac5379 En5380 => ?_
      have hb5381 : t3 < List.length (rsF32 (rwF32 bl (64 * q) 16) 48) := by rw [(rsF32_len (rwF32_len _ _ _) _)]; omega
      refine q_r 28 (s := Instr.loadAt 55 (.pointer (some ⟨bk49, t3, none⟩))) (v := uv32 (List.getD (rsF32 (rwF32 bl (64 * q) 16) 48) t3 0)) En5380 (fun w hS => run_load1 (by kernel_rfl) (hS.heap.cell (k := 1) rfl (u32s_getD hb5381))) (wo1096.pk [0, 1, 4]) fun ac5382 En5383 => ?_
      refine q_t 3 ?_
      refine c_p En5383 wo1096 (turn32_ref _ (List.getD va 4 0) 6 (by decide) (by decide)) fun ac5388 wo5385 En5389 Hv5390 => ?_
      refine ⟨fun _ => Hv5390.pk [0, 1, 4], ?_⟩
      refine q_t 5 ?_
      refine c_p En5389 Hv5390 (turn32_ref _ (List.getD va 4 0) 11 (by decide) (by decide)) fun ac5395 wo5392 En5396 Hv5397 => ?_
      refine ⟨fun _ => Hv5397.pk [0, 1, 4], ?_⟩
      refine q_s [6] [(6, g_i .u32 (Go.Dbr.u32_xor (x := rotr32 (List.getD va 4 0) 6) (y := rotr32 (List.getD va 4 0) 11) rfl rfl))] 7 En5396 (Hv5397.pk [0, 1, 4]) fun ac5398 En5399 => ?_
      refine q_t 8 ?_
      refine c_p En5399 Hv5397 (turn32_ref _ (List.getD va 4 0) 25 (by decide) (by decide)) fun ac5404 wo5401 En5405 Hv5406 => ?_
      refine ⟨fun _ => Hv5406.pk [0, 1, 4], ?_⟩
      refine q_s [9,10,21,25,29,30] [(9, g_i .u32 (Go.Dbr.u32_xor (x := (rotr32 (List.getD va 4 0) 6) ^^^ (rotr32 (List.getD va 4 0) 11)) (y := rotr32 (List.getD va 4 0) 25) rfl rfl)), (10, g_i .u32 (Go.Dbr.u32_add (x := List.getD va 7 0) (y := ((rotr32 (List.getD va 4 0) 6) ^^^ (rotr32 (List.getD va 4 0) 11)) ^^^ (rotr32 (List.getD va 4 0) 25)) rfl rfl)), (21, g_i .u32 (Go.Dbr.u32_add (x := (List.getD va 7 0) + (((rotr32 (List.getD va 4 0) 6) ^^^ (rotr32 (List.getD va 4 0) 11)) ^^^ (rotr32 (List.getD va 4 0) 25))) (y := ((List.getD va 4 0) &&& (List.getD va 5 0)) ^^^ (((4294967295 : UInt32) ^^^ (List.getD va 4 0)) &&& (List.getD va 6 0))) rfl rfl)), (25, g_i .u32 (Go.Dbr.u32_add (x := ((List.getD va 7 0) + (((rotr32 (List.getD va 4 0) 6) ^^^ (rotr32 (List.getD va 4 0) 11)) ^^^ (rotr32 (List.getD va 4 0) 25))) + (((List.getD va 4 0) &&& (List.getD va 5 0)) ^^^ (((4294967295 : UInt32) ^^^ (List.getD va 4 0)) &&& (List.getD va 6 0)))) (y := List.getD K32 t3 0) rfl rfl)), (29, g_i .u32 (Go.Dbr.u32_add (x := (((List.getD va 7 0) + (((rotr32 (List.getD va 4 0) 6) ^^^ (rotr32 (List.getD va 4 0) 11)) ^^^ (rotr32 (List.getD va 4 0) 25))) + (((List.getD va 4 0) &&& (List.getD va 5 0)) ^^^ (((4294967295 : UInt32) ^^^ (List.getD va 4 0)) &&& (List.getD va 6 0)))) + (List.getD K32 t3 0)) (y := List.getD (rsF32 (rwF32 bl (64 * q) 16) 48) t3 0) rfl rfl))] 0 En5405 (Hv5406.pk [0, 1, 4]) fun ac5407 En5408 => ?_
      exact h_e ⟨En5408.sb, Hv5406.pk [0, 1, 2, 3, 4]⟩
     rintro ac5409 wo5410 ⟨En5411, Hv5412⟩
     refine then_normal ?_
     refine wp_seq ?_
     refine r_c (fun ac wo => Env ac 232 [(0, .slice aoq27 (List.length bl) coq27), (2, .slice none 0 0), (3, pt bk5), (4, pt bk16), (5, ni (64 * q)), (6, pt bk49), (7, ni t1), (9, ni (16 + t2)), (12, pt bk1061), (13, ni t3), (14, uv32 (List.getD va 0 0)), (15, uv32 (List.getD va 4 0)), (16, uv32 (((((List.getD va 7 0) + (((rotr32 (List.getD va 4 0) 6) ^^^ (rotr32 (List.getD va 4 0) 11)) ^^^ (rotr32 (List.getD va 4 0) 25))) + (((List.getD va 4 0) &&& (List.getD va 5 0)) ^^^ (((4294967295 : UInt32) ^^^ (List.getD va 4 0)) &&& (List.getD va 6 0)))) + (List.getD K32 t3 0)) + (List.getD (rsF32 (rwF32 bl (64 * q) 16) 48) t3 0))), (17, uv32 ((((rotr32 (List.getD va 0 0) 2) ^^^ (rotr32 (List.getD va 0 0) 13)) ^^^ (rotr32 (List.getD va 0 0) 22)) + ((((List.getD va 0 0) &&& (List.getD va 1 0)) ^^^ ((List.getD va 0 0) &&& (List.getD va 2 0))) ^^^ ((List.getD va 1 0) &&& (List.getD va 2 0)))))] ∧ Ev w [] wo [.box bk1061 (u32s va) 56, .box bk49 (u32s (rsF32 (rwF32 bl (64 * q) 16) 48)) 63, .box bk16 (u32s sx) 56, .vec aoq27 coq27 1 (bys bl) 5, .box bk5 (u32s K32) 63]) ?_ ?_
     ·
      refine h_s (fun wv => Ev w [] wv [.box bk1061 (u32s va) 56]) [] 25 ?_
      have wo5413 := Hv5412.trans (Ev.drew Hv5412.heap)
      have hb7327 : 1 < List.length va := by rw [hlva]; omega
      refine q_s [0,2,5,8,9] [] 20 En5411 (wo5413.pk [0]) fun ac7328 En7329 => ?_
      refine q_r 10 (s := Instr.loadAt 55 (.pointer (some ⟨bk1061, 1, none⟩))) (v := uv32 (List.getD va 1 0)) En7329 (fun w hS => run_load1 (by kernel_rfl) (hS.heap.cell (k := 0) rfl (u32s_getD hb7327))) (wo5413.pk [0]) fun ac7330 En7331 => ?_
      have hb7332 : 2 < List.length va := by rw [hlva]; omega
      refine q_s [11,12,13] [(11, g_i .u32 (Go.Dbr.u32_and (x := List.getD va 0 0) (y := List.getD va 1 0) rfl rfl))] 16 En7331 (wo5413.pk [0]) fun ac7333 En7334 => ?_
      refine q_r 14 (s := Instr.loadAt 55 (.pointer (some ⟨bk1061, 2, none⟩))) (v := uv32 (List.getD va 2 0)) En7334 (fun w hS => run_load1 (by kernel_rfl) (hS.heap.cell (k := 0) rfl (u32s_getD hb7332))) (wo5413.pk [0]) fun ac7335 En7336 => ?_
      have hb7337 : 1 < List.length va := by rw [hlva]; omega
      refine q_s [15,16,17] [(15, g_i .u32 (Go.Dbr.u32_and (x := List.getD va 0 0) (y := List.getD va 2 0) rfl rfl)), (16, g_i .u32 (Go.Dbr.u32_xor (x := (List.getD va 0 0) &&& (List.getD va 1 0)) (y := (List.getD va 0 0) &&& (List.getD va 2 0)) rfl rfl))] 12 En7336 (wo5413.pk [0]) fun ac7338 En7339 => ?_
      refine q_r 18 (s := Instr.loadAt 55 (.pointer (some ⟨bk1061, 1, none⟩))) (v := uv32 (List.getD va 1 0)) En7339 (fun w hS => run_load1 (by kernel_rfl) (hS.heap.cell (k := 0) rfl (u32s_getD hb7337))) (wo5413.pk [0]) fun ac7340 En7341 => ?_
      have hb7342 : 2 < List.length va := by rw [hlva]; omega
      refine q_s [19] [] 10 En7341 (wo5413.pk [0]) fun ac7343 En7344 => ?_
      refine q_r 20 (s := Instr.loadAt 55 (.pointer (some ⟨bk1061, 2, none⟩))) (v := uv32 (List.getD va 2 0)) En7344 (fun w hS => run_load1 (by kernel_rfl) (hS.heap.cell (k := 0) rfl (u32s_getD hb7342))) (wo5413.pk [0]) fun ac7345 En7346 => ?_
      refine q_s [21,22] [(21, g_i .u32 (Go.Dbr.u32_and (x := List.getD va 1 0) (y := List.getD va 2 0) rfl rfl)), (22, g_i .u32 (Go.Dbr.u32_xor (x := ((List.getD va 0 0) &&& (List.getD va 1 0)) ^^^ ((List.getD va 0 0) &&& (List.getD va 2 0))) (y := (List.getD va 1 0) &&& (List.getD va 2 0)) rfl rfl))] 7 En7346 (wo5413.pk [0]) fun ac7347 En7348 => ?_
      refine q_t 1 ?_
      refine c_p En7348 wo5413 (turn32_ref _ (List.getD va 0 0) 2 (by decide) (by decide)) fun ac7353 wo7350 En7354 Hv7355 => ?_
      refine ⟨fun _ => Hv7355.pk [0], ?_⟩
      refine q_t 3 ?_
      refine c_p En7354 Hv7355 (turn32_ref _ (List.getD va 0 0) 13 (by decide) (by decide)) fun ac7360 wo7357 En7361 Hv7362 => ?_
      refine ⟨fun _ => Hv7362.pk [0], ?_⟩
      refine q_s [4] [(4, g_i .u32 (Go.Dbr.u32_xor (x := rotr32 (List.getD va 0 0) 2) (y := rotr32 (List.getD va 0 0) 13) rfl rfl))] 4 En7361 (Hv7362.pk [0]) fun ac7363 En7364 => ?_
      refine q_t 6 ?_
      refine c_p En7364 Hv7362 (turn32_ref _ (List.getD va 0 0) 22 (by decide) (by decide)) fun ac7369 wo7366 En7370 Hv7371 => ?_
      refine ⟨fun _ => Hv7371.pk [0], ?_⟩
      refine q_s [7,23,24] [(7, g_i .u32 (Go.Dbr.u32_xor (x := (rotr32 (List.getD va 0 0) 2) ^^^ (rotr32 (List.getD va 0 0) 13)) (y := rotr32 (List.getD va 0 0) 22) rfl rfl)), (23, g_i .u32 (Go.Dbr.u32_add (x := ((rotr32 (List.getD va 0 0) 2) ^^^ (rotr32 (List.getD va 0 0) 13)) ^^^ (rotr32 (List.getD va 0 0) 22)) (y := (((List.getD va 0 0) &&& (List.getD va 1 0)) ^^^ ((List.getD va 0 0) &&& (List.getD va 2 0))) ^^^ ((List.getD va 1 0) &&& (List.getD va 2 0))) rfl rfl))] 0 En7370 (Hv7371.pk [0]) fun ac7372 En7373 => ?_
      exact h_e ⟨En7373.sb, Hv7371.pk [0, 1, 2, 3, 4]⟩
     rintro ac7374 wo7375 ⟨En7376, Hv7377⟩
     refine then_normal ?_
     refine region_from ?_
     refine d_k [0,2,3,4,5,6,7,9,12,13,14,15,16,176,177,178] [(2, g_i .u32 (Go.Dbr.u32_add (x := ((((List.getD va 7 0) + (((rotr32 (List.getD va 4 0) 6) ^^^ (rotr32 (List.getD va 4 0) 11)) ^^^ (rotr32 (List.getD va 4 0) 25))) + (((List.getD va 4 0) &&& (List.getD va 5 0)) ^^^ (((4294967295 : UInt32) ^^^ (List.getD va 4 0)) &&& (List.getD va 6 0)))) + (List.getD K32 t3 0)) + (List.getD (rsF32 (rwF32 bl (64 * q) 16) 48) t3 0)) (y := (((rotr32 (List.getD va 0 0) 2) ^^^ (rotr32 (List.getD va 0 0) 13)) ^^^ (rotr32 (List.getD va 0 0) 22)) + ((((List.getD va 0 0) &&& (List.getD va 1 0)) ^^^ ((List.getD va 0 0) &&& (List.getD va 2 0))) ^^^ ((List.getD va 1 0) &&& (List.getD va 2 0)))) rfl rfl))] 5 En7376 fun ac7378 En7379 => ?_
     refine f_o ?_
     have hb7380 : 1 < List.length va := by rw [hlva]; omega
     refine m_v 0 1 (uv32 (List.getD va 1 0)) En7379 Hv7377 rfl (u32s_getD hb7380) fun ac7381 En7382 => ?_
     refine d_k [0,2,3,4,5,6,7,9,12,13,14,15,16,176,177,179,180] [] 7 En7382 fun ac7383 En7384 => ?_
     refine f_o ?_
     have hb7385 : 2 < List.length va := by rw [hlva]; omega
     refine m_v 0 2 (uv32 (List.getD va 2 0)) En7384 Hv7377 rfl (u32s_getD hb7385) fun ac7386 En7387 => ?_
     refine d_k [0,2,3,4,5,6,7,9,12,13,14,15,16,176,177,179,181,182] [] 9 En7387 fun ac7388 En7389 => ?_
     refine f_o ?_
     have hb7390 : 3 < List.length va := by rw [hlva]; omega
     refine m_v 0 3 (uv32 (List.getD va 3 0)) En7389 Hv7377 rfl (u32s_getD hb7390) fun ac7391 En7392 => ?_
     refine d_k [0,2,3,4,5,6,7,9,12,13,14,15,176,177,179,181,185,186,187] [(11, g_i .u32 (Go.Dbr.u32_add (x := List.getD va 3 0) (y := ((((List.getD va 7 0) + (((rotr32 (List.getD va 4 0) 6) ^^^ (rotr32 (List.getD va 4 0) 11)) ^^^ (rotr32 (List.getD va 4 0) 25))) + (((List.getD va 4 0) &&& (List.getD va 5 0)) ^^^ (((4294967295 : UInt32) ^^^ (List.getD va 4 0)) &&& (List.getD va 6 0)))) + (List.getD K32 t3 0)) + (List.getD (rsF32 (rwF32 bl (64 * q) 16) 48) t3 0)) rfl rfl))] 14 En7392 fun ac7393 En7394 => ?_
     refine f_o ?_
     have hb7395 : 5 < List.length va := by rw [hlva]; omega
     refine m_v 0 5 (uv32 (List.getD va 5 0)) En7394 Hv7377 rfl (u32s_getD hb7395) fun ac7396 En7397 => ?_
     refine d_k [0,2,3,4,5,6,7,9,12,13,14,15,176,177,179,181,185,186,188,189] [] 16 En7397 fun ac7398 En7399 => ?_
     refine f_o ?_
     have hb7400 : 6 < List.length va := by rw [hlva]; omega
     refine m_v 0 6 (uv32 (List.getD va 6 0)) En7399 Hv7377 rfl (u32s_getD hb7400) fun ac7401 En7402 => ?_
     refine d_k [0,2,3,4,5,6,7,9,12,13,14,15,191] [] 18 En7402 fun ac7403 En7404 => ?_
     refine f_o ?_
     refine m_g 0 0 8 (u32s ([(((((List.getD va 7 0) + (((rotr32 (List.getD va 4 0) 6) ^^^ (rotr32 (List.getD va 4 0) 11)) ^^^ (rotr32 (List.getD va 4 0) 25))) + (((List.getD va 4 0) &&& (List.getD va 5 0)) ^^^ (((4294967295 : UInt32) ^^^ (List.getD va 4 0)) &&& (List.getD va 6 0)))) + (List.getD K32 t3 0)) + (List.getD (rsF32 (rwF32 bl (64 * q) 16) 48) t3 0)) + ((((rotr32 (List.getD va 0 0) 2) ^^^ (rotr32 (List.getD va 0 0) 13)) ^^^ (rotr32 (List.getD va 0 0) 22)) + ((((List.getD va 0 0) &&& (List.getD va 1 0)) ^^^ ((List.getD va 0 0) &&& (List.getD va 2 0))) ^^^ ((List.getD va 1 0) &&& (List.getD va 2 0)))), List.getD va 0 0, List.getD va 1 0, List.getD va 2 0, (List.getD va 3 0) + (((((List.getD va 7 0) + (((rotr32 (List.getD va 4 0) 6) ^^^ (rotr32 (List.getD va 4 0) 11)) ^^^ (rotr32 (List.getD va 4 0) 25))) + (((List.getD va 4 0) &&& (List.getD va 5 0)) ^^^ (((4294967295 : UInt32) ^^^ (List.getD va 4 0)) &&& (List.getD va 6 0)))) + (List.getD K32 t3 0)) + (List.getD (rsF32 (rwF32 bl (64 * q) 16) 48) t3 0)), List.getD va 4 0, List.getD va 5 0, List.getD va 6 0] : List UInt32)) (u32s ([(((((List.getD va 7 0) + (((rotr32 (List.getD va 4 0) 6) ^^^ (rotr32 (List.getD va 4 0) 11)) ^^^ (rotr32 (List.getD va 4 0) 25))) + (((List.getD va 4 0) &&& (List.getD va 5 0)) ^^^ (((4294967295 : UInt32) ^^^ (List.getD va 4 0)) &&& (List.getD va 6 0)))) + (List.getD K32 t3 0)) + (List.getD (rsF32 (rwF32 bl (64 * q) 16) 48) t3 0)) + ((((rotr32 (List.getD va 0 0) 2) ^^^ (rotr32 (List.getD va 0 0) 13)) ^^^ (rotr32 (List.getD va 0 0) 22)) + ((((List.getD va 0 0) &&& (List.getD va 1 0)) ^^^ ((List.getD va 0 0) &&& (List.getD va 2 0))) ^^^ ((List.getD va 1 0) &&& (List.getD va 2 0)))), List.getD va 0 0, List.getD va 1 0, List.getD va 2 0, (List.getD va 3 0) + (((((List.getD va 7 0) + (((rotr32 (List.getD va 4 0) 6) ^^^ (rotr32 (List.getD va 4 0) 11)) ^^^ (rotr32 (List.getD va 4 0) 25))) + (((List.getD va 4 0) &&& (List.getD va 5 0)) ^^^ (((4294967295 : UInt32) ^^^ (List.getD va 4 0)) &&& (List.getD va 6 0)))) + (List.getD K32 t3 0)) + (List.getD (rsF32 (rwF32 bl (64 * q) 16) 48) t3 0)), List.getD va 4 0, List.getD va 5 0, List.getD va 6 0] : List UInt32)) [.box bk1061 (u32s ([(((((List.getD va 7 0) + (((rotr32 (List.getD va 4 0) 6) ^^^ (rotr32 (List.getD va 4 0) 11)) ^^^ (rotr32 (List.getD va 4 0) 25))) + (((List.getD va 4 0) &&& (List.getD va 5 0)) ^^^ (((4294967295 : UInt32) ^^^ (List.getD va 4 0)) &&& (List.getD va 6 0)))) + (List.getD K32 t3 0)) + (List.getD (rsF32 (rwF32 bl (64 * q) 16) 48) t3 0)) + ((((rotr32 (List.getD va 0 0) 2) ^^^ (rotr32 (List.getD va 0 0) 13)) ^^^ (rotr32 (List.getD va 0 0) 22)) + ((((List.getD va 0 0) &&& (List.getD va 1 0)) ^^^ ((List.getD va 0 0) &&& (List.getD va 2 0))) ^^^ ((List.getD va 1 0) &&& (List.getD va 2 0)))), List.getD va 0 0, List.getD va 1 0, List.getD va 2 0, (List.getD va 3 0) + (((((List.getD va 7 0) + (((rotr32 (List.getD va 4 0) 6) ^^^ (rotr32 (List.getD va 4 0) 11)) ^^^ (rotr32 (List.getD va 4 0) 25))) + (((List.getD va 4 0) &&& (List.getD va 5 0)) ^^^ (((4294967295 : UInt32) ^^^ (List.getD va 4 0)) &&& (List.getD va 6 0)))) + (List.getD K32 t3 0)) + (List.getD (rsF32 (rwF32 bl (64 * q) 16) 48) t3 0)), List.getD va 4 0, List.getD va 5 0, List.getD va 6 0] : List UInt32)) 56, .box bk49 (u32s (rsF32 (rwF32 bl (64 * q) 16) 48)) 63, .box bk16 (u32s sx) 56, .vec aoq27 coq27 1 (bys bl) 5, .box bk5 (u32s K32) 63] En7404 Hv7377 rfl (u32s_lenh (show List.length ([(((((List.getD va 7 0) + (((rotr32 (List.getD va 4 0) 6) ^^^ (rotr32 (List.getD va 4 0) 11)) ^^^ (rotr32 (List.getD va 4 0) 25))) + (((List.getD va 4 0) &&& (List.getD va 5 0)) ^^^ (((4294967295 : UInt32) ^^^ (List.getD va 4 0)) &&& (List.getD va 6 0)))) + (List.getD K32 t3 0)) + (List.getD (rsF32 (rwF32 bl (64 * q) 16) 48) t3 0)) + ((((rotr32 (List.getD va 0 0) 2) ^^^ (rotr32 (List.getD va 0 0) 13)) ^^^ (rotr32 (List.getD va 0 0) 22)) + ((((List.getD va 0 0) &&& (List.getD va 1 0)) ^^^ ((List.getD va 0 0) &&& (List.getD va 2 0))) ^^^ ((List.getD va 1 0) &&& (List.getD va 2 0)))), List.getD va 0 0, List.getD va 1 0, List.getD va 2 0, (List.getD va 3 0) + (((((List.getD va 7 0) + (((rotr32 (List.getD va 4 0) 6) ^^^ (rotr32 (List.getD va 4 0) 11)) ^^^ (rotr32 (List.getD va 4 0) 25))) + (((List.getD va 4 0) &&& (List.getD va 5 0)) ^^^ (((4294967295 : UInt32) ^^^ (List.getD va 4 0)) &&& (List.getD va 6 0)))) + (List.getD K32 t3 0)) + (List.getD (rsF32 (rwF32 bl (64 * q) 16) 48) t3 0)), List.getD va 4 0, List.getD va 5 0, List.getD va 6 0] : List UInt32) = 8 from rfl)) (by rw [(u32s_lenh hlva)]; decide) (u32s_one _) (store_whole (u32s_lenh hlva)) rfl fun ac7405 wo7406 En7407 Hv7408 => ?_
     refine f_e ?_
     refine block_normal ?_
     refine then_normal ?_
     refine d_r [0,2,3,4,5,6,7,9,12,13,14,15] [(1, g_n (w_a t3 1))] En7407 fun ac7409 En7410 => ?_
     refine then_normal ?_
     refine ⟨_, ⟨t3 + 1, ([(((((List.getD va 7 0) + (((rotr32 (List.getD va 4 0) 6) ^^^ (rotr32 (List.getD va 4 0) 11)) ^^^ (rotr32 (List.getD va 4 0) 25))) + (((List.getD va 4 0) &&& (List.getD va 5 0)) ^^^ (((4294967295 : UInt32) ^^^ (List.getD va 4 0)) &&& (List.getD va 6 0)))) + (List.getD K32 t3 0)) + (List.getD (rsF32 (rwF32 bl (64 * q) 16) 48) t3 0)) + ((((rotr32 (List.getD va 0 0) 2) ^^^ (rotr32 (List.getD va 0 0) 13)) ^^^ (rotr32 (List.getD va 0 0) 22)) + ((((List.getD va 0 0) &&& (List.getD va 1 0)) ^^^ ((List.getD va 0 0) &&& (List.getD va 2 0))) ^^^ ((List.getD va 1 0) &&& (List.getD va 2 0)))), List.getD va 0 0, List.getD va 1 0, List.getD va 2 0, (List.getD va 3 0) + (((((List.getD va 7 0) + (((rotr32 (List.getD va 4 0) 6) ^^^ (rotr32 (List.getD va 4 0) 11)) ^^^ (rotr32 (List.getD va 4 0) 25))) + (((List.getD va 4 0) &&& (List.getD va 5 0)) ^^^ (((4294967295 : UInt32) ^^^ (List.getD va 4 0)) &&& (List.getD va 6 0)))) + (List.getD K32 t3 0)) + (List.getD (rsF32 (rwF32 bl (64 * q) 16) 48) t3 0)), List.getD va 4 0, List.getD va 5 0, List.getD va 6 0] : List UInt32), rfl, En7410.sb, Hv7408.pk [0, 1, 2, 3, 4], by omega, (show List.length ([(((((List.getD va 7 0) + (((rotr32 (List.getD va 4 0) 6) ^^^ (rotr32 (List.getD va 4 0) 11)) ^^^ (rotr32 (List.getD va 4 0) 25))) + (((List.getD va 4 0) &&& (List.getD va 5 0)) ^^^ (((4294967295 : UInt32) ^^^ (List.getD va 4 0)) &&& (List.getD va 6 0)))) + (List.getD K32 t3 0)) + (List.getD (rsF32 (rwF32 bl (64 * q) 16) 48) t3 0)) + ((((rotr32 (List.getD va 0 0) 2) ^^^ (rotr32 (List.getD va 0 0) 13)) ^^^ (rotr32 (List.getD va 0 0) 22)) + ((((List.getD va 0 0) &&& (List.getD va 1 0)) ^^^ ((List.getD va 0 0) &&& (List.getD va 2 0))) ^^^ ((List.getD va 1 0) &&& (List.getD va 2 0)))), List.getD va 0 0, List.getD va 1 0, List.getD va 2 0, (List.getD va 3 0) + (((((List.getD va 7 0) + (((rotr32 (List.getD va 4 0) 6) ^^^ (rotr32 (List.getD va 4 0) 11)) ^^^ (rotr32 (List.getD va 4 0) 25))) + (((List.getD va 4 0) &&& (List.getD va 5 0)) ^^^ (((4294967295 : UInt32) ^^^ (List.getD va 4 0)) &&& (List.getD va 6 0)))) + (List.getD K32 t3 0)) + (List.getD (rsF32 (rwF32 bl (64 * q) 16) 48) t3 0)), List.getD va 4 0, List.getD va 5 0, List.getD va 6 0] : List UInt32) = 8 from rfl), by first | (rw [heva]; rfl) | (rw [heva, hc2]; rfl) | rfl⟩, ?_⟩
     omega
    ·
     refine wp_exit ?_
     refine then_exit ?_
     refine then_exit ?_
     refine block_exit ?_
     refine then_normal ?_
     refine wp_seq ?_
     have hnva : t3 = 64 := by omega
     have hfva : va = rr32 (rsF32 (rwF32 bl (64 * q) 16) 48) sx 64 := by rw [heva, hnva] <;> rfl
     rw [show va = (rr32 (rsF32 (rwF32 bl (64 * q) 16) 48) sx 64) from hfva] at Hv1077
     refine d_r [0,2,3,4,5,6,7,9,12,13,18] [] En1080 fun ac7411 En7412 => ?_
     refine then_normal ?_
     refine wp_block ?_
     refine loop_m (fun ms7413 ac wo => ∃ (t4 : Nat) (sb : List UInt32), ms7413 = (8 - t4 : Nat) ∧ Env ac 232 [(0, .slice aoq27 (List.length bl) coq27), (2, .slice none 0 0), (3, pt bk5), (4, pt bk16), (5, ni (64 * q)), (6, pt bk49), (7, ni t1), (9, ni (16 + t2)), (12, pt bk1061), (13, ni t3), (18, ni t4)] ∧ Ev w [] wo [.box bk16 (u32s sb) 56, .box bk1061 (u32s (rr32 (rsF32 (rwF32 bl (64 * q) 16) 48) sx 64)) 56, .box bk49 (u32s (rsF32 (rwF32 bl (64 * q) 16) 48)) 63, .vec aoq27 coq27 1 (bys bl) 5, .box bk5 (u32s K32) 63] ∧ (t4 ≤ 8) ∧ (List.length sb = 8) ∧ (sb = add32 sx (rr32 (rsF32 (rwF32 bl (64 * q) 16) 48) sx 64) t4)) ⟨_, 0, sx, rfl, En7412.sb, Hv1077.pk [2, 0, 1, 3, 4], by omega, hlx, rfl⟩ ?_
     rintro mm7419 ac7415 wo7416 ⟨t4, sb, rfl, En7417, Hv7418, hisb, hlsb, hesb⟩
     refine wp_seq ?_
     refine wp_seq ?_
     refine d_r [0,2,3,4,5,6,7,9,12,13,18,193] [] En7417 fun ac7420 En7421 => ?_
     refine then_normal ?_
     refine c_d (((t4 : Nat) : Int) < (8 : Int)) En7421 (fun hc7422 => ?_) (fun hc7422 => ?_)
     ·
      refine wp_skip ?_
      refine then_normal ?_
      refine wp_seq ?_
      refine wp_block ?_
      refine r_c (fun ac wo => Env ac 232 [(0, .slice aoq27 (List.length bl) coq27), (2, .slice none 0 0), (3, pt bk5), (4, pt bk16), (5, ni (64 * q)), (6, pt bk49), (7, ni t1), (9, ni (16 + t2)), (12, pt bk1061), (13, ni t3), (18, ni t4)] ∧ Ev w [] wo [.box bk16 (u32s (List.set sb t4 ((List.getD sb t4 0) + (List.getD (rr32 (rsF32 (rwF32 bl (64 * q) 16) 48) sx 64) t4 0)))) 56, .box bk1061 (u32s (rr32 (rsF32 (rwF32 bl (64 * q) 16) 48) sx 64)) 56, .box bk49 (u32s (rsF32 (rwF32 bl (64 * q) 16) 48)) 63, .vec aoq27 coq27 1 (bys bl) 5, .box bk5 (u32s K32) 63]) ?_ ?_
      ·
       refine h_s (fun wv => Ev w [] wv [.box bk16 (u32s sb) 56, .box bk1061 (u32s (rr32 (rsF32 (rwF32 bl (64 * q) 16) 48) sx 64)) 56]) [9] 10 ?_
       have wo7423 := Hv7418.trans (Ev.drew Hv7418.heap)
       refine q_s [0,1] [] 8 En7421 (wo7423.pk [0, 1]) fun ac7485 En7486 => ?_
       refine q_f 2 (s := Instr.indexAt 56 (pt bk16) (ni t4)) (v := .pointer (some ⟨bk16, t4, none⟩)) En7486 (fun _ => Go.Dbr.run_indexarr (e := 55) (sz := 1) (m := 8) (j := t4) (o := t4) (by kernel_rfl) (by kernel_rfl) (by omega) (by omega) (by omega) _) (fun _ => wo7423.pk [0, 1]) fun ac7487 En7488 => ?_
       have hb7489 : t4 < List.length sb := by rw [hlsb]; omega
       refine q_r 3 (s := Instr.loadAt 55 (.pointer (some ⟨bk16, t4, none⟩))) (v := uv32 (List.getD sb t4 0)) En7488 (fun w hS => run_load1 (by kernel_rfl) (hS.heap.cell (k := 0) rfl (u32s_getD hb7489))) (wo7423.pk [0, 1]) fun ac7490 En7491 => ?_
       refine q_s [4] [] 5 En7491 (wo7423.pk [0, 1]) fun ac7492 En7493 => ?_
       refine q_f 5 (s := Instr.indexAt 56 (pt bk1061) (ni t4)) (v := .pointer (some ⟨bk1061, t4, none⟩)) En7493 (fun _ => Go.Dbr.run_indexarr (e := 55) (sz := 1) (m := 8) (j := t4) (o := t4) (by kernel_rfl) (by kernel_rfl) (by omega) (by omega) (by omega) _) (fun _ => wo7423.pk [0, 1]) fun ac7494 En7495 => ?_
       have hb7496 : t4 < List.length (rr32 (rsF32 (rwF32 bl (64 * q) 16) 48) sx 64) := by rw [(rr32_len _ hlx _)]; omega
       refine q_r 6 (s := Instr.loadAt 55 (.pointer (some ⟨bk1061, t4, none⟩))) (v := uv32 (List.getD (rr32 (rsF32 (rwF32 bl (64 * q) 16) 48) sx 64) t4 0)) En7495 (fun w hS => run_load1 (by kernel_rfl) (hS.heap.cell (k := 1) rfl (u32s_getD hb7496))) (wo7423.pk [0, 1]) fun ac7497 En7498 => ?_
       refine q_s [7] [(7, g_i .u32 (Go.Dbr.u32_add (x := List.getD sb t4 0) (y := List.getD (rr32 (rsF32 (rwF32 bl (64 * q) 16) 48) sx 64) t4 0) rfl rfl))] 2 En7498 (wo7423.pk [0, 1]) fun ac7499 En7500 => ?_
       refine q_f 8 (s := Instr.indexAt 56 (pt bk16) (ni t4)) (v := .pointer (some ⟨bk16, t4, none⟩)) En7500 (fun _ => Go.Dbr.run_indexarr (e := 55) (sz := 1) (m := 8) (j := t4) (o := t4) (by kernel_rfl) (by kernel_rfl) (by omega) (by omega) (by omega) _) (fun _ => wo7423.pk [0, 1]) fun ac7501 En7502 => ?_
       refine q_t 9 ?_
       have hb7503 : t4 < List.length sb := by rw [hlsb]; omega
       refine m_t 0 t4 (uv32 ((List.getD sb t4 0) + (List.getD (rr32 (rsF32 (rwF32 bl (64 * q) 16) 48) sx 64) t4 0))) [.box bk16 (u32s (List.set sb t4 ((List.getD sb t4 0) + (List.getD (rr32 (rsF32 (rwF32 bl (64 * q) 16) 48) sx 64) t4 0)))) 56, .box bk1061 (u32s (rr32 (rsF32 (rwF32 bl (64 * q) 16) 48) sx 64)) 56, .box bk49 (u32s (rsF32 (rwF32 bl (64 * q) 16) 48)) 63, .vec aoq27 coq27 1 (bys bl) 5, .box bk5 (u32s K32) 63] En7502 wo7423 rfl (u32s_getD hb7503) (u32s_set _ _ _) rfl fun ac7504 wo7505 En7506 Hv7507 => ?_
       refine ⟨q_y, ?_⟩
       exact h_e ⟨En7506.sb, Hv7507.pk [0, 1, 2, 3, 4]⟩
      rintro ac7508 wo7509 ⟨En7510, Hv7511⟩
      refine block_normal ?_
      refine then_normal ?_
      refine d_r [0,2,3,4,5,6,7,9,12,13,18] [(1, g_n (w_a t4 1))] En7510 fun ac7512 En7513 => ?_
      refine then_normal ?_
      refine ⟨_, ⟨t4 + 1, (List.set sb t4 ((List.getD sb t4 0) + (List.getD (rr32 (rsF32 (rwF32 bl (64 * q) 16) 48) sx 64) t4 0))), rfl, En7513.sb, Hv7511.pk [0, 1, 2, 3, 4], by omega, (List.length_set.trans hlsb), by first | (rw [hesb]; rfl) | (rw [hesb, hc2]; rfl) | rfl⟩, ?_⟩
      omega
     ·
      refine wp_exit ?_
      refine then_exit ?_
      refine then_exit ?_
      refine block_exit ?_
      refine block_normal ?_
      refine then_normal ?_
      have hnsb : t4 = 8 := by omega
      have hfsb : sb = add32 sx (rr32 (rsF32 (rwF32 bl (64 * q) 16) 48) sx 64) 8 := by rw [hesb, hnsb] <;> rfl
      rw [show sb = (add32 sx (rr32 (rsF32 (rwF32 bl (64 * q) 16) 48) sx 64) 8) from hfsb] at Hv7418
      refine d_r [0,2,3,4,5,6,7,9,12,13,18] [(1, g_n (w_a (64 * q) 64))] En7421 fun ac7514 En7515 => ?_
      refine then_normal ?_
      refine ⟨_, ⟨q + 1, (add32 sx (rr32 (rsF32 (rwF32 bl (64 * q) 16) 48) sx 64) 8), rfl, En7515.sb, Hv7418.pk [0, 3, 4], by omega, (add32_len hlx _ _), by rw [hes]; rfl⟩, ?_⟩
      omega
 ·
  refine wp_exit ?_
  refine then_exit ?_
  refine then_exit ?_
  refine block_exit ?_
  refine then_normal ?_
  refine wp_seq ?_
  have hqe : q = List.length bl / 64 := by omega
  refine d_r [0,2,3,4,5,19] [] En47 fun ac7516 En7517 => ?_
  refine then_normal ?_
  refine wp_seq ?_
  refine wp_seq ?_
  refine d_r [0,2,3,4,5,19,20] [] En7517 fun ac7518 En7519 => ?_
  refine then_normal ?_
  refine wp_block ?_
  have Hv7520 := Ev.nil (sz := 1) (T := 5) Hv44
  refine loop_m (fun ms7521 ac wo => ∃ (i : Nat) (a7 : Option Addr) (c7 : Nat) (ol : List UInt8), ms7521 = (8 - i : Nat) ∧ Env ac 232 [(0, .slice aoq27 (List.length bl) coq27), (2, .slice none 0 0), (3, pt bk5), (4, pt bk16), (5, ni (64 * q)), (19, .slice a7 (List.length ol) c7), (20, ni i)] ∧ Ev w [] wo [.vec a7 c7 1 (bys ol) 5, .box bk16 (u32s sx) 56, .vec aoq27 coq27 1 (bys bl) 5, .box bk5 (u32s K32) 63] ∧ (i ≤ 8) ∧ (ol = ro32 sx i) ∧ (List.length ol = 4 * i)) ⟨_, 0, none, 0, [], rfl, En7519.sb, Hv7520.pk [3, 0, 1, 2], by omega, rfl, rfl⟩ ?_
  rintro mm7527 ac7523 wo7524 ⟨i, a7, c7, ol, rfl, En7525, Hv7526, hi, heo, hol⟩
  refine wp_seq ?_
  refine wp_seq ?_
  refine d_r [0,2,3,4,5,19,20,206] [] En7525 fun ac7528 En7529 => ?_
  refine then_normal ?_
  refine c_d (((i : Nat) : Int) < (8 : Int)) En7529 (fun hc7530 => ?_) (fun hc7530 => ?_)
  ·
   refine wp_skip ?_
   refine then_normal ?_
   refine wp_seq ?_
   refine wp_block ?_
   refine r_c (fun ac wo => ∃ (ao7999 : Option Addr) (cp8000 : Nat), Env ac 232 [(0, .slice aoq27 (List.length bl) coq27), (2, .slice none 0 0), (3, pt bk5), (4, pt bk16), (5, ni (64 * q)), (19, .slice ao7999 (List.length (ol ++ [UInt32.toUInt8 ((List.getD sx i 0) >>> UInt32.ofNat 24), UInt32.toUInt8 ((List.getD sx i 0) >>> UInt32.ofNat 16), UInt32.toUInt8 ((List.getD sx i 0) >>> UInt32.ofNat 8), UInt32.toUInt8 (List.getD sx i 0)])) cp8000), (20, ni i)] ∧ Ev w [] wo [.vec ao7999 cp8000 1 (bys (ol ++ [UInt32.toUInt8 ((List.getD sx i 0) >>> UInt32.ofNat 24), UInt32.toUInt8 ((List.getD sx i 0) >>> UInt32.ofNat 16), UInt32.toUInt8 ((List.getD sx i 0) >>> UInt32.ofNat 8), UInt32.toUInt8 (List.getD sx i 0)])) 5, .box bk16 (u32s sx) 56, .vec aoq27 coq27 1 (bys bl) 5, .box bk5 (u32s K32) 63]) ?_ ?_
   ·
    refine h_s (fun wv => Ev w [] wv [.box bk16 (u32s sx) 56]) [] 23 ?_
    have wo7531 := Hv7526.trans (Ev.drew Hv7526.heap)
    refine q_s [0,1] [] 21 En7529 (wo7531.pk [1]) fun ac8009 En8010 => ?_
    refine q_f 2 (s := Instr.indexAt 56 (pt bk16) (ni i)) (v := .pointer (some ⟨bk16, i, none⟩)) En8010 (fun _ => Go.Dbr.run_indexarr (e := 55) (sz := 1) (m := 8) (j := i) (o := i) (by kernel_rfl) (by kernel_rfl) (by omega) (by omega) (by omega) _) (fun _ => wo7531.pk [1]) fun ac8011 En8012 => ?_
    have hb8013 : i < List.length sx := by rw [hlx]; omega
    refine q_r 3 (s := Instr.loadAt 55 (.pointer (some ⟨bk16, i, none⟩))) (v := uv32 (List.getD sx i 0)) En8012 (fun w hS => run_load1 (by kernel_rfl) (hS.heap.cell (k := 0) rfl (u32s_getD hb8013))) (wo7531.pk [1]) fun ac8014 En8015 => ?_
    refine q_s [4,5,6] [(4, g_i .u32 (Go.Dbr.u32_shr (x := List.getD sx i 0) (n := 24) rfl (by decide))), (5, g_i .u8 (Go.Dbr.u32_to_u8 (x := (List.getD sx i 0) >>> UInt32.ofNat 24) rfl))] 16 En8015 (wo7531.pk [1]) fun ac8016 En8017 => ?_
    refine q_f 7 (s := Instr.indexAt 56 (pt bk16) (ni i)) (v := .pointer (some ⟨bk16, i, none⟩)) En8017 (fun _ => Go.Dbr.run_indexarr (e := 55) (sz := 1) (m := 8) (j := i) (o := i) (by kernel_rfl) (by kernel_rfl) (by omega) (by omega) (by omega) _) (fun _ => wo7531.pk [1]) fun ac8018 En8019 => ?_
    have hb8020 : i < List.length sx := by rw [hlx]; omega
    refine q_r 8 (s := Instr.loadAt 55 (.pointer (some ⟨bk16, i, none⟩))) (v := uv32 (List.getD sx i 0)) En8019 (fun w hS => run_load1 (by kernel_rfl) (hS.heap.cell (k := 0) rfl (u32s_getD hb8020))) (wo7531.pk [1]) fun ac8021 En8022 => ?_
    refine q_s [9,10,11] [(9, g_i .u32 (Go.Dbr.u32_shr (x := List.getD sx i 0) (n := 16) rfl (by decide))), (10, g_i .u8 (Go.Dbr.u32_to_u8 (x := (List.getD sx i 0) >>> UInt32.ofNat 16) rfl))] 11 En8022 (wo7531.pk [1]) fun ac8023 En8024 => ?_
    refine q_f 12 (s := Instr.indexAt 56 (pt bk16) (ni i)) (v := .pointer (some ⟨bk16, i, none⟩)) En8024 (fun _ => Go.Dbr.run_indexarr (e := 55) (sz := 1) (m := 8) (j := i) (o := i) (by kernel_rfl) (by kernel_rfl) (by omega) (by omega) (by omega) _) (fun _ => wo7531.pk [1]) fun ac8025 En8026 => ?_
    have hb8027 : i < List.length sx := by rw [hlx]; omega
    refine q_r 13 (s := Instr.loadAt 55 (.pointer (some ⟨bk16, i, none⟩))) (v := uv32 (List.getD sx i 0)) En8026 (fun w hS => run_load1 (by kernel_rfl) (hS.heap.cell (k := 0) rfl (u32s_getD hb8027))) (wo7531.pk [1]) fun ac8028 En8029 => ?_
    refine q_s [14,15,16] [(14, g_i .u32 (Go.Dbr.u32_shr (x := List.getD sx i 0) (n := 8) rfl (by decide))), (15, g_i .u8 (Go.Dbr.u32_to_u8 (x := (List.getD sx i 0) >>> UInt32.ofNat 8) rfl))] 6 En8029 (wo7531.pk [1]) fun ac8030 En8031 => ?_
    refine q_f 17 (s := Instr.indexAt 56 (pt bk16) (ni i)) (v := .pointer (some ⟨bk16, i, none⟩)) En8031 (fun _ => Go.Dbr.run_indexarr (e := 55) (sz := 1) (m := 8) (j := i) (o := i) (by kernel_rfl) (by kernel_rfl) (by omega) (by omega) (by omega) _) (fun _ => wo7531.pk [1]) fun ac8032 En8033 => ?_
    have hb8034 : i < List.length sx := by rw [hlx]; omega
    refine q_r 18 (s := Instr.loadAt 55 (.pointer (some ⟨bk16, i, none⟩))) (v := uv32 (List.getD sx i 0)) En8033 (fun w hS => run_load1 (by kernel_rfl) (hS.heap.cell (k := 0) rfl (u32s_getD hb8034))) (wo7531.pk [1]) fun ac8035 En8036 => ?_
    refine q_s [19] [(19, g_i .u8 (Go.Dbr.u32_to_u8 (x := List.getD sx i 0) rfl))] 3 En8036 (wo7531.pk [1]) fun ac8037 En8038 => ?_
    refine q_t 20 ?_
    refine op_lit (d := some 229) (t := 23) (T := 5) (m := 4) (parts := #[(0, bv (UInt32.toUInt8 ((List.getD sx i 0) >>> UInt32.ofNat 24))), (1, bv (UInt32.toUInt8 ((List.getD sx i 0) >>> UInt32.ofNat 16))), (2, bv (UInt32.toUInt8 ((List.getD sx i 0) >>> UInt32.ofNat 8))), (3, bv (UInt32.toUInt8 (List.getD sx i 0)))]) (xs := bys [UInt32.toUInt8 ((List.getD sx i 0) >>> UInt32.ofNat 24), UInt32.toUInt8 ((List.getD sx i 0) >>> UInt32.ofNat 16), UInt32.toUInt8 ((List.getD sx i 0) >>> UInt32.ofNat 8), UInt32.toUInt8 (List.getD sx i 0)]) (sz := 1) En8038 (by kernel_rfl) (by kernel_rfl) rfl (by decide) wo7531 ?_
    intro ac8040 wo8041 bk8039 En8042 Hv8043
    refine ⟨fun _ => Hv8043.pk [1], ?_⟩
    refine q_t 21 ?_
    refine op_append (d := some 230) (t := 23) (tx := 23) (ty := 23) (k := 0) (p := List.length ol) (m := 4) (x := .slice (some ⟨bk8039, 0, none⟩) 4 4) (bytes := 1) En8042 (by kernel_rfl) Hv8043 rfl (bys_len _) (Reads.src (size := 1) (tx := 23) (e' := 5) (by kernel_rfl) (Hv8043.heap.reads (k := 4) rfl) rfl (fun e => by cases e) (bys_one _)) (by kernel_rfl) (z := .int .u8 0) (by kernel_rfl) rfl (by decide) (by omega) (by unfold maxLen; omega) ?_
    intro ac8048 wo8049 ao8044 cp8045 En8050 Hv8051 hnz _
    clear hnz
    rw [← bys_append] at Hv8051
    have ehz8046 : (List.length ol) + 4 = List.length (ol ++ [UInt32.toUInt8 ((List.getD sx i 0) >>> UInt32.ofNat 24), UInt32.toUInt8 ((List.getD sx i 0) >>> UInt32.ofNat 16), UInt32.toUInt8 ((List.getD sx i 0) >>> UInt32.ofNat 8), UInt32.toUInt8 (List.getD sx i 0)]) := (by first | (simp; done) | (simp; omega) | omega)
    rw [ehz8046] at En8050
    refine ⟨fun _ => Hv8051.pk [1], ?_⟩
    refine q_s [22] [] 0 En8050 (Hv8051.pk [1]) fun ac8052 En8053 => ?_
    exact h_e ⟨ao8044, cp8045, En8053.sb, Hv8051.pk [0, 1, 2, 3]⟩
   rintro ac8054 wo8055 ⟨ao7999, cp8000, En8056, Hv8057⟩
   refine block_normal ?_
   refine then_normal ?_
   refine d_r [0,2,3,4,5,19,20] [(1, g_n (w_a i 1))] En8056 fun ac8058 En8059 => ?_
   refine then_normal ?_
   refine ⟨_, ⟨i + 1, ao7999, cp8000, (ol ++ [UInt32.toUInt8 ((List.getD sx i 0) >>> UInt32.ofNat 24), UInt32.toUInt8 ((List.getD sx i 0) >>> UInt32.ofNat 16), UInt32.toUInt8 ((List.getD sx i 0) >>> UInt32.ofNat 8), UInt32.toUInt8 (List.getD sx i 0)]), rfl, En8059.sb, Hv8057.pk [0, 1, 2, 3], by omega, by rw [heo]; rfl, by simp [hol]; omega⟩, ?_⟩
   omega
  ·
   refine wp_exit ?_
   refine then_exit ?_
   refine then_exit ?_
   refine block_exit ?_
   refine then_normal ?_
   refine wp_seq ?_
   refine d_r [0,2,3,4,5,19,20] [] En7529 fun ac8060 En8061 => ?_
   refine then_normal ?_
   refine wp_ret ?_
   refine d_ret1 (t := 2) (v := .slice a7 (List.length ol) c7) En8061 (by kernel_rfl) (by kernel_rfl) ?_
   have hi8 : i = 8 := by omega
   have hoe : ol = ro32 (rfeed32 init32 (lx ++ padB 64 (List.length lx % 64) (List.length lx)) (List.length (lx ++ padB 64 (List.length lx % 64) (List.length lx)) / 64)) 8 := by rw [heo, hi8, hes, hqe, hbe]
   subst hoe
   exact ⟨_, _, rfl, Hv7526.pk [0]⟩

end Go.Proofs.YtbpihljkkkeijaaDoor
