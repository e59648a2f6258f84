import Derived.Test.YtpfhmbbiadpbeaaGreatVp11
import Derived.Test.YtpfhmbbiadpbeaaGreatVp2
import Derived.Test.YtpfhmbbiadpbeaaGreatVp7
import Derived.Test.YtpfhmbbiadpbeaaGreatVp1
open List renaming getD → zb, replicate → zd, length → zf, length_replicate → zh, set → zt, length_append → zE, length_cons → zL, length_nil → Zb
open Go.Dbr renaming then_normal → ze, region_from → zj, run_indexarr → zs, block_normal → zw, run_indexsl → zy, then_exit → zF, block_exit → zX, run_load1 → Zt, op_append → ZA, bys_one → ZG, d_ret1 → ZH, u32s_getD → ZL, bys_append → ZM, loop_m → ZT, bys_getD → Z0, bys_len → Z9, u32s → Qf, u32_xor → Qj, u32_add → Qu, bys_length → Q2, bys_in → Ye, uv32 → Yf, bys_vnz → Yk, op_lit → Yn, bys_replicate → YL, bys_set → YO, u32s_lenh → YY, op_makeslice → YZ, some_of → Y0, u32_shr → Jv, u32_and → Jw, u8_to_u32 → JG, u32_to_u8 → JH, op_storeel → J3, u32_or → Xm, u8_xor → Xn, run_loadel → Xw, u32_shl → XX, u32s_one → Kc, u32s_set → Kr
open UInt64 renaming ofNat → zi, toUInt8 → QF
open Go.Proofs.Tryz renaming prog → zB
open UInt32 renaming ofNat → zH, toUInt8 → Zp
open Nat renaming mul_one → zI
open Go.Dbr.Ev renaming drew → zN
open UInt8 renaming toUInt32 → Zo
open Go.Dbr.Reads renaming src → Zz
open Go.Dbr.Env renaming fx → Q5
set_option maxRecDepth 100000
set_option maxHeartbeats 2000000
set_option linter.unusedVariables false
set_option linter.unusedSimpArgs false
namespace Go.Proofs.YtpfhmbbiadpbeaaGreat
open Go.Dbr
theorem padW_go (w : World) (ax : Option Addr) (nx cx : Nat) (lx : List UInt8) (ex : nx = zf lx) (ix : InB w [] ax cx lx) (hB : zf lx ≤ 1000) : Calls zB 98 #[.slice ax nx cx, .int .i64 64] w fun e w' => ∃ ao co l, e = .returned (.slice ao (zf l) co) ∧ Ev w [] w' [.vec ao co 1 (bys l) 5] ∧ zf l % 64 = 0 ∧ zf l ≤ zf lx + 73 := by
 subst ex
 have hs := ix.small
 have hcx := ix.cap
 refine d_0 [(0, .slice ax (zf lx) cx), (1, .int .i64 64)] 52 Tryz.func98 Tryz.ntmps98 (Heap.nil _) fun E1 E2 E3 => d_s [0,1,4] [] E2 fun _ E4 => wp_seq <| zj <| f_o <| Yn (d := some 9) (t := 25) (T := 5) (m := 0) (parts := #[]) (xs := bys []) (sz := 1) E4 (by kernel_rfl) (by kernel_rfl) rfl (by decide) E3 ?_
 intro _ _ bk3 E5 EZ
 refine d_k [0,1,4,9,10] [] 2 E5 fun _ E6 => f_o ?_
 have E0 := ix.small
 refine ZA (d := some 11) (t := 25) (tx := 25) (ty := 25) (k := 0) (p := 0) (m := zf lx) (x := .slice ax (zf lx) cx) (bytes := 1) E6 (by kernel_rfl) EZ rfl rfl (Zz (size := 1) (tx := 25) (e' := 5) (by kernel_rfl) (ix.ev EZ).reads (Z9 _) ix.nz (ZG _)) (by kernel_rfl) (z := .int .u8 0) (by kernel_rfl) rfl (by decide) (by omega) (by unfold maxLen; omega) ?_
 intro _ _ E7 E8 Ec Ed hnz _
 clear hnz
 rw [bys_nil_append] at Ed
 have Ee : 0 + (zf lx) = zf lx := (by first | (simp; done) | (simp; omega) | omega)
 rw [Ee] at Ec
 refine f_o <| Yn (d := some 12) (t := 25) (T := 5) (m := 1) (parts := #[(0, .int .u8 128)]) (xs := bys [(128 : UInt8)]) (sz := 1) Ec (by kernel_rfl) (by kernel_rfl) rfl (by decide) Ed ?_
 intro _ _ Ex Ey Ef
 refine f_o <| ZA (d := some 13) (t := 25) (tx := 25) (ty := 25) (k := 0) (p := zf lx) (m := 1) (x := .slice (some ⟨Ex, 0, none⟩) 1 1) (bytes := 1) Ey (by kernel_rfl) Ef rfl (Z9 _) (Zz (size := 1) (tx := 25) (e' := 5) (by kernel_rfl) (Ef.heap.reads (k := 1) rfl) rfl (fun e => by cases e) (ZG _)) (by kernel_rfl) (z := .int .u8 0) (by kernel_rfl) rfl (by decide) (by omega) (by unfold maxLen; omega) ?_
 intro _ _ Ez EA Eg Eh hnz _
 clear hnz
 rw [← ZM] at Eh
 have Ei : (zf lx) + 1 = zf (lx ++ [(128 : UInt8)]) := (by first | (simp; done) | (simp; omega) | omega)
 rw [Ei] at Eg
 refine d_e [0,1,4,5] [] Eg fun _ EB => ?_
 refine ze <| wp_seq <| wp_block <| ZT (fun EC ac wo => ∃ (ae : Option Addr) (ce : Nat) (el : List UInt8), EC = ((120 - zf el % 64) % 64 : Nat) ∧ Env ac 52 [(0, .slice ax (zf lx) cx), (1, .int .i64 64), (4, .slice none 0 0), (5, .slice ae (zf el) ce)] ∧ Ev w [] wo [.vec ae ce 1 (bys el) 5] ∧ (zf el + (120 - zf el % 64) % 64 ≤ zf lx + 65)) ⟨_, Ez, EA, lx ++ [(128 : UInt8)], rfl, EB.sb, Eh.pk [0], (by first | omega | (simp only [zE, zL, Zb]; omega))⟩ ?_
 rintro E9 _ _ ⟨ae, ce, el, rfl, ED, Ej, hb⟩
 refine wp_seq <| d_s [0,1,4,5,22] [(3, g_i .i64 (show Int.tmod ((zf el : Nat) : Int) (64 : Int) = (((zf el) % 64 : Nat) : Int) from Go.Dbr.i64_rem_nat (a := ((zf el : Nat) : Int)) (n := zf el) (m := 64) rfl (by omega)))] ED fun _ Ea => ?_
 refine c_n (((zf el) % 64 : Nat) : Int) (56 : Int) Ea (fun EE => ?_) (fun EE => ?_)
 ·
  refine wp_skip <| ze <| wp_block <| zj <| d_k [0,1,4,5,23] [] 1 Ea fun _ EF => f_o <| Yn (d := some 24) (t := 25) (T := 5) (m := 1) (parts := #[(0, .int .u8 0)]) (xs := bys [(0 : UInt8)]) (sz := 1) EF (by kernel_rfl) (by kernel_rfl) rfl (by decide) Ej ?_
  intro _ _ EG EH Ek
  refine f_o <| ZA (d := some 25) (t := 25) (tx := 25) (ty := 25) (k := 0) (p := zf el) (m := 1) (x := .slice (some ⟨EG, 0, none⟩) 1 1) (bytes := 1) EH (by kernel_rfl) Ek rfl (Z9 _) (Zz (size := 1) (tx := 25) (e' := 5) (by kernel_rfl) (Ek.heap.reads (k := 1) rfl) rfl (fun e => by cases e) (ZG _)) (by kernel_rfl) (z := .int .u8 0) (by kernel_rfl) rfl (by decide) (by omega) (by unfold maxLen; omega) ?_
  intro _ _ EI EJ El Em hnz _
  clear hnz
  rw [← ZM] at Em
  have En : (zf el) + 1 = zf (el ++ [(0 : UInt8)]) := (by first | (simp; done) | (simp; omega) | omega)
  rw [En] at El
  refine d_e [0,1,4,5] [] El fun _ EK => zw <| ze <| ⟨_, ⟨EI, EJ, (el ++ [(0 : UInt8)]), rfl, EK.sb, Em.pk [0], (by first | omega | (simp only [zE, zL, Zb]; omega))⟩, ?_⟩
  first | omega | (simp only [zE, zL, Zb]; omega)
 refine wp_exit <| zF <| zF <| zX <| ze <| wp_seq <| d_s [0,1,4,5,6] [] Ea fun _ EL => ?_
 refine wp_block <| loop_enter ?_
 refine loop_once <| wp_seq <| d_s [0,1,4,5,6,29] [] EL fun _ Eo => c_f Eo ?_
 refine wp_exit <| zF <| zF <| zX <| ze <| d_s [0,1,4,5,6,7] [(2, g_i .u64 (Go.Dbr.nat_to_u64 (a := ((zf lx : Nat) : Int)) (n := zf lx) rfl)), (3, g_i .u64 (Go.Dbr.u64_mul (x := zi (zf lx)) (y := (8 : UInt64)) rfl rfl))] Eo fun _ EM => wp_seq <| d_s [0,1,4,5,6,7,8] [] EM fun _ EN => ?_
 refine wp_block <| ZT (fun EO ac wo => ∃ (j : Nat) (ae : Option Addr) (ce : Nat) (el : List UInt8), EO = (8 - j : Nat) ∧ Env ac 52 [(0, .slice ax (zf lx) cx), (1, .int .i64 64), (4, .slice none 0 0), (5, .slice ae (zf el) ce), (6, .int .i64 8), (7, uv64 ((zi (zf lx)) * (8 : UInt64))), (8, .int .i64 ((7 : Int) - ((j : Nat) : Int)))] ∧ Ev w [] wo [.vec ae ce 1 (bys el) 5] ∧ (j ≤ 8) ∧ ((zf el + 8 - j) % 64 = 0) ∧ (zf el ≤ zf lx + 65 + j)) ⟨_, 0, ae, ce, el, rfl, EN.sb, Ej.pk [0], (by first | omega | (simp only [zE, zL, Zb]; omega)), (by first | omega | (simp only [zE, zL, Zb]; omega)), (by first | omega | (simp only [zE, zL, Zb]; omega))⟩ ?_
 rintro Ha _ _ ⟨j, ae, ce, el, rfl, EP, Ep, hj, h56, Hb⟩
 refine wp_seq <| d_s [0,1,4,5,6,7,8,40] [] EP fun _ Eb => ?_
 refine c_d ((7 : Int) - ((j : Nat) : Int) ≥ (0 : Int)) Eb (fun EQ => ?_) (fun EQ => ?_)
 ·
  refine wp_skip <| ze <| wp_seq <| wp_block <| zj <| d_k [0,1,4,5,6,7,8,43,44,46] [(2, g_i .i64 (show (7 : Int) - ((j : Nat) : Int) = ((7 - j : Nat) : Int) from by omega)), (3, g_n (w_m 8 (7 - j)))] 4 Eb fun _ ER => f_o <| q_v ER (Go.Dbr.run_shr_u64 ((zi (zf lx)) * (8 : UInt64)) .i64 (8 * (7 - j)) (by omega) _) fun _ ES => d_k [0,1,4,5,6,7,8,43,48] [(5, g_i .u8 (Go.Dbr.u64_to_u8 (x := ((zi (zf lx)) * (8 : UInt64)) >>> zi (8 * (7 - j))) rfl))] 6 ES fun _ ET => f_o <| Yn (d := some 49) (t := 25) (T := 5) (m := 1) (parts := #[(0, bv (QF (((zi (zf lx)) * (8 : UInt64)) >>> zi (8 * (7 - j)))))]) (xs := bys [QF (((zi (zf lx)) * (8 : UInt64)) >>> zi (8 * (7 - j)))]) (sz := 1) ET (by kernel_rfl) (by kernel_rfl) rfl (by decide) Ep ?_
  intro _ _ EU EV Eq
  refine f_o <| ZA (d := some 50) (t := 25) (tx := 25) (ty := 25) (k := 0) (p := zf el) (m := 1) (x := .slice (some ⟨EU, 0, none⟩) 1 1) (bytes := 1) EV (by kernel_rfl) Eq rfl (Z9 _) (Zz (size := 1) (tx := 25) (e' := 5) (by kernel_rfl) (Eq.heap.reads (k := 1) rfl) rfl (fun e => by cases e) (ZG _)) (by kernel_rfl) (z := .int .u8 0) (by kernel_rfl) rfl (by decide) (by omega) (by unfold maxLen; omega) ?_
  intro _ _ EW EX Er Es hnz _
  clear hnz
  rw [← ZM] at Es
  have Et : (zf el) + 1 = zf (el ++ [QF (((zi (zf lx)) * (8 : UInt64)) >>> zi (8 * (7 - j)))]) := (by first | (simp; done) | (simp; omega) | omega)
  rw [Et] at Er
  refine d_e [0,1,4,5,6,7,8] [] Er fun _ EY => zw <| ze <| d_r [0,1,4,5,6,7,8] [(1, g_n (w_r (e := ((7 : Int) - ((j : Nat) : Int)) - (1 : Int)) (x := (7 : Int) - ((j + 1 : Nat) : Int)) (by omega)))] EY fun _ Eu => ze <| ⟨_, ⟨j + 1, EW, EX, (el ++ [QF (((zi (zf lx)) * (8 : UInt64)) >>> zi (8 * (7 - j)))]), rfl, Eu.sb, Es.pk [0], (by first | omega | (simp only [zE, zL, Zb]; omega)), (by first | omega | (simp only [zE, zL, Zb]; omega)), (by first | omega | (simp only [zE, zL, Zb]; omega))⟩, ?_⟩
  first | omega | (simp only [zE, zL, Zb]; omega)
 refine wp_exit <| zF <| zF <| zX <| ze <| d_s [0,1,4,5,6,7,8] [] Eb fun _ Ew => wp_ret <| ZH (t := 4) (v := .slice ae (zf el) ce) Ew (by kernel_rfl) (by kernel_rfl) ?_
 exact ⟨_, _, el, rfl, Ep.pk [0], by omega, by omega⟩
def rotW (x : UInt32) (n : Nat) : UInt32 := (x >>> zH n) ||| (x <<< zH (32 - n))
theorem turnW_go (w : World) (x : UInt32) (n : Nat) (h0 : 0 < n) (hn : n < 32) : Calls zB 99 #[Yf x, ni n] w fun e w' => e = .returned (Yf (rotW x n)) ∧ Ev w [] w' [] := by
 refine d_0 [(0, Yf x), (1, ni n)] 13 Tryz.func99 Tryz.ntmps99 (Heap.nil _) fun Ei Ej Eh => d_s [0,1,4] [] Ej fun _ Ek => ?_
 refine wp_seq <| r_c (fun ac wo => Env ac 13 [(4, Yf ((x >>> zH n) ||| (x <<< zH (32 - n))))] ∧ Ev w [] wo []) ?_ ?_
 ·
  refine draw_any (by kernel_rfl) 9 (by kernel_rfl) ?_
  have El := Eh.trans (zN Eh.heap)
  refine q_a [0,1] [] 7 Ek fun _ Ea => q_g 2 Ea (fun _ => Go.Dbr.run_shr_u32 x .i64 n (by omega) _) fun _ Eb => q_a [3,4,5] [(5, g_n (w_r (e := (32 : Int) - ((n : Nat) : Int)) (x := ((32 - n : Nat) : Int)) (by omega)))] 3 Eb fun _ Ec => q_g 6 Ec (fun _ => Go.Dbr.run_shl_u32 x .i64 (32 - n) (by omega) _) fun _ Ed => q_a [7,8] [(7, g_i .u32 (Xm (x := x >>> zH n) (y := x <<< zH (32 - n)) rfl rfl))] 0 Ed fun _ Ee => ?_
  exact a_e ⟨Ee.sb, El.pk []⟩
 rintro _ _ ⟨Ef, Eg⟩
 refine ze <| wp_ret <| ZH (t := 4) (v := Yf ((x >>> zH n) ||| (x <<< zH (32 - n)))) Ef (by kernel_rfl) (by kernel_rfl) ?_
 exact ⟨rfl, Eg.pk []⟩
theorem seg_any {l : List UInt32} {n : Nat} (h : l.length = n) : ∃ m : List UInt32, m = l ∧ m.length = n := ⟨l, rfl, h⟩
theorem sumW_go (w : World) (ax : Option Addr) (nx cx : Nat) (lx : List UInt8) (ex : nx = zf lx) (ix : InB w [] ax cx lx) (hB : zf lx ≤ 1000) : Calls zB 96 #[.slice ax nx cx] w fun e w' => ∃ ao co l, e = .returned (.slice ao (zf l) co) ∧ Ev w [] w' [.vec ao co 1 (bys l) 5] ∧ zf l = 32 := by
 subst ex
 have hs := ix.small
 have hcx := ix.cap
 refine d_0 [(0, .slice ax (zf lx) cx)] 232 Tryz.func96 Tryz.ntmps96 (Heap.nil _) fun cK cL cM => d_s [0,2] [] cL fun _ cN => wp_seq <| zj <| d_k [0,2,21] [] 1 cN fun _ cO => f_o <| m_z 113 (Qf (zd 64 0)) cO cM fun _ _ Ek cP cQ => f_o <| m_gw 0 64 (Qf ([1116352408, 1899447441, 3049323471, 3921009573, 961987163, 1508970993, 2453635748, 2870763221, 3624381080, 310598401, 607225278, 1426881987, 1925078388, 2162078206, 2614888103, 3248222580, 3835390401, 4022224774, 264347078, 604807628, 770255983, 1249150122, 1555081692, 1996064986, 2554220882, 2821834349, 2952996808, 3210313671, 3336571891, 3584528711, 113926993, 338241895, 666307205, 773529912, 1294757372, 1396182291, 1695183700, 1986661051, 2177026350, 2456956037, 2730485921, 2820302411, 3259730800, 3345764771, 3516065817, 3600352804, 4094571909, 275423344, 430227734, 506948616, 659060556, 883997877, 958139571, 1322822218, 1537002063, 1747873779, 1955562222, 2024104815, 2227730452, 2361852424, 2428436474, 2756734187, 3204031479, 3329325298] : List UInt32)) _ cP cQ rfl (YY (show zf ([1116352408, 1899447441, 3049323471, 3921009573, 961987163, 1508970993, 2453635748, 2870763221, 3624381080, 310598401, 607225278, 1426881987, 1925078388, 2162078206, 2614888103, 3248222580, 3835390401, 4022224774, 264347078, 604807628, 770255983, 1249150122, 1555081692, 1996064986, 2554220882, 2821834349, 2952996808, 3210313671, 3336571891, 3584528711, 113926993, 338241895, 666307205, 773529912, 1294757372, 1396182291, 1695183700, 1986661051, 2177026350, 2456956037, 2730485921, 2820302411, 3259730800, 3345764771, 3516065817, 3600352804, 4094571909, 275423344, 430227734, 506948616, 659060556, 883997877, 958139571, 1322822218, 1537002063, 1747873779, 1955562222, 2024104815, 2227730452, 2361852424, 2428436474, 2756734187, 3204031479, 3329325298] : List UInt32) = 64 from rfl)) (YY (zh)) (Kc _) rfl fun _ _ cj bG => f_e ?_
 obtain ⟨KK, heKK, hlKK⟩ := seg_any (show zf (([1116352408, 1899447441, 3049323471, 3921009573, 961987163, 1508970993, 2453635748, 2870763221, 3624381080, 310598401, 607225278, 1426881987, 1925078388, 2162078206, 2614888103, 3248222580, 3835390401, 4022224774, 264347078, 604807628, 770255983, 1249150122, 1555081692, 1996064986, 2554220882, 2821834349, 2952996808, 3210313671, 3336571891, 3584528711, 113926993, 338241895, 666307205, 773529912, 1294757372, 1396182291, 1695183700, 1986661051, 2177026350, 2456956037, 2730485921, 2820302411, 3259730800, 3345764771, 3516065817, 3600352804, 4094571909, 275423344, 430227734, 506948616, 659060556, 883997877, 958139571, 1322822218, 1537002063, 1747873779, 1955562222, 2024104815, 2227730452, 2361852424, 2428436474, 2756734187, 3204031479, 3329325298] : List UInt32)) = 64 from (show zf ([1116352408, 1899447441, 3049323471, 3921009573, 961987163, 1508970993, 2453635748, 2870763221, 3624381080, 310598401, 607225278, 1426881987, 1925078388, 2162078206, 2614888103, 3248222580, 3835390401, 4022224774, 264347078, 604807628, 770255983, 1249150122, 1555081692, 1996064986, 2554220882, 2821834349, 2952996808, 3210313671, 3336571891, 3584528711, 113926993, 338241895, 666307205, 773529912, 1294757372, 1396182291, 1695183700, 1986661051, 2177026350, 2456956037, 2730485921, 2820302411, 3259730800, 3345764771, 3516065817, 3600352804, 4094571909, 275423344, 430227734, 506948616, 659060556, 883997877, 958139571, 1322822218, 1537002063, 1747873779, 1955562222, 2024104815, 2227730452, 2361852424, 2428436474, 2756734187, 3204031479, 3329325298] : List UInt32) = 64 from rfl))
 rw [← heKK] at bG
 refine ze <| wp_seq <| zj <| d_k [0,2,3,22] [] 1 cj fun _ ck => f_o <| m_z 114 (Qf (zd 8 0)) ck bG fun _ _ Ed cl cm => f_o <| m_gw 1 8 (Qf ([1779033703, 3144134277, 1013904242, 2773480762, 1359893119, 2600822924, 528734635, 1541459225] : List UInt32)) [.box Ek (Qf KK) 113, .box Ed (Qf ([1779033703, 3144134277, 1013904242, 2773480762, 1359893119, 2600822924, 528734635, 1541459225] : List UInt32)) 114] cl cm rfl (YY (show zf ([1779033703, 3144134277, 1013904242, 2773480762, 1359893119, 2600822924, 528734635, 1541459225] : List UInt32) = 8 from rfl)) (YY (zh)) (Kc _) rfl fun _ _ cn E0 => f_e ?_
 obtain ⟨s0, hes0, hls0⟩ := seg_any (show zf (([1779033703, 3144134277, 1013904242, 2773480762, 1359893119, 2600822924, 528734635, 1541459225] : List UInt32)) = 8 from (show zf ([1779033703, 3144134277, 1013904242, 2773480762, 1359893119, 2600822924, 528734635, 1541459225] : List UInt32) = 8 from rfl))
 rw [← hes0] at E0
 refine ze <| wp_seq <| zj <| d_k [0,2,3,4,23] [] 1 cn fun _ cp => f_o <| c_0 cp E0 (padW_go _ ax (zf lx) cx lx (by first | rfl | (simp; done) | (simp; omega) | omega) ((ix.ev E0).pick [] (by kernel_rfl)) hB) ?_
 rintro _ _ ⟨Eb, Ec, bl, rfl, cq, hbm, hbl⟩
 refine ⟨_, _, _, rfl, cq, rfl, fun _ cr cs => ?_⟩
 refine d_e [0,2,3,4] [] cr fun _ ct => ze <| wp_seq <| d_s [0,2,3,4,5] [] ct fun _ cu => ?_
 refine wp_block <| ZT (fun cv ac wo => ∃ (q : Nat) (sx : List UInt32), cv = (zf bl - 64 * q : Nat) ∧ Env ac 232 [(0, .slice Eb (zf bl) Ec), (2, .slice none 0 0), (3, pt Ek), (4, pt Ed), (5, ni (64 * q))] ∧ Ev w [] wo [.box Ed (Qf sx) 114, .vec Eb Ec 1 (bys bl) 5, .box Ek (Qf KK) 113] ∧ (64 * q ≤ zf bl) ∧ (zf sx = 8)) ⟨_, 0, s0, rfl, cu.sb, cs.pk [2, 0, 1], by omega, hls0⟩ ?_
 rintro cR _ _ ⟨q, sx, rfl, cw, bH, hq, hlx⟩
 refine wp_seq <| d_s [0,2,3,4,5,28] [] cw fun _ E1 => ?_
 refine c_d (((64 * q : Nat) : Int) < ((zf bl : Nat) : Int)) E1 (fun cy => ?_) (fun cy => ?_)
 ·
  refine wp_skip <| ze <| wp_seq <| wp_block <| wp_seq <| zj <| f_o <| m_z 113 (Qf (zd 64 0)) E1 bH fun _ _ Ee cz cA => f_e <| ze <| wp_seq <| d_s [0,2,3,4,5,6,7] [] cz fun _ cB => ?_
  refine wp_block <| ZT (fun cC ac wo => ∃ (t1 : Nat) (wa : List UInt32), cC = (16 - t1 : Nat) ∧ Env ac 232 [(0, .slice Eb (zf bl) Ec), (2, .slice none 0 0), (3, pt Ek), (4, pt Ed), (5, ni (64 * q)), (6, pt Ee), (7, ni t1)] ∧ Ev w [] wo [.box Ee (Qf wa) 113, .box Ed (Qf sx) 114, .vec Eb Ec 1 (bys bl) 5, .box Ek (Qf KK) 113] ∧ (t1 ≤ 16) ∧ (zf wa = 64)) ⟨_, 0, zd 64 0, rfl, cB.sb, cA.pk [3, 0, 1, 2], by omega, (zh)⟩ ?_
  rintro cS _ _ ⟨t1, wa, rfl, cD, E2, hiwa, hlwa⟩
  refine wp_seq <| d_s [0,2,3,4,5,6,7,32] [] cD fun _ E3 => ?_
  refine c_d (((t1 : Nat) : Int) < (16 : Int)) E3 (fun cE => ?_) (fun cE => ?_)
  ·
   refine wp_skip <| ze <| wp_seq <| wp_block <| d_s [0,2,3,4,5,6,7,8] [(2, g_n (w_m 4 t1)), (3, g_n (w_a (64 * q) (4 * t1)))] E3 fun _ cF => ?_
   refine r_c (fun ac wo => Env ac 232 [(0, .slice Eb (zf bl) Ec), (2, .slice none 0 0), (3, pt Ek), (4, pt Ed), (5, ni (64 * q)), (6, pt Ee), (7, ni t1)] ∧ Ev w [] wo [.box Ee (Qf (zt wa t1 (((((Zo (zb bl ((64 * q) + (4 * t1)) 0)) <<< zH 24) ||| ((Zo (zb bl (((64 * q) + (4 * t1)) + 1) 0)) <<< zH 16)) ||| ((Zo (zb bl (((64 * q) + (4 * t1)) + 2) 0)) <<< zH 8)) ||| (Zo (zb bl (((64 * q) + (4 * t1)) + 3) 0))))) 113, .box Ed (Qf sx) 114, .vec Eb Ec 1 (bys bl) 5, .box Ek (Qf KK) 113]) ?_ ?_
   ·
    refine h_s (fun wv => Ev w [] wv [.vec Eb Ec 1 (bys bl) 5]) [] 32 ?_
    have Ei := E2.trans (zN E2.heap)
    have EV : (64 * q) + (4 * t1) < zf bl := (by omega)
    obtain ⟨Et, EJ⟩ := Y0 (Yk Ei.heap (k := 2) rfl) EV
    refine q_s [0,1,2] [] 29 cF (Ei.pk [2]) fun _ bI => q_f 3 (s := Instr.indexAt 25 (.slice Eb (zf bl) Ec) (ni ((64 * q) + (4 * t1)))) (v := .pointer (some (Addr.add Et ((64 * q) + (4 * t1))))) bI (fun _ => zy (e := 5) (sz := 1) (j := (64 * q) + (4 * t1)) (jo := (64 * q) + (4 * t1)) EJ (by kernel_rfl) (by kernel_rfl) (by omega) EV (zI _) _) (fun _ => Ei.pk [2]) fun _ bJ => ?_
    have bK : (64 * q) + (4 * t1) < zf bl := by omega
    refine q_r 4 (s := Instr.loadAt 5 (.pointer (some (Addr.add Et ((64 * q) + (4 * t1)))))) (v := bv (zb bl ((64 * q) + (4 * t1)) 0)) bJ (fun w hS => Xw (ad := Et) (o := (64 * q) + (4 * t1)) rfl (hS.heap.reads (k := 0) rfl) EJ (Z0 bK) (by kernel_rfl)) (Ei.pk [2]) fun _ bL => ?_
    have EW : ((64 * q) + (4 * t1)) + 1 < zf bl := (by omega)
    obtain ⟨Eu, EK⟩ := Y0 (Yk Ei.heap (k := 2) rfl) EW
    refine q_s [5,6,7,8,9] [(5, g_i .u32 (JG (x := zb bl ((64 * q) + (4 * t1)) 0) rfl)), (6, g_i .u32 (XX (x := Zo (zb bl ((64 * q) + (4 * t1)) 0)) (n := 24) rfl (by decide))), (9, g_n (w_a ((64 * q) + (4 * t1)) 1))] 22 bL (Ei.pk [2]) fun _ bM => q_f 10 (s := Instr.indexAt 25 (.slice Eb (zf bl) Ec) (ni (((64 * q) + (4 * t1)) + 1))) (v := .pointer (some (Addr.add Eu (((64 * q) + (4 * t1)) + 1)))) bM (fun _ => zy (e := 5) (sz := 1) (j := ((64 * q) + (4 * t1)) + 1) (jo := ((64 * q) + (4 * t1)) + 1) EK (by kernel_rfl) (by kernel_rfl) (by omega) EW (zI _) _) (fun _ => Ei.pk [2]) fun _ bN => ?_
    have bO : ((64 * q) + (4 * t1)) + 1 < zf bl := by omega
    refine q_r 11 (s := Instr.loadAt 5 (.pointer (some (Addr.add Eu (((64 * q) + (4 * t1)) + 1))))) (v := bv (zb bl (((64 * q) + (4 * t1)) + 1) 0)) bN (fun w hS => Xw (ad := Eu) (o := ((64 * q) + (4 * t1)) + 1) rfl (hS.heap.reads (k := 0) rfl) EK (Z0 bO) (by kernel_rfl)) (Ei.pk [2]) fun _ bP => ?_
    have EX : ((64 * q) + (4 * t1)) + 2 < zf bl := (by omega)
    obtain ⟨Ew, EL⟩ := Y0 (Yk Ei.heap (k := 2) rfl) EX
    refine q_s [12,13,14,15,16,17] [(12, g_i .u32 (JG (x := zb bl (((64 * q) + (4 * t1)) + 1) 0) rfl)), (13, g_i .u32 (XX (x := Zo (zb bl (((64 * q) + (4 * t1)) + 1) 0)) (n := 16) rfl (by decide))), (14, g_i .u32 (Xm (x := (Zo (zb bl ((64 * q) + (4 * t1)) 0)) <<< zH 24) (y := (Zo (zb bl (((64 * q) + (4 * t1)) + 1) 0)) <<< zH 16) rfl rfl)), (17, g_n (w_a ((64 * q) + (4 * t1)) 2))] 14 bP (Ei.pk [2]) fun _ bQ => q_f 18 (s := Instr.indexAt 25 (.slice Eb (zf bl) Ec) (ni (((64 * q) + (4 * t1)) + 2))) (v := .pointer (some (Addr.add Ew (((64 * q) + (4 * t1)) + 2)))) bQ (fun _ => zy (e := 5) (sz := 1) (j := ((64 * q) + (4 * t1)) + 2) (jo := ((64 * q) + (4 * t1)) + 2) EL (by kernel_rfl) (by kernel_rfl) (by omega) EX (zI _) _) (fun _ => Ei.pk [2]) fun _ bR => ?_
    have bS : ((64 * q) + (4 * t1)) + 2 < zf bl := by omega
    refine q_r 19 (s := Instr.loadAt 5 (.pointer (some (Addr.add Ew (((64 * q) + (4 * t1)) + 2))))) (v := bv (zb bl (((64 * q) + (4 * t1)) + 2) 0)) bR (fun w hS => Xw (ad := Ew) (o := ((64 * q) + (4 * t1)) + 2) rfl (hS.heap.reads (k := 0) rfl) EL (Z0 bS) (by kernel_rfl)) (Ei.pk [2]) fun _ bT => ?_
    have EY : ((64 * q) + (4 * t1)) + 3 < zf bl := (by omega)
    obtain ⟨Ex, EM⟩ := Y0 (Yk Ei.heap (k := 2) rfl) EY
    refine q_s [20,21,22,23,24,25] [(20, g_i .u32 (JG (x := zb bl (((64 * q) + (4 * t1)) + 2) 0) rfl)), (21, g_i .u32 (XX (x := Zo (zb bl (((64 * q) + (4 * t1)) + 2) 0)) (n := 8) rfl (by decide))), (22, g_i .u32 (Xm (x := ((Zo (zb bl ((64 * q) + (4 * t1)) 0)) <<< zH 24) ||| ((Zo (zb bl (((64 * q) + (4 * t1)) + 1) 0)) <<< zH 16)) (y := (Zo (zb bl (((64 * q) + (4 * t1)) + 2) 0)) <<< zH 8) rfl rfl)), (25, g_n (w_a ((64 * q) + (4 * t1)) 3))] 6 bT (Ei.pk [2]) fun _ bU => q_f 26 (s := Instr.indexAt 25 (.slice Eb (zf bl) Ec) (ni (((64 * q) + (4 * t1)) + 3))) (v := .pointer (some (Addr.add Ex (((64 * q) + (4 * t1)) + 3)))) bU (fun _ => zy (e := 5) (sz := 1) (j := ((64 * q) + (4 * t1)) + 3) (jo := ((64 * q) + (4 * t1)) + 3) EM (by kernel_rfl) (by kernel_rfl) (by omega) EY (zI _) _) (fun _ => Ei.pk [2]) fun _ bV => ?_
    have bW : ((64 * q) + (4 * t1)) + 3 < zf bl := by omega
    refine q_r 27 (s := Instr.loadAt 5 (.pointer (some (Addr.add Ex (((64 * q) + (4 * t1)) + 3))))) (v := bv (zb bl (((64 * q) + (4 * t1)) + 3) 0)) bV (fun w hS => Xw (ad := Ex) (o := ((64 * q) + (4 * t1)) + 3) rfl (hS.heap.reads (k := 0) rfl) EM (Z0 bW) (by kernel_rfl)) (Ei.pk [2]) fun _ bX => q_s [28,29] [(28, g_i .u32 (JG (x := zb bl (((64 * q) + (4 * t1)) + 3) 0) rfl)), (29, g_i .u32 (Xm (x := (((Zo (zb bl ((64 * q) + (4 * t1)) 0)) <<< zH 24) ||| ((Zo (zb bl (((64 * q) + (4 * t1)) + 1) 0)) <<< zH 16)) ||| ((Zo (zb bl (((64 * q) + (4 * t1)) + 2) 0)) <<< zH 8)) (y := Zo (zb bl (((64 * q) + (4 * t1)) + 3) 0)) rfl rfl))] 2 bX (Ei.pk [2]) fun _ bY => q_f 30 (s := Instr.indexAt 113 (pt Ee) (ni t1)) (v := .pointer (some ⟨Ee, t1, none⟩)) bY (fun _ => zs (e := 112) (sz := 1) (m := 64) (j := t1) (o := t1) (by kernel_rfl) (by kernel_rfl) (by omega) (by omega) (by omega) _) (fun _ => Ei.pk [2]) fun _ bZ => q_t 31 ?_
    have b0 : t1 < zf wa := by rw [hlwa]; omega
    refine m_t 0 t1 (Yf (((((Zo (zb bl ((64 * q) + (4 * t1)) 0)) <<< zH 24) ||| ((Zo (zb bl (((64 * q) + (4 * t1)) + 1) 0)) <<< zH 16)) ||| ((Zo (zb bl (((64 * q) + (4 * t1)) + 2) 0)) <<< zH 8)) ||| (Zo (zb bl (((64 * q) + (4 * t1)) + 3) 0)))) _ bZ Ei rfl (ZL b0) (Kr _ _ _) rfl fun _ _ b1 EZ => ⟨fun _ => EZ.pk [2], ?_⟩
    exact h_e ⟨b1.sb, EZ.pk [0, 1, 2, 3]⟩
   rintro _ _ ⟨b2, b3⟩
   refine zw <| ze <| d_r [0,2,3,4,5,6,7] [(1, g_n (w_a t1 1))] b2 fun _ b4 => ze <| ⟨_, ⟨t1 + 1, (zt wa t1 (((((Zo (zb bl ((64 * q) + (4 * t1)) 0)) <<< zH 24) ||| ((Zo (zb bl (((64 * q) + (4 * t1)) + 1) 0)) <<< zH 16)) ||| ((Zo (zb bl (((64 * q) + (4 * t1)) + 2) 0)) <<< zH 8)) ||| (Zo (zb bl (((64 * q) + (4 * t1)) + 3) 0)))), rfl, b4.sb, b3.pk [0, 1, 2, 3], by omega, (List.length_set.trans hlwa)⟩, ?_⟩
   omega
  refine wp_exit <| zF <| zF <| zX <| ze <| wp_seq <| d_s [0,2,3,4,5,6,7,9] [] E3 fun _ b5 => ?_
  refine wp_block <| ZT (fun b6 ac wo => ∃ (t2 : Nat) (wb : List UInt32), b6 = (48 - t2 : Nat) ∧ Env ac 232 [(0, .slice Eb (zf bl) Ec), (2, .slice none 0 0), (3, pt Ek), (4, pt Ed), (5, ni (64 * q)), (6, pt Ee), (7, ni t1), (9, ni (16 + t2))] ∧ Ev w [] wo [.box Ee (Qf wb) 113, .box Ed (Qf sx) 114, .vec Eb Ec 1 (bys bl) 5, .box Ek (Qf KK) 113] ∧ (t2 ≤ 48) ∧ (zf wb = 64)) ⟨_, 0, wa, rfl, b5.sb, E2.pk [0, 1, 2, 3], by omega, hlwa⟩ ?_
  rintro cJ _ _ ⟨t2, wb, rfl, b7, Eo, hiwb, hlwb⟩
  refine wp_seq <| d_s [0,2,3,4,5,6,7,9,71] [] b7 fun _ EN => ?_
  refine c_d (((16 + t2 : Nat) : Int) < (64 : Int)) EN (fun b8 => ?_) (fun b8 => ?_)
  ·
   refine wp_skip <| ze <| wp_seq <| wp_block <| wp_seq <| zj <| d_k [0,2,3,4,5,6,7,9,75] [(1, g_n (w_r (e := ((16 + t2 : Nat) : Int) - (15 : Int)) (x := ((1 + t2 : Nat) : Int)) (by omega)))] 2 EN fun _ b9 => f_o <| q_v (x := Instr.indexAt 113 (pt Ee) (ni (1 + t2))) (v := .pointer (some ⟨Ee, 1 + t2, none⟩)) b9 (zs (e := 112) (sz := 1) (m := 64) (j := 1 + t2) (o := 1 + t2) (by kernel_rfl) (by kernel_rfl) (by omega) (by omega) (by omega) _) fun _ ca => f_o ?_
   have cb : 1 + t2 < zf wb := by rw [hlwb]; omega
   refine m_v 0 (1 + t2) (Yf (zb wb (1 + t2) 0)) ca Eo rfl (ZL cb) fun _ cc => d_e [0,2,3,4,5,6,7,9,10] [] cc fun _ cd => ze <| wp_seq <| zj <| d_k [0,2,3,4,5,6,7,9,10,79] [(1, g_n (w_r (e := ((16 + t2 : Nat) : Int) - (2 : Int)) (x := ((14 + t2 : Nat) : Int)) (by omega)))] 2 cd fun _ ce => f_o <| q_v (x := Instr.indexAt 113 (pt Ee) (ni (14 + t2))) (v := .pointer (some ⟨Ee, 14 + t2, none⟩)) ce (zs (e := 112) (sz := 1) (m := 64) (j := 14 + t2) (o := 14 + t2) (by kernel_rfl) (by kernel_rfl) (by omega) (by omega) (by omega) _) fun _ cf => f_o ?_
   have cg : 14 + t2 < zf wb := by rw [hlwb]; omega
   refine m_v 0 (14 + t2) (Yf (zb wb (14 + t2) 0)) cf Eo rfl (ZL cg) fun _ ch => d_e [0,2,3,4,5,6,7,9,10,11] [] ch fun _ ci => ?_
   refine ze <| r_c (fun ac wo => Env ac 232 [(0, .slice Eb (zf bl) Ec), (2, .slice none 0 0), (3, pt Ek), (4, pt Ed), (5, ni (64 * q)), (6, pt Ee), (7, ni t1), (9, ni (16 + t2))] ∧ Ev w [] wo [.box Ee (Qf (zt wb (16 + t2) ((((((rotW (zb wb (14 + t2) 0) 17) ^^^ (rotW (zb wb (14 + t2) 0) 19)) ^^^ ((zb wb (14 + t2) 0) >>> zH 10)) + (zb wb (9 + t2) 0)) + (((rotW (zb wb (1 + t2) 0) 7) ^^^ (rotW (zb wb (1 + t2) 0) 18)) ^^^ ((zb wb (1 + t2) 0) >>> zH 3))) + (zb wb t2 0)))) 113, .box Ed (Qf sx) 114, .vec Eb Ec 1 (bys bl) 5, .box Ek (Qf KK) 113]) ?_ ?_
   ·
    refine h_s (fun wv => Ev w [] wv [.box Ee (Qf wb) 113]) [29] 30 ?_
    have Em := Eo.trans (zN Eo.heap)
    refine q_s [0,1,3,6,7,9,10] [(7, g_i .u32 (Jv (x := zb wb (14 + t2) 0) (n := 10) rfl (by decide))), (10, g_n (w_r (e := ((16 + t2 : Nat) : Int) - (7 : Int)) (x := ((9 + t2 : Nat) : Int)) (by omega)))] 23 ci (Em.pk [0]) fun _ E4 => q_f 11 (s := Instr.indexAt 113 (pt Ee) (ni (9 + t2))) (v := .pointer (some ⟨Ee, 9 + t2, none⟩)) E4 (fun _ => zs (e := 112) (sz := 1) (m := 64) (j := 9 + t2) (o := 9 + t2) (by kernel_rfl) (by kernel_rfl) (by omega) (by omega) (by omega) _) (fun _ => Em.pk [0]) fun _ E5 => ?_
    have E6 : 9 + t2 < zf wb := by rw [hlwb]; omega
    refine q_r 12 (s := Instr.loadAt 112 (.pointer (some ⟨Ee, 9 + t2, none⟩))) (v := Yf (zb wb (9 + t2) 0)) E5 (fun w hS => Zt (by kernel_rfl) (hS.heap.cell (k := 0) rfl (ZL E6))) (Em.pk [0]) fun _ E7 => q_s [14,16,19,20,23,24] [(20, g_i .u32 (Jv (x := zb wb (1 + t2) 0) (n := 3) rfl (by decide))), (24, g_n (w_r (e := ((16 + t2 : Nat) : Int) - (16 : Int)) (x := ((t2 : Nat) : Int)) (by omega)))] 15 E7 (Em.pk [0]) fun _ E8 => q_f 25 (s := Instr.indexAt 113 (pt Ee) (ni t2)) (v := .pointer (some ⟨Ee, t2, none⟩)) E8 (fun _ => zs (e := 112) (sz := 1) (m := 64) (j := t2) (o := t2) (by kernel_rfl) (by kernel_rfl) (by omega) (by omega) (by omega) _) (fun _ => Em.pk [0]) fun _ E9 => ?_
    have Ha : t2 < zf wb := by rw [hlwb]; omega
    refine q_r 26 (s := Instr.loadAt 112 (.pointer (some ⟨Ee, t2, none⟩))) (v := Yf (zb wb t2 0)) E9 (fun w hS => Zt (by kernel_rfl) (hS.heap.cell (k := 0) rfl (ZL Ha))) (Em.pk [0]) fun _ Hb => q_t 2 ?_
    refine c_p Hb Em (turnW_go _ (zb wb (14 + t2) 0) 17 (by decide) (by decide)) fun _ _ Hc EO => ⟨fun _ => EO.pk [0], ?_⟩
    refine q_t 4 ?_
    refine c_p Hc EO (turnW_go _ (zb wb (14 + t2) 0) 19 (by decide) (by decide)) fun _ _ Hd Ey => ⟨fun _ => Ey.pk [0], ?_⟩
    refine q_s [5,8,13] [(5, g_i .u32 (Qj (x := rotW (zb wb (14 + t2) 0) 17) (y := rotW (zb wb (14 + t2) 0) 19) rfl rfl)), (8, g_i .u32 (Qj (x := (rotW (zb wb (14 + t2) 0) 17) ^^^ (rotW (zb wb (14 + t2) 0) 19)) (y := (zb wb (14 + t2) 0) >>> zH 10) rfl rfl)), (13, g_i .u32 (Qu (x := ((rotW (zb wb (14 + t2) 0) 17) ^^^ (rotW (zb wb (14 + t2) 0) 19)) ^^^ ((zb wb (14 + t2) 0) >>> zH 10)) (y := zb wb (9 + t2) 0) rfl rfl))] 8 Hd (Ey.pk [0]) fun _ He => q_t 15 ?_
    refine c_p He Ey (turnW_go _ (zb wb (1 + t2) 0) 7 (by decide) (by decide)) fun _ _ Hf EP => ⟨fun _ => EP.pk [0], ?_⟩
    refine q_t 17 ?_
    refine c_p Hf EP (turnW_go _ (zb wb (1 + t2) 0) 18 (by decide) (by decide)) fun _ _ Hg Ep => ⟨fun _ => Ep.pk [0], ?_⟩
    refine q_s [18,21,22,27] [(18, g_i .u32 (Qj (x := rotW (zb wb (1 + t2) 0) 7) (y := rotW (zb wb (1 + t2) 0) 18) rfl rfl)), (21, g_i .u32 (Qj (x := (rotW (zb wb (1 + t2) 0) 7) ^^^ (rotW (zb wb (1 + t2) 0) 18)) (y := (zb wb (1 + t2) 0) >>> zH 3) rfl rfl)), (22, g_i .u32 (Qu (x := (((rotW (zb wb (14 + t2) 0) 17) ^^^ (rotW (zb wb (14 + t2) 0) 19)) ^^^ ((zb wb (14 + t2) 0) >>> zH 10)) + (zb wb (9 + t2) 0)) (y := ((rotW (zb wb (1 + t2) 0) 7) ^^^ (rotW (zb wb (1 + t2) 0) 18)) ^^^ ((zb wb (1 + t2) 0) >>> zH 3)) rfl rfl)), (27, g_i .u32 (Qu (x := ((((rotW (zb wb (14 + t2) 0) 17) ^^^ (rotW (zb wb (14 + t2) 0) 19)) ^^^ ((zb wb (14 + t2) 0) >>> zH 10)) + (zb wb (9 + t2) 0)) + (((rotW (zb wb (1 + t2) 0) 7) ^^^ (rotW (zb wb (1 + t2) 0) 18)) ^^^ ((zb wb (1 + t2) 0) >>> zH 3))) (y := zb wb t2 0) rfl rfl))] 2 Hg (Ep.pk [0]) fun _ Hh => q_f 28 (s := Instr.indexAt 113 (pt Ee) (ni (16 + t2))) (v := .pointer (some ⟨Ee, 16 + t2, none⟩)) Hh (fun _ => zs (e := 112) (sz := 1) (m := 64) (j := 16 + t2) (o := 16 + t2) (by kernel_rfl) (by kernel_rfl) (by omega) (by omega) (by omega) _) (fun _ => Ep.pk [0]) fun _ Hi => q_t 29 ?_
    have Hj : 16 + t2 < zf wb := by rw [hlwb]; omega
    refine m_t 0 (16 + t2) (Yf ((((((rotW (zb wb (14 + t2) 0) 17) ^^^ (rotW (zb wb (14 + t2) 0) 19)) ^^^ ((zb wb (14 + t2) 0) >>> zH 10)) + (zb wb (9 + t2) 0)) + (((rotW (zb wb (1 + t2) 0) 7) ^^^ (rotW (zb wb (1 + t2) 0) 18)) ^^^ ((zb wb (1 + t2) 0) >>> zH 3))) + (zb wb t2 0))) [.box Ee (Qf (zt wb (16 + t2) ((((((rotW (zb wb (14 + t2) 0) 17) ^^^ (rotW (zb wb (14 + t2) 0) 19)) ^^^ ((zb wb (14 + t2) 0) >>> zH 10)) + (zb wb (9 + t2) 0)) + (((rotW (zb wb (1 + t2) 0) 7) ^^^ (rotW (zb wb (1 + t2) 0) 18)) ^^^ ((zb wb (1 + t2) 0) >>> zH 3))) + (zb wb t2 0)))) 113, .box Ed (Qf sx) 114, .vec Eb Ec 1 (bys bl) 5, .box Ek (Qf KK) 113] Hi Ep rfl (ZL Hj) (Kr _ _ _) rfl fun _ _ Hk Hl => ⟨q_y, ?_⟩
    exact h_e ⟨Hk.sb, Hl.pk [0, 1, 2, 3]⟩
   rintro _ _ ⟨Hm, Hn⟩
   refine zw <| ze <| d_r [0,2,3,4,5,6,7,9] [(1, g_n (w_a (16 + t2) 1))] Hm fun _ Ho => ze <| ⟨_, ⟨t2 + 1, (zt wb (16 + t2) ((((((rotW (zb wb (14 + t2) 0) 17) ^^^ (rotW (zb wb (14 + t2) 0) 19)) ^^^ ((zb wb (14 + t2) 0) >>> zH 10)) + (zb wb (9 + t2) 0)) + (((rotW (zb wb (1 + t2) 0) 7) ^^^ (rotW (zb wb (1 + t2) 0) 18)) ^^^ ((zb wb (1 + t2) 0) >>> zH 3))) + (zb wb t2 0))), rfl, Ho.sb, Hn.pk [0, 1, 2, 3], by omega, (List.length_set.trans hlwb)⟩, ?_⟩
   omega
  refine wp_exit <| zF <| zF <| zX <| ze <| wp_seq <| zj <| f_o <| m_aw 1 8 (Qf sx) EN Eo rfl (YY hlx) fun _ Hp => f_o <| m_z 114 (Qf (zd 8 0)) Hp Eo fun _ _ Ea Hq Hr => f_o <| m_gw 4 8 (Qf sx) _ Hq Hr rfl (YY hlx) (YY (zh)) (Kc _) rfl fun _ _ Hs Ht => f_e <| ze <| wp_seq <| d_s [0,2,3,4,5,6,7,9,12,13] [] Hs fun _ Hu => ?_
  refine wp_block <| ZT (fun Hv ac wo => ∃ (t3 : Nat) (va : List UInt32), Hv = (64 - t3 : Nat) ∧ Env ac 232 [(0, .slice Eb (zf bl) Ec), (2, .slice none 0 0), (3, pt Ek), (4, pt Ed), (5, ni (64 * q)), (6, pt Ee), (7, ni t1), (9, ni (16 + t2)), (12, pt Ea), (13, ni t3)] ∧ Ev w [] wo [.box Ea (Qf va) 114, .box Ee (Qf wb) 113, .box Ed (Qf sx) 114, .vec Eb Ec 1 (bys bl) 5, .box Ek (Qf KK) 113] ∧ (t3 ≤ 64) ∧ (zf va = 8)) ⟨_, 0, sx, rfl, Hu.sb, Ht.pk [4, 0, 1, 2, 3], by omega, hlx⟩ ?_
  rintro cG _ _ ⟨t3, va, rfl, Hw, En, hiva, hlva⟩
  refine wp_seq <| d_s [0,2,3,4,5,6,7,9,12,13,113] [] Hw fun _ Ez => ?_
  refine c_d (((t3 : Nat) : Int) < (64 : Int)) Ez (fun Hx => ?_) (fun Hx => ?_)
  ·
   refine wp_skip <| ze <| wp_seq <| wp_block <| wp_seq <| zj <| d_k [0,2,3,4,5,6,7,9,12,13,116] [] 1 Ez fun _ Hy => f_o ?_
   have Hz : 0 < zf va := by rw [hlva]; omega
   refine m_v 0 0 (Yf (zb va 0 0)) Hy En rfl (ZL Hz) fun _ HA => d_e [0,2,3,4,5,6,7,9,12,13,14] [] HA fun _ HB => ze <| wp_seq <| zj <| d_k [0,2,3,4,5,6,7,9,12,13,14,118] [] 1 HB fun _ HC => f_o ?_
   have HD : 4 < zf va := by rw [hlva]; omega
   refine m_v 0 4 (Yf (zb va 4 0)) HC En rfl (ZL HD) fun _ HE => d_e [0,2,3,4,5,6,7,9,12,13,14,15] [] HE fun _ HF => ?_
   refine ze <| wp_seq <| r_c (fun ac wo => Env ac 232 [(0, .slice Eb (zf bl) Ec), (2, .slice none 0 0), (3, pt Ek), (4, pt Ed), (5, ni (64 * q)), (6, pt Ee), (7, ni t1), (9, ni (16 + t2)), (12, pt Ea), (13, ni t3), (14, Yf (zb va 0 0)), (15, Yf (zb va 4 0)), (16, Yf (((((zb va 7 0) + (((rotW (zb va 4 0) 6) ^^^ (rotW (zb va 4 0) 11)) ^^^ (rotW (zb va 4 0) 25))) + (((zb va 4 0) &&& (zb va 5 0)) ^^^ (((4294967295 : UInt32) ^^^ (zb va 4 0)) &&& (zb va 6 0)))) + (zb KK t3 0)) + (zb wb t3 0)))] ∧ Ev w [] wo [.box Ea (Qf va) 114, .box Ee (Qf wb) 113, .box Ed (Qf sx) 114, .vec Eb Ec 1 (bys bl) 5, .box Ek (Qf KK) 113]) ?_ ?_
   ·
    refine h_s (fun wv => Ev w [] wv [.box Ea (Qf va) 114, .box Ee (Qf wb) 113, .box Ek (Qf KK) 113]) [] 31 ?_
    have Eg := En.trans (zN En.heap)
    have HG : 7 < zf va := by rw [hlva]; omega
    refine q_s [0] [] 30 HF (Eg.pk [0, 1, 4]) fun _ HH => q_r 1 (s := Instr.loadAt 112 (.pointer (some ⟨Ea, 7, none⟩))) (v := Yf (zb va 7 0)) HH (fun w hS => Zt (by kernel_rfl) (hS.heap.cell (k := 0) rfl (ZL HG))) (Eg.pk [0, 1, 4]) fun _ HI => ?_
    have HJ : 5 < zf va := by rw [hlva]; omega
    refine q_s [2,4,7,11,12] [] 24 HI (Eg.pk [0, 1, 4]) fun _ HK => q_r 13 (s := Instr.loadAt 112 (.pointer (some ⟨Ea, 5, none⟩))) (v := Yf (zb va 5 0)) HK (fun w hS => Zt (by kernel_rfl) (hS.heap.cell (k := 0) rfl (ZL HJ))) (Eg.pk [0, 1, 4]) fun _ HL => ?_
    have HM : 6 < zf va := by rw [hlva]; omega
    refine q_s [14,15,16,17] [(14, g_i .u32 (Jw (x := zb va 4 0) (y := zb va 5 0) rfl rfl)), (16, g_i .u32 (Qj (x := 4294967295) (y := zb va 4 0) rfl rfl))] 19 HL (Eg.pk [0, 1, 4]) fun _ HN => q_r 18 (s := Instr.loadAt 112 (.pointer (some ⟨Ea, 6, none⟩))) (v := Yf (zb va 6 0)) HN (fun w hS => Zt (by kernel_rfl) (hS.heap.cell (k := 0) rfl (ZL HM))) (Eg.pk [0, 1, 4]) fun _ HO => q_s [19,20,22] [(19, g_i .u32 (Jw (x := (4294967295 : UInt32) ^^^ (zb va 4 0)) (y := zb va 6 0) rfl rfl)), (20, g_i .u32 (Qj (x := (zb va 4 0) &&& (zb va 5 0)) (y := ((4294967295 : UInt32) ^^^ (zb va 4 0)) &&& (zb va 6 0)) rfl rfl))] 15 HO (Eg.pk [0, 1, 4]) fun _ HP => q_f 23 (s := Instr.indexAt 113 (pt Ek) (ni t3)) (v := .pointer (some ⟨Ek, t3, none⟩)) HP (fun _ => zs (e := 112) (sz := 1) (m := 64) (j := t3) (o := t3) (by kernel_rfl) (by kernel_rfl) (by omega) (by omega) (by omega) _) (fun _ => Eg.pk [0, 1, 4]) fun _ HQ => ?_
    have HR : t3 < zf KK := by rw [hlKK]; omega
    refine q_r 24 (s := Instr.loadAt 112 (.pointer (some ⟨Ek, t3, none⟩))) (v := Yf (zb KK t3 0)) HQ (fun w hS => Zt (by kernel_rfl) (hS.heap.cell (k := 2) rfl (ZL HR))) (Eg.pk [0, 1, 4]) fun _ HS => q_s [26] [] 12 HS (Eg.pk [0, 1, 4]) fun _ HT => q_f 27 (s := Instr.indexAt 113 (pt Ee) (ni t3)) (v := .pointer (some ⟨Ee, t3, none⟩)) HT (fun _ => zs (e := 112) (sz := 1) (m := 64) (j := t3) (o := t3) (by kernel_rfl) (by kernel_rfl) (by omega) (by omega) (by omega) _) (fun _ => Eg.pk [0, 1, 4]) fun _ HU => ?_
    have HV : t3 < zf wb := by rw [hlwb]; omega
    refine q_r 28 (s := Instr.loadAt 112 (.pointer (some ⟨Ee, t3, none⟩))) (v := Yf (zb wb t3 0)) HU (fun w hS => Zt (by kernel_rfl) (hS.heap.cell (k := 1) rfl (ZL HV))) (Eg.pk [0, 1, 4]) fun _ HW => q_t 3 ?_
    refine c_p HW Eg (turnW_go _ (zb va 4 0) 6 (by decide) (by decide)) fun _ _ HX EQ => ⟨fun _ => EQ.pk [0, 1, 4], ?_⟩
    refine q_t 5 ?_
    refine c_p HX EQ (turnW_go _ (zb va 4 0) 11 (by decide) (by decide)) fun _ _ HY EA => ⟨fun _ => EA.pk [0, 1, 4], ?_⟩
    refine q_s [6] [(6, g_i .u32 (Qj (x := rotW (zb va 4 0) 6) (y := rotW (zb va 4 0) 11) rfl rfl))] 7 HY (EA.pk [0, 1, 4]) fun _ HZ => q_t 8 ?_
    refine c_p HZ EA (turnW_go _ (zb va 4 0) 25 (by decide) (by decide)) fun _ _ H0 EB => ⟨fun _ => EB.pk [0, 1, 4], ?_⟩
    refine q_s [9,10,21,25,29,30] [(9, g_i .u32 (Qj (x := (rotW (zb va 4 0) 6) ^^^ (rotW (zb va 4 0) 11)) (y := rotW (zb va 4 0) 25) rfl rfl)), (10, g_i .u32 (Qu (x := zb va 7 0) (y := ((rotW (zb va 4 0) 6) ^^^ (rotW (zb va 4 0) 11)) ^^^ (rotW (zb va 4 0) 25)) rfl rfl)), (21, g_i .u32 (Qu (x := (zb va 7 0) + (((rotW (zb va 4 0) 6) ^^^ (rotW (zb va 4 0) 11)) ^^^ (rotW (zb va 4 0) 25))) (y := ((zb va 4 0) &&& (zb va 5 0)) ^^^ (((4294967295 : UInt32) ^^^ (zb va 4 0)) &&& (zb va 6 0))) rfl rfl)), (25, g_i .u32 (Qu (x := ((zb va 7 0) + (((rotW (zb va 4 0) 6) ^^^ (rotW (zb va 4 0) 11)) ^^^ (rotW (zb va 4 0) 25))) + (((zb va 4 0) &&& (zb va 5 0)) ^^^ (((4294967295 : UInt32) ^^^ (zb va 4 0)) &&& (zb va 6 0)))) (y := zb KK t3 0) rfl rfl)), (29, g_i .u32 (Qu (x := (((zb va 7 0) + (((rotW (zb va 4 0) 6) ^^^ (rotW (zb va 4 0) 11)) ^^^ (rotW (zb va 4 0) 25))) + (((zb va 4 0) &&& (zb va 5 0)) ^^^ (((4294967295 : UInt32) ^^^ (zb va 4 0)) &&& (zb va 6 0)))) + (zb KK t3 0)) (y := zb wb t3 0) rfl rfl))] 0 H0 (EB.pk [0, 1, 4]) fun _ H1 => ?_
    exact h_e ⟨H1.sb, EB.pk [0, 1, 2, 3, 4]⟩
   rintro _ _ ⟨H2, ER⟩
   refine ze <| wp_seq <| r_c (fun ac wo => Env ac 232 [(0, .slice Eb (zf bl) Ec), (2, .slice none 0 0), (3, pt Ek), (4, pt Ed), (5, ni (64 * q)), (6, pt Ee), (7, ni t1), (9, ni (16 + t2)), (12, pt Ea), (13, ni t3), (14, Yf (zb va 0 0)), (15, Yf (zb va 4 0)), (16, Yf (((((zb va 7 0) + (((rotW (zb va 4 0) 6) ^^^ (rotW (zb va 4 0) 11)) ^^^ (rotW (zb va 4 0) 25))) + (((zb va 4 0) &&& (zb va 5 0)) ^^^ (((4294967295 : UInt32) ^^^ (zb va 4 0)) &&& (zb va 6 0)))) + (zb KK t3 0)) + (zb wb t3 0))), (17, Yf ((((rotW (zb va 0 0) 2) ^^^ (rotW (zb va 0 0) 13)) ^^^ (rotW (zb va 0 0) 22)) + ((((zb va 0 0) &&& (zb va 1 0)) ^^^ ((zb va 0 0) &&& (zb va 2 0))) ^^^ ((zb va 1 0) &&& (zb va 2 0)))))] ∧ Ev w [] wo [.box Ea (Qf va) 114, .box Ee (Qf wb) 113, .box Ed (Qf sx) 114, .vec Eb Ec 1 (bys bl) 5, .box Ek (Qf KK) 113]) ?_ ?_
   ·
    refine h_s (fun wv => Ev w [] wv [.box Ea (Qf va) 114]) [] 25 ?_
    have Eh := ER.trans (zN ER.heap)
    have H3 : 1 < zf va := by rw [hlva]; omega
    refine q_s [0,2,5,8,9] [] 20 H2 (Eh.pk [0]) fun _ H4 => q_r 10 (s := Instr.loadAt 112 (.pointer (some ⟨Ea, 1, none⟩))) (v := Yf (zb va 1 0)) H4 (fun w hS => Zt (by kernel_rfl) (hS.heap.cell (k := 0) rfl (ZL H3))) (Eh.pk [0]) fun _ H5 => ?_
    have H6 : 2 < zf va := by rw [hlva]; omega
    refine q_s [11,12,13] [(11, g_i .u32 (Jw (x := zb va 0 0) (y := zb va 1 0) rfl rfl))] 16 H5 (Eh.pk [0]) fun _ H7 => q_r 14 (s := Instr.loadAt 112 (.pointer (some ⟨Ea, 2, none⟩))) (v := Yf (zb va 2 0)) H7 (fun w hS => Zt (by kernel_rfl) (hS.heap.cell (k := 0) rfl (ZL H6))) (Eh.pk [0]) fun _ H8 => ?_
    have H9 : 1 < zf va := by rw [hlva]; omega
    refine q_s [15,16,17] [(15, g_i .u32 (Jw (x := zb va 0 0) (y := zb va 2 0) rfl rfl)), (16, g_i .u32 (Qj (x := (zb va 0 0) &&& (zb va 1 0)) (y := (zb va 0 0) &&& (zb va 2 0)) rfl rfl))] 12 H8 (Eh.pk [0]) fun _ aa => q_r 18 (s := Instr.loadAt 112 (.pointer (some ⟨Ea, 1, none⟩))) (v := Yf (zb va 1 0)) aa (fun w hS => Zt (by kernel_rfl) (hS.heap.cell (k := 0) rfl (ZL H9))) (Eh.pk [0]) fun _ ab => ?_
    have ae : 2 < zf va := by rw [hlva]; omega
    refine q_s [19] [] 10 ab (Eh.pk [0]) fun _ af => q_r 20 (s := Instr.loadAt 112 (.pointer (some ⟨Ea, 2, none⟩))) (v := Yf (zb va 2 0)) af (fun w hS => Zt (by kernel_rfl) (hS.heap.cell (k := 0) rfl (ZL ae))) (Eh.pk [0]) fun _ ag => q_s [21,22] [(21, g_i .u32 (Jw (x := zb va 1 0) (y := zb va 2 0) rfl rfl)), (22, g_i .u32 (Qj (x := ((zb va 0 0) &&& (zb va 1 0)) ^^^ ((zb va 0 0) &&& (zb va 2 0))) (y := (zb va 1 0) &&& (zb va 2 0)) rfl rfl))] 7 ag (Eh.pk [0]) fun _ ah => q_t 1 ?_
    refine c_p ah Eh (turnW_go _ (zb va 0 0) 2 (by decide) (by decide)) fun _ _ ai ES => ⟨fun _ => ES.pk [0], ?_⟩
    refine q_t 3 ?_
    refine c_p ai ES (turnW_go _ (zb va 0 0) 13 (by decide) (by decide)) fun _ _ aj EC => ⟨fun _ => EC.pk [0], ?_⟩
    refine q_s [4] [(4, g_i .u32 (Qj (x := rotW (zb va 0 0) 2) (y := rotW (zb va 0 0) 13) rfl rfl))] 4 aj (EC.pk [0]) fun _ ak => q_t 6 ?_
    refine c_p ak EC (turnW_go _ (zb va 0 0) 22 (by decide) (by decide)) fun _ _ al ED => ⟨fun _ => ED.pk [0], ?_⟩
    refine q_s [7,23,24] [(7, g_i .u32 (Qj (x := (rotW (zb va 0 0) 2) ^^^ (rotW (zb va 0 0) 13)) (y := rotW (zb va 0 0) 22) rfl rfl)), (23, g_i .u32 (Qu (x := ((rotW (zb va 0 0) 2) ^^^ (rotW (zb va 0 0) 13)) ^^^ (rotW (zb va 0 0) 22)) (y := (((zb va 0 0) &&& (zb va 1 0)) ^^^ ((zb va 0 0) &&& (zb va 2 0))) ^^^ ((zb va 1 0) &&& (zb va 2 0))) rfl rfl))] 0 al (ED.pk [0]) fun _ am => ?_
    exact h_e ⟨am.sb, ED.pk [0, 1, 2, 3, 4]⟩
   rintro _ _ ⟨an, El⟩
   refine ze <| zj <| d_k [0,2,3,4,5,6,7,9,12,13,14,15,16,176,177,178] [(2, g_i .u32 (Qu (x := ((((zb va 7 0) + (((rotW (zb va 4 0) 6) ^^^ (rotW (zb va 4 0) 11)) ^^^ (rotW (zb va 4 0) 25))) + (((zb va 4 0) &&& (zb va 5 0)) ^^^ (((4294967295 : UInt32) ^^^ (zb va 4 0)) &&& (zb va 6 0)))) + (zb KK t3 0)) + (zb wb t3 0)) (y := (((rotW (zb va 0 0) 2) ^^^ (rotW (zb va 0 0) 13)) ^^^ (rotW (zb va 0 0) 22)) + ((((zb va 0 0) &&& (zb va 1 0)) ^^^ ((zb va 0 0) &&& (zb va 2 0))) ^^^ ((zb va 1 0) &&& (zb va 2 0)))) rfl rfl))] 5 an fun _ ap => f_o ?_
   have aq : 1 < zf va := by rw [hlva]; omega
   refine m_v 0 1 (Yf (zb va 1 0)) ap El rfl (ZL aq) fun _ ar => d_k [0,2,3,4,5,6,7,9,12,13,14,15,16,176,177,179,180] [] 7 ar fun _ au => f_o ?_
   have av : 2 < zf va := by rw [hlva]; omega
   refine m_v 0 2 (Yf (zb va 2 0)) au El rfl (ZL av) fun _ aw => d_k [0,2,3,4,5,6,7,9,12,13,14,15,16,176,177,179,181,182] [] 9 aw fun _ ay => f_o ?_
   have az : 3 < zf va := by rw [hlva]; omega
   refine m_v 0 3 (Yf (zb va 3 0)) ay El rfl (ZL az) fun _ aA => d_k [0,2,3,4,5,6,7,9,12,13,14,15,176,177,179,181,185,186,187] [(11, g_i .u32 (Qu (x := zb va 3 0) (y := ((((zb va 7 0) + (((rotW (zb va 4 0) 6) ^^^ (rotW (zb va 4 0) 11)) ^^^ (rotW (zb va 4 0) 25))) + (((zb va 4 0) &&& (zb va 5 0)) ^^^ (((4294967295 : UInt32) ^^^ (zb va 4 0)) &&& (zb va 6 0)))) + (zb KK t3 0)) + (zb wb t3 0)) rfl rfl))] 14 aA fun _ aB => f_o ?_
   have aC : 5 < zf va := by rw [hlva]; omega
   refine m_v 0 5 (Yf (zb va 5 0)) aB El rfl (ZL aC) fun _ aD => d_k [0,2,3,4,5,6,7,9,12,13,14,15,176,177,179,181,185,186,188,189] [] 16 aD fun _ aE => f_o ?_
   have aF : 6 < zf va := by rw [hlva]; omega
   refine m_v 0 6 (Yf (zb va 6 0)) aE El rfl (ZL aF) fun _ aG => d_k [0,2,3,4,5,6,7,9,12,13,14,15,191] [] 18 aG fun _ aH => f_o <| m_gw 0 8 (Qf ([(((((zb va 7 0) + (((rotW (zb va 4 0) 6) ^^^ (rotW (zb va 4 0) 11)) ^^^ (rotW (zb va 4 0) 25))) + (((zb va 4 0) &&& (zb va 5 0)) ^^^ (((4294967295 : UInt32) ^^^ (zb va 4 0)) &&& (zb va 6 0)))) + (zb KK t3 0)) + (zb wb t3 0)) + ((((rotW (zb va 0 0) 2) ^^^ (rotW (zb va 0 0) 13)) ^^^ (rotW (zb va 0 0) 22)) + ((((zb va 0 0) &&& (zb va 1 0)) ^^^ ((zb va 0 0) &&& (zb va 2 0))) ^^^ ((zb va 1 0) &&& (zb va 2 0)))), zb va 0 0, zb va 1 0, zb va 2 0, (zb va 3 0) + (((((zb va 7 0) + (((rotW (zb va 4 0) 6) ^^^ (rotW (zb va 4 0) 11)) ^^^ (rotW (zb va 4 0) 25))) + (((zb va 4 0) &&& (zb va 5 0)) ^^^ (((4294967295 : UInt32) ^^^ (zb va 4 0)) &&& (zb va 6 0)))) + (zb KK t3 0)) + (zb wb t3 0)), zb va 4 0, zb va 5 0, zb va 6 0] : List UInt32)) [.box Ea (Qf ([(((((zb va 7 0) + (((rotW (zb va 4 0) 6) ^^^ (rotW (zb va 4 0) 11)) ^^^ (rotW (zb va 4 0) 25))) + (((zb va 4 0) &&& (zb va 5 0)) ^^^ (((4294967295 : UInt32) ^^^ (zb va 4 0)) &&& (zb va 6 0)))) + (zb KK t3 0)) + (zb wb t3 0)) + ((((rotW (zb va 0 0) 2) ^^^ (rotW (zb va 0 0) 13)) ^^^ (rotW (zb va 0 0) 22)) + ((((zb va 0 0) &&& (zb va 1 0)) ^^^ ((zb va 0 0) &&& (zb va 2 0))) ^^^ ((zb va 1 0) &&& (zb va 2 0)))), zb va 0 0, zb va 1 0, zb va 2 0, (zb va 3 0) + (((((zb va 7 0) + (((rotW (zb va 4 0) 6) ^^^ (rotW (zb va 4 0) 11)) ^^^ (rotW (zb va 4 0) 25))) + (((zb va 4 0) &&& (zb va 5 0)) ^^^ (((4294967295 : UInt32) ^^^ (zb va 4 0)) &&& (zb va 6 0)))) + (zb KK t3 0)) + (zb wb t3 0)), zb va 4 0, zb va 5 0, zb va 6 0] : List UInt32)) 114, .box Ee (Qf wb) 113, .box Ed (Qf sx) 114, .vec Eb Ec 1 (bys bl) 5, .box Ek (Qf KK) 113] aH El rfl (YY (show zf ([(((((zb va 7 0) + (((rotW (zb va 4 0) 6) ^^^ (rotW (zb va 4 0) 11)) ^^^ (rotW (zb va 4 0) 25))) + (((zb va 4 0) &&& (zb va 5 0)) ^^^ (((4294967295 : UInt32) ^^^ (zb va 4 0)) &&& (zb va 6 0)))) + (zb KK t3 0)) + (zb wb t3 0)) + ((((rotW (zb va 0 0) 2) ^^^ (rotW (zb va 0 0) 13)) ^^^ (rotW (zb va 0 0) 22)) + ((((zb va 0 0) &&& (zb va 1 0)) ^^^ ((zb va 0 0) &&& (zb va 2 0))) ^^^ ((zb va 1 0) &&& (zb va 2 0)))), zb va 0 0, zb va 1 0, zb va 2 0, (zb va 3 0) + (((((zb va 7 0) + (((rotW (zb va 4 0) 6) ^^^ (rotW (zb va 4 0) 11)) ^^^ (rotW (zb va 4 0) 25))) + (((zb va 4 0) &&& (zb va 5 0)) ^^^ (((4294967295 : UInt32) ^^^ (zb va 4 0)) &&& (zb va 6 0)))) + (zb KK t3 0)) + (zb wb t3 0)), zb va 4 0, zb va 5 0, zb va 6 0] : List UInt32) = 8 from rfl)) (YY hlva) (Kc _) rfl fun _ _ aI aJ => f_e <| zw <| ze <| d_r [0,2,3,4,5,6,7,9,12,13,14,15] [(1, g_n (w_a t3 1))] aI fun _ aK => ze <| ⟨_, ⟨t3 + 1, ([(((((zb va 7 0) + (((rotW (zb va 4 0) 6) ^^^ (rotW (zb va 4 0) 11)) ^^^ (rotW (zb va 4 0) 25))) + (((zb va 4 0) &&& (zb va 5 0)) ^^^ (((4294967295 : UInt32) ^^^ (zb va 4 0)) &&& (zb va 6 0)))) + (zb KK t3 0)) + (zb wb t3 0)) + ((((rotW (zb va 0 0) 2) ^^^ (rotW (zb va 0 0) 13)) ^^^ (rotW (zb va 0 0) 22)) + ((((zb va 0 0) &&& (zb va 1 0)) ^^^ ((zb va 0 0) &&& (zb va 2 0))) ^^^ ((zb va 1 0) &&& (zb va 2 0)))), zb va 0 0, zb va 1 0, zb va 2 0, (zb va 3 0) + (((((zb va 7 0) + (((rotW (zb va 4 0) 6) ^^^ (rotW (zb va 4 0) 11)) ^^^ (rotW (zb va 4 0) 25))) + (((zb va 4 0) &&& (zb va 5 0)) ^^^ (((4294967295 : UInt32) ^^^ (zb va 4 0)) &&& (zb va 6 0)))) + (zb KK t3 0)) + (zb wb t3 0)), zb va 4 0, zb va 5 0, zb va 6 0] : List UInt32), rfl, aK.sb, aJ.pk [0, 1, 2, 3, 4], by omega, (show zf ([(((((zb va 7 0) + (((rotW (zb va 4 0) 6) ^^^ (rotW (zb va 4 0) 11)) ^^^ (rotW (zb va 4 0) 25))) + (((zb va 4 0) &&& (zb va 5 0)) ^^^ (((4294967295 : UInt32) ^^^ (zb va 4 0)) &&& (zb va 6 0)))) + (zb KK t3 0)) + (zb wb t3 0)) + ((((rotW (zb va 0 0) 2) ^^^ (rotW (zb va 0 0) 13)) ^^^ (rotW (zb va 0 0) 22)) + ((((zb va 0 0) &&& (zb va 1 0)) ^^^ ((zb va 0 0) &&& (zb va 2 0))) ^^^ ((zb va 1 0) &&& (zb va 2 0)))), zb va 0 0, zb va 1 0, zb va 2 0, (zb va 3 0) + (((((zb va 7 0) + (((rotW (zb va 4 0) 6) ^^^ (rotW (zb va 4 0) 11)) ^^^ (rotW (zb va 4 0) 25))) + (((zb va 4 0) &&& (zb va 5 0)) ^^^ (((4294967295 : UInt32) ^^^ (zb va 4 0)) &&& (zb va 6 0)))) + (zb KK t3 0)) + (zb wb t3 0)), zb va 4 0, zb va 5 0, zb va 6 0] : List UInt32) = 8 from rfl)⟩, ?_⟩
   omega
  refine wp_exit <| zF <| zF <| zX <| ze <| d_s [0,2,3,4,5,6,7,9,12,13,18] [] Ez fun _ aL => ?_
  refine wp_block <| ZT (fun aM ac wo => ∃ (t4 : Nat) (sb : List UInt32), aM = (8 - t4 : Nat) ∧ Env ac 232 [(0, .slice Eb (zf bl) Ec), (2, .slice none 0 0), (3, pt Ek), (4, pt Ed), (5, ni (64 * q)), (6, pt Ee), (7, ni t1), (9, ni (16 + t2)), (12, pt Ea), (13, ni t3), (18, ni t4)] ∧ Ev w [] wo [.box Ed (Qf sb) 114, .box Ea (Qf va) 114, .box Ee (Qf wb) 113, .vec Eb Ec 1 (bys bl) 5, .box Ek (Qf KK) 113] ∧ (t4 ≤ 8) ∧ (zf sb = 8)) ⟨_, 0, sx, rfl, aL.sb, En.pk [2, 0, 1, 3, 4], by omega, hlx⟩ ?_
  rintro cH _ _ ⟨t4, sb, rfl, aN, EE, hisb, hlsb⟩
  refine wp_seq <| d_s [0,2,3,4,5,6,7,9,12,13,18,193] [] aN fun _ EF => ?_
  refine c_d (((t4 : Nat) : Int) < (8 : Int)) EF (fun aO => ?_) (fun aO => ?_)
  ·
   refine wp_skip <| ze <| wp_seq <| wp_block <| r_c (fun ac wo => Env ac 232 [(0, .slice Eb (zf bl) Ec), (2, .slice none 0 0), (3, pt Ek), (4, pt Ed), (5, ni (64 * q)), (6, pt Ee), (7, ni t1), (9, ni (16 + t2)), (12, pt Ea), (13, ni t3), (18, ni t4)] ∧ Ev w [] wo [.box Ed (Qf (zt sb t4 ((zb sb t4 0) + (zb va t4 0)))) 114, .box Ea (Qf va) 114, .box Ee (Qf wb) 113, .vec Eb Ec 1 (bys bl) 5, .box Ek (Qf KK) 113]) ?_ ?_
   ·
    refine h_s (fun wv => Ev w [] wv [.box Ed (Qf sb) 114, .box Ea (Qf va) 114]) [9] 10 ?_
    have Ej := EE.trans (zN EE.heap)
    refine q_s [0,1] [] 8 EF (Ej.pk [0, 1]) fun _ aP => q_f 2 (s := Instr.indexAt 114 (pt Ed) (ni t4)) (v := .pointer (some ⟨Ed, t4, none⟩)) aP (fun _ => zs (e := 112) (sz := 1) (m := 8) (j := t4) (o := t4) (by kernel_rfl) (by kernel_rfl) (by omega) (by omega) (by omega) _) (fun _ => Ej.pk [0, 1]) fun _ aQ => ?_
    have aR : t4 < zf sb := by rw [hlsb]; omega
    refine q_r 3 (s := Instr.loadAt 112 (.pointer (some ⟨Ed, t4, none⟩))) (v := Yf (zb sb t4 0)) aQ (fun w hS => Zt (by kernel_rfl) (hS.heap.cell (k := 0) rfl (ZL aR))) (Ej.pk [0, 1]) fun _ aS => q_s [4] [] 5 aS (Ej.pk [0, 1]) fun _ aT => q_f 5 (s := Instr.indexAt 114 (pt Ea) (ni t4)) (v := .pointer (some ⟨Ea, t4, none⟩)) aT (fun _ => zs (e := 112) (sz := 1) (m := 8) (j := t4) (o := t4) (by kernel_rfl) (by kernel_rfl) (by omega) (by omega) (by omega) _) (fun _ => Ej.pk [0, 1]) fun _ aU => ?_
    have aV : t4 < zf va := by rw [hlva]; omega
    refine q_r 6 (s := Instr.loadAt 112 (.pointer (some ⟨Ea, t4, none⟩))) (v := Yf (zb va t4 0)) aU (fun w hS => Zt (by kernel_rfl) (hS.heap.cell (k := 1) rfl (ZL aV))) (Ej.pk [0, 1]) fun _ aW => q_s [7] [(7, g_i .u32 (Qu (x := zb sb t4 0) (y := zb va t4 0) rfl rfl))] 2 aW (Ej.pk [0, 1]) fun _ aX => q_f 8 (s := Instr.indexAt 114 (pt Ed) (ni t4)) (v := .pointer (some ⟨Ed, t4, none⟩)) aX (fun _ => zs (e := 112) (sz := 1) (m := 8) (j := t4) (o := t4) (by kernel_rfl) (by kernel_rfl) (by omega) (by omega) (by omega) _) (fun _ => Ej.pk [0, 1]) fun _ aY => q_t 9 ?_
    have aZ : t4 < zf sb := by rw [hlsb]; omega
    refine m_t 0 t4 (Yf ((zb sb t4 0) + (zb va t4 0))) _ aY Ej rfl (ZL aZ) (Kr _ _ _) rfl fun _ _ a0 a1 => ⟨q_y, ?_⟩
    exact h_e ⟨a0.sb, a1.pk [0, 1, 2, 3, 4]⟩
   rintro _ _ ⟨a2, a3⟩
   refine zw <| ze <| d_r [0,2,3,4,5,6,7,9,12,13,18] [(1, g_n (w_a t4 1))] a2 fun _ a4 => ze <| ⟨_, ⟨t4 + 1, (zt sb t4 ((zb sb t4 0) + (zb va t4 0))), rfl, a4.sb, a3.pk [0, 1, 2, 3, 4], by omega, (List.length_set.trans hlsb)⟩, ?_⟩
   omega
  refine wp_exit <| zF <| zF <| zX <| zw <| ze <| d_r [0,2,3,4,5,6,7,9,12,13,18] [(1, g_n (w_a (64 * q) 64))] EF fun _ a5 => ze <| ⟨_, ⟨q + 1, sb, rfl, a5.sb, EE.pk [0, 3, 4], by omega, hlsb⟩, ?_⟩
  omega
 refine wp_exit <| zF <| zF <| zX <| ze <| d_s [0,2,3,4,5,19] [] E1 fun _ a6 => wp_seq <| d_s [0,2,3,4,5,19,20] [] a6 fun _ a8 => wp_block ?_
 have a9 := Ev.nil (sz := 1) (T := 5) bH
 refine ZT (fun ba ac wo => ∃ (i : Nat) (a7 : Option Addr) (c7 : Nat) (ol : List UInt8), ba = (8 - i : Nat) ∧ Env ac 232 [(0, .slice Eb (zf bl) Ec), (2, .slice none 0 0), (3, pt Ek), (4, pt Ed), (5, ni (64 * q)), (19, .slice a7 (zf ol) c7), (20, ni i)] ∧ Ev w [] wo [.vec a7 c7 1 (bys ol) 5, .box Ed (Qf sx) 114, .vec Eb Ec 1 (bys bl) 5, .box Ek (Qf KK) 113] ∧ (i ≤ 8) ∧ (zf ol = 4 * i)) ⟨_, 0, none, 0, [], rfl, a8.sb, a9.pk [3, 0, 1, 2], by omega, rfl⟩ ?_
 rintro cI _ _ ⟨i, a7, c7, ol, rfl, bb, EG, hi, hol⟩
 refine wp_seq <| d_s [0,2,3,4,5,19,20,206] [] bb fun _ EH => ?_
 refine c_d (((i : Nat) : Int) < (8 : Int)) EH (fun bc => ?_) (fun bc => ?_)
 ·
  refine wp_skip <| ze <| wp_seq <| wp_block <| r_c (fun ac wo => ∃ (Eq : Option Addr) (Er : Nat), Env ac 232 [(0, .slice Eb (zf bl) Ec), (2, .slice none 0 0), (3, pt Ek), (4, pt Ed), (5, ni (64 * q)), (19, .slice Eq (zf (ol ++ [Zp ((zb sx i 0) >>> zH 24), Zp ((zb sx i 0) >>> zH 16), Zp ((zb sx i 0) >>> zH 8), Zp (zb sx i 0)])) Er), (20, ni i)] ∧ Ev w [] wo [.vec Eq Er 1 (bys (ol ++ [Zp ((zb sx i 0) >>> zH 24), Zp ((zb sx i 0) >>> zH 16), Zp ((zb sx i 0) >>> zH 8), Zp (zb sx i 0)])) 5, .box Ed (Qf sx) 114, .vec Eb Ec 1 (bys bl) 5, .box Ek (Qf KK) 113]) ?_ ?_
  ·
   refine h_s (fun wv => Ev w [] wv [.box Ed (Qf sx) 114]) [] 23 ?_
   have Ef := EG.trans (zN EG.heap)
   refine q_s [0,1] [] 21 EH (Ef.pk [1]) fun _ bd => q_f 2 (s := Instr.indexAt 114 (pt Ed) (ni i)) (v := .pointer (some ⟨Ed, i, none⟩)) bd (fun _ => zs (e := 112) (sz := 1) (m := 8) (j := i) (o := i) (by kernel_rfl) (by kernel_rfl) (by omega) (by omega) (by omega) _) (fun _ => Ef.pk [1]) fun _ be => ?_
   have bf : i < zf sx := by rw [hlx]; omega
   refine q_r 3 (s := Instr.loadAt 112 (.pointer (some ⟨Ed, i, none⟩))) (v := Yf (zb sx i 0)) be (fun w hS => Zt (by kernel_rfl) (hS.heap.cell (k := 0) rfl (ZL bf))) (Ef.pk [1]) fun _ bg => q_s [4,5,6] [(4, g_i .u32 (Jv (x := zb sx i 0) (n := 24) rfl (by decide))), (5, g_i .u8 (JH (x := (zb sx i 0) >>> zH 24) rfl))] 16 bg (Ef.pk [1]) fun _ bh => q_f 7 (s := Instr.indexAt 114 (pt Ed) (ni i)) (v := .pointer (some ⟨Ed, i, none⟩)) bh (fun _ => zs (e := 112) (sz := 1) (m := 8) (j := i) (o := i) (by kernel_rfl) (by kernel_rfl) (by omega) (by omega) (by omega) _) (fun _ => Ef.pk [1]) fun _ bi => ?_
   have bj : i < zf sx := by rw [hlx]; omega
   refine q_r 8 (s := Instr.loadAt 112 (.pointer (some ⟨Ed, i, none⟩))) (v := Yf (zb sx i 0)) bi (fun w hS => Zt (by kernel_rfl) (hS.heap.cell (k := 0) rfl (ZL bj))) (Ef.pk [1]) fun _ bk => q_s [9,10,11] [(9, g_i .u32 (Jv (x := zb sx i 0) (n := 16) rfl (by decide))), (10, g_i .u8 (JH (x := (zb sx i 0) >>> zH 16) rfl))] 11 bk (Ef.pk [1]) fun _ bm => q_f 12 (s := Instr.indexAt 114 (pt Ed) (ni i)) (v := .pointer (some ⟨Ed, i, none⟩)) bm (fun _ => zs (e := 112) (sz := 1) (m := 8) (j := i) (o := i) (by kernel_rfl) (by kernel_rfl) (by omega) (by omega) (by omega) _) (fun _ => Ef.pk [1]) fun _ bn => ?_
   have bo : i < zf sx := by rw [hlx]; omega
   refine q_r 13 (s := Instr.loadAt 112 (.pointer (some ⟨Ed, i, none⟩))) (v := Yf (zb sx i 0)) bn (fun w hS => Zt (by kernel_rfl) (hS.heap.cell (k := 0) rfl (ZL bo))) (Ef.pk [1]) fun _ bp => q_s [14,15,16] [(14, g_i .u32 (Jv (x := zb sx i 0) (n := 8) rfl (by decide))), (15, g_i .u8 (JH (x := (zb sx i 0) >>> zH 8) rfl))] 6 bp (Ef.pk [1]) fun _ bq => q_f 17 (s := Instr.indexAt 114 (pt Ed) (ni i)) (v := .pointer (some ⟨Ed, i, none⟩)) bq (fun _ => zs (e := 112) (sz := 1) (m := 8) (j := i) (o := i) (by kernel_rfl) (by kernel_rfl) (by omega) (by omega) (by omega) _) (fun _ => Ef.pk [1]) fun _ br => ?_
   have bs : i < zf sx := by rw [hlx]; omega
   refine q_r 18 (s := Instr.loadAt 112 (.pointer (some ⟨Ed, i, none⟩))) (v := Yf (zb sx i 0)) br (fun w hS => Zt (by kernel_rfl) (hS.heap.cell (k := 0) rfl (ZL bs))) (Ef.pk [1]) fun _ bt => q_s [19] [(19, g_i .u8 (JH (x := zb sx i 0) rfl))] 3 bt (Ef.pk [1]) fun _ bu => q_t 20 ?_
   refine Yn (d := some 229) (t := 25) (T := 5) (m := 4) (parts := #[(0, bv (Zp ((zb sx i 0) >>> zH 24))), (1, bv (Zp ((zb sx i 0) >>> zH 16))), (2, bv (Zp ((zb sx i 0) >>> zH 8))), (3, bv (Zp (zb sx i 0)))]) (xs := bys [Zp ((zb sx i 0) >>> zH 24), Zp ((zb sx i 0) >>> zH 16), Zp ((zb sx i 0) >>> zH 8), Zp (zb sx i 0)]) (sz := 1) bu (by kernel_rfl) (by kernel_rfl) rfl (by decide) Ef ?_
   intro _ _ bw bx EI
   refine ⟨fun _ => EI.pk [1], ?_⟩
   refine q_t 21 ?_
   refine ZA (d := some 230) (t := 25) (tx := 25) (ty := 25) (k := 0) (p := zf ol) (m := 4) (x := .slice (some ⟨bw, 0, none⟩) 4 4) (bytes := 1) bx (by kernel_rfl) EI rfl (Z9 _) (Zz (size := 1) (tx := 25) (e' := 5) (by kernel_rfl) (EI.heap.reads (k := 4) rfl) rfl (fun e => by cases e) (ZG _)) (by kernel_rfl) (z := .int .u8 0) (by kernel_rfl) rfl (by decide) (by omega) (by unfold maxLen; omega) ?_
   intro _ _ bz bA ET Es hnz _
   clear hnz
   rw [← ZM] at Es
   have EU : (zf ol) + 4 = zf (ol ++ [Zp ((zb sx i 0) >>> zH 24), Zp ((zb sx i 0) >>> zH 16), Zp ((zb sx i 0) >>> zH 8), Zp (zb sx i 0)]) := (by first | (simp; done) | (simp; omega) | omega)
   rw [EU] at ET
   refine ⟨fun _ => Es.pk [1], ?_⟩
   refine q_s [22] [] 0 ET (Es.pk [1]) fun _ bB => ?_
   exact h_e ⟨bz, bA, bB.sb, Es.pk [0, 1, 2, 3]⟩
  rintro _ _ ⟨Eq, Er, bC, bD⟩
  refine zw <| ze <| d_r [0,2,3,4,5,19,20] [(1, g_n (w_a i 1))] bC fun _ bE => ze <| ⟨_, ⟨i + 1, Eq, Er, (ol ++ [Zp ((zb sx i 0) >>> zH 24), Zp ((zb sx i 0) >>> zH 16), Zp ((zb sx i 0) >>> zH 8), Zp (zb sx i 0)]), rfl, bE.sb, bD.pk [0, 1, 2, 3], by omega, by simp [hol]; omega⟩, ?_⟩
  omega
 refine wp_exit <| zF <| zF <| zX <| ze <| d_s [0,2,3,4,5,19,20] [] EH fun _ bF => wp_ret <| ZH (t := 2) (v := .slice a7 (zf ol) c7) bF (by kernel_rfl) (by kernel_rfl) ?_
 exact ⟨_, _, ol, rfl, EG.pk [0], by omega⟩
theorem ofW_go (w : World) (ax : Option Addr) (nx cx : Nat) (lx : List UInt8) (ex : nx = zf lx) (ix : InB w [] ax cx lx) (hB : zf lx ≤ 1000) : Calls zB 93 #[.int .i64 1, .slice ax nx cx] w fun e w' => ∃ ao co l, e = .returned (.slice ao (zf l) co) ∧ Ev w [] w' [.vec ao co 1 (bys l) 5] ∧ zf l = 32 := by
 subst ex
 have hs := ix.small
 have hcx := ix.cap
 refine d_0 [(0, .int .i64 1), (1, .slice ax (zf lx) cx)] 21 Tryz.func93 Tryz.ntmps93 (Heap.nil _) fun Ei Ej Eg => d_s [0,1,4] [] Ej fun _ Ek => wp_seq <| d_s [1,4,5] [] Ek fun _ El => wp_block <| d_s [1,4,5,6] [] El fun _ Eh => c_t Eh ?_
 refine wp_seq <| zj <| d_k [1,4,5,8] [] 1 Eh fun _ Em => f_o <| c_0 Em Eg (sumW_go _ ax (zf lx) cx lx (by first | rfl | (simp; done) | (simp; omega) | omega) ((ix.ev Eg).pick [] (by kernel_rfl)) (by first | omega | (simp only [zE]; omega))) ?_
 rintro _ _ ⟨Ea, Eb, lq9, rfl, Ec, hlq9⟩
 refine ⟨_, _, _, rfl, Ec, rfl, fun _ Ed Ee => ?_⟩
 refine d_e [1,4,5] [] Ed fun _ Ef => ze <| wp_ret <| block_ret <| then_ret <| ZH (t := 4) (v := .slice Ea (zf lq9) Eb) Ef (by kernel_rfl) (by kernel_rfl) ?_
 exact ⟨_, _, lq9, rfl, Ee.pk [0], by assumption⟩
theorem block1_go (w : World) : Calls zB 92 #[.int .i64 1] w fun e w' => e = .returned (.int .i64 64) ∧ Ev w [] w' [] := by
 refine d_0 [(0, .int .i64 1)] 9 Tryz.func92 Tryz.ntmps92 (Heap.nil _) fun Eb Ec Ed => d_s [0,2] [] Ec fun _ Ee => wp_seq <| d_s [2,3] [] Ee fun _ Ef => wp_block <| d_s [2,3,4] [] Ef fun _ Ea => c_t Ea ?_
 refine d_s [2,3] [] Ea fun _ Eg => wp_ret <| block_ret <| then_ret <| ZH (t := 2) (v := .int .i64 64) Eg (by kernel_rfl) (by kernel_rfl) ?_
 exact ⟨rfl, Ed.pk []⟩
theorem macW_go (w : World) (ak : Option Addr) (nk ck : Nat) (lk : List UInt8) (ek : nk = zf lk) (ik : InB w [] ak ck lk) (ax : Option Addr) (nx cx : Nat) (lx : List UInt8) (ex : nx = zf lx) (ix : InB w [] ax cx lx) (hk : zf lk = 32) (hB : zf lx ≤ 200) : Calls zB 67 #[.int .i64 1, .slice ak nk ck, .slice ax nx cx] w fun e w' => ∃ ao co l, e = .returned (.slice ao (zf l) co) ∧ Ev w [] w' [.vec ao co 1 (bys l) 5] ∧ zf l = 32 := by
 subst ek
 subst ex
 have hs := ix.small
 have hcx := ix.cap
 have hsk := ik.small
 have hck := ik.cap
 refine d_0 [(0, .int .i64 1), (1, .slice ak (zf lk) ck), (2, .slice ax (zf lx) cx)] 60 Tryz.func67 Tryz.ntmps67 (Heap.nil _) fun aG aH aI => wp_seq <| d_r [0,1,2,6] [] aH fun _ aJ => ze <| wp_seq <| zj <| d_k [0,1,2,6,12] [] 1 aJ fun _ aK => f_o <| c_p aK aI (block1_go _) fun _ _ HY EF => d_e [0,1,2,6,7] [] HY fun _ HZ => ze <| wp_seq <| wp_seq <| d_r [0,1,2,6,7,15] [] HZ fun _ EX => ?_
 refine ze <| c_f EX ?_
 refine wp_skip <| ze <| wp_seq <| wp_seq <| d_r [0,1,2,6,7,19] [] EX fun _ EG => ?_
 refine ze <| c_d (((zf lk : Nat) : Int) > (64 : Int)) EG (fun H0 => ?_) (fun H0 => ?_)
 ·
  refine zj <| d_k [0,1,2,6,7,20,21] [] 2 EG fun _ H1 => f_o <| c_0 H1 EF (ofW_go _ ak (zf lk) ck lk (by first | rfl | (simp; done) | (simp; omega) | omega) ((ik.ev EF).pick [] (by kernel_rfl)) (by first | omega | (simp only [zE]; omega))) ?_
  rintro _ _ ⟨Ee, Ef, lq21, rfl, H2, hlq21⟩
  refine ⟨_, _, _, rfl, H2, rfl, fun _ H3 H4 => ?_⟩
  refine d_e [0,1,2,6,7] [] H3 fun _ H5 => ze <| wp_seq <| zj <| d_k [0,1,2,6,7,23] [] 1 H5 fun _ H6 => f_o <| YZ (d := some 24) (t := 25) (T := 5) (m := 64) (kl := .i64) (kc := .i64) (z := .int .u8 0) (bytes := 1) H6 (by kernel_rfl) H4 (by kernel_rfl) (by kernel_rfl) (by kernel_rfl) (by omega) (by unfold maxLen; omega) ?_
  intro _ _ Ec H7 EH
  rw [show zd 64 (Value.int .u8 0) = bys (zd 64 0) from (YL _).symm] at EH
  refine d_e [0,1,2,6,7,8] [] H7 fun _ H8 => ?_
  obtain ⟨y8, hey8, hly8⟩ : ∃ m : List UInt8, m = zd 64 0 ∧ m.length = 64 := ⟨_, rfl, zh⟩
  rw [← hey8] at EH
  clear hey8
  refine ze <| wp_seq <| zj <| d_k [0,1,2,6,7,8,25] [] 1 H8 fun _ H9 => f_o <| YZ (d := some 26) (t := 25) (T := 5) (m := 64) (kl := .i64) (kc := .i64) (z := .int .u8 0) (bytes := 1) H9 (by kernel_rfl) EH (by kernel_rfl) (by kernel_rfl) (by kernel_rfl) (by omega) (by unfold maxLen; omega) ?_
  intro _ _ Ed aa EI
  rw [show zd 64 (Value.int .u8 0) = bys (zd 64 0) from (YL _).symm] at EI
  refine d_e [0,1,2,6,7,8,9] [] aa fun _ ab => ?_
  obtain ⟨y9, hey9, hly9⟩ : ∃ m : List UInt8, m = zd 64 0 ∧ m.length = 64 := ⟨_, rfl, zh⟩
  rw [← hey9] at EI
  clear hey9
  refine ze <| wp_seq <| wp_seq <| d_r [0,1,2,6,7,8,9,10] [] ab fun _ ae => ?_
  refine ze <| wp_block <| ZT (fun af ac wo => ∃ (i : Nat) (o1 : List UInt8) (o2 : List UInt8), af = (64 - i : Nat) ∧ Env ac 60 [(0, .int .i64 1), (1, .slice Ee (zf lq21) Ef), (2, .slice ax (zf lx) cx), (6, .slice none 0 0), (7, .int .i64 64), (8, .slice (some ⟨Ec, 0, none⟩) 64 64), (9, .slice (some ⟨Ed, 0, none⟩) 64 64), (10, ni i)] ∧ Ev w [] wo [.vec (some ⟨Ec, 0, none⟩) 64 1 (bys o1) 5, .vec (some ⟨Ed, 0, none⟩) 64 1 (bys o2) 5, .vec Ee Ef 1 (bys lq21) 5] ∧ (i ≤ 64) ∧ (zf o1 = 64) ∧ (zf o2 = 64)) ⟨_, 0, y8, y9, rfl, ae.sb, EI.pk [1, 2, 0], by omega, hly8, hly9⟩ ?_
  rintro aL _ _ ⟨i, o1, o2, rfl, ag, Eh, hi, h1, h2⟩
  refine wp_seq <| wp_seq <| d_r [0,1,2,6,7,8,9,10,29] [] ag fun _ EJ => ?_
  refine ze <| c_d (((i : Nat) : Int) < (64 : Int)) EJ (fun ah => ?_) (fun ah => ?_)
  ·
   refine wp_skip <| ze <| wp_seq <| wp_block <| wp_seq <| d_r [0,1,2,6,7,8,9,10,11] [] EJ fun _ ai => ze <| wp_seq <| wp_seq <| d_r [0,1,2,6,7,8,9,10,11,35] [] ai fun _ EK => ?_
   refine ze <| region_cut (F := fun ac wo => ∃ (cc : UInt8), Env ac 60 [(0, .int .i64 1), (1, .slice Ee (zf lq21) Ef), (2, .slice ax (zf lx) cx), (6, .slice none 0 0), (7, .int .i64 64), (8, .slice (some ⟨Ec, 0, none⟩) 64 64), (9, .slice (some ⟨Ed, 0, none⟩) 64 64), (10, ni i), (11, bv cc)] ∧ Ev w [] wo [.vec (some ⟨Ec, 0, none⟩) 64 1 (bys o1) 5, .vec (some ⟨Ed, 0, none⟩) 64 1 (bys o2) 5, .vec Ee Ef 1 (bys lq21) 5]) ?_ ?_
   ·
    refine c_d (((i : Nat) : Int) < ((zf lq21 : Nat) : Int)) EK (fun aj => ?_) (fun aj => ?_)
    ·
     have EY : i < zf lq21 := (by omega)
     obtain ⟨Eu, Ew⟩ := Y0 (Yk Eh.heap (k := 2) rfl) EY
     refine zj <| d_k [0,1,2,6,7,8,9,10,11,36,37] [] 2 EK fun _ al => f_o <| q_v (x := Instr.indexAt 25 (.slice Ee (zf lq21) Ef) (ni i)) (v := .pointer (some (Addr.add Eu i))) al (zy (e := 5) (sz := 1) (j := i) (jo := i) Ew (by kernel_rfl) (by kernel_rfl) (by omega) EY (zI _) _) fun _ am => f_o ?_
     have an : i < zf lq21 := by omega
     refine op_loadel (d := some 39) (t := 5) (ad := Eu) (ao := Ee) (xs := bys lq21) (j := i) (v := bv (zb lq21 i 0)) am (by kernel_rfl) (Eh.heap.reads (k := 2) rfl) Ew (Z0 an) (by kernel_rfl) ?_
     intro _ ap
     refine d_e [0,1,2,6,7,8,9,10,11] [] ap fun _ aq => ?_
     exact ⟨rfl, ⟨(zb lq21 i 0), aq.sb, Eh.pk [0, 1, 2]⟩⟩
    refine wp_skip ?_
    exact ⟨rfl, ⟨(0 : UInt8), EK.sb, Eh.pk [0, 1, 2]⟩⟩
   rintro _ _ ⟨cc, ar, au⟩
   refine ze <| wp_seq ?_
   have av : i < 64 := (by omega)
   refine zj <| d_k [0,1,2,6,7,8,9,10,11,40,41,43] [(3, g_i .u8 (Xn (x := cc) (y := (92 : UInt8)) rfl rfl))] 4 ar fun _ aw => f_o <| q_v (x := Instr.indexAt 25 (.slice (some ⟨Ec, 0, none⟩) 64 64) (ni i)) (v := .pointer (some (Addr.add ⟨Ec, 0, none⟩ i))) aw (zy (e := 5) (sz := 1) (j := i) (jo := i) rfl (by kernel_rfl) (by kernel_rfl) (by omega) av (zI _) _) fun _ ay => f_o <| J3 (d := none) (t := 5) (ad := ⟨Ec, 0, none⟩) (ao := some ⟨Ec, 0, none⟩) (k := 0) (cap := 64) (sz := 1) (j := i) (xs := bys o1) (v := bv (cc ^^^ (92 : UInt8))) ay (by kernel_rfl) au rfl rfl (by rw [Q2]; first | omega | (simp; done) | (simp; omega)) (by kernel_rfl) rfl ?_
   intro _ _  az EZ
   rw [YO] at EZ
   refine f_e <| ze ?_
   have aA : i < 64 := (by omega)
   refine zj <| d_k [0,1,2,6,7,8,9,10,11,45,46,48] [(3, g_i .u8 (Xn (x := cc) (y := (54 : UInt8)) rfl rfl))] 4 az fun _ aB => f_o <| q_v (x := Instr.indexAt 25 (.slice (some ⟨Ed, 0, none⟩) 64 64) (ni i)) (v := .pointer (some (Addr.add ⟨Ed, 0, none⟩ i))) aB (zy (e := 5) (sz := 1) (j := i) (jo := i) rfl (by kernel_rfl) (by kernel_rfl) (by omega) aA (zI _) _) fun _ aC => f_o <| J3 (d := none) (t := 5) (ad := ⟨Ed, 0, none⟩) (ao := some ⟨Ed, 0, none⟩) (k := 1) (cap := 64) (sz := 1) (j := i) (xs := bys o2) (v := bv (cc ^^^ (54 : UInt8))) aC (by kernel_rfl) EZ rfl rfl (by rw [Q2]; first | omega | (simp; done) | (simp; omega)) (by kernel_rfl) rfl ?_
   intro _ _  E0 Ex
   rw [YO] at Ex
   refine f_e <| zw <| ze <| d_r [0,1,2,6,7,8,9,10,11] [(1, g_n (w_a i 1))] E0 fun _ E1 => ze <| ⟨_, ⟨i + 1, (zt o1 i (cc ^^^ (92 : UInt8))), (zt o2 i (cc ^^^ (54 : UInt8))), rfl, E1.sb, Ex.pk [0, 1, 2], by omega, (List.length_set.trans h1), (List.length_set.trans h2)⟩, ?_⟩
   omega
  refine wp_exit <| zF <| zF <| zX <| ze <| wp_seq ?_
  have E2 := Q5 (t := 8) (v := .slice (some ⟨Ec, 0, none⟩) 64 64) (u := .slice (some ⟨Ec, 0, none⟩) (zf o1) 64) EJ (by rw [h1])
  have E3 := Q5 (t := 9) (v := .slice (some ⟨Ed, 0, none⟩) 64 64) (u := .slice (some ⟨Ed, 0, none⟩) (zf o2) 64) E2 (by rw [h2])
  refine zj <| d_k [0,1,6,7,8,9,10,50,51] [] 2 E3 fun _ E4 => f_o ?_
  have aD := ix.small
  refine ZA (d := some 52) (t := 25) (tx := 25) (ty := 25) (k := 1) (p := zf o2) (m := zf lx) (x := .slice ax (zf lx) cx) (bytes := 1) E4 (by kernel_rfl) Eh rfl (Z9 _) (Zz (size := 1) (tx := 25) (e' := 5) (by kernel_rfl) (ix.ev Eh).reads (Z9 _) ix.nz (ZG _)) (by kernel_rfl) (z := .int .u8 0) (by kernel_rfl) rfl (by decide) (by omega) (by unfold maxLen; omega) ?_
  intro _ _ E5 E6 Ey Ei hnz _
  clear hnz
  rw [← ZM] at Ei
  have EL : (zf o2) + (zf lx) = zf (o2 ++ lx) := (by first | (simp; done) | (simp; omega) | omega)
  rw [EL] at Ey
  refine d_e [0,1,6,7,8,9,10] [] Ey fun _ E7 => ze <| wp_seq <| zj <| d_k [0,1,6,7,8,9,10,53,54,55,56] [] 4 E7 fun _ E8 => f_o <| c_0 E8 Ei (ofW_go _ E5 (zf (o2 ++ lx)) E6 (o2 ++ lx) (by first | rfl | (simp; done) | (simp; omega) | omega) (Ye Ei.heap (k := 1) rfl [] (by kernel_rfl) rfl (by first | omega | (simp; done) | (simp; omega))) (by first | omega | (simp only [zE]; omega))) ?_
  rintro _ _ ⟨EM, EN, lq123, rfl, E9, hlq123⟩
  refine ⟨_, _, _, rfl, E9, rfl, fun _ Ha Ej => ?_⟩
  refine f_o <| ZA (d := some 58) (t := 25) (tx := 25) (ty := 25) (k := 1) (p := zf o1) (m := zf lq123) (x := .slice EM (zf lq123) EN) (bytes := 1) Ha (by kernel_rfl) Ej rfl (Z9 _) (Zz (size := 1) (tx := 25) (e' := 5) (by kernel_rfl) (Ej.heap.reads (k := 0) rfl) (Z9 _) (Yk Ej.heap (k := 0) rfl) (ZG _)) (by kernel_rfl) (z := .int .u8 0) (by kernel_rfl) rfl (by decide) (by omega) (by unfold maxLen; omega) ?_
  intro _ _ Hb Hc Ez Ek hnz _
  clear hnz
  rw [← ZM] at Ek
  have EO : (zf o1) + (zf lq123) = zf (o1 ++ lq123) := (by first | (simp; done) | (simp; omega) | omega)
  rw [EO] at Ez
  refine f_o <| c_0 Ez Ek (ofW_go _ Hb (zf (o1 ++ lq123)) Hc (o1 ++ lq123) (by first | rfl | (simp; done) | (simp; omega) | omega) (Ye Ek.heap (k := 1) rfl [] (by kernel_rfl) rfl (by first | omega | (simp; done) | (simp; omega))) (by first | omega | (simp only [zE]; omega))) ?_
  rintro _ _ ⟨EP, EQ, lq139, rfl, Hd, hlq139⟩
  refine ⟨_, _, _, rfl, Hd, rfl, fun _ He Hf => ?_⟩
  refine d_e [0,1,6,7,8,9,10] [] He fun _ Hg => ze <| wp_ret <| ZH (t := 6) (v := .slice EP (zf lq139) EQ) Hg (by kernel_rfl) (by kernel_rfl) ?_
  exact ⟨_, _, lq139, rfl, Hf.pk [0], by assumption⟩
 refine wp_skip <| ze <| wp_seq <| zj <| d_k [0,1,2,6,7,23] [] 1 EG fun _ Hh => f_o <| YZ (d := some 24) (t := 25) (T := 5) (m := 64) (kl := .i64) (kc := .i64) (z := .int .u8 0) (bytes := 1) Hh (by kernel_rfl) EF (by kernel_rfl) (by kernel_rfl) (by kernel_rfl) (by omega) (by unfold maxLen; omega) ?_
 intro _ _ Ea Hi El
 rw [show zd 64 (Value.int .u8 0) = bys (zd 64 0) from (YL _).symm] at El
 refine d_e [0,1,2,6,7,8] [] Hi fun _ Hj => ?_
 obtain ⟨y8, hey8, hly8⟩ : ∃ m : List UInt8, m = zd 64 0 ∧ m.length = 64 := ⟨_, rfl, zh⟩
 rw [← hey8] at El
 clear hey8
 refine ze <| wp_seq <| zj <| d_k [0,1,2,6,7,8,25] [] 1 Hj fun _ Hk => f_o <| YZ (d := some 26) (t := 25) (T := 5) (m := 64) (kl := .i64) (kc := .i64) (z := .int .u8 0) (bytes := 1) Hk (by kernel_rfl) El (by kernel_rfl) (by kernel_rfl) (by kernel_rfl) (by omega) (by unfold maxLen; omega) ?_
 intro _ _ Eb Hl Em
 rw [show zd 64 (Value.int .u8 0) = bys (zd 64 0) from (YL _).symm] at Em
 refine d_e [0,1,2,6,7,8,9] [] Hl fun _ Hm => ?_
 obtain ⟨y9, hey9, hly9⟩ : ∃ m : List UInt8, m = zd 64 0 ∧ m.length = 64 := ⟨_, rfl, zh⟩
 rw [← hey9] at Em
 clear hey9
 refine ze <| wp_seq <| wp_seq <| d_r [0,1,2,6,7,8,9,10] [] Hm fun _ Hn => ?_
 refine ze <| wp_block <| ZT (fun Ho ac wo => ∃ (i : Nat) (o1 : List UInt8) (o2 : List UInt8), Ho = (64 - i : Nat) ∧ Env ac 60 [(0, .int .i64 1), (1, .slice ak (zf lk) ck), (2, .slice ax (zf lx) cx), (6, .slice none 0 0), (7, .int .i64 64), (8, .slice (some ⟨Ea, 0, none⟩) 64 64), (9, .slice (some ⟨Eb, 0, none⟩) 64 64), (10, ni i)] ∧ Ev w [] wo [.vec (some ⟨Ea, 0, none⟩) 64 1 (bys o1) 5, .vec (some ⟨Eb, 0, none⟩) 64 1 (bys o2) 5] ∧ (i ≤ 64) ∧ (zf o1 = 64) ∧ (zf o2 = 64)) ⟨_, 0, y8, y9, rfl, Hn.sb, Em.pk [0, 1], by omega, hly8, hly9⟩ ?_
 rintro aF _ _ ⟨i, o1, o2, rfl, Hp, Eg, hi, h1, h2⟩
 refine wp_seq <| wp_seq <| d_r [0,1,2,6,7,8,9,10,29] [] Hp fun _ En => ?_
 refine ze <| c_d (((i : Nat) : Int) < (64 : Int)) En (fun Hq => ?_) (fun Hq => ?_)
 ·
  refine wp_skip <| ze <| wp_seq <| wp_block <| wp_seq <| d_r [0,1,2,6,7,8,9,10,11] [] En fun _ Hr => ze <| wp_seq <| wp_seq <| d_r [0,1,2,6,7,8,9,10,11,35] [] Hr fun _ Eo => ?_
  refine ze <| region_cut (F := fun ac wo => ∃ (cc : UInt8), Env ac 60 [(0, .int .i64 1), (1, .slice ak (zf lk) ck), (2, .slice ax (zf lx) cx), (6, .slice none 0 0), (7, .int .i64 64), (8, .slice (some ⟨Ea, 0, none⟩) 64 64), (9, .slice (some ⟨Eb, 0, none⟩) 64 64), (10, ni i), (11, bv cc)] ∧ Ev w [] wo [.vec (some ⟨Ea, 0, none⟩) 64 1 (bys o1) 5, .vec (some ⟨Eb, 0, none⟩) 64 1 (bys o2) 5]) ?_ ?_
  ·
   refine c_d (((i : Nat) : Int) < ((zf lk : Nat) : Int)) Eo (fun Hs => ?_) (fun Hs => ?_)
   ·
    have EA : i < zf lk := (by omega)
    obtain ⟨Ep, Eq⟩ := Y0 ik.nz EA
    refine zj <| d_k [0,1,2,6,7,8,9,10,11,36,37] [] 2 Eo fun _ Ht => f_o <| q_v (x := Instr.indexAt 25 (.slice ak (zf lk) ck) (ni i)) (v := .pointer (some (Addr.add Ep i))) Ht (zy (e := 5) (sz := 1) (j := i) (jo := i) Eq (by kernel_rfl) (by kernel_rfl) (by omega) EA (zI _) _) fun _ Hu => f_o ?_
    have Hv : i < zf lk := by omega
    refine op_loadel (d := some 39) (t := 5) (ad := Ep) (ao := ak) (xs := bys lk) (j := i) (v := bv (zb lk i 0)) Hu (by kernel_rfl) (ik.ev Eg).reads Eq (Z0 Hv) (by kernel_rfl) ?_
    intro _ Hw
    refine d_e [0,1,2,6,7,8,9,10,11] [] Hw fun _ Hx => ?_
    exact ⟨rfl, ⟨(zb lk i 0), Hx.sb, Eg.pk [0, 1]⟩⟩
   refine wp_skip ?_
   exact ⟨rfl, ⟨(0 : UInt8), Eo.sb, Eg.pk [0, 1]⟩⟩
  rintro _ _ ⟨cc, Hy, Hz⟩
  refine ze <| wp_seq ?_
  have HA : i < 64 := (by omega)
  refine zj <| d_k [0,1,2,6,7,8,9,10,11,40,41,43] [(3, g_i .u8 (Xn (x := cc) (y := (92 : UInt8)) rfl rfl))] 4 Hy fun _ HB => f_o <| q_v (x := Instr.indexAt 25 (.slice (some ⟨Ea, 0, none⟩) 64 64) (ni i)) (v := .pointer (some (Addr.add ⟨Ea, 0, none⟩ i))) HB (zy (e := 5) (sz := 1) (j := i) (jo := i) rfl (by kernel_rfl) (by kernel_rfl) (by omega) HA (zI _) _) fun _ HC => f_o <| J3 (d := none) (t := 5) (ad := ⟨Ea, 0, none⟩) (ao := some ⟨Ea, 0, none⟩) (k := 0) (cap := 64) (sz := 1) (j := i) (xs := bys o1) (v := bv (cc ^^^ (92 : UInt8))) HC (by kernel_rfl) Hz rfl rfl (by rw [Q2]; first | omega | (simp; done) | (simp; omega)) (by kernel_rfl) rfl ?_
  intro _ _  HD EB
  rw [YO] at EB
  refine f_e <| ze ?_
  have HE : i < 64 := (by omega)
  refine zj <| d_k [0,1,2,6,7,8,9,10,11,45,46,48] [(3, g_i .u8 (Xn (x := cc) (y := (54 : UInt8)) rfl rfl))] 4 HD fun _ HF => f_o <| q_v (x := Instr.indexAt 25 (.slice (some ⟨Eb, 0, none⟩) 64 64) (ni i)) (v := .pointer (some (Addr.add ⟨Eb, 0, none⟩ i))) HF (zy (e := 5) (sz := 1) (j := i) (jo := i) rfl (by kernel_rfl) (by kernel_rfl) (by omega) HE (zI _) _) fun _ HG => f_o <| J3 (d := none) (t := 5) (ad := ⟨Eb, 0, none⟩) (ao := some ⟨Eb, 0, none⟩) (k := 1) (cap := 64) (sz := 1) (j := i) (xs := bys o2) (v := bv (cc ^^^ (54 : UInt8))) HG (by kernel_rfl) EB rfl rfl (by rw [Q2]; first | omega | (simp; done) | (simp; omega)) (by kernel_rfl) rfl ?_
  intro _ _  HH EC
  rw [YO] at EC
  refine f_e <| zw <| ze <| d_r [0,1,2,6,7,8,9,10,11] [(1, g_n (w_a i 1))] HH fun _ HI => ze <| ⟨_, ⟨i + 1, (zt o1 i (cc ^^^ (92 : UInt8))), (zt o2 i (cc ^^^ (54 : UInt8))), rfl, HI.sb, EC.pk [0, 1], by omega, (List.length_set.trans h1), (List.length_set.trans h2)⟩, ?_⟩
  omega
 refine wp_exit <| zF <| zF <| zX <| ze <| wp_seq ?_
 have HJ := Q5 (t := 8) (v := .slice (some ⟨Ea, 0, none⟩) 64 64) (u := .slice (some ⟨Ea, 0, none⟩) (zf o1) 64) En (by rw [h1])
 have HK := Q5 (t := 9) (v := .slice (some ⟨Eb, 0, none⟩) 64 64) (u := .slice (some ⟨Eb, 0, none⟩) (zf o2) 64) HJ (by rw [h2])
 refine zj <| d_k [0,1,6,7,8,9,10,50,51] [] 2 HK fun _ HL => f_o ?_
 have aE := ix.small
 refine ZA (d := some 52) (t := 25) (tx := 25) (ty := 25) (k := 1) (p := zf o2) (m := zf lx) (x := .slice ax (zf lx) cx) (bytes := 1) HL (by kernel_rfl) Eg rfl (Z9 _) (Zz (size := 1) (tx := 25) (e' := 5) (by kernel_rfl) (ix.ev Eg).reads (Z9 _) ix.nz (ZG _)) (by kernel_rfl) (z := .int .u8 0) (by kernel_rfl) rfl (by decide) (by omega) (by unfold maxLen; omega) ?_
 intro _ _ HM HN ED Er hnz _
 clear hnz
 rw [← ZM] at Er
 have ER : (zf o2) + (zf lx) = zf (o2 ++ lx) := (by first | (simp; done) | (simp; omega) | omega)
 rw [ER] at ED
 refine d_e [0,1,6,7,8,9,10] [] ED fun _ HO => ze <| wp_seq <| zj <| d_k [0,1,6,7,8,9,10,53,54,55,56] [] 4 HO fun _ HP => f_o <| c_0 HP Er (ofW_go _ HM (zf (o2 ++ lx)) HN (o2 ++ lx) (by first | rfl | (simp; done) | (simp; omega) | omega) (Ye Er.heap (k := 1) rfl [] (by kernel_rfl) rfl (by first | omega | (simp; done) | (simp; omega))) (by first | omega | (simp only [zE]; omega))) ?_
 rintro _ _ ⟨ES, ET, lq241, rfl, HQ, hlq241⟩
 refine ⟨_, _, _, rfl, HQ, rfl, fun _ HR Es => ?_⟩
 refine f_o <| ZA (d := some 58) (t := 25) (tx := 25) (ty := 25) (k := 1) (p := zf o1) (m := zf lq241) (x := .slice ES (zf lq241) ET) (bytes := 1) HR (by kernel_rfl) Es rfl (Z9 _) (Zz (size := 1) (tx := 25) (e' := 5) (by kernel_rfl) (Es.heap.reads (k := 0) rfl) (Z9 _) (Yk Es.heap (k := 0) rfl) (ZG _)) (by kernel_rfl) (z := .int .u8 0) (by kernel_rfl) rfl (by decide) (by omega) (by unfold maxLen; omega) ?_
 intro _ _ HS HT EE Et hnz _
 clear hnz
 rw [← ZM] at Et
 have EU : (zf o1) + (zf lq241) = zf (o1 ++ lq241) := (by first | (simp; done) | (simp; omega) | omega)
 rw [EU] at EE
 refine f_o <| c_0 EE Et (ofW_go _ HS (zf (o1 ++ lq241)) HT (o1 ++ lq241) (by first | rfl | (simp; done) | (simp; omega) | omega) (Ye Et.heap (k := 1) rfl [] (by kernel_rfl) rfl (by first | omega | (simp; done) | (simp; omega))) (by first | omega | (simp only [zE]; omega))) ?_
 rintro _ _ ⟨EV, EW, lq257, rfl, HU, hlq257⟩
 refine ⟨_, _, _, rfl, HU, rfl, fun _ HV HW => ?_⟩
 refine d_e [0,1,6,7,8,9,10] [] HV fun _ HX => ze <| wp_ret <| ZH (t := 6) (v := .slice EV (zf lq257) EW) HX (by kernel_rfl) (by kernel_rfl) ?_
 exact ⟨_, _, lq257, rfl, HW.pk [0], by assumption⟩
theorem codeW_go (w : World) (ak : Option Addr) (nk ck : Nat) (lk : List UInt8) (ek : nk = zf lk) (ik : InB w [] ak ck lk) (ax : Option Addr) (nx cx : Nat) (lx : List UInt8) (ex : nx = zf lx) (ix : InB w [] ax cx lx) (hk : zf lk = 32) (hB : zf lx ≤ 200) : Calls zB 32 #[.slice ak nk ck, .slice ax nx cx] w fun e w' => ∃ ao co l, e = .returned (.slice ao (zf l) co) ∧ Ev w [] w' [.vec ao co 1 (bys l) 5] ∧ zf l = 32 := by
 subst ek
 subst ex
 have hs := ix.small
 have hcx := ix.cap
 have hsk := ik.small
 have hck := ik.cap
 refine d_0 [(0, .slice ak (zf lk) ck), (1, .slice ax (zf lx) cx)] 8 Tryz.func32 Tryz.ntmps32 (Heap.nil _) fun Eg Eh Ea => d_s [0,1,4] [] Eh fun _ Ei => wp_seq <| zj <| d_k [4,5,6] [] 2 Ei fun _ Ej => f_o <| c_0 Ej Ea (macW_go _ ak (zf lk) ck lk (by first | rfl | (simp; done) | (simp; omega) | omega) ((ik.ev Ea).pick [] (by kernel_rfl)) ax (zf lx) cx lx (by first | rfl | (simp; done) | (simp; omega) | omega) ((ix.ev Ea).pick [] (by kernel_rfl)) hk (by first | omega | (simp only [zE]; omega))) ?_
 rintro _ _ ⟨Eb, Ec, lq5, rfl, Ek, hlq5⟩
 refine ⟨_, _, _, rfl, Ek, rfl, fun _ Ed Ee => ?_⟩
 refine d_e [4] [] Ed fun _ Ef => ze <| wp_ret <| ZH (t := 4) (v := .slice Eb (zf lq5) Ec) Ef (by kernel_rfl) (by kernel_rfl) ?_
 exact ⟨_, _, lq5, rfl, Ee.pk [0], by assumption⟩
end Go.Proofs.YtpfhmbbiadpbeaaGreat
namespace Go.Dbr
open Go Go.RowKit
section
variable {w w0 : World} {L L0 : List Ent}
end
end Go.Dbr
namespace Go.Dbr
open Go Go.RowKit
section
variable {P : Program} {ops : Array Oper} {Q : Exit → Act → World → Prop} {n i : Nat} {l : List (Nat × Value)} {a : Act} {w w0 : World} {L L0 : List Ent} {d : Option Tmp} {K : Act → World → Prop}
theorem nat_to_u8 {a : Int} {n : Nat} (ha : a = ((n : Nat) : Int)) : IntKind.wrap .u8 a = ((UInt8.toNat (UInt8.ofNat n) : Nat) : Int) := by
  subst ha; rw [wrap_u8, UInt8.toNat_ofNat']; omega
end
end Go.Dbr
