import Derived.Test.YtlnogkmnklfjlaaGreatDoorVr4
import Derived.Test.YtlnogkmnklfjlaaGreatDoorVr1
import Derived.Test.YtlnogkmnklfjlaaGreatDoorVr3
open List renaming getD → za, length → zc, replicate → zf, toArray → zg, length_replicate → zi, take → zm, drop → zo, set → zp, length_take → zs, drop_append → zu, take_append → zv, length_drop → zy, forall_mem_cons → zE, length_append → zH, take_of_length_le → zJ, length_cons → z3, flatMap_cons → Zz, not_mem_nil → ZF, append_nil → ZH, length_nil → ZM, map_append → ZO, flatMap_nil → Z3, flatMap → Z7, length_set → Qk, drop_drop → QO, map_take → Yh, mem_of_getElem? → Yi, drop_append_of_le_length → YN, map_drop → YW, drop_length → Jd
open UInt64 renaming ofNat → zb, toUInt8 → zj
open Go.Dbr renaming u64s_lenh → zd, then_normal → ze, u64s → zh, region_from → zk, uv64 → zn, load_whole → zr, run_indexarr → zt, u64s_one → zw, block_normal → zx, u64s_getD → zC, then_exit → zD, len_app → zG, u64_shr → zI, loop_once → zK, u64_add → zO, block_exit → zP, run_loadAgg2 → zV, seg_skip → zW, m_gw → zZ, u64_to_u8 → z4, bys_lenh → z7, bys_append → Zg, run_load1 → Zi, op_append → Zl, u64_and → Zp, h_from → Zr, then_ret → Zx, u32s_lenh → ZB, bys_one → ZC, bys_len → ZI, u32s → ZJ, u64_xor → ZK, u64_or → ZL, u64_mul → ZW, op_slicearr → ZY, op_lit → ZZ, loop_m → Z5, block_ret → Qg, d_ret1 → Qh, run_indexsl → Ql, bys_getD → Qr, h_ways → QA, bys_inbox → QD, h_to → QF, cutAt → Yt, set_skip → YD, bys_vcap → Y4, run_loadel → Y6, seg_in → Jh, bys_take_reads → JE, some_of → JF, op_slice → JY, h_name → Xj, u8_and → Xu, op_slice0 → Xx, u64s_vnz → XP, bys_in_take → XS, run_toarr → Kp, copy_len → Kv
open Go.Proofs.YtlnogkmnklfjlaaGreatDoor renaming nds_len → zl, puE_len → Zb, lb_len → Zj, nv_nd → QI, baseL → Q6, sameN → Jf, toL_len → Xr, fromle_go → Xy, times16_go → Kd
open Go.Proofs.Tryz renaming prog → zB
open Go.Dbr.Ev renaming cellAgg → zF, drew → zS
open Nat renaming mul_comm → z5, mul_one → ZG, add_assoc → ZP, mod_lt → ZU
open Bool renaming eq_false_or_eq_true → Za, true_and → Qd, false_and → QC, eq_false_iff → Q9, and_false → YL
open UInt8 renaming toUInt64 → Ze
open Go.Dbr.Reads renaming src → Zk
open Go.Proofs.YtlnogkmnklfjlaaGreatDoor.Sh renaming mix64 → QW
set_option maxRecDepth 100000
set_option maxHeartbeats 2000000
set_option linter.unusedVariables false
set_option linter.unusedSimpArgs false
namespace Go.Proofs.YtlnogkmnklfjlaaGreatDoor.Sh
open Go.Dbr
def beP32 (l : List UInt8) : Nat → UInt32
  | 0 => 0
  | k + 1 => (beP32 l k <<< UInt32.ofNat 8) ||| UInt8.toUInt32 (za l k 0)
def beW32 (l : List UInt8) (q : Nat) : UInt32 := beP32 (zm 4 (zo (4 * q) l)) 4
def wB32 (l : List UInt8) : Nat → List UInt32
  | 0 => []
  | q + 1 => wB32 l q ++ [beW32 l q]
def beP64 (l : List UInt8) : Nat → UInt64
  | 0 => 0
  | k + 1 => (beP64 l k <<< zb 8) ||| Ze (za l k 0)
def beW64 (l : List UInt8) (q : Nat) : UInt64 := beP64 (zm 8 (zo (8 * q) l)) 8
def wB64 (l : List UInt8) : Nat → List UInt64
  | 0 => []
  | q + 1 => wB64 l q ++ [beW64 l q]
theorem wB64_len (l : List UInt8) (q : Nat) : (wB64 l q).length = q := by
  induction q with
  | zero => rfl
  | succ q ih => rw [wB64, zH, ih]; rfl
theorem words64_go (w : World) (ax : Option Addr) (nx cx : Nat) (lx : List UInt8) (ex : nx = zc lx) (ix : InB w [] ax cx lx) : Calls zB 101 #[.slice ax nx cx, .int .i64 8, .int .i64 80] w fun e w' => ∃ ao co, e = .returned (.slice ao (zc (wB64 lx (zc lx / 8))) co) ∧ Ev w [] w' [.vec ao co 1 (zh (wB64 lx (zc lx / 8))) 31] := by
 subst ex
 have hs := ix.small
 have hcx := ix.cap
 refine d_0 [(0, .slice ax (zc lx) cx), (1, .int .i64 8), (2, .int .i64 80)] 39 Tryz.func101 Tryz.ntmps101 (Heap.nil _) fun EP EQ ER => wp_seq <| d_r [0,1,2,6] [] EQ fun _ ES => ze <| wp_seq <| zk <| d_k [0,1,6,11] [] 1 ES fun _ ET => f_o <| op_makeroom (d := some 12) (t := 127) (T := 31) (m := 80) (kl := .i64) (kc := .i64) (z := .int .u64 0) (bytes := 8) ET (by kernel_rfl) ER (by kernel_rfl) (by kernel_rfl) (by kernel_rfl) (by omega) (by unfold maxLen; omega) ?_
 intro _ _ EU EV EW
 refine d_e [0,1,6,7] [] EV fun _ Em => ze <| wp_seq <| wp_block ?_
 have hD0 : zo (8 * 0) lx = lx := rfl
 refine Z5 (fun En ac wo => ∃ (q : Nat) (at1 : Option Addr) (ct : Nat) (ao : Option Addr) (co : Nat) (o : List UInt64), En = (zc lx - 8 * q : Nat) ∧ Env ac 39 [(0, .slice at1 (zc (zo (8 * q) lx)) ct), (1, .int .i64 8), (6, .slice none 0 0), (7, .slice ao (zc o) co)] ∧ Ev w [] wo [.vec ao co 1 (zh o) 31] ∧ (InB w [] at1 ct (zo (8 * q) lx)) ∧ (8 * q ≤ zc lx) ∧ (o = wB64 lx q)) ⟨_, 0, ax, cx, some ⟨EU, 0, none⟩, 80, [], rfl, Em.sb, EW.pk [0], ix, by omega, rfl⟩ ?_
 rintro EX _ _ ⟨q, at1, ct, ao, co, o, rfl, Eo, Ef, hT, hq, heo⟩
 refine wp_seq <| wp_seq ?_
 have hDl : zc (zo (8 * q) lx) = zc lx - 8 * q := zy
 refine d_r [0,1,6,7,16] [] Eo fun _ Ec => ?_
 refine ze <| c_d (((zc (zo (8 * q) lx) : Nat) : Int) ≥ (8 : Int)) Ec (fun Ep => ?_) (fun Ep => ?_)
 ·
  refine wp_skip <| ze <| wp_seq <| wp_block <| wp_seq <| d_r [0,1,6,7,8] [] Ec fun _ Eq => ze <| wp_seq <| wp_seq ?_
  have hDl : zc (zo (8 * q) lx) = zc lx - 8 * q := zy
  have hDt : zc (zm 8 (zo (8 * q) lx)) = 8 := by rw [zs]; omega
  refine zk <| d_k [0,1,6,7,8,20,21] [] 2 Eq fun _ Er => f_o ?_
  have Es := hT.cap
  refine Xx (d := some 22) (t := 23) (e := 5) (sz := 1) (len := zc (zo (8 * q) lx)) (cap := ct) (hi := 8) (ao := at1) (lov := none) (hiv := (some (.int .i64 8))) Er (by kernel_rfl) (by kernel_rfl) (by kernel_rfl) (by omega) (.inl ⟨rfl, rfl⟩) (.inr ⟨.i64, rfl⟩) ?_
  intro _ Et
  refine d_e [0,1,6,7,8,22,23,24] [] Et fun _ Eu => ?_
  refine ze <| wp_block <| Z5 (fun Ew ac wo => ∃ (k : Nat) (x : UInt64), Ew = (8 - k : Nat) ∧ Env ac 39 [(0, .slice at1 (zc (zo (8 * q) lx)) ct), (1, .int .i64 8), (6, .slice none 0 0), (7, .slice ao (zc o) co), (8, zn x), (22, .slice at1 8 ct), (23, .int .i64 8), (24, ni k)] ∧ Ev w [] wo [.vec ao co 1 (zh o) 31] ∧ (k ≤ 8) ∧ (x = beP64 (zm 8 (zo (8 * q) lx)) k)) ⟨_, 0, 0, rfl, Eu.sb, Ef.pk [0], by omega, rfl⟩ ?_
  rintro EY _ _ ⟨k, x, rfl, Ex, Ed, hk, hex⟩
  refine wp_seq <| d_r [0,1,6,7,8,22,23,24,25] [] Ex fun _ Ee => ?_
  refine ze <| wp_seq <| c_d (((k : Nat) : Int) < (8 : Int)) Ee (fun Ey => ?_) (fun Ey => ?_)
  ·
   refine wp_skip <| ze <| wp_seq <| wp_block <| wp_seq ?_
   have Eg : k < 8 := (by omega)
   obtain ⟨Ea, Eb⟩ := JF (fun e => by have := hT.nz e; omega) Eg
   refine zk <| f_o <| q_v (x := Instr.indexAt 23 (.slice at1 8 ct) (ni k)) (v := .pointer (some (Addr.add Ea k))) Ee (Ql (e := 5) (sz := 1) (j := k) (jo := k) Eb (by kernel_rfl) (by kernel_rfl) (by omega) Eg (ZG _) _) fun _ Ez => f_o ?_
   have EA : k < zc (zm 8 (zo (8 * q) lx)) := by omega
   refine op_loadel (d := some 27) (t := 5) (ad := Ea) (ao := at1) (xs := bys (zm 8 (zo (8 * q) lx))) (j := k) (v := bv (za (zm 8 (zo (8 * q) lx)) k 0)) Ez (by kernel_rfl) (JE (hT.ev Ed).reads 8) Eb (Qr EA) (by kernel_rfl) ?_
   intro _ EB
   refine d_e [0,1,6,7,8,10,22,23,24] [] EB fun _ EC => ze <| d_r [0,1,6,7,8,22,23,24] [(1, g_i .u64 (Go.Dbr.u64_shl (x := x) (n := 8) rfl (by decide))), (3, g_i .u64 (Go.Dbr.u8_to_u64 (x := za (zm 8 (zo (8 * q) lx)) k 0) rfl)), (4, g_i .u64 (ZL (x := x <<< zb 8) (y := Ze (za (zm 8 (zo (8 * q) lx)) k 0)) rfl rfl))] EC fun _ ED => zx <| ze <| d_r [0,1,6,7,8,22,23,24] [(0, g_n (w_a k 1))] ED fun _ EE => ze <| ⟨_, ⟨k + 1, ((x <<< zb 8) ||| (Ze (za (zm 8 (zo (8 * q) lx)) k 0))), rfl, EE.sb, Ed.pk [0], by omega, by rw [hex]; rfl⟩, ?_⟩
   omega
  refine wp_exit <| zD <| zD <| zP <| ze ?_
  have hk4 : k = 8 := by omega
  rw [hk4] at hex
  have hol : zc o = q := by rw [heo, wB64_len]
  refine zk <| d_k [0,1,6,7,8,22,23,24,34,35] [] 2 Ee fun _ EF => f_o <| ZZ (d := some 36) (t := 127) (T := 31) (m := 1) (parts := #[(0, zn x)]) (xs := zh [x]) (sz := 1) EF (by kernel_rfl) (by kernel_rfl) rfl (by decide) Ed ?_
  intro _ _ EG EH Eh
  refine f_o <| Zl (d := some 37) (t := 127) (tx := 127) (ty := 127) (k := 0) (p := zc o) (m := 1) (x := .slice (some ⟨EG, 0, none⟩) 1 1) (bytes := 8) EH (by kernel_rfl) Eh rfl (u64s_len _) (Zk (size := 1) (tx := 127) (e' := 31) (by kernel_rfl) (Eh.heap.reads (k := 1) rfl) rfl (fun e => by cases e) (zw _)) (by kernel_rfl) (z := .int .u64 0) (by kernel_rfl) rfl (by decide) (by omega) (by unfold maxLen; omega) ?_
  intro _ _ EI EJ Ei Ej hnz _
  clear hnz
  rw [← u64s_append] at Ej
  have Ek : (zc o) + 1 = zc (o ++ [x]) := (by first | (simp; done) | (simp; omega) | omega)
  rw [Ek] at Ei
  refine d_e [0,1,6,7,8,22,23,24] [] Ei fun _ EK => zx <| ze <| zk <| d_k [0,1,6,7,8,17,18,22,23,24] [] 2 EK fun _ EL => f_o ?_
  have EM := hT.cap
  refine JY (d := some 19) (t := 23) (e := 5) (sz := 1) (len := zc (zo (8 * q) lx)) (cap := ct) (lo := 8) (hi := zc (zo (8 * q) lx)) (ao := at1) (lov := (some (.int .i64 8))) (hiv := none) EL (by kernel_rfl) (by kernel_rfl) (by kernel_rfl) (by omega) (by omega) (.inr ⟨.i64, rfl⟩) (.inl ⟨rfl, rfl⟩) ?_
  intro _ EN
  refine d_e [0,1,6,7,8,22,23,24] [] EN fun _ El => ze ?_
  have hTn : InB w [] (Yt at1 ct 8 1) (ct - 8) (zo (8 * (q + 1)) lx) := by have h := hT.drop 8 (by omega); rwa [QO] at h
  have el : (zc (zo (8 * q) lx)) - 8 = zc (zo (8 * (q + 1)) lx) := by rw [zy, zy]; omega
  rw [el] at El
  refine ⟨_, ⟨q + 1, (Yt at1 ct 8 1), (ct - 8), EI, EJ, (o ++ [x]), rfl, El.sb, Ej.pk [0], hTn, by omega, by rw [heo, hex]; rfl⟩, ?_⟩
  omega
 refine wp_exit <| zD <| zD <| zP <| ze <| wp_seq <| d_r [0,1,6,7] [] Ec fun _ EO => ze <| wp_ret <| Qh (t := 6) (v := .slice ao (zc o) co) EO (by kernel_rfl) (by kernel_rfl) ?_
 have hqq : q = zc lx / 8 := by omega
 rw [hqq] at heo
 subst heo
 have Hf81 := Ef.pk [0] (M := [.vec ao co 1 (zh (wB64 lx (zc lx / 8))) 31])
 exact ⟨_, _, rfl, Hf81⟩
theorem seg_eq {l : List Value} {i j : Nat} {v : Option Value} (h : i = j) (e : l[j]? = v) : l[i]? = v := by rw [h]; exact e
theorem set_eq {l m : List Value} {i j : Nat} {v : Value} (h : i = j) (e : l.set j v = m) : l.set i v = m := by rw [h]; exact e
theorem v8 {α : Type} {v : List α} (h : v.length = 8) : ∃ a0 a1 a2 a3 a4 a5 a6 a7, v = [a0, a1, a2, a3, a4, a5, a6, a7] := by
  match v, h with
  | [a0, a1, a2, a3, a4, a5, a6, a7], _ => exact ⟨a0, a1, a2, a3, a4, a5, a6, a7, rfl⟩
def K32 : List UInt32 := [1116352408, 1899447441, 3049323471, 3921009573, 961987163, 1508970993, 2453635748, 2870763221, 3624381080, 310598401, 607225278, 1426881987, 1925078388, 2162078206, 2614888103, 3248222580, 3835390401, 4022224774, 264347078, 604807628, 770255983, 1249150122, 1555081692, 1996064986, 2554220882, 2821834349, 2952996808, 3210313671, 3336571891, 3584528711, 113926993, 338241895, 666307205, 773529912, 1294757372, 1396182291, 1695183700, 1986661051, 2177026350, 2456956037, 2730485921, 2820302411, 3259730800, 3345764771, 3516065817, 3600352804, 4094571909, 275423344, 430227734, 506948616, 659060556, 883997877, 958139571, 1322822218, 1537002063, 1747873779, 1955562222, 2024104815, 2227730452, 2361852424, 2428436474, 2756734187, 3204031479, 3329325298]
def sch32 (w : List UInt32) : Nat → List UInt32
  | 0 => w
  | q + 1 => sch32 w q ++ [((mix32 (za (sch32 w q) (14 + q) 0) 17 19 10 true + za (sch32 w q) (9 + q) 0) + mix32 (za (sch32 w q) (1 + q) 0) 7 18 3 true) + za (sch32 w q) q 0]
def x32 (v : List UInt32) (k w : UInt32) : UInt32 := (((za v 7 0 + mix32 (za v 4 0) 6 11 25 false) + (za v 6 0 ^^^ (za v 4 0 &&& (za v 5 0 ^^^ za v 6 0)))) + k) + w
def y32 (v : List UInt32) : UInt32 := mix32 (za v 0 0) 2 13 22 false + ((za v 0 0 &&& za v 1 0) ||| (za v 2 0 &&& (za v 0 0 ||| za v 1 0)))
def step32 (v : List UInt32) (k w : UInt32) : List UInt32 := [x32 v k w + y32 v, za v 0 0, za v 1 0, za v 2 0, za v 3 0 + x32 v k w, za v 4 0, za v 5 0, za v 6 0]
def rnd32 (w v : List UInt32) : Nat → List UInt32
  | 0 => v
  | j + 1 => step32 (rnd32 w v j) (za K32 j 0) (za w j 0)
def add32 (s v : List UInt32) : Nat → List UInt32
  | 0 => s
  | i + 1 => zp (add32 s v i) i (za (add32 s v i) i 0 + za v i 0)
theorem add32_len {s : List UInt32} {m : Nat} (h : s.length = m) (v : List UInt32) (i : Nat) : (add32 s v i).length = m := by
  induction i with
  | zero => exact h
  | succ i ih => simp [add32, ih]
def blk32 (s w : List UInt32) : List UInt32 := add32 s (rnd32 (sch32 w 48) s 64) 8
theorem blk32_len {s : List UInt32} {m : Nat} (h : s.length = m) (w : List UInt32) : (blk32 s w).length = m := add32_len h _ _
def K64 : List UInt64 := [4794697086780616226, 8158064640168781261, 13096744586834688815, 16840607885511220156, 4131703408338449720, 6480981068601479193, 10538285296894168987, 12329834152419229976, 15566598209576043074, 1334009975649890238, 2608012711638119052, 6128411473006802146, 8268148722764581231, 9286055187155687089, 11230858885718282805, 13951009754708518548, 16472876342353939154, 17275323862435702243, 1135362057144423861, 2597628984639134821, 3308224258029322869, 5365058923640841347, 6679025012923562964, 8573033837759648693, 10970295158949994411, 12119686244451234320, 12683024718118986047, 13788192230050041572, 14330467153632333762, 15395433587784984357, 489312712824947311, 1452737877330783856, 2861767655752347644, 3322285676063803686, 5560940570517711597, 5996557281743188959, 7280758554555802590, 8532644243296465576, 9350256976987008742, 10552545826968843579, 11727347734174303076, 12113106623233404929, 14000437183269869457, 14369950271660146224, 15101387698204529176, 15463397548674623760, 17586052441742319658, 1182934255886127544, 1847814050463011016, 2177327727835720531, 2830643537854262169, 3796741975233480872, 4115178125766777443, 5681478168544905931, 6601373596472566643, 7507060721942968483, 8399075790359081724, 8693463985226723168, 9568029438360202098, 10144078919501101548, 10430055236837252648, 11840083180663258601, 13761210420658862357, 14299343276471374635, 14566680578165727644, 15097957966210449927, 16922976911328602910, 17689382322260857208, 500013540394364858, 748580250866718886, 1242879168328830382, 1977374033974150939, 2944078676154940804, 3659926193048069267, 4368137639120453308, 4836135668995329356, 5532061633213252278, 6448918945643986474, 6902733635092675308, 7801388544844847127]
def sch64 (w : List UInt64) : Nat → List UInt64
  | 0 => w
  | q + 1 => sch64 w q ++ [((QW (za (sch64 w q) (14 + q) 0) 19 61 6 true + za (sch64 w q) (9 + q) 0) + QW (za (sch64 w q) (1 + q) 0) 1 8 7 true) + za (sch64 w q) q 0]
theorem sch64_len (w : List UInt64) (q : Nat) : (sch64 w q).length = w.length + q := by
  induction q with
  | zero => rfl
  | succ q ih => rw [sch64, zH, ih]; rfl
def x64 (v : List UInt64) (k w : UInt64) : UInt64 := (((za v 7 0 + QW (za v 4 0) 14 18 41 false) + (za v 6 0 ^^^ (za v 4 0 &&& (za v 5 0 ^^^ za v 6 0)))) + k) + w
def y64 (v : List UInt64) : UInt64 := QW (za v 0 0) 28 34 39 false + ((za v 0 0 &&& za v 1 0) ||| (za v 2 0 &&& (za v 0 0 ||| za v 1 0)))
def step64 (v : List UInt64) (k w : UInt64) : List UInt64 := [x64 v k w + y64 v, za v 0 0, za v 1 0, za v 2 0, za v 3 0 + x64 v k w, za v 4 0, za v 5 0, za v 6 0]
def rnd64 (w v : List UInt64) : Nat → List UInt64
  | 0 => v
  | j + 1 => step64 (rnd64 w v j) (za K64 j 0) (za w j 0)
def add64 (s v : List UInt64) : Nat → List UInt64
  | 0 => s
  | i + 1 => zp (add64 s v i) i (za (add64 s v i) i 0 + za v i 0)
theorem add64_len {s : List UInt64} {m : Nat} (h : s.length = m) (v : List UInt64) (i : Nat) : (add64 s v i).length = m := by
  induction i with
  | zero => exact h
  | succ i ih => simp [add64, ih]
def blk64 (s w : List UInt64) : List UInt64 := add64 s (rnd64 (sch64 w 64) s 80) 8
theorem blk64_len {s : List UInt64} {m : Nat} (h : s.length = m) (w : List UInt64) : (blk64 s w).length = m := add64_len h _ _
abbrev kL64 : List Value := [Value.int .i64 64, Value.int .i64 1, Value.int .i64 8, Value.int .i64 7, Value.int .i64 19, Value.int .i64 61, Value.int .i64 6, Value.int .i64 28, Value.int .i64 34, Value.int .i64 39, Value.int .i64 14, Value.int .i64 18, Value.int .i64 41]
theorem blocked64_go (w : World) (bd : Nat) (hh : Int) (s : List UInt32) (hls : zc s = 8) (s2 : List UInt64) (hls2 : zc s2 = 8) (ar : Option Addr) (nr cr : Nat) (dn : UInt64) (aw : Option Addr) (cw : Nat) (w0 : List UInt64) (hw0 : zc w0 = 16) (gk64 : InU64 w [.box bd (([.int .i64 hh] : List Value) ++ ((ZJ s) ++ ((zh s2) ++ ([.slice ar nr cr, zn dn] : List Value)))) 115, .vec aw cw 1 (zh w0) 31] (some ⟨1, 0, none⟩) 80 K64) (hH : Heap w [.box bd (([.int .i64 hh] : List Value) ++ ((ZJ s) ++ ((zh s2) ++ ([.slice ar nr cr, zn dn] : List Value)))) 115, .vec aw cw 1 (zh w0) 31]) : Calls zB 100 #[.pointer (some ⟨bd, 9, none⟩), .slice aw 16 cw, .slice (some ⟨1, 0, none⟩) 80 80, .agg (zg kL64)] w fun e w' => e = .returned (.tuple #[]) ∧ Ev w [.box bd (([.int .i64 hh] : List Value) ++ ((ZJ s) ++ ((zh s2) ++ ([.slice ar nr cr, zn dn] : List Value)))) 115, .vec aw cw 1 (zh w0) 31] w' [.box bd (([.int .i64 hh] : List Value) ++ ((ZJ s) ++ ((zh (blk64 s2 w0)) ++ ([.slice ar nr cr, zn dn] : List Value)))) 115] := by
 rw [show (16 : Nat) = zc w0 from hw0.symm]
 have hKl : zc K64 = 80 := rfl
 refine d_0 [(0, .pointer (some ⟨bd, 9, none⟩)), (1, .slice aw (zc w0) cw), (2, .slice (some ⟨1, 0, none⟩) 80 80), (3, .agg (zg kL64))] 179 Tryz.func100 Tryz.ntmps100 (hH) fun aM aN aO => wp_seq <| zk <| f_o <| m_m 124 kL64 aN aO fun _ _ Ed aP aQ => f_e <| ze <| wp_seq <| wp_seq <| d_r [0,1,2,7,8] [] aP fun _ aR => ?_
 refine ze <| wp_block <| Z5 (fun aS ac wo => ∃ (q : Nat) (av : Option Addr) (cv : Nat) (wl : List UInt64), aS = (64 - q : Nat) ∧ Env ac 179 [(0, .pointer (some ⟨bd, 9, none⟩)), (1, .slice av (zc wl) cv), (2, .slice (some ⟨1, 0, none⟩) 80 80), (7, pt Ed), (8, ni (16 + q))] ∧ Ev w [.box bd (([.int .i64 hh] : List Value) ++ ((ZJ s) ++ ((zh s2) ++ ([.slice ar nr cr, zn dn] : List Value)))) 115, .vec aw cw 1 (zh w0) 31] wo [.vec av cv 1 (zh wl) 31, .box bd (([.int .i64 hh] : List Value) ++ ((ZJ s) ++ ((zh s2) ++ ([.slice ar nr cr, zn dn] : List Value)))) 115, .box Ed kL64 124] ∧ (q ≤ 64) ∧ (wl = sch64 w0 q)) ⟨_, 0, aw, cw, w0, rfl, aR.sb, aQ.pk [1, 0, 2], by omega, rfl⟩ ?_
 rintro aT _ _ ⟨q, av, cv, wl, rfl, aI, EI, hq, hew⟩
 refine wp_seq <| wp_seq <| d_r [0,1,2,7,8,25] [] aI fun _ EX => ?_
 refine ze <| c_d (((16 + q : Nat) : Int) < (80 : Int)) EX (fun aJ => ?_) (fun aJ => ?_)
 ·
  refine wp_skip <| ze <| wp_seq <| wp_block ?_
  have hwl : zc wl = 16 + q := by rw [hew, sch64_len, hw0]
  refine r_c (fun ac wo => ∃ (Ee : Option Addr) (Ef : Nat), Env ac 179 [(0, .pointer (some ⟨bd, 9, none⟩)), (1, .slice Ee (zc (wl ++ [(((QW (za wl (14 + q) 0) 19 61 6 true) + (za wl (9 + q) 0)) + (QW (za wl (1 + q) 0) 1 8 7 true)) + (za wl q 0)])) Ef), (2, .slice (some ⟨1, 0, none⟩) 80 80), (7, pt Ed), (8, ni (16 + q))] ∧ Ev w [.box bd (([.int .i64 hh] : List Value) ++ ((ZJ s) ++ ((zh s2) ++ ([.slice ar nr cr, zn dn] : List Value)))) 115, .vec aw cw 1 (zh w0) 31] wo [.vec Ee Ef 1 (zh (wl ++ [(((QW (za wl (14 + q) 0) 19 61 6 true) + (za wl (9 + q) 0)) + (QW (za wl (1 + q) 0) 1 8 7 true)) + (za wl q 0)])) 31, .box bd (([.int .i64 hh] : List Value) ++ ((ZJ s) ++ ((zh s2) ++ ([.slice ar nr cr, zn dn] : List Value)))) 115, .box Ed kL64 124]) ?_ ?_
  ·
   refine h_s (fun wv => Ev w [.box bd (([.int .i64 hh] : List Value) ++ ((ZJ s) ++ ((zh s2) ++ ([.slice ar nr cr, zn dn] : List Value)))) 115, .vec aw cw 1 (zh w0) 31] wv [.vec av cv 1 (zh wl) 31, .box Ed kL64 124]) [35] 37 ?_
   have Eb := EI.trans (zS EI.heap)
   have EA : 14 + q < zc wl := (by omega)
   obtain ⟨Eg, Eu⟩ := JF (XP Eb.heap (k := 0) rfl) EA
   refine q_s [0,1,2,3] [(3, g_n (w_r (e := ((16 + q : Nat) : Int) - (2 : Int)) (x := ((14 + q : Nat) : Int)) (by omega)))] 33 EX (Eb.pk [0, 2]) fun _ EY => q_f 4 (s := Instr.indexAt 127 (.slice av (zc wl) cv) (ni (14 + q))) (v := .pointer (some (Addr.add Eg (14 + q)))) EY (fun _ => Ql (e := 31) (sz := 1) (j := 14 + q) (jo := 14 + q) Eu (by kernel_rfl) (by kernel_rfl) (by omega) EA (ZG _) _) (fun _ => Eb.pk [0, 2]) fun _ EZ => ?_
   have E0 : 14 + q < zc wl := by omega
   refine q_r 5 (s := Instr.loadAt 31 (.pointer (some (Addr.add Eg (14 + q))))) (v := zn (za wl (14 + q) 0)) EZ (fun w hS => Y6 (ad := Eg) (o := 14 + q) rfl (hS.heap.reads (k := 0) rfl) Eu (zC E0) (by kernel_rfl)) (Eb.pk [0, 2]) fun _ E1 => q_s [6] [] 30 E1 (Eb.pk [0, 2]) fun _ E2 => q_l 1 7 E2 (Eb.pk [0, 2]) fun _ E3 => q_s [8] [] 28 E3 (Eb.pk [0, 2]) fun _ E4 => q_r 9 (s := Instr.loadAt 122 (.pointer (some ⟨Ed, 4, none⟩))) (v := .agg #[.int .i64 19, .int .i64 61, .int .i64 6]) E4 (fun w hS => zV (m := 3) (cs := [.int .i64 19, .int .i64 61, .int .i64 6]) rfl (by kernel_rfl) (by kernel_rfl) (hS.heap.cells (k := 1) (off := 4) (m := 3) rfl rfl)) (Eb.pk [0, 2]) fun _ E5 => ?_
   have EB : 9 + q < zc wl := (by omega)
   obtain ⟨Eh, Ew⟩ := JF (XP Eb.heap (k := 0) rfl) EB
   refine q_s [11,12,13] [(13, g_n (w_r (e := ((16 + q : Nat) : Int) - (7 : Int)) (x := ((9 + q : Nat) : Int)) (by omega)))] 24 E5 (Eb.pk [0, 2]) fun _ E6 => q_f 14 (s := Instr.indexAt 127 (.slice av (zc wl) cv) (ni (9 + q))) (v := .pointer (some (Addr.add Eh (9 + q)))) E6 (fun _ => Ql (e := 31) (sz := 1) (j := 9 + q) (jo := 9 + q) Ew (by kernel_rfl) (by kernel_rfl) (by omega) EB (ZG _) _) (fun _ => Eb.pk [0, 2]) fun _ E7 => ?_
   have E8 : 9 + q < zc wl := by omega
   refine q_r 15 (s := Instr.loadAt 31 (.pointer (some (Addr.add Eh (9 + q))))) (v := zn (za wl (9 + q) 0)) E7 (fun w hS => Y6 (ad := Eh) (o := 9 + q) rfl (hS.heap.reads (k := 0) rfl) Ew (zC E8) (by kernel_rfl)) (Eb.pk [0, 2]) fun _ E9 => ?_
   have EC : 1 + q < zc wl := (by omega)
   obtain ⟨Ei, Ex⟩ := JF (XP Eb.heap (k := 0) rfl) EC
   refine q_s [17,18,19] [(19, g_n (w_r (e := ((16 + q : Nat) : Int) - (15 : Int)) (x := ((1 + q : Nat) : Int)) (by omega)))] 19 E9 (Eb.pk [0, 2]) fun _ Ha => q_f 20 (s := Instr.indexAt 127 (.slice av (zc wl) cv) (ni (1 + q))) (v := .pointer (some (Addr.add Ei (1 + q)))) Ha (fun _ => Ql (e := 31) (sz := 1) (j := 1 + q) (jo := 1 + q) Ex (by kernel_rfl) (by kernel_rfl) (by omega) EC (ZG _) _) (fun _ => Eb.pk [0, 2]) fun _ Hb => ?_
   have Hc : 1 + q < zc wl := by omega
   refine q_r 21 (s := Instr.loadAt 31 (.pointer (some (Addr.add Ei (1 + q))))) (v := zn (za wl (1 + q) 0)) Hb (fun w hS => Y6 (ad := Ei) (o := 1 + q) rfl (hS.heap.reads (k := 0) rfl) Ex (zC Hc) (by kernel_rfl)) (Eb.pk [0, 2]) fun _ Hd => q_s [22] [] 16 Hd (Eb.pk [0, 2]) fun _ He => q_l 1 23 He (Eb.pk [0, 2]) fun _ Hf => q_s [24] [] 14 Hf (Eb.pk [0, 2]) fun _ Hg => q_r 25 (s := Instr.loadAt 122 (.pointer (some ⟨Ed, 1, none⟩))) (v := .agg #[.int .i64 1, .int .i64 8, .int .i64 7]) Hg (fun w hS => zV (m := 3) (cs := [.int .i64 1, .int .i64 8, .int .i64 7]) rfl (by kernel_rfl) (by kernel_rfl) (hS.heap.cells (k := 1) (off := 1) (m := 3) rfl rfl)) (Eb.pk [0, 2]) fun _ Hh => ?_
   have ED : q < zc wl := (by omega)
   obtain ⟨Ej, Ey⟩ := JF (XP Eb.heap (k := 0) rfl) ED
   refine q_s [28,29,30] [(30, g_n (w_r (e := ((16 + q : Nat) : Int) - (16 : Int)) (x := ((q : Nat) : Int)) (by omega)))] 10 Hh (Eb.pk [0, 2]) fun _ Hi => q_f 31 (s := Instr.indexAt 127 (.slice av (zc wl) cv) (ni q)) (v := .pointer (some (Addr.add Ej q))) Hi (fun _ => Ql (e := 31) (sz := 1) (j := q) (jo := q) Ey (by kernel_rfl) (by kernel_rfl) (by omega) ED (ZG _) _) (fun _ => Eb.pk [0, 2]) fun _ Hj => ?_
   have Hk : q < zc wl := by omega
   refine q_r 32 (s := Instr.loadAt 31 (.pointer (some (Addr.add Ej q)))) (v := zn (za wl q 0)) Hj (fun w hS => Y6 (ad := Ej) (o := q) rfl (hS.heap.reads (k := 0) rfl) Ey (zC Hk) (by kernel_rfl)) (Eb.pk [0, 2]) fun _ Hl => q_t 10 ?_
   refine c_p Hl Eb (mixed64_true _ (za wl (14 + q) 0) 19 61 6 (by decide) (by decide) (by decide)) fun _ _ Hm Em => ⟨fun _ => Em.pk [0, 2], ?_⟩
   refine q_s [16] [(16, g_i .u64 (zO (x := QW (za wl (14 + q) 0) 19 61 6 true) (y := za wl (9 + q) 0) rfl rfl))] 6 Hm (Em.pk [0, 2]) fun _ Hn => q_t 26 ?_
   refine c_p Hn Em (mixed64_true _ (za wl (1 + q) 0) 1 8 7 (by decide) (by decide) (by decide)) fun _ _ Ho En => ⟨fun _ => En.pk [0, 2], ?_⟩
   refine q_s [27,33] [(27, g_i .u64 (zO (x := (QW (za wl (14 + q) 0) 19 61 6 true) + (za wl (9 + q) 0)) (y := QW (za wl (1 + q) 0) 1 8 7 true) rfl rfl)), (33, g_i .u64 (zO (x := ((QW (za wl (14 + q) 0) 19 61 6 true) + (za wl (9 + q) 0)) + (QW (za wl (1 + q) 0) 1 8 7 true)) (y := za wl q 0) rfl rfl))] 3 Ho (En.pk [0, 2]) fun _ Hp => q_t 34 ?_
   refine ZZ (d := some 62) (t := 127) (T := 31) (m := 1) (parts := #[(0, zn ((((QW (za wl (14 + q) 0) 19 61 6 true) + (za wl (9 + q) 0)) + (QW (za wl (1 + q) 0) 1 8 7 true)) + (za wl q 0)))]) (xs := zh [(((QW (za wl (14 + q) 0) 19 61 6 true) + (za wl (9 + q) 0)) + (QW (za wl (1 + q) 0) 1 8 7 true)) + (za wl q 0)]) (sz := 1) Hp (by kernel_rfl) (by kernel_rfl) rfl (by decide) En ?_
   intro _ _ Hq Hr Eo
   refine ⟨fun _ => Eo.pk [0, 2], ?_⟩
   refine q_t 35 ?_
   refine Zl (d := some 63) (t := 127) (tx := 127) (ty := 127) (k := 0) (p := zc wl) (m := 1) (x := .slice (some ⟨Hq, 0, none⟩) 1 1) (bytes := 8) Hr (by kernel_rfl) Eo rfl (u64s_len _) (Zk (size := 1) (tx := 127) (e' := 31) (by kernel_rfl) (Eo.heap.reads (k := 3) rfl) rfl (fun e => by cases e) (zw _)) (by kernel_rfl) (z := .int .u64 0) (by kernel_rfl) rfl (by decide) (by omega) (by unfold maxLen; omega) ?_
   intro _ _ Hs Ht EE EF hnz _
   clear hnz
   rw [← u64s_append] at EF
   have EJ : (zc wl) + 1 = zc (wl ++ [(((QW (za wl (14 + q) 0) 19 61 6 true) + (za wl (9 + q) 0)) + (QW (za wl (1 + q) 0) 1 8 7 true)) + (za wl q 0)]) := (by first | (simp; done) | (simp; omega) | omega)
   rw [EJ] at EE
   refine ⟨q_y, ?_⟩
   refine q_n [36] [] 0 EE fun _ Hu => ?_
   exact h_e ⟨Hs, Ht, Hu.sb, EF.pk [0, 1, 2]⟩
  rintro _ _ ⟨Ee, Ef, Hv, Hw⟩
  refine zx <| ze <| d_r [0,1,2,7,8] [(1, g_n (w_a (16 + q) 1))] Hv fun _ Hx => ze <| ⟨_, ⟨q + 1, Ee, Ef, (wl ++ [(((QW (za wl (14 + q) 0) 19 61 6 true) + (za wl (9 + q) 0)) + (QW (za wl (1 + q) 0) 1 8 7 true)) + (za wl q 0)]), rfl, Hx.sb, Hw.pk [0, 1, 2], by omega, by rw [hew]; rfl⟩, ?_⟩
  omega
 refine wp_exit <| zD <| zD <| zP <| ze <| wp_seq ?_
 have hq64 : q = 64 := by omega
 have hwl : zc wl = 80 := by rw [hew, sch64_len, hw0, hq64]
 refine r_c (fun ac wo => Env ac 179 [(0, .pointer (some ⟨bd, 9, none⟩)), (1, .slice av (zc wl) cv), (2, .slice (some ⟨1, 0, none⟩) 80 80), (7, pt Ed), (8, ni (16 + q)), (9, zn (za s2 0 0)), (10, zn (za s2 1 0)), (11, zn (za s2 2 0)), (12, zn (za s2 3 0)), (13, zn (za s2 4 0)), (14, zn (za s2 5 0)), (15, zn (za s2 6 0)), (16, zn (za s2 7 0))] ∧ Ev w [.box bd (([.int .i64 hh] : List Value) ++ ((ZJ s) ++ ((zh s2) ++ ([.slice ar nr cr, zn dn] : List Value)))) 115, .vec aw cw 1 (zh w0) 31] wo [.vec av cv 1 (zh wl) 31, .box bd (([.int .i64 hh] : List Value) ++ ((ZJ s) ++ ((zh s2) ++ ([.slice ar nr cr, zn dn] : List Value)))) 115, .box Ed kL64 124]) ?_ ?_
 ·
  refine h_s (fun wv => Ev w [.box bd (([.int .i64 hh] : List Value) ++ ((ZJ s) ++ ((zh s2) ++ ([.slice ar nr cr, zn dn] : List Value)))) 115, .vec aw cw 1 (zh w0) 31] wv [.box bd (([.int .i64 hh] : List Value) ++ ((ZJ s) ++ ((zh s2) ++ ([.slice ar nr cr, zn dn] : List Value)))) 115]) [] 40 ?_
  have Ea := EI.trans (zS EI.heap)
  have Hy : 0 < zc s2 := by rw [hls2]; omega
  refine q_s [0,1,2] [] 37 EX (Ea.pk [1]) fun _ Hz => q_r 3 (s := Instr.loadAt 31 (.pointer (some ⟨bd, 9, none⟩))) (v := zn (za s2 0 0)) Hz (fun w hS => Zi (by kernel_rfl) (hS.heap.cell (k := 0) rfl (zW (n := 1) (j := 8) rfl (zW (n := 8) (j := 0) (ZB hls) (Jh (zC Hy)))))) (Ea.pk [1]) fun _ HA => ?_
  have HB : 1 < zc s2 := by rw [hls2]; omega
  refine q_s [4,5,6] [] 33 HA (Ea.pk [1]) fun _ HC => q_r 7 (s := Instr.loadAt 31 (.pointer (some ⟨bd, 10, none⟩))) (v := zn (za s2 1 0)) HC (fun w hS => Zi (by kernel_rfl) (hS.heap.cell (k := 0) rfl (zW (n := 1) (j := 9) rfl (zW (n := 8) (j := 1) (ZB hls) (Jh (zC HB)))))) (Ea.pk [1]) fun _ HD => ?_
  have HE : 2 < zc s2 := by rw [hls2]; omega
  refine q_s [8,9,10] [] 29 HD (Ea.pk [1]) fun _ HF => q_r 11 (s := Instr.loadAt 31 (.pointer (some ⟨bd, 11, none⟩))) (v := zn (za s2 2 0)) HF (fun w hS => Zi (by kernel_rfl) (hS.heap.cell (k := 0) rfl (zW (n := 1) (j := 10) rfl (zW (n := 8) (j := 2) (ZB hls) (Jh (zC HE)))))) (Ea.pk [1]) fun _ HG => ?_
  have HH : 3 < zc s2 := by rw [hls2]; omega
  refine q_s [12,13,14] [] 25 HG (Ea.pk [1]) fun _ HI => q_r 15 (s := Instr.loadAt 31 (.pointer (some ⟨bd, 12, none⟩))) (v := zn (za s2 3 0)) HI (fun w hS => Zi (by kernel_rfl) (hS.heap.cell (k := 0) rfl (zW (n := 1) (j := 11) rfl (zW (n := 8) (j := 3) (ZB hls) (Jh (zC HH)))))) (Ea.pk [1]) fun _ HJ => ?_
  have HK : 4 < zc s2 := by rw [hls2]; omega
  refine q_s [16,17,18] [] 21 HJ (Ea.pk [1]) fun _ HL => q_r 19 (s := Instr.loadAt 31 (.pointer (some ⟨bd, 13, none⟩))) (v := zn (za s2 4 0)) HL (fun w hS => Zi (by kernel_rfl) (hS.heap.cell (k := 0) rfl (zW (n := 1) (j := 12) rfl (zW (n := 8) (j := 4) (ZB hls) (Jh (zC HK)))))) (Ea.pk [1]) fun _ HM => ?_
  have HN : 5 < zc s2 := by rw [hls2]; omega
  refine q_s [20,21,22] [] 17 HM (Ea.pk [1]) fun _ HO => q_r 23 (s := Instr.loadAt 31 (.pointer (some ⟨bd, 14, none⟩))) (v := zn (za s2 5 0)) HO (fun w hS => Zi (by kernel_rfl) (hS.heap.cell (k := 0) rfl (zW (n := 1) (j := 13) rfl (zW (n := 8) (j := 5) (ZB hls) (Jh (zC HN)))))) (Ea.pk [1]) fun _ HP => ?_
  have HQ : 6 < zc s2 := by rw [hls2]; omega
  refine q_s [24,25,26] [] 13 HP (Ea.pk [1]) fun _ HR => q_r 27 (s := Instr.loadAt 31 (.pointer (some ⟨bd, 15, none⟩))) (v := zn (za s2 6 0)) HR (fun w hS => Zi (by kernel_rfl) (hS.heap.cell (k := 0) rfl (zW (n := 1) (j := 14) rfl (zW (n := 8) (j := 6) (ZB hls) (Jh (zC HQ)))))) (Ea.pk [1]) fun _ HS => ?_
  have HT : 7 < zc s2 := by rw [hls2]; omega
  refine q_s [28,29,30] [] 9 HS (Ea.pk [1]) fun _ HU => q_r 31 (s := Instr.loadAt 31 (.pointer (some ⟨bd, 16, none⟩))) (v := zn (za s2 7 0)) HU (fun w hS => Zi (by kernel_rfl) (hS.heap.cell (k := 0) rfl (zW (n := 1) (j := 15) rfl (zW (n := 8) (j := 7) (ZB hls) (Jh (zC HT)))))) (Ea.pk [1]) fun _ HV => q_s [32,33,34,35,36,37,38,39] [] 0 HV (Ea.pk [1]) fun _ HW => ?_
  exact h_e ⟨HW.sb, Ea.pk [0, 1, 2]⟩
 rintro _ _ ⟨HX, HY⟩
 refine ze <| wp_seq <| wp_seq <| d_r [0,1,2,7,8,9,10,11,12,13,14,15,16,97,98] [] HX fun _ HZ => ?_
 refine ze <| wp_block <| Z5 (fun H0 ac wo => ∃ (j : Nat) (v : List UInt64), H0 = (80 - j : Nat) ∧ Env ac 179 [(0, .pointer (some ⟨bd, 9, none⟩)), (1, .slice av (zc wl) cv), (2, .slice (some ⟨1, 0, none⟩) 80 80), (7, pt Ed), (8, ni (16 + q)), (9, zn (za v 0 0)), (10, zn (za v 1 0)), (11, zn (za v 2 0)), (12, zn (za v 3 0)), (13, zn (za v 4 0)), (14, zn (za v 5 0)), (15, zn (za v 6 0)), (16, zn (za v 7 0)), (97, .int .i64 80), (98, ni j)] ∧ Ev w [.box bd (([.int .i64 hh] : List Value) ++ ((ZJ s) ++ ((zh s2) ++ ([.slice ar nr cr, zn dn] : List Value)))) 115, .vec aw cw 1 (zh w0) 31] wo [.vec av cv 1 (zh wl) 31, .box bd (([.int .i64 hh] : List Value) ++ ((ZJ s) ++ ((zh s2) ++ ([.slice ar nr cr, zn dn] : List Value)))) 115, .box Ed kL64 124] ∧ (j ≤ 80) ∧ (v = rnd64 wl s2 j)) ⟨_, 0, s2, rfl, HZ.sb, HY.pk [0, 1, 2], by omega, rfl⟩ ?_
 rintro aK _ _ ⟨j, v, rfl, H1, Ep, hj, hev⟩
 refine wp_seq <| d_r [0,1,2,7,8,9,10,11,12,13,14,15,16,97,98,99] [] H1 fun _ Eq => ?_
 refine ze <| wp_seq <| c_d (((j : Nat) : Int) < (80 : Int)) Eq (fun H2 => ?_) (fun H2 => ?_)
 ·
  refine wp_skip <| ze <| wp_seq <| wp_block <| wp_seq <| d_r [0,1,2,7,8,9,10,11,12,13,14,15,16,17,97,98] [] Eq fun _ H3 => ?_
  refine ze <| wp_seq <| r_c (fun ac wo => Env ac 179 [(0, .pointer (some ⟨bd, 9, none⟩)), (1, .slice av (zc wl) cv), (2, .slice (some ⟨1, 0, none⟩) 80 80), (7, pt Ed), (8, ni (16 + q)), (9, zn (za v 0 0)), (10, zn (za v 1 0)), (11, zn (za v 2 0)), (12, zn (za v 3 0)), (13, zn (za v 4 0)), (14, zn (za v 5 0)), (15, zn (za v 6 0)), (16, zn (za v 7 0)), (18, zn (((((za v 7 0) + (QW (za v 4 0) 14 18 41 false)) + ((za v 6 0) ^^^ ((za v 4 0) &&& ((za v 5 0) ^^^ (za v 6 0))))) + (za K64 j 0)) + (za wl j 0))), (97, .int .i64 80), (98, ni j)] ∧ Ev w [.box bd (([.int .i64 hh] : List Value) ++ ((ZJ s) ++ ((zh s2) ++ ([.slice ar nr cr, zn dn] : List Value)))) 115, .vec aw cw 1 (zh w0) 31] wo [.vec av cv 1 (zh wl) 31, .box bd (([.int .i64 hh] : List Value) ++ ((ZJ s) ++ ((zh s2) ++ ([.slice ar nr cr, zn dn] : List Value)))) 115, .box Ed kL64 124]) ?_ ?_
  ·
   refine h_s (fun wv => Ev w [.box bd (([.int .i64 hh] : List Value) ++ ((ZJ s) ++ ((zh s2) ++ ([.slice ar nr cr, zn dn] : List Value)))) 115, .vec aw cw 1 (zh w0) 31] wv [.vec av cv 1 (zh wl) 31, .box Ed kL64 124]) [] 27 ?_
   have Ec := Ep.trans (zS Ep.heap)
   refine q_s [0,1,2] [] 24 H3 (Ec.pk [0, 2]) fun _ H4 => q_l 1 3 H4 (Ec.pk [0, 2]) fun _ H5 => q_s [4] [] 22 H5 (Ec.pk [0, 2]) fun _ H6 => q_r 5 (s := Instr.loadAt 122 (.pointer (some ⟨Ed, 10, none⟩))) (v := .agg #[.int .i64 14, .int .i64 18, .int .i64 41]) H6 (fun w hS => zV (m := 3) (cs := [.int .i64 14, .int .i64 18, .int .i64 41]) rfl (by kernel_rfl) (by kernel_rfl) (hS.heap.cells (k := 1) (off := 10) (m := 3) rfl rfl)) (Ec.pk [0, 2]) fun _ H7 => ?_
   have H8 : j < 80 := (by omega)
   refine q_s [8,9,10,11,12,13,14,16,17] [(12, g_i .u64 (ZK (x := za v 5 0) (y := za v 6 0) rfl rfl)), (13, g_i .u64 (Zp (x := za v 4 0) (y := (za v 5 0) ^^^ (za v 6 0)) rfl rfl)), (14, g_i .u64 (ZK (x := za v 6 0) (y := (za v 4 0) &&& ((za v 5 0) ^^^ (za v 6 0))) rfl rfl))] 12 H7 (Ec.pk [0, 2]) fun _ H9 => q_f 18 (s := Instr.indexAt 127 (.slice (some ⟨1, 0, none⟩) 80 80) (ni j)) (v := .pointer (some (Addr.add ⟨1, 0, none⟩ j))) H9 (fun _ => Ql (e := 31) (sz := 1) (j := j) (jo := j) rfl (by kernel_rfl) (by kernel_rfl) (by omega) H8 (ZG _) _) (fun _ => Ec.pk [0, 2]) fun _ aa => ?_
   have ab : j < zc K64 := by omega
   refine q_r 19 (s := Instr.loadAt 31 (.pointer (some (Addr.add ⟨1, 0, none⟩ j)))) (v := zn (za K64 j 0)) aa (fun w hS => Y6 (ad := ⟨1, 0, none⟩) (o := j) rfl (gk64.ev hS).reads rfl (zC ab) (by kernel_rfl)) (Ec.pk [0, 2]) fun _ ae => ?_
   have EG : j < zc wl := (by omega)
   obtain ⟨Ek, Ez⟩ := JF (XP Ec.heap (k := 0) rfl) EG
   refine q_s [21,22] [] 8 ae (Ec.pk [0, 2]) fun _ af => q_f 23 (s := Instr.indexAt 127 (.slice av (zc wl) cv) (ni j)) (v := .pointer (some (Addr.add Ek j))) af (fun _ => Ql (e := 31) (sz := 1) (j := j) (jo := j) Ez (by kernel_rfl) (by kernel_rfl) (by omega) EG (ZG _) _) (fun _ => Ec.pk [0, 2]) fun _ ag => ?_
   have ah : j < zc wl := by omega
   refine q_r 24 (s := Instr.loadAt 31 (.pointer (some (Addr.add Ek j)))) (v := zn (za wl j 0)) ag (fun w hS => Y6 (ad := Ek) (o := j) rfl (hS.heap.reads (k := 0) rfl) Ez (zC ah) (by kernel_rfl)) (Ec.pk [0, 2]) fun _ ai => q_t 6 ?_
   refine c_p ai Ec (mixed64_false _ (za v 4 0) 14 18 41 (by decide) (by decide) (by decide)) fun _ _ aj Er => ⟨fun _ => Er.pk [0, 2], ?_⟩
   refine q_s [7,15,20,25,26] [(7, g_i .u64 (zO (x := za v 7 0) (y := QW (za v 4 0) 14 18 41 false) rfl rfl)), (15, g_i .u64 (zO (x := (za v 7 0) + (QW (za v 4 0) 14 18 41 false)) (y := (za v 6 0) ^^^ ((za v 4 0) &&& ((za v 5 0) ^^^ (za v 6 0)))) rfl rfl)), (20, g_i .u64 (zO (x := ((za v 7 0) + (QW (za v 4 0) 14 18 41 false)) + ((za v 6 0) ^^^ ((za v 4 0) &&& ((za v 5 0) ^^^ (za v 6 0))))) (y := za K64 j 0) rfl rfl)), (25, g_i .u64 (zO (x := (((za v 7 0) + (QW (za v 4 0) 14 18 41 false)) + ((za v 6 0) ^^^ ((za v 4 0) &&& ((za v 5 0) ^^^ (za v 6 0))))) + (za K64 j 0)) (y := za wl j 0) rfl rfl))] 0 aj (Er.pk [0, 2]) fun _ ak => ?_
   exact h_e ⟨ak.sb, Er.pk [0, 1, 2]⟩
  rintro _ _ ⟨al, Es⟩
  refine ze <| wp_seq <| zk <| d_k [0,1,2,7,8,9,10,11,12,13,14,15,16,18,97,98,127,128] [] 2 al fun _ am => f_o <| m_l 2 am Es fun _ an => d_k [0,1,2,7,8,9,10,11,12,13,14,15,16,18,97,98,127,129,130] [] 4 an fun _ ao => f_o <| m_a 2 7 3 [.int .i64 28, .int .i64 34, .int .i64 39] ao Es rfl rfl rfl fun _ ap => f_o <| c_p ap Es (mixed64_false _ (za v 0 0) 28 34 39 (by decide) (by decide) (by decide)) fun _ _ aq au => d_e [0,1,2,7,8,9,10,11,12,13,14,15,16,18,19,97,98] [(8, g_i .u64 (Zp (x := za v 0 0) (y := za v 1 0) rfl rfl)), (12, g_i .u64 (ZL (x := za v 0 0) (y := za v 1 0) rfl rfl)), (13, g_i .u64 (Zp (x := za v 2 0) (y := (za v 0 0) ||| (za v 1 0)) rfl rfl)), (14, g_i .u64 (ZL (x := (za v 0 0) &&& (za v 1 0)) (y := (za v 2 0) &&& ((za v 0 0) ||| (za v 1 0))) rfl rfl)), (15, g_i .u64 (zO (x := QW (za v 0 0) 28 34 39 false) (y := ((za v 0 0) &&& (za v 1 0)) ||| ((za v 2 0) &&& ((za v 0 0) ||| (za v 1 0)))) rfl rfl))] aq fun _ ax => ?_
  refine ze <| d_r [0,1,2,7,8,9,10,11,12,13,14,15,16,97,98] [(2, g_i .u64 (zO (x := ((((za v 7 0) + (QW (za v 4 0) 14 18 41 false)) + ((za v 6 0) ^^^ ((za v 4 0) &&& ((za v 5 0) ^^^ (za v 6 0))))) + (za K64 j 0)) + (za wl j 0)) (y := (QW (za v 0 0) 28 34 39 false) + (((za v 0 0) &&& (za v 1 0)) ||| ((za v 2 0) &&& ((za v 0 0) ||| (za v 1 0))))) rfl rfl)), (8, g_i .u64 (zO (x := za v 3 0) (y := ((((za v 7 0) + (QW (za v 4 0) 14 18 41 false)) + ((za v 6 0) ^^^ ((za v 4 0) &&& ((za v 5 0) ^^^ (za v 6 0))))) + (za K64 j 0)) + (za wl j 0)) rfl rfl))] ax fun _ ay => zx <| ze <| d_r [0,1,2,7,8,9,10,11,12,13,14,15,16,97,98] [(0, g_n (w_a j 1))] ay fun _ az => ze ?_
  have hv2 : step64 v (za K64 j 0) (za wl j 0) = [(((((za v 7 0) + (QW (za v 4 0) 14 18 41 false)) + ((za v 6 0) ^^^ ((za v 4 0) &&& ((za v 5 0) ^^^ (za v 6 0))))) + (za K64 j 0)) + (za wl j 0)) + ((QW (za v 0 0) 28 34 39 false) + (((za v 0 0) &&& (za v 1 0)) ||| ((za v 2 0) &&& ((za v 0 0) ||| (za v 1 0))))), za v 0 0, za v 1 0, za v 2 0, (za v 3 0) + (((((za v 7 0) + (QW (za v 4 0) 14 18 41 false)) + ((za v 6 0) ^^^ ((za v 4 0) &&& ((za v 5 0) ^^^ (za v 6 0))))) + (za K64 j 0)) + (za wl j 0)), za v 4 0, za v 5 0, za v 6 0] := rfl
  refine ⟨_, ⟨j + 1, [(((((za v 7 0) + (QW (za v 4 0) 14 18 41 false)) + ((za v 6 0) ^^^ ((za v 4 0) &&& ((za v 5 0) ^^^ (za v 6 0))))) + (za K64 j 0)) + (za wl j 0)) + ((QW (za v 0 0) 28 34 39 false) + (((za v 0 0) &&& (za v 1 0)) ||| ((za v 2 0) &&& ((za v 0 0) ||| (za v 1 0))))), za v 0 0, za v 1 0, za v 2 0, (za v 3 0) + (((((za v 7 0) + (QW (za v 4 0) 14 18 41 false)) + ((za v 6 0) ^^^ ((za v 4 0) &&& ((za v 5 0) ^^^ (za v 6 0))))) + (za K64 j 0)) + (za wl j 0)), za v 4 0, za v 5 0, za v 6 0], rfl, az.sb, au.pk [0, 1, 2], by omega, by rw [← hv2, hev]; rfl⟩, ?_⟩
  omega
 refine wp_exit <| zD <| zD <| zP <| ze <| wp_seq ?_
 have hjn : j = 80 := by omega
 have hvl : zc v = 8 := by rw [hev, hjn]; rfl
 refine d_r [0,1,2,7,8,9,10,11,12,13,14,15,16,97,98,164,165] [] Eq fun _ aA => ze <| wp_block ?_
 have hlv : ([za v 0 0, za v 1 0, za v 2 0, za v 3 0, za v 4 0, za v 5 0, za v 6 0, za v 7 0] : List UInt64) = v := by rcases v8 hvl with ⟨a0, a1, a2, a3, a4, a5, a6, a7, rfl⟩; rfl
 refine Z5 (fun aB ac wo => ∃ (i : Nat) (sx : List UInt64), aB = (8 - i : Nat) ∧ Env ac 179 [(0, .pointer (some ⟨bd, 9, none⟩)), (1, .slice av (zc wl) cv), (2, .slice (some ⟨1, 0, none⟩) 80 80), (7, pt Ed), (8, ni (16 + q)), (9, zn (za v 0 0)), (10, zn (za v 1 0)), (11, zn (za v 2 0)), (12, zn (za v 3 0)), (13, zn (za v 4 0)), (14, zn (za v 5 0)), (15, zn (za v 6 0)), (16, zn (za v 7 0)), (97, .int .i64 80), (98, ni j), (164, .agg (zg (zh ([za v 0 0, za v 1 0, za v 2 0, za v 3 0, za v 4 0, za v 5 0, za v 6 0, za v 7 0] : List UInt64)))), (165, ni i)] ∧ Ev w [.box bd (([.int .i64 hh] : List Value) ++ ((ZJ s) ++ ((zh s2) ++ ([.slice ar nr cr, zn dn] : List Value)))) 115, .vec aw cw 1 (zh w0) 31] wo [.box bd (([.int .i64 hh] : List Value) ++ ((ZJ s) ++ ((zh sx) ++ ([.slice ar nr cr, zn dn] : List Value)))) 115, .vec av cv 1 (zh wl) 31, .box Ed kL64 124] ∧ (i ≤ 8) ∧ (zc sx = 8) ∧ (sx = add64 s2 v i)) ⟨_, 0, s2, rfl, aA.sb, Ep.pk [1, 0, 2], by omega, hls2, rfl⟩ ?_
 rintro aL _ _ ⟨i, sx, rfl, aC, El, hi, hlx, hes⟩
 refine wp_seq <| d_r [0,1,2,7,8,9,10,11,12,13,14,15,16,97,98,164,165,166] [] aC fun _ Et => ?_
 refine ze <| wp_seq <| c_d (((i : Nat) : Int) < (8 : Int)) Et (fun aD => ?_) (fun aD => ?_)
 ·
  refine wp_skip <| ze <| wp_seq <| wp_block <| wp_seq ?_
  have aE : i < zc ([za v 0 0, za v 1 0, za v 2 0, za v 3 0, za v 4 0, za v 5 0, za v 6 0, za v 7 0] : List UInt64) := by rw [(show zc ([za v 0 0, za v 1 0, za v 2 0, za v 3 0, za v 4 0, za v 5 0, za v 6 0, za v 7 0] : List UInt64) = 8 from rfl)]; omega
  refine zk <| d_k [0,1,2,7,8,9,10,11,12,13,14,15,16,97,98,164,165,167] [] 1 Et fun _ aF => f_o <| q_v (x := Instr.index 99 (.agg (zg (zh ([za v 0 0, za v 1 0, za v 2 0, za v 3 0, za v 4 0, za v 5 0, za v 6 0, za v 7 0] : List UInt64)))) (ni i)) (v := zn (za ([za v 0 0, za v 1 0, za v 2 0, za v 3 0, za v 4 0, za v 5 0, za v 6 0, za v 7 0] : List UInt64) i 0)) aF (Go.Dbr.run_indexval (e := 31) (m := 8) (cs := zh ([za v 0 0, za v 1 0, za v 2 0, za v 3 0, za v 4 0, za v 5 0, za v 6 0, za v 7 0] : List UInt64)) (j := i) (v := zn (za ([za v 0 0, za v 1 0, za v 2 0, za v 3 0, za v 4 0, za v 5 0, za v 6 0, za v 7 0] : List UInt64) i 0)) (by kernel_rfl) (by kernel_rfl) (by kernel_rfl) (by omega) (by omega) (zC aE) _) fun _ aG => d_e [0,1,2,7,8,9,10,11,12,13,14,15,16,20,21,97,98,164,165] [] aG fun _ aH => ?_
  refine ze <| r_c (fun ac wo => Env ac 179 [(0, .pointer (some ⟨bd, 9, none⟩)), (1, .slice av (zc wl) cv), (2, .slice (some ⟨1, 0, none⟩) 80 80), (7, pt Ed), (8, ni (16 + q)), (9, zn (za v 0 0)), (10, zn (za v 1 0)), (11, zn (za v 2 0)), (12, zn (za v 3 0)), (13, zn (za v 4 0)), (14, zn (za v 5 0)), (15, zn (za v 6 0)), (16, zn (za v 7 0)), (97, .int .i64 80), (98, ni j), (164, .agg (zg (zh ([za v 0 0, za v 1 0, za v 2 0, za v 3 0, za v 4 0, za v 5 0, za v 6 0, za v 7 0] : List UInt64)))), (165, ni i)] ∧ Ev w [.box bd (([.int .i64 hh] : List Value) ++ ((ZJ s) ++ ((zh s2) ++ ([.slice ar nr cr, zn dn] : List Value)))) 115, .vec aw cw 1 (zh w0) 31] wo [.box bd (([.int .i64 hh] : List Value) ++ ((ZJ s) ++ ((zh (zp sx i ((za sx i 0) + (za ([za v 0 0, za v 1 0, za v 2 0, za v 3 0, za v 4 0, za v 5 0, za v 6 0, za v 7 0] : List UInt64) i 0)))) ++ ([.slice ar nr cr, zn dn] : List Value)))) 115, .vec av cv 1 (zh wl) 31, .box Ed kL64 124]) ?_ ?_
  ·
   refine draw_any (by kernel_rfl) 10 (by kernel_rfl) ?_
   have EH := El.trans (zS El.heap)
   refine q_a [0,1,2] [] 7 aH fun _ EK => q_g 3 (s := Instr.indexAt 99 (.pointer (some ⟨bd, 9, none⟩)) (ni i)) (v := .pointer (some ⟨bd, 9 + i, none⟩)) EK (fun _ => zt (e := 31) (sz := 1) (m := 8) (j := i) (o := 9 + i) (by kernel_rfl) (by kernel_rfl) (by omega) (by omega) (by omega) _) fun _ EL => q_a [5,7] [] 4 EL fun _ EM => q_u 4 ?_
   have EN : i < zc sx := by rw [hlx]; omega
   refine m_v 0 (9 + i) (zn (za sx i 0)) EM EH rfl (seg_eq (by omega) (zW (n := 1) (j := 8 + (i)) rfl (zW (n := 8) (j := i) (ZB hls) (Jh (zC EN))))) fun _ EO => q_a [6] [(6, g_i .u64 (zO (x := za sx i 0) (y := za ([za v 0 0, za v 1 0, za v 2 0, za v 3 0, za v 4 0, za v 5 0, za v 6 0, za v 7 0] : List UInt64) i 0) rfl rfl))] 2 EO fun _ EP => q_g 8 (s := Instr.indexAt 99 (.pointer (some ⟨bd, 9, none⟩)) (ni i)) (v := .pointer (some ⟨bd, 9 + i, none⟩)) EP (fun _ => zt (e := 31) (sz := 1) (m := 8) (j := i) (o := 9 + i) (by kernel_rfl) (by kernel_rfl) (by omega) (by omega) (by omega) _) fun _ EQ => q_u 9 ?_
   have ER : i < zc sx := by rw [hlx]; omega
   refine m_t 0 (9 + i) (zn ((za sx i 0) + (za ([za v 0 0, za v 1 0, za v 2 0, za v 3 0, za v 4 0, za v 5 0, za v 6 0, za v 7 0] : List UInt64) i 0))) _ EQ EH rfl (seg_eq (by omega) (zW (n := 1) (j := 8 + (i)) rfl (zW (n := 8) (j := i) (ZB hls) (Jh (zC ER))))) (set_eq (j := 1 + (8 + (i))) (by omega) ((YD (n := 1) (j := 8 + (i)) rfl).trans (congrArg (([.int .i64 hh] : List Value) ++ ·) ((YD (n := 8) (j := i) (ZB hls)).trans (congrArg ((ZJ s) ++ ·) ((set_in (by rw [(zd hlx)]; omega)).trans (congrArg (· ++ [.slice ar nr cr, zn dn]) (u64s_set _ _ _)))))))) rfl fun _ _ ES ET => ?_
   exact a_e ⟨ES.sb, ET.pk [0, 1, 2]⟩
  rintro _ _ ⟨EU, EV⟩
  refine zx <| ze <| d_r [0,1,2,7,8,9,10,11,12,13,14,15,16,97,98,164,165] [(0, g_n (w_a i 1))] EU fun _ EW => ze <| ⟨_, ⟨i + 1, (zp sx i ((za sx i 0) + (za ([za v 0 0, za v 1 0, za v 2 0, za v 3 0, za v 4 0, za v 5 0, za v 6 0, za v 7 0] : List UInt64) i 0))), rfl, EW.sb, EV.pk [0, 1, 2], by omega, (List.length_set.trans hlx), by rw [hes, hlv]; rfl⟩, ?_⟩
  omega
 refine wp_exit <| zD <| zD <| zP <| d_end0 Et (by kernel_rfl) ?_
 have hi8 : i = 8 := by omega
 have hres : sx = blk64 s2 w0 := by rw [hes, hi8, hev, hjn, hew, hq64]; rfl
 rw [show sx = (blk64 s2 w0) from hres] at El
 exact ⟨rfl, El.pk [0]⟩
def blockOf (h : Int) : Nat := if h = 1 then 64 else if h = 2 then 128 else if h = 3 then 128 else 0
def sizeOfH (h : Int) : Nat := if h = 1 then 32 else if h = 2 then 48 else if h = 3 then 64 else 0
def init32 : List UInt32 := [1779033703, 3144134277, 1013904242, 2773480762, 1359893119, 2600822924, 528734635, 1541459225]
def zero32 : List UInt32 := zf 8 0
def init64 (h : Int) : List UInt64 := if h = 2 then [14680500436340154072, 7105036623409894663, 10473403895298186519, 1526699215303891257, 7436329637833083697, 10282925794625328401, 15784041429090275239, 5167115440072839076] else if h = 3 then [7640891576956012808, 13503953896175478587, 4354685564936845355, 11912009170470909681, 5840696475078001361, 11170449401992604703, 2270897969802886507, 6620516959819538809] else zf 8 0
def in32 (h : Int) : List UInt32 := if h = 1 then init32 else zero32
theorem init64_len (h : Int) : (init64 h).length = 8 := by unfold init64; split; rfl; split <;> rfl
theorem block_go2 (w : World) : Calls zB 97 #[.int .i64 2] w fun e w' => e = .returned (ni (blockOf 2)) ∧ Ev w [] w' [] := by
 refine d_0 [(0, .int .i64 2)] 9 Tryz.func97 Tryz.ntmps97 (Heap.nil _) fun Ed Ee Ef => d_s [0,2] [] Ee fun _ Eg => wp_seq <| d_s [2,3] [] Eg fun _ Eh => wp_block <| d_s [2,3,4] [] Eh fun _ Ec => c_f Ec ?_
 refine wp_seq <| d_s [2,3,6] [] Ec fun _ Ea => c_t Ea ?_
 refine wp_skip <| ze <| c_t Ea ?_
 refine d_s [2,3,6] [] Ea fun _ Eb => wp_ret <| Qg <| Zx <| Qh (t := 2) (v := .int .i64 128) Eb (by kernel_rfl) (by kernel_rfl) ?_
 exact ⟨rfl, Ef.pk []⟩
theorem block_go3 (w : World) : Calls zB 97 #[.int .i64 3] w fun e w' => e = .returned (ni (blockOf 3)) ∧ Ev w [] w' [] := by
 refine d_0 [(0, .int .i64 3)] 9 Tryz.func97 Tryz.ntmps97 (Heap.nil _) fun Ee Ef Eg => d_s [0,2] [] Ef fun _ Eh => wp_seq <| d_s [2,3] [] Eh fun _ Ei => wp_block <| d_s [2,3,4] [] Ei fun _ Ec => c_f Ec ?_
 refine wp_seq <| d_s [2,3,6] [] Ec fun _ Ed => c_f Ed ?_
 refine d_r [2,3,6] [] Ed fun _ Ea => ze <| c_t Ea ?_
 refine d_s [2,3,6] [] Ea fun _ Eb => wp_ret <| Qg <| Zx <| Qh (t := 2) (v := .int .i64 128) Eb (by kernel_rfl) (by kernel_rfl) ?_
 exact ⟨rfl, Eg.pk []⟩
theorem size_go1 (w : World) : Calls zB 104 #[.int .i64 1] w fun e w' => e = .returned (ni (sizeOfH 1)) ∧ Ev w [] w' [] := by
 refine d_0 [(0, .int .i64 1)] 11 Tryz.func104 Tryz.ntmps104 (Heap.nil _) fun Eb Ec Ed => d_s [0,2] [] Ec fun _ Ee => wp_seq <| d_s [0,2,3] [] Ee fun _ Ef => wp_block <| wp_seq <| d_s [0,2,3,4] [] Ef fun _ Ea => c_t Ea ?_
 refine wp_skip <| ze <| c_t Ea ?_
 refine d_s [0,2,3,4] [] Ea fun _ Eg => wp_ret <| Qg <| Zx <| Qh (t := 2) (v := .int .i64 32) Eg (by kernel_rfl) (by kernel_rfl) ?_
 exact ⟨rfl, Ed.pk []⟩
theorem size_go2 (w : World) : Calls zB 104 #[.int .i64 2] w fun e w' => e = .returned (ni (sizeOfH 2)) ∧ Ev w [] w' [] := by
 refine d_0 [(0, .int .i64 2)] 11 Tryz.func104 Tryz.ntmps104 (Heap.nil _) fun Ed Ee Ef => d_s [0,2] [] Ee fun _ Eg => wp_seq <| d_s [0,2,3] [] Eg fun _ Eh => wp_block <| wp_seq <| d_s [0,2,3,4] [] Eh fun _ Ec => c_f Ec ?_
 refine d_s [0,2,3,4] [] Ec fun _ Ea => c_t Ea ?_
 refine wp_skip <| ze <| c_t Ea ?_
 refine d_s [0,2,3,4] [] Ea fun _ Eb => wp_ret <| Qg <| Zx <| Qh (t := 2) (v := .int .i64 48) Eb (by kernel_rfl) (by kernel_rfl) ?_
 exact ⟨rfl, Ef.pk []⟩
theorem size_go3 (w : World) : Calls zB 104 #[.int .i64 3] w fun e w' => e = .returned (ni (sizeOfH 3)) ∧ Ev w [] w' [] := by
 refine d_0 [(0, .int .i64 3)] 11 Tryz.func104 Tryz.ntmps104 (Heap.nil _) fun Ee Ef Eg => d_s [0,2] [] Ef fun _ Eh => wp_seq <| d_s [0,2,3] [] Eh fun _ Ei => wp_block <| wp_seq <| d_s [0,2,3,4] [] Ei fun _ Ec => c_f Ec ?_
 refine d_s [0,2,3,4] [] Ec fun _ Ed => c_f Ed ?_
 refine d_r [0,2,3,4] [] Ed fun _ Ea => ze <| c_t Ea ?_
 refine d_s [0,2,3,4] [] Ea fun _ Eb => wp_ret <| Qg <| Zx <| Qh (t := 2) (v := .int .i64 64) Eb (by kernel_rfl) (by kernel_rfl) ?_
 exact ⟨rfl, Eg.pk []⟩
theorem size_go0 (w : World) (h : Int) (h1 : ¬ (h = 1 ∨ h = 2 ∨ h = 3)) : Calls zB 104 #[.int .i64 h] w fun e w' => e = .returned (ni (sizeOfH h)) ∧ Ev w [] w' [] := by
 refine d_0 [(0, .int .i64 h)] 11 Tryz.func104 Tryz.ntmps104 (Heap.nil _) fun Eh Ei Ej => d_s [0,2] [] Ei fun _ Ek => wp_seq <| d_s [0,2,3] [] Ek fun _ El => wp_block <| wp_seq <| d_s [0,2,3,4] [] El fun _ Ee => ?_
 refine c_e h (1 : Int) Ee (fun Ef => ?_) (fun Ef => ?_)
 ·
  exact absurd Ef (by omega)
 refine d_s [0,2,3,4] [] Ee fun _ Eg => ?_
 refine c_e h (2 : Int) Eg (fun Ea => ?_) (fun Ea => ?_)
 ·
  exact absurd Ea (by omega)
 refine d_r [0,2,3,4] [] Eg fun _ Eb => ?_
 refine ze <| c_e h (3 : Int) Eb (fun Ec => ?_) (fun Ec => ?_)
 ·
  exact absurd Ec (by omega)
 refine wp_skip <| zx <| ze <| d_s [0,2,3,4] [] Eb fun _ Ed => wp_ret <| Qh (t := 2) (v := .int .i64 0) Ed (by kernel_rfl) (by kernel_rfl) ?_
 exact ⟨by rw [show sizeOfH h = 0 from by unfold sizeOfH; rw [if_neg (by omega), if_neg (by omega), if_neg (by omega)]]; rfl, Ej.pk []⟩
theorem size_go (w : World) (h : Int) : Calls zB 104 #[.int .i64 h] w fun e w' => e = .returned (ni (sizeOfH h)) ∧ Ev w [] w' [] := by
  by_cases h1 : h = 1 ∨ h = 2 ∨ h = 3
  · rcases h1 with rfl | rfl | rfl
    · exact size_go1 w
    · exact size_go2 w
    · exact size_go3 w
  · exact size_go0 w h h1
theorem new1 (w : World) : Calls zB 72 #[.int .i64 1] w fun e w' => ∃ bd, e = .returned (pt bd) ∧ Ev w [] w' [.box bd (([.int .i64 1] : List Value) ++ ((ZJ (in32 1)) ++ ((zh (init64 1)) ++ ([.slice none 0 0, zn 0] : List Value)))) 115] := by
 refine d_0 [(0, .int .i64 1)] 27 Tryz.func72 Tryz.ntmps72 (Heap.nil _) fun Ej Ek El => d_s [0,2] [] Ek fun _ Em => wp_seq <| zk <| d_k [0,2,5] [] 2 Em fun _ En => f_o <| m_m 115 [.int .i64 1, .int .u32 0, .int .u32 0, .int .u32 0, .int .u32 0, .int .u32 0, .int .u32 0, .int .u32 0, .int .u32 0, .int .u64 0, .int .u64 0, .int .u64 0, .int .u64 0, .int .u64 0, .int .u64 0, .int .u64 0, .int .u64 0, .slice none 0 0, .int .u64 0] En El fun _ _ Ei Eo Ep => d_e [0,2,3] [] Eo fun _ Eb => ze <| wp_seq <| d_s [0,2,3,7] [] Eb fun _ Ec => ?_
 refine wp_block <| d_s [0,2,3,7,8] [] Ec fun _ Ea => c_t Ea ?_
 refine zk <| d_k [0,2,3,7,11,13] [] 4 Ea fun _ Ed => f_o <| m_g 0 1 8 (ZJ ([1779033703, 3144134277, 1013904242, 2773480762, 1359893119, 2600822924, 528734635, 1541459225] : List UInt32)) (([.int .i64 1] : List Value) ++ ((ZJ ([1779033703, 3144134277, 1013904242, 2773480762, 1359893119, 2600822924, 528734635, 1541459225] : List UInt32)) ++ ([.int .u64 0, .int .u64 0, .int .u64 0, .int .u64 0, .int .u64 0, .int .u64 0, .int .u64 0, .int .u64 0, .slice none 0 0, .int .u64 0] : List Value))) _ Ed Ep rfl (ZB (show zc ([1779033703, 3144134277, 1013904242, 2773480762, 1359893119, 2600822924, 528734635, 1541459225] : List UInt32) = 8 from rfl)) (by simp) (u32s_one _) (by simp [zu, zv]) rfl fun _ Ee Ef Eg => f_e <| zx <| ze <| d_s [0,2,3,7] [] Ef fun _ Eh => wp_ret <| Qh (t := 2) (v := pt Ei) Eh (by kernel_rfl) (by kernel_rfl) ?_
 have Hf24 : Ev w [] Ee [.box Ei (([.int .i64 1] : List Value) ++ ((ZJ (in32 1)) ++ ((zh (init64 1)) ++ ([.slice none 0 0, zn 0] : List Value)))) 115] := Eg.pk [0]
 exact ⟨_, rfl, Hf24⟩
theorem new2 (w : World) : Calls zB 72 #[.int .i64 2] w fun e w' => ∃ bd, e = .returned (pt bd) ∧ Ev w [] w' [.box bd (([.int .i64 2] : List Value) ++ ((ZJ (in32 2)) ++ ((zh (init64 2)) ++ ([.slice none 0 0, zn 0] : List Value)))) 115] := by
 refine d_0 [(0, .int .i64 2)] 27 Tryz.func72 Tryz.ntmps72 (Heap.nil _) fun Ek El Em => d_s [0,2] [] El fun _ En => wp_seq <| zk <| d_k [0,2,5] [] 2 En fun _ Eo => f_o <| m_m 115 [.int .i64 2, .int .u32 0, .int .u32 0, .int .u32 0, .int .u32 0, .int .u32 0, .int .u32 0, .int .u32 0, .int .u32 0, .int .u64 0, .int .u64 0, .int .u64 0, .int .u64 0, .int .u64 0, .int .u64 0, .int .u64 0, .int .u64 0, .slice none 0 0, .int .u64 0] Eo Em fun _ _ Ej Ep Eq => d_e [0,2,3] [] Ep fun _ Ec => ze <| wp_seq <| d_s [0,2,3,7] [] Ec fun _ Ed => ?_
 refine wp_block <| d_s [0,2,3,7,8] [] Ed fun _ Ea => c_f Ea ?_
 refine d_s [0,2,3,7,14] [] Ea fun _ Eb => c_t Eb ?_
 refine zk <| d_k [0,2,3,7,17,19] [] 4 Eb fun _ Ee => f_o <| m_g 0 9 8 (zh ([14680500436340154072, 7105036623409894663, 10473403895298186519, 1526699215303891257, 7436329637833083697, 10282925794625328401, 15784041429090275239, 5167115440072839076] : List UInt64)) (([.int .i64 2, .int .u32 0, .int .u32 0, .int .u32 0, .int .u32 0, .int .u32 0, .int .u32 0, .int .u32 0, .int .u32 0] : List Value) ++ ((zh ([14680500436340154072, 7105036623409894663, 10473403895298186519, 1526699215303891257, 7436329637833083697, 10282925794625328401, 15784041429090275239, 5167115440072839076] : List UInt64)) ++ ([.slice none 0 0, .int .u64 0] : List Value))) _ Ee Eq rfl (zd (show zc ([14680500436340154072, 7105036623409894663, 10473403895298186519, 1526699215303891257, 7436329637833083697, 10282925794625328401, 15784041429090275239, 5167115440072839076] : List UInt64) = 8 from rfl)) (by simp) (zw _) (by simp [zu, zv]) rfl fun _ Ef Eg Eh => f_e <| zx <| ze <| d_s [0,2,3,7] [] Eg fun _ Ei => wp_ret <| Qh (t := 2) (v := pt Ej) Ei (by kernel_rfl) (by kernel_rfl) ?_
 have Hf26 : Ev w [] Ef [.box Ej (([.int .i64 2] : List Value) ++ ((ZJ (in32 2)) ++ ((zh (init64 2)) ++ ([.slice none 0 0, zn 0] : List Value)))) 115] := Eh.pk [0]
 exact ⟨_, rfl, Hf26⟩
theorem new3 (w : World) : Calls zB 72 #[.int .i64 3] w fun e w' => ∃ bd, e = .returned (pt bd) ∧ Ev w [] w' [.box bd (([.int .i64 3] : List Value) ++ ((ZJ (in32 3)) ++ ((zh (init64 3)) ++ ([.slice none 0 0, zn 0] : List Value)))) 115] := by
 refine d_0 [(0, .int .i64 3)] 27 Tryz.func72 Tryz.ntmps72 (Heap.nil _) fun El Em En => d_s [0,2] [] Em fun _ Eo => wp_seq <| zk <| d_k [0,2,5] [] 2 Eo fun _ Ep => f_o <| m_m 115 [.int .i64 3, .int .u32 0, .int .u32 0, .int .u32 0, .int .u32 0, .int .u32 0, .int .u32 0, .int .u32 0, .int .u32 0, .int .u64 0, .int .u64 0, .int .u64 0, .int .u64 0, .int .u64 0, .int .u64 0, .int .u64 0, .int .u64 0, .slice none 0 0, .int .u64 0] Ep En fun _ _ Ek Eq Er => d_e [0,2,3] [] Eq fun _ Ed => ze <| wp_seq <| d_s [0,2,3,7] [] Ed fun _ Ee => ?_
 refine wp_block <| d_s [0,2,3,7,8] [] Ee fun _ Ea => c_f Ea ?_
 refine d_s [0,2,3,7,14] [] Ea fun _ Eb => c_f Eb ?_
 refine d_s [0,2,3,7,20] [] Eb fun _ Ec => c_t Ec ?_
 refine zk <| d_k [0,2,3,7,23,25] [] 4 Ec fun _ Ef => f_o <| m_g 0 9 8 (zh ([7640891576956012808, 13503953896175478587, 4354685564936845355, 11912009170470909681, 5840696475078001361, 11170449401992604703, 2270897969802886507, 6620516959819538809] : List UInt64)) (([.int .i64 3, .int .u32 0, .int .u32 0, .int .u32 0, .int .u32 0, .int .u32 0, .int .u32 0, .int .u32 0, .int .u32 0] : List Value) ++ ((zh ([7640891576956012808, 13503953896175478587, 4354685564936845355, 11912009170470909681, 5840696475078001361, 11170449401992604703, 2270897969802886507, 6620516959819538809] : List UInt64)) ++ ([.slice none 0 0, .int .u64 0] : List Value))) _ Ef Er rfl (zd (show zc ([7640891576956012808, 13503953896175478587, 4354685564936845355, 11912009170470909681, 5840696475078001361, 11170449401992604703, 2270897969802886507, 6620516959819538809] : List UInt64) = 8 from rfl)) (by simp) (zw _) (by simp [zu, zv]) rfl fun _ Eg Eh Ei => f_e <| zx <| ze <| d_s [0,2,3,7] [] Eh fun _ Ej => wp_ret <| Qh (t := 2) (v := pt Ek) Ej (by kernel_rfl) (by kernel_rfl) ?_
 have Hf28 : Ev w [] Eg [.box Ek (([.int .i64 3] : List Value) ++ ((ZJ (in32 3)) ++ ((zh (init64 3)) ++ ([.slice none 0 0, zn 0] : List Value)))) 115] := Ei.pk [0]
 exact ⟨_, rfl, Hf28⟩
theorem new_go (w : World) (h : Int) (h1 : h = 1 ∨ h = 2 ∨ h = 3) : Calls zB 72 #[.int .i64 h] w fun e w' => ∃ bd, e = .returned (pt bd) ∧ Ev w [] w' [.box bd (([.int .i64 h] : List Value) ++ ((ZJ (in32 h)) ++ ((zh (init64 h)) ++ ([.slice none 0 0, zn 0] : List Value)))) 115] := by
  rcases h1 with rfl | rfl | rfl
  · exact new1 w
  · exact new2 w
  · exact new3 w
def feed32 (s : List UInt32) (l : List UInt8) : Nat → List UInt32
  | 0 => s
  | q + 1 => blk32 (feed32 s l q) (wB32 (zm 64 (zo (64 * q) l)) 16)
theorem feed32_len {s : List UInt32} {m : Nat} (h : s.length = m) (l : List UInt8) (q : Nat) : (feed32 s l q).length = m := by
  induction q with
  | zero => exact h
  | succ q ih => exact blk32_len ih _
def feed64 (s : List UInt64) (l : List UInt8) : Nat → List UInt64
  | 0 => s
  | q + 1 => blk64 (feed64 s l q) (wB64 (zm 128 (zo (128 * q) l)) 16)
theorem feed64_len {s : List UInt64} {m : Nat} (h : s.length = m) (l : List UInt8) (q : Nat) : (feed64 s l q).length = m := by
  induction q with
  | zero => exact h
  | succ q ih => exact blk64_len ih _
theorem words64_16 (w : World) (ax : Option Addr) (nx cx : Nat) (lx : List UInt8) (ex : nx = zc lx) (ix : InB w [] ax cx lx) (h : zc lx = 128) : Calls zB 101 #[.slice ax nx cx, .int .i64 8, .int .i64 80] w fun e w' => ∃ ao co, e = .returned (.slice ao 16 co) ∧ Ev w [] w' [.vec ao co 1 (zh (wB64 lx 16)) 31] := by
  have h1 := words64_go w ax nx cx lx ex ix
  rw [show zc lx / 8 = 16 by omega] at h1
  simp only [wB64_len] at h1
  exact h1
theorem block_go23 (w : World) (h : Int) (hh : h = 2 ∨ h = 3) : Calls zB 97 #[.int .i64 h] w fun e w' => e = .returned (.int .i64 128) ∧ Ev w [] w' [] := by
  rcases hh with rfl | rfl
  · exact block_go2 w
  · exact block_go3 w
theorem write64_go (w : World) (bd : Nat) (h : Int) (hh : h = 2 ∨ h = 3) (s : List UInt32) (hls : zc s = 8) (s2 : List UInt64) (hls2 : zc s2 = 8) (ar : Option Addr) (cr : Nat) (rs : List UInt8) (hrs : zc rs < 128) (dn : UInt64) (ax : Option Addr) (nx cx : Nat) (lx : List UInt8) (ex : nx = zc lx) (ix : InB w [.box bd (([.int .i64 h] : List Value) ++ ((ZJ s) ++ ((zh s2) ++ ([.slice ar (zc rs) cr, zn dn] : List Value)))) 115, .vec ar cr 1 (bys rs) 5] ax cx lx)  (hB : zc rs + zc lx ≤ 140737488355200) (gk64 : InU64 w [.box bd (([.int .i64 h] : List Value) ++ ((ZJ s) ++ ((zh s2) ++ ([.slice ar (zc rs) cr, zn dn] : List Value)))) 115, .vec ar cr 1 (bys rs) 5] (some ⟨1, 0, none⟩) 80 K64) (hH : Heap w [.box bd (([.int .i64 h] : List Value) ++ ((ZJ s) ++ ((zh s2) ++ ([.slice ar (zc rs) cr, zn dn] : List Value)))) 115, .vec ar cr 1 (bys rs) 5]) : Calls zB 73 #[pt bd, .slice ax nx cx] w fun e w' => ∃ ao co, e = .returned (.tuple #[]) ∧ Ev w [.box bd (([.int .i64 h] : List Value) ++ ((ZJ s) ++ ((zh s2) ++ ([.slice ar (zc rs) cr, zn dn] : List Value)))) 115, .vec ar cr 1 (bys rs) 5] w' [.box bd (([.int .i64 h] : List Value) ++ ((ZJ s) ++ ((zh (feed64 s2 (rs ++ lx) (zc (rs ++ lx) / 128))) ++ ([.slice ao (zc (zo (128 * (zc (rs ++ lx) / 128)) (rs ++ lx))) co, zn (dn + zb (zc lx))] : List Value)))) 115, .vec ao co 1 (bys (zo (128 * (zc (rs ++ lx) / 128)) (rs ++ lx))) 5] := by
 subst ex
 have hs := ix.small
 have hcx := ix.cap
 refine d_0 [(0, pt bd), (1, .slice ax (zc lx) cx)] 93 Tryz.func73 Tryz.ntmps73 (hH) fun HM HN HK => wp_seq <| zk <| d_k [0,1,5,7] [] 3 HN fun _ HO => f_o <| m_v 0 18 (zn dn) HO HK rfl (zW (n := 1) (j := 17) rfl (zW (n := 8) (j := 9) (ZB hls) (zW (n := 8) (j := 1) (zd hls2) rfl))) fun _ HP => d_k [0,1,12,14] [(6, g_i .u64 (Go.Dbr.nat_to_u64 (a := ((zc lx : Nat) : Int)) (n := zc lx) rfl)), (7, g_i .u64 (zO (x := dn) (y := zb (zc lx)) rfl rfl))] 10 HP fun _ HQ => f_o <| m_t 0 18 (zn (dn + (zb (zc lx)))) _ HQ HK rfl (zW (n := 1) (j := 17) rfl (zW (n := 8) (j := 9) (ZB hls) (zW (n := 8) (j := 1) (zd hls2) rfl))) ((YD (n := 1) (j := 17) rfl).trans (congrArg (([.int .i64 h] : List Value) ++ ·) ((YD (n := 8) (j := 9) (ZB hls)).trans (congrArg ((ZJ s) ++ ·) ((YD (n := 8) (j := 1) (zd hls2)).trans (congrArg ((zh s2) ++ ·) rfl)))))) rfl fun _ _ HR EI => f_e <| ze <| wp_seq <| zk <| d_k [0,1,17] [] 3 HR fun _ HF => ?_
 refine f_o <| m_v 0 0 (.int .i64 h) HF EI rfl (Jh rfl) fun _ HG => f_o <| c_p HG EI (block_go23 _ h hh) fun _ _ HH EJ => d_e [0,1,4] [] HH fun _ HI => ?_
 refine ze <| wp_seq <| r_c (fun ac wo => ∃ (Ef : Option Addr) (Eg : Nat), Env ac 93 [(0, pt bd), (1, .slice ax (zc lx) cx), (4, .int .i64 128)] ∧ Ev w [.box bd (([.int .i64 h] : List Value) ++ ((ZJ s) ++ ((zh s2) ++ ([.slice ar (zc rs) cr, zn dn] : List Value)))) 115, .vec ar cr 1 (bys rs) 5] wo [.box bd (([.int .i64 h] : List Value) ++ ((ZJ s) ++ ((zh s2) ++ ([.slice Ef (zc (rs ++ lx)) Eg, zn (dn + (zb (zc lx)))] : List Value)))) 115, .vec Ef Eg 1 (bys (rs ++ lx)) 5]) ?_ ?_
 ·
  refine h_s (fun wv => Ev w [.box bd (([.int .i64 h] : List Value) ++ ((ZJ s) ++ ((zh s2) ++ ([.slice ar (zc rs) cr, zn dn] : List Value)))) 115, .vec ar cr 1 (bys rs) 5] wv [.box bd (([.int .i64 h] : List Value) ++ ((ZJ s) ++ ((zh s2) ++ ([.slice ar (zc rs) cr, zn (dn + (zb (zc lx)))] : List Value)))) 115, .vec ar cr 1 (bys rs) 5]) [15, 20] 21 ?_
  have Ed := EJ.trans (zS EJ.heap)
  refine q_s [0,1,2,3] [] 17 HI (Ed.pk [0, 1]) fun _ EK => q_r 4 (s := Instr.loadAt 23 (.pointer (some ⟨bd, 17, none⟩))) (v := .slice ar (zc rs) cr) EK (fun w hS => Zi (by kernel_rfl) (hS.heap.cell (k := 0) rfl (zW (n := 1) (j := 16) rfl (zW (n := 8) (j := 8) (ZB hls) (zW (n := 8) (j := 0) (zd hls2) rfl))))) (Ed.pk [0, 1]) fun _ EL => q_s [5,6,7] [] 13 EL (Ed.pk [0, 1]) fun _ EM => q_r 8 (s := Instr.loadAt 23 (.pointer (some ⟨bd, 17, none⟩))) (v := .slice ar (zc rs) cr) EM (fun w hS => Zi (by kernel_rfl) (hS.heap.cell (k := 0) rfl (zW (n := 1) (j := 16) rfl (zW (n := 8) (j := 8) (ZB hls) (zW (n := 8) (j := 0) (zd hls2) rfl))))) (Ed.pk [0, 1]) fun _ EN => q_s [9,10,11,12] [] 8 EN (Ed.pk [0, 1]) fun _ EO => q_r 13 (s := Instr.loadAt 23 (.pointer (some ⟨bd, 17, none⟩))) (v := .slice ar (zc rs) cr) EO (fun w hS => Zi (by kernel_rfl) (hS.heap.cell (k := 0) rfl (zW (n := 1) (j := 16) rfl (zW (n := 8) (j := 8) (ZB hls) (zW (n := 8) (j := 0) (zd hls2) rfl))))) (Ed.pk [0, 1]) fun _ EP => ?_
  refine q_s [14,16] [] 5 EP (Ed.pk [0, 1]) fun _ EQ => q_t 15 ?_
  have HB := Y4 Ed.heap (k := 1) rfl
  refine op_slicefull (d := some 35) (t := 23) (e := 5) (k := 1) (p := zc rs) (cap := cr) (ao := ar) (xs := bys rs) (kk := .i64) (kl := .i64) EQ (by kernel_rfl) (by kernel_rfl) (by kernel_rfl) Ed rfl ((ZI _).trans (ZG _)) (by omega) ?_
  intro _ ER Eu
  refine ⟨q_y, ?_⟩
  refine q_t 17 ?_
  have HJ := ix.small
  refine Zl (d := some 37) (t := 23) (tx := 23) (ty := 23) (k := 1) (p := zc rs) (m := zc lx) (x := .slice ax (zc lx) cx) (bytes := 1) ER (by kernel_rfl) Eu rfl (ZI _) (Zk (size := 1) (tx := 23) (e' := 5) (by kernel_rfl) (ix.ev Eu).reads (ZI _) ix.nz (ZC _)) (by kernel_rfl) (z := .int .u8 0) (by kernel_rfl) rfl (by decide) (by omega) (by unfold maxLen; omega) ?_
  intro _ _ Eh Ei Ew Ex hnz _
  clear hnz
  rw [← Zg] at Ex
  have EF : (zc rs) + (zc lx) = zc (rs ++ lx) := (by first | (simp; done) | (simp; omega) | omega)
  rw [EF] at Ew
  refine ⟨q_y, ?_⟩
  refine q_n [18,19] [] 1 Ew fun _ ES => q_t 20 ?_
  refine m_t 0 17 (.slice Eh (zc (rs ++ lx)) Ei) [.box bd (([.int .i64 h] : List Value) ++ ((ZJ s) ++ ((zh s2) ++ ([.slice Eh (zc (rs ++ lx)) Ei, zn (dn + (zb (zc lx)))] : List Value)))) 115, .vec Eh Ei 1 (bys (rs ++ lx)) 5] ES Ex rfl (zW (n := 1) (j := 16) rfl (zW (n := 8) (j := 8) (ZB hls) (zW (n := 8) (j := 0) (zd hls2) rfl))) ((YD (n := 1) (j := 16) rfl).trans (congrArg (([.int .i64 h] : List Value) ++ ·) ((YD (n := 8) (j := 8) (ZB hls)).trans (congrArg ((ZJ s) ++ ·) ((YD (n := 8) (j := 0) (zd hls2)).trans (congrArg ((zh s2) ++ ·) rfl)))))) rfl fun _ _ ET EU => ⟨q_y, ?_⟩
  exact h_e ⟨Eh, Ei, ET.sb, EU.pk [0, 1]⟩
 rintro _ _ ⟨Ef, Eg, EV, EW⟩
 refine ze <| wp_block ?_
 have hR : zc (rs ++ lx) ≤ 140737488355200 := by rw [zH]; omega
 have hz : rs ++ lx = zo (128 * 0) (rs ++ lx) := rfl
 refine Z5 (fun EX ac wo => ∃ (q : Nat) (at1 : Option Addr) (ct : Nat) (sx : List UInt64), EX = (zc (rs ++ lx) - 128 * q : Nat) ∧ Env ac 93 [(0, pt bd), (1, .slice ax (zc lx) cx), (4, .int .i64 128)] ∧ Ev w [.box bd (([.int .i64 h] : List Value) ++ ((ZJ s) ++ ((zh s2) ++ ([.slice ar (zc rs) cr, zn dn] : List Value)))) 115, .vec ar cr 1 (bys rs) 5] wo [.box bd (([.int .i64 h] : List Value) ++ ((ZJ s) ++ ((zh sx) ++ ([.slice at1 (zc (zo (128 * q) (rs ++ lx))) ct, zn (dn + (zb (zc lx)))] : List Value)))) 115, .vec at1 ct 1 (bys (zo (128 * q) (rs ++ lx))) 5] ∧ (128 * q ≤ zc (rs ++ lx)) ∧ (zc sx = 8) ∧ (sx = feed64 s2 (rs ++ lx) q)) ⟨_, 0, Ef, Eg, s2, rfl, EV.sb, EW.pk [0, 1], by omega, hls2, rfl⟩ ?_
 rintro HL _ _ ⟨q, at1, ct, sx, rfl, EY, Ee, hq, hlx, hes⟩
 refine wp_seq <| wp_seq ?_
 have hDl : zc (zo (128 * q) (rs ++ lx)) = zc (rs ++ lx) - 128 * q := zy
 refine zk <| d_k [0,1,4,42] [] 3 EY fun _ EZ => f_o <| m_v 0 17 (.slice at1 (zc (zo (128 * q) (rs ++ lx))) ct) EZ Ee rfl (zW (n := 1) (j := 16) rfl (zW (n := 8) (j := 8) (ZB hls) (zW (n := 8) (j := 0) (zd hlx) rfl))) fun _ E0 => d_e [0,1,4,46] [] E0 fun _ El => ?_
 refine ze <| c_d (((zc (zo (128 * q) (rs ++ lx)) : Nat) : Int) ≥ (128 : Int)) El (fun E1 => ?_) (fun E1 => ?_)
 ·
  refine wp_skip <| ze <| wp_seq <| wp_block <| wp_seq <| wp_seq <| zk <| d_k [0,1,4,58] [] 3 El fun _ E2 => f_o <| m_v 0 0 (.int .i64 h) E2 Ee rfl (Jh rfl) fun _ E3 => d_e [0,1,4,60] [(4, g_b (show (h == (1 : Int)) = false from beq_eq_false_iff_ne.2 (by omega)))] E3 fun _ Ey => ze <| c_f Ey ?_
  refine wp_skip <| ze ?_
  have hD64 : zc (zm 128 (zo (128 * q) (rs ++ lx))) = 128 := by rw [zs]; omega
  refine r_c (fun ac wo => Env ac 93 [(0, pt bd), (1, .slice ax (zc lx) cx), (4, .int .i64 128)] ∧ Ev w [.box bd (([.int .i64 h] : List Value) ++ ((ZJ s) ++ ((zh s2) ++ ([.slice ar (zc rs) cr, zn dn] : List Value)))) 115, .vec ar cr 1 (bys rs) 5] wo [.box bd (([.int .i64 h] : List Value) ++ ((ZJ s) ++ ((zh (blk64 sx (wB64 (zm 128 (zo (128 * q) (rs ++ lx))) 16))) ++ ([.slice at1 (zc (zo (128 * q) (rs ++ lx))) ct, zn (dn + (zb (zc lx)))] : List Value)))) 115, .vec at1 ct 1 (bys (zo (128 * q) (rs ++ lx))) 5]) ?_ ?_
  ·
   refine h_s (fun wv => Ev w [.box bd (([.int .i64 h] : List Value) ++ ((ZJ s) ++ ((zh s2) ++ ([.slice ar (zc rs) cr, zn dn] : List Value)))) 115, .vec ar cr 1 (bys rs) 5] wv [.box bd (([.int .i64 h] : List Value) ++ ((ZJ s) ++ ((zh sx) ++ ([.slice at1 (zc (zo (128 * q) (rs ++ lx))) ct, zn (dn + (zb (zc lx)))] : List Value)))) 115, .vec at1 ct 1 (bys (zo (128 * q) (rs ++ lx))) 5]) [15] 16 ?_
   have Ea := Ee.trans (zS Ee.heap)
   refine Xj fun G hG => ?_
   have nd428 : ∀ (ac : Act) (wo : World) (Eb : _) (Ec : _), Env ac 93 [(0, pt bd), (1, .slice ax (zc lx) cx), (4, .int .i64 128), (79, .pointer (some ⟨bd, 9, none⟩)), (85, .slice Eb 16 Ec), (91, .agg (zg kL64))] → Ev w [.box bd (([.int .i64 h] : List Value) ++ ((ZJ s) ++ ((zh s2) ++ ([.slice ar (zc rs) cr, zn dn] : List Value)))) 115, .vec ar cr 1 (bys rs) 5] wo [.vec Eb Ec 1 (zh (wB64 (zm 128 (zo (128 * q) (rs ++ lx))) 16)) 31, .box bd (([.int .i64 h] : List Value) ++ ((ZJ s) ++ ((zh sx) ++ ([.slice at1 (zc (zo (128 * q) (rs ++ lx))) ct, zn (dn + (zb (zc lx)))] : List Value)))) 115, .vec at1 ct 1 (bys (zo (128 * q) (rs ++ lx))) 5] → G 2 #[true, true, true, true, true, true, true, true, true, false, true, true, true, true, true, false] ac wo := by
    intro _ _ Eb Ec E4 Em
    refine Zr hG ?_
    refine q_t 9 ?_
    refine ZY (d := some 86) (t := 129) (e := 31) (sz := 1) (m := 80) (lo := 0) (hi := 80) (b := 1) (off := 0) (lov := none) (hiv := none) (o := 0) E4 (by kernel_rfl) (by kernel_rfl) (by kernel_rfl) (by omega) (by omega) (by omega) (.inl ⟨rfl, rfl⟩) (.inl ⟨rfl, rfl⟩) (by omega) ?_
    intro _ E5
    refine ⟨fun _ => Em.pk [1, 2], ?_⟩
    refine q_t 15 ?_
    refine c_l [1,0] (M := [.box bd (([.int .i64 h] : List Value) ++ ((ZJ s) ++ ((zh sx) ++ ([.slice at1 (zc (zo (128 * q) (rs ++ lx))) ct, zn (dn + (zb (zc lx)))] : List Value)))) 115, .vec Eb Ec 1 (zh (wB64 (zm 128 (zo (128 * q) (rs ++ lx))) 16)) 31]) E5 Em (fun hM435 => blocked64_go _ bd h s hls sx hlx at1 (zc (zo (128 * q) (rs ++ lx))) ct (dn + (zb (zc lx))) Eb Ec (wB64 (zm 128 (zo (128 * q) (rs ++ lx))) 16) (wB64_len _ 16) ((gk64.ev Em).pick [1, 0] (by kernel_rfl)) hM435) ?_
    rintro _ _ ⟨rfl, E6⟩
    refine ⟨_, _, [.box bd (([.int .i64 h] : List Value) ++ ((ZJ s) ++ ((zh (blk64 sx (wB64 (zm 128 (zo (128 * q) (rs ++ lx))) 16))) ++ ([.slice at1 (zc (zo (128 * q) (rs ++ lx))) ct, zn (dn + (zb (zc lx)))] : List Value)))) 115, .vec at1 ct 1 (bys (zo (128 * q) (rs ++ lx))) 5], rfl, E6, by kernel_rfl, fun _ E7 E8 => ?_⟩
    refine ⟨q_y, ?_⟩
    exact h_e ⟨E7.sb, E8.pk [0, 1]⟩
   have nd442 : ∀ (ac : Act) (wo : World), Env ac 93 [(0, pt bd), (1, .slice ax (zc lx) cx), (4, .int .i64 128), (79, .pointer (some ⟨bd, 9, none⟩)), (84, .slice at1 128 ct), (86, .slice (some ⟨1, 0, none⟩) 80 80), (91, .agg (zg kL64))] → Ev w [.box bd (([.int .i64 h] : List Value) ++ ((ZJ s) ++ ((zh s2) ++ ([.slice ar (zc rs) cr, zn dn] : List Value)))) 115, .vec ar cr 1 (bys rs) 5] wo [.box bd (([.int .i64 h] : List Value) ++ ((ZJ s) ++ ((zh sx) ++ ([.slice at1 (zc (zo (128 * q) (rs ++ lx))) ct, zn (dn + (zb (zc lx)))] : List Value)))) 115, .vec at1 ct 1 (bys (zo (128 * q) (rs ++ lx))) 5] → G 2 #[true, true, true, true, true, true, true, true, false, true, true, true, true, true, true, false] ac wo := by
    intro _ _ E9 Ez
    refine Zr hG ?_
    refine q_t 8 ?_
    refine c_0 E9 Ez (words64_16 _ at1 128 ct (zm 128 (zo (128 * q) (rs ++ lx))) (by first | rfl | (simp; done) | (simp; omega) | omega) (XS Ez.heap (k := 1) rfl [] (by kernel_rfl) rfl 128 (by first | decide | omega)) hD64) ?_
    rintro _ _ ⟨En, Eo, rfl, Ha⟩
    refine ⟨_, _, _, rfl, Ha, rfl, fun _ Hb Ep => ?_⟩
    refine ⟨fun _ => Ep.pk [1, 2], ?_⟩
    refine q_t 15 ?_
    refine c_l [1,0] (M := [.box bd (([.int .i64 h] : List Value) ++ ((ZJ s) ++ ((zh sx) ++ ([.slice at1 (zc (zo (128 * q) (rs ++ lx))) ct, zn (dn + (zb (zc lx)))] : List Value)))) 115, .vec En Eo 1 (zh (wB64 (zm 128 (zo (128 * q) (rs ++ lx))) 16)) 31]) Hb Ep (fun hM455 => blocked64_go _ bd h s hls sx hlx at1 (zc (zo (128 * q) (rs ++ lx))) ct (dn + (zb (zc lx))) En Eo (wB64 (zm 128 (zo (128 * q) (rs ++ lx))) 16) (wB64_len _ 16) ((gk64.ev Ep).pick [1, 0] (by kernel_rfl)) hM455) ?_
    rintro _ _ ⟨rfl, Hc⟩
    refine ⟨_, _, [.box bd (([.int .i64 h] : List Value) ++ ((ZJ s) ++ ((zh (blk64 sx (wB64 (zm 128 (zo (128 * q) (rs ++ lx))) 16))) ++ ([.slice at1 (zc (zo (128 * q) (rs ++ lx))) ct, zn (dn + (zb (zc lx)))] : List Value)))) 115, .vec at1 ct 1 (bys (zo (128 * q) (rs ++ lx))) 5], rfl, Hc, by kernel_rfl, fun _ Hd He => ?_⟩
    refine ⟨q_y, ?_⟩
    exact h_e ⟨Hd.sb, He.pk [0, 1]⟩
   have nd462 : ∀ (ac : Act) (wo : World), Env ac 93 [(0, pt bd), (1, .slice ax (zc lx) cx), (4, .int .i64 128), (79, .pointer (some ⟨bd, 9, none⟩)), (84, .slice at1 128 ct), (91, .agg (zg kL64))] → Ev w [.box bd (([.int .i64 h] : List Value) ++ ((ZJ s) ++ ((zh s2) ++ ([.slice ar (zc rs) cr, zn dn] : List Value)))) 115, .vec ar cr 1 (bys rs) 5] wo [.box bd (([.int .i64 h] : List Value) ++ ((ZJ s) ++ ((zh sx) ++ ([.slice at1 (zc (zo (128 * q) (rs ++ lx))) ct, zn (dn + (zb (zc lx)))] : List Value)))) 115, .vec at1 ct 1 (bys (zo (128 * q) (rs ++ lx))) 5] → G 3 #[true, true, true, true, true, true, true, true, false, false, true, true, true, true, true, false] ac wo := by
    intro _ _ EA Ej
    refine Zr hG ?_
    refine QA [8, 9] (by kernel_rfl) rfl ?_
    refine ⟨?_, ?_, trivial⟩
    ·
     rintro _ rfl
     refine c_0 EA Ej (words64_16 _ at1 128 ct (zm 128 (zo (128 * q) (rs ++ lx))) (by first | rfl | (simp; done) | (simp; omega) | omega) (XS Ej.heap (k := 1) rfl [] (by kernel_rfl) rfl 128 (by first | decide | omega)) hD64) ?_
     rintro _ _ ⟨EG, EH, rfl, Hf⟩
     refine ⟨_, _, _, rfl, Hf, rfl, fun _ Hg EB => ?_⟩
     refine ⟨fun _ => EB.pk [1, 2], ?_⟩
     exact QF hG (by kernel_rfl) (nd428 _ _ EG EH (Hg.sb) (EB.pk [0, 1, 2]))
    rintro _ rfl
    refine ZY (d := some 86) (t := 129) (e := 31) (sz := 1) (m := 80) (lo := 0) (hi := 80) (b := 1) (off := 0) (lov := none) (hiv := none) (o := 0) EA (by kernel_rfl) (by kernel_rfl) (by kernel_rfl) (by omega) (by omega) (by omega) (.inl ⟨rfl, rfl⟩) (.inl ⟨rfl, rfl⟩) (by omega) ?_
    intro _ Hh
    refine ⟨fun _ => Ej.pk [0, 1], ?_⟩
    exact QF hG (by kernel_rfl) (nd442 _ _ (Hh.sb) (Ej.pk [0, 1]))
   have nd477 : ∀ (ac : Act) (wo : World), Env ac 93 [(0, pt bd), (1, .slice ax (zc lx) cx), (4, .int .i64 128), (79, .pointer (some ⟨bd, 9, none⟩)), (83, .slice at1 (zc (zo (128 * q) (rs ++ lx))) ct), (86, .slice (some ⟨1, 0, none⟩) 80 80), (91, .agg (zg kL64))] → Ev w [.box bd (([.int .i64 h] : List Value) ++ ((ZJ s) ++ ((zh s2) ++ ([.slice ar (zc rs) cr, zn dn] : List Value)))) 115, .vec ar cr 1 (bys rs) 5] wo [.box bd (([.int .i64 h] : List Value) ++ ((ZJ s) ++ ((zh sx) ++ ([.slice at1 (zc (zo (128 * q) (rs ++ lx))) ct, zn (dn + (zb (zc lx)))] : List Value)))) 115, .vec at1 ct 1 (bys (zo (128 * q) (rs ++ lx))) 5] → G 3 #[true, true, true, true, true, true, true, false, false, true, true, true, true, true, true, false] ac wo := by
    intro _ _ Hi Ek
    refine Zr hG ?_
    refine q_t 7 ?_
    have HC := Y4 Ek.heap (k := 1) rfl
    refine Xx (d := some 84) (t := 23) (e := 5) (sz := 1) (len := zc (zo (128 * q) (rs ++ lx))) (cap := ct) (hi := 128) (ao := at1) (lov := none) (hiv := (some (.int .i64 128))) Hi (by kernel_rfl) (by kernel_rfl) (by kernel_rfl) (by omega) (.inl ⟨rfl, rfl⟩) (.inr ⟨.i64, rfl⟩) ?_
    intro _ Hj
    refine ⟨fun _ => Ek.pk [0, 1], ?_⟩
    refine q_t 8 ?_
    refine c_0 Hj Ek (words64_16 _ at1 128 ct (zm 128 (zo (128 * q) (rs ++ lx))) (by first | rfl | (simp; done) | (simp; omega) | omega) (XS Ek.heap (k := 1) rfl [] (by kernel_rfl) rfl 128 (by first | decide | omega)) hD64) ?_
    rintro _ _ ⟨Eq, Er, rfl, Hk⟩
    refine ⟨_, _, _, rfl, Hk, rfl, fun _ Hl Es => ?_⟩
    refine ⟨fun _ => Es.pk [1, 2], ?_⟩
    refine q_t 15 ?_
    refine c_l [1,0] (M := [.box bd (([.int .i64 h] : List Value) ++ ((ZJ s) ++ ((zh sx) ++ ([.slice at1 (zc (zo (128 * q) (rs ++ lx))) ct, zn (dn + (zb (zc lx)))] : List Value)))) 115, .vec Eq Er 1 (zh (wB64 (zm 128 (zo (128 * q) (rs ++ lx))) 16)) 31]) Hl Es (fun hM493 => blocked64_go _ bd h s hls sx hlx at1 (zc (zo (128 * q) (rs ++ lx))) ct (dn + (zb (zc lx))) Eq Er (wB64 (zm 128 (zo (128 * q) (rs ++ lx))) 16) (wB64_len _ 16) ((gk64.ev Es).pick [1, 0] (by kernel_rfl)) hM493) ?_
    rintro _ _ ⟨rfl, Hm⟩
    refine ⟨_, _, [.box bd (([.int .i64 h] : List Value) ++ ((ZJ s) ++ ((zh (blk64 sx (wB64 (zm 128 (zo (128 * q) (rs ++ lx))) 16))) ++ ([.slice at1 (zc (zo (128 * q) (rs ++ lx))) ct, zn (dn + (zb (zc lx)))] : List Value)))) 115, .vec at1 ct 1 (bys (zo (128 * q) (rs ++ lx))) 5], rfl, Hm, by kernel_rfl, fun _ Hn Ho => ?_⟩
    refine ⟨q_y, ?_⟩
    exact h_e ⟨Hn.sb, Ho.pk [0, 1]⟩
   refine Zr hG ?_
   refine q_s [0,1,2,3,4,5] [] 10 Ey (Ea.pk [0, 1]) fun _ Hp => q_r 6 (s := Instr.loadAt 23 (.pointer (some ⟨bd, 17, none⟩))) (v := .slice at1 (zc (zo (128 * q) (rs ++ lx))) ct) Hp (fun w hS => Zi (by kernel_rfl) (hS.heap.cell (k := 0) rfl (zW (n := 1) (j := 16) rfl (zW (n := 8) (j := 8) (ZB hls) (zW (n := 8) (j := 0) (zd hlx) rfl))))) (Ea.pk [0, 1]) fun _ Hq => q_s [10,11,12,13,14] [] 4 Hq (Ea.pk [0, 1]) fun _ EC => QA [7, 9] (by kernel_rfl) rfl ?_
   refine ⟨?_, ?_, trivial⟩
   ·
    rintro _ rfl
    have HD := Y4 Ea.heap (k := 1) rfl
    refine Xx (d := some 84) (t := 23) (e := 5) (sz := 1) (len := zc (zo (128 * q) (rs ++ lx))) (cap := ct) (hi := 128) (ao := at1) (lov := none) (hiv := (some (.int .i64 128))) EC (by kernel_rfl) (by kernel_rfl) (by kernel_rfl) (by omega) (.inl ⟨rfl, rfl⟩) (.inr ⟨.i64, rfl⟩) ?_
    intro _ Hr
    refine ⟨fun _ => Ea.pk [0, 1], ?_⟩
    exact QF hG (by kernel_rfl) (nd462 _ _ (Hr.sb) (Ea.pk [0, 1]))
   rintro _ rfl
   refine ZY (d := some 86) (t := 129) (e := 31) (sz := 1) (m := 80) (lo := 0) (hi := 80) (b := 1) (off := 0) (lov := none) (hiv := none) (o := 0) EC (by kernel_rfl) (by kernel_rfl) (by kernel_rfl) (by omega) (by omega) (by omega) (.inl ⟨rfl, rfl⟩) (.inl ⟨rfl, rfl⟩) (by omega) ?_
   intro _ Hs
   refine ⟨fun _ => Ea.pk [0, 1], ?_⟩
   exact QF hG (by kernel_rfl) (nd477 _ _ (Hs.sb) (Ea.pk [0, 1]))
  rintro _ Ht ⟨Hu, Et⟩
  refine zx <| ze ?_
  have hDl : zc (zo (128 * q) (rs ++ lx)) = zc (rs ++ lx) - 128 * q := zy
  refine zk <| d_k [0,1,4,47,50] [] 4 Hu fun _ Hv => f_o <| m_v 0 17 (.slice at1 (zc (zo (128 * q) (rs ++ lx))) ct) Hv Et rfl (zW (n := 1) (j := 16) rfl (zW (n := 8) (j := 8) (ZB hls) (zW (n := 8) (j := 0) (zd (blk64_len hlx (wB64 (zm 128 (zo (128 * q) (rs ++ lx))) 16))) rfl))) fun _ Hw => d_k [0,1,4,47,51,52] [] 6 Hw fun _ Hx => f_o ?_
  have HE := Y4 Et.heap (k := 1) rfl
  refine JY (d := some 53) (t := 23) (e := 5) (sz := 1) (len := zc (zo (128 * q) (rs ++ lx))) (cap := ct) (lo := 128) (hi := zc (zo (128 * q) (rs ++ lx))) (ao := at1) (lov := (some (.int .i64 128))) (hiv := none) Hx (by kernel_rfl) (by kernel_rfl) (by kernel_rfl) (by omega) (by omega) (.inr ⟨.i64, rfl⟩) (.inl ⟨rfl, rfl⟩) ?_
  intro _ ED
  have Hy : Ev w [.box bd (([.int .i64 h] : List Value) ++ ((ZJ s) ++ ((zh s2) ++ ([.slice ar (zc rs) cr, zn dn] : List Value)))) 115, .vec ar cr 1 (bys rs) 5] Ht [.box bd (([.int .i64 h] : List Value) ++ ((ZJ s) ++ ((zh (blk64 sx (wB64 (zm 128 (zo (128 * q) (rs ++ lx))) 16))) ++ ([.slice at1 (zc (zo (128 * q) (rs ++ lx))) ct, zn (dn + (zb (zc lx)))] : List Value)))) 115, .vec (Yt at1 ct 128 1) (ct - 128) 1 (bys (zo 128 (zo (128 * q) (rs ++ lx)))) 5] := by
   have h := Ev.cut (k := 1) (n := zc (zo (128 * q) (rs ++ lx))) (sz := 1) Et rfl (ZI _) (by omega) 128 (zc (zo (128 * q) (rs ++ lx))) (by omega) (by omega)
   rw [bys_cutw (l := zo (128 * q) (rs ++ lx)) (lo := 128) (n := zc (zo (128 * q) (rs ++ lx))) (by simp)] at h
   exact h
  have el525 : (zc (zo (128 * q) (rs ++ lx))) - 128 = zc (zo 128 (zo (128 * q) (rs ++ lx))) := by first | (simp; done) | (rw [zs]; omega) | (rw [zy]; omega) | (simp; omega)
  rw [el525] at ED
  refine d_k [0,1,4,53,55] [] 9 ED fun _ Hz => f_o <| m_t 0 17 (.slice (Yt at1 ct 128 1) (zc (zo 128 (zo (128 * q) (rs ++ lx)))) (ct - 128)) _ Hz Hy rfl (zW (n := 1) (j := 16) rfl (zW (n := 8) (j := 8) (ZB hls) (zW (n := 8) (j := 0) (zd (blk64_len hlx (wB64 (zm 128 (zo (128 * q) (rs ++ lx))) 16))) rfl))) ((YD (n := 1) (j := 16) rfl).trans (congrArg (([.int .i64 h] : List Value) ++ ·) ((YD (n := 8) (j := 8) (ZB hls)).trans (congrArg ((ZJ s) ++ ·) ((YD (n := 8) (j := 0) (zd (blk64_len hlx (wB64 (zm 128 (zo (128 * q) (rs ++ lx))) 16)))).trans (congrArg ((zh (blk64 sx (wB64 (zm 128 (zo (128 * q) (rs ++ lx))) 16))) ++ ·) rfl)))))) rfl fun _ _ HA EE => f_e ?_
  rw [show (zo 128 (zo (128 * q) (rs ++ lx))) = (zo (128 * (q + 1)) (rs ++ lx)) from by rw [QO]; rfl] at EE
  refine ze <| ⟨_, ⟨q + 1, (Yt at1 ct 128 1), (ct - 128), (blk64 sx (wB64 (zm 128 (zo (128 * q) (rs ++ lx))) 16)), rfl, HA.sb, EE.pk [0, 1], by omega, (blk64_len hlx (wB64 (zm 128 (zo (128 * q) (rs ++ lx))) 16)), by rw [hes]; rfl⟩, ?_⟩
  omega
 refine wp_exit <| zD <| zD <| zP <| d_end0 El (by kernel_rfl) ?_
 have hqe : q = zc (rs ++ lx) / 128 := by omega
 rw [hqe] at hes
 subst hes
 subst hqe
 exact ⟨at1, ct, rfl, Ee.pk [0, 1]⟩
def st32 (s : List UInt32) (all : List UInt8) : List UInt32 := feed32 s all (all.length / 64)
def rest32 (all : List UInt8) : List UInt8 := zo (64 * (all.length / 64)) all
theorem rest32_len (all : List UInt8) : (rest32 all).length < 64 := by unfold rest32; rw [zy]; omega
theorem st32_len {s : List UInt32} (h : s.length = 8) (all : List UInt8) : (st32 s all).length = 8 := feed32_len h _ _
theorem feed64_more {s : List UInt64} {l m : List UInt8} : ∀ {q : Nat}, 128 * q ≤ l.length → feed64 s (l ++ m) q = feed64 s l q
  | 0, _ => rfl
  | q + 1, h => by
    rw [feed64, feed64, feed64_more (by omega)]
    congr 2
    rw [YN (by omega), List.take_append_of_le_length (by rw [zy]; omega)]
theorem feed64_on {s : List UInt64} {l : List UInt8} {q : Nat} : ∀ (p : Nat), feed64 (feed64 s l q) (zo (128 * q) l) p = feed64 s l (q + p)
  | 0 => rfl
  | p + 1 => by
    rw [feed64, feed64_on p, ← ZP, feed64, QO, show 128 * q + 128 * p = 128 * (q + p) by omega]
def st64 (s : List UInt64) (all : List UInt8) : List UInt64 := feed64 s all (all.length / 128)
def rest64 (all : List UInt8) : List UInt8 := zo (128 * (all.length / 128)) all
theorem rest64_len (all : List UInt8) : (rest64 all).length < 128 := by unfold rest64; rw [zy]; omega
theorem st64_len {s : List UInt64} (h : s.length = 8) (all : List UInt8) : (st64 s all).length = 8 := feed64_len h _ _
theorem rest64_app (all m : List UInt8) : rest64 all ++ m = zo (128 * (all.length / 128)) (all ++ m) := by
  unfold rest64
  rw [YN (by omega)]
theorem st64_next (s : List UInt64) (all m : List UInt8) : feed64 (st64 s all) (rest64 all ++ m) ((rest64 all ++ m).length / 128) = st64 s (all ++ m) := by
  unfold st64
  rw [rest64_app, ← feed64_more (m := m) (q := all.length / 128) (by omega), feed64_on]
  congr 1
  rw [zy]
  simp only [zH]
  omega
theorem rest64_next (all m : List UInt8) : zo (128 * ((rest64 all ++ m).length / 128)) (rest64 all ++ m) = rest64 (all ++ m) := by
  rw [rest64_app]
  unfold rest64
  rw [QO, zy]
  congr 1
  simp only [zH]
  omega
theorem n_next (all m : List UInt8) : zb all.length + zb m.length = zb (all ++ m).length := by rw [zH, UInt64.ofNat_add]
def S32 (h : Int) (all : List UInt8) : List UInt32 := if h = 1 then st32 init32 all else zero32
def S64 (h : Int) (all : List UInt8) : List UInt64 := if h = 1 then init64 1 else st64 (init64 h) all
def restH (h : Int) (all : List UInt8) : List UInt8 := if h = 1 then rest32 all else rest64 all
theorem S32_len (h : Int) (all : List UInt8) : (S32 h all).length = 8 := by unfold S32; split; exact st32_len rfl all; rfl
theorem S64_len (h : Int) (all : List UInt8) : (S64 h all).length = 8 := by unfold S64; split; rfl; exact st64_len (init64_len h) all
theorem restH_lt (h : Int) (all : List UInt8) : (restH h all).length < 128 := by
  unfold restH
  split
  · exact Nat.lt_trans (rest32_len all) (by decide)
  · exact rest64_len all
theorem restH_le (h : Int) (all : List UInt8) : (restH h all).length ≤ all.length := by
  unfold restH rest32 rest64
  split <;> simp
theorem new_dig (w : World) (h : Int) (hh : h = 2 ∨ h = 3) : Calls zB 72 #[.int .i64 h] w fun e w' => ∃ bd, e = .returned (pt bd) ∧ Ev w [] w' [.box bd (([.int .i64 h] : List Value) ++ ((ZJ (S32 h ([] : List UInt8))) ++ ((zh (S64 h ([] : List UInt8))) ++ ([.slice none (zc (restH h ([] : List UInt8))) 0, zn (zb (zc ([] : List UInt8)))] : List Value)))) 115, .vec none 0 1 (bys (restH h ([] : List UInt8))) 5] := by
  refine (new_go w h (.inr hh)).mono fun e w' h1 => ?_
  obtain ⟨bd, he, hv⟩ := h1
  refine ⟨bd, he, ?_⟩
  have h2 := Ev.nil (sz := 1) (T := 5) hv
  rcases hh with rfl | rfl
  · exact h2
  · exact h2
theorem write_go (w : World) (bd : Nat) (h : Int) (hh : h = 2 ∨ h = 3) (al : List UInt8) (ar : Option Addr) (cr : Nat) (ax : Option Addr) (nx cx : Nat) (lx : List UInt8) (ex : nx = zc lx) (ix : InB w [.box bd (([.int .i64 h] : List Value) ++ ((ZJ (S32 h al)) ++ ((zh (S64 h al)) ++ ([.slice ar (zc (restH h al)) cr, zn (zb (zc al))] : List Value)))) 115, .vec ar cr 1 (bys (restH h al)) 5] ax cx lx) (hB : zc (restH h al) + zc lx ≤ 140737488355200) (gk32 : InU32 w [.box bd (([.int .i64 h] : List Value) ++ ((ZJ (S32 h al)) ++ ((zh (S64 h al)) ++ ([.slice ar (zc (restH h al)) cr, zn (zb (zc al))] : List Value)))) 115, .vec ar cr 1 (bys (restH h al)) 5] (some ⟨0, 0, none⟩) 64 K32) (gk64 : InU64 w [.box bd (([.int .i64 h] : List Value) ++ ((ZJ (S32 h al)) ++ ((zh (S64 h al)) ++ ([.slice ar (zc (restH h al)) cr, zn (zb (zc al))] : List Value)))) 115, .vec ar cr 1 (bys (restH h al)) 5] (some ⟨1, 0, none⟩) 80 K64) (hH : Heap w [.box bd (([.int .i64 h] : List Value) ++ ((ZJ (S32 h al)) ++ ((zh (S64 h al)) ++ ([.slice ar (zc (restH h al)) cr, zn (zb (zc al))] : List Value)))) 115, .vec ar cr 1 (bys (restH h al)) 5]) : Calls zB 73 #[pt bd, .slice ax nx cx] w fun e w' => ∃ ao co, e = .returned (.tuple #[]) ∧ Ev w [.box bd (([.int .i64 h] : List Value) ++ ((ZJ (S32 h al)) ++ ((zh (S64 h al)) ++ ([.slice ar (zc (restH h al)) cr, zn (zb (zc al))] : List Value)))) 115, .vec ar cr 1 (bys (restH h al)) 5] w' [.box bd (([.int .i64 h] : List Value) ++ ((ZJ (S32 h (al ++ lx))) ++ ((zh (S64 h (al ++ lx))) ++ ([.slice ao (zc (restH h (al ++ lx))) co, zn (zb (zc (al ++ lx)))] : List Value)))) 115, .vec ao co 1 (bys (restH h (al ++ lx))) 5] := by
  rcases hh with rfl | rfl
  · have h1 := write64_go w bd 2 (.inl rfl) (zero32) rfl (st64 (init64 2) al) (st64_len (init64_len 2) al) ar cr (rest64 al) (rest64_len al) (zb (zc al)) ax nx cx lx ex ix hB gk64 hH
    simp only [st64_next, rest64_next, n_next] at h1
    exact h1
  · have h1 := write64_go w bd 3 (.inr rfl) (zero32) rfl (st64 (init64 3) al) (st64_len (init64_len 3) al) ar cr (rest64 al) (rest64_len al) (zb (zc al)) ax nx cx lx ex ix hB gk64 hH
    simp only [st64_next, rest64_next, n_next] at h1
    exact h1
theorem clone_go (w : World) (bd : Nat) (h : Int) (al : List UInt8) (ar : Option Addr) (cr : Nat) (hH : Heap w [.box bd (([.int .i64 h] : List Value) ++ ((ZJ (S32 h al)) ++ ((zh (S64 h al)) ++ ([.slice ar (zc (restH h al)) cr, zn (zb (zc al))] : List Value)))) 115, .vec ar cr 1 (bys (restH h al)) 5]) : Calls zB 102 #[pt bd] w fun e w' => ∃ b2 ao co, e = .returned (pt b2) ∧ Ev w [.box bd (([.int .i64 h] : List Value) ++ ((ZJ (S32 h al)) ++ ((zh (S64 h al)) ++ ([.slice ar (zc (restH h al)) cr, zn (zb (zc al))] : List Value)))) 115, .vec ar cr 1 (bys (restH h al)) 5] w' [.box bd (([.int .i64 h] : List Value) ++ ((ZJ (S32 h al)) ++ ((zh (S64 h al)) ++ ([.slice ar (zc (restH h al)) cr, zn (zb (zc al))] : List Value)))) 115, .vec ar cr 1 (bys (restH h al)) 5, .box b2 (([.int .i64 h] : List Value) ++ ((ZJ (S32 h al)) ++ ((zh (S64 h al)) ++ ([.slice ao (zc (restH h al)) co, zn (zb (zc al))] : List Value)))) 115, .vec ao co 1 (bys (restH h al)) 5] := by
 have hrl := restH_lt h al
 refine d_0 [(0, pt bd)] 13 Tryz.func102 Tryz.ntmps102 (hH) fun Et Eu Es => d_s [0,2] [] Eu fun _ Ew => wp_seq <| zk <| d_k [0,2,5] [] 2 Ew fun _ Ex => f_o <| m_aw 0 19 (([.int .i64 h] : List Value) ++ ((ZJ (S32 h al)) ++ ((zh (S64 h al)) ++ ([.slice ar (zc (restH h al)) cr, zn (zb (zc al))] : List Value)))) Ex Es rfl (zG rfl (zG (ZB (S32_len _ _)) (zG (zd (S64_len _ _)) rfl))) fun _ Ey => f_o <| m_z 115 (([.int .i64 0] : List Value) ++ ((ZJ (zf 8 0)) ++ ((zh (zf 8 0)) ++ ([.slice none 0 0, .int .u64 0] : List Value)))) Ey Es fun _ _ Eh Ei Ej => f_o <| zZ 2 19 (([.int .i64 h] : List Value) ++ ((ZJ (S32 h al)) ++ ((zh (S64 h al)) ++ ([.slice ar (zc (restH h al)) cr, zn (zb (zc al))] : List Value)))) _ Ei Ej rfl (zG rfl (zG (ZB (S32_len _ _)) (zG (zd (S64_len _ _)) rfl))) (zG rfl (zG (ZB (zi)) (zG (zd (zi)) rfl))) (one_app (one_all (by kernel_rfl)) (one_app (u32s_one _) (one_app (zw _) (one_all (by kernel_rfl))))) rfl fun _ Ek El Ed => ?_
 refine f_e <| ze <| wp_seq <| zk <| d_k [0,2,3,9] [] 3 El fun _ Em => f_o <| m_v 0 17 (.slice ar (zc (restH h al)) cr) Em Ed rfl (zW (n := 1) (j := 16) rfl (zW (n := 8) (j := 8) (ZB (S32_len _ _)) (zW (n := 8) (j := 0) (zd (S64_len _ _)) rfl))) fun _ En => f_o ?_
 have Ec : Ev w [.box bd (([.int .i64 h] : List Value) ++ ((ZJ (S32 h al)) ++ ((zh (S64 h al)) ++ ([.slice ar (zc (restH h al)) cr, zn (zb (zc al))] : List Value)))) 115, .vec ar cr 1 (bys (restH h al)) 5] Ek [.box bd (([.int .i64 h] : List Value) ++ ((ZJ (S32 h al)) ++ ((zh (S64 h al)) ++ ([.slice ar (zc (restH h al)) cr, zn (zb (zc al))] : List Value)))) 115, .vec ar cr 1 (bys (restH h al)) 5, .box Eh (([.int .i64 h] : List Value) ++ ((ZJ (S32 h al)) ++ ((zh (S64 h al)) ++ ([.slice ar (zc (restH h al)) cr, zn (zb (zc al))] : List Value)))) 115, .vec none 0 1 (bys []) 5] := Ev.nil (sz := 1) (T := 5) Ed
 refine Zl (d := some 11) (t := 23) (tx := 23) (ty := 23) (k := 3) (p := 0) (m := zc (restH h al)) (x := .slice ar (zc (restH h al)) cr) (bytes := 1) En (by kernel_rfl) Ec rfl (bys_lenn (by simp)) (Zk (size := 1) (tx := 23) (e' := 5) (by kernel_rfl) (Ec.heap.reads (k := 1) rfl) (ZI _) (bys_vnz Ec.heap (k := 1) rfl) (ZC _)) (by kernel_rfl) (z := .int .u8 0) (by kernel_rfl) rfl (by decide) (by omega) (by unfold maxLen; omega) ?_
 intro _ _ Ea Eb Ee Ef hnz _
 clear hnz
 rw [bys_nil_append] at Ef
 have Eg : 0 + (zc (restH h al)) = zc (restH h al) := (by first | (simp; done) | (simp; omega) | omega)
 rw [Eg] at Ee
 refine d_k [0,2,3,11,12] [] 6 Ee fun _ Eo => f_o <| m_t 2 17 (.slice Ea (zc (restH h al)) Eb) [.box bd (([.int .i64 h] : List Value) ++ ((ZJ (S32 h al)) ++ ((zh (S64 h al)) ++ ([.slice ar (zc (restH h al)) cr, zn (zb (zc al))] : List Value)))) 115, .vec ar cr 1 (bys (restH h al)) 5, .box Eh (([.int .i64 h] : List Value) ++ ((ZJ (S32 h al)) ++ ((zh (S64 h al)) ++ ([.slice Ea (zc (restH h al)) Eb, zn (zb (zc al))] : List Value)))) 115, .vec Ea Eb 1 (bys (restH h al)) 5] Eo Ef rfl (zW (n := 1) (j := 16) rfl (zW (n := 8) (j := 8) (ZB (S32_len _ _)) (zW (n := 8) (j := 0) (zd (S64_len _ _)) rfl))) ((YD (n := 1) (j := 16) rfl).trans (congrArg (([.int .i64 h] : List Value) ++ ·) ((YD (n := 8) (j := 8) (ZB (S32_len _ _))).trans (congrArg ((ZJ (S32 h al)) ++ ·) ((YD (n := 8) (j := 0) (zd (S64_len _ _))).trans (congrArg ((zh (S64 h al)) ++ ·) rfl)))))) rfl fun _ _ Ep Eq => f_e <| ze <| d_s [0,2,3] [] Ep fun _ Er => wp_ret <| Qh (t := 2) (v := pt Eh) Er (by kernel_rfl) (by kernel_rfl) ?_
 exact ⟨Eh, Ea, Eb, rfl, Eq.pk [0, 1, 2, 3]⟩
def be4 (x : UInt64) : List UInt8 := [zj (x >>> zb 24), zj (x >>> zb 16), zj (x >>> zb 8), zj (x >>> zb 0)]
def be8 (x : UInt64) : List UInt8 := [zj (x >>> zb 56), zj (x >>> zb 48), zj (x >>> zb 40), zj (x >>> zb 32), zj (x >>> zb 24), zj (x >>> zb 16), zj (x >>> zb 8), zj (x >>> zb 0)]
theorem spread8_go (w : World) (ab : Option Addr) (cb : Nat) (lb : List UInt8) (x : UInt64) (hB : zc lb ≤ 1000) (hH : Heap w [.vec ab cb 1 (bys lb) 5]) : Calls zB 103 #[.slice ab (zc lb) cb, zn x, .int .i64 8] w fun e w' => ∃ ao co, e = .returned (.slice ao (zc (lb ++ be8 x)) co) ∧ Ev w [.vec ab cb 1 (bys lb) 5] w' [.vec ao co 1 (bys (lb ++ be8 x)) 5] := by
 refine d_0 [(0, .slice ab (zc lb) cb), (1, zn x), (2, .int .i64 8)] 23 Tryz.func103 Tryz.ntmps103 (hH) fun Hz HA HB => d_s [0,1,2,6] [] HA fun _ HC => wp_seq <| d_s [0,1,6,7] [] HC fun _ HD => ?_
 refine wp_block <| loop_enter ?_
 refine zK <| wp_seq <| d_s [0,1,6,7,11] [] HD fun _ Hu => c_t Hu ?_
 refine wp_skip <| ze <| wp_seq <| wp_block <| zk <| d_k [0,1,6,7,14,19] [(4, g_i .u64 (zI (x := x) (n := 56) rfl (by decide))), (5, g_i .u8 (z4 (x := x >>> zb 56) rfl))] 6 Hu fun _ HE => f_o <| ZZ (d := some 20) (t := 23) (T := 5) (m := 1) (parts := #[(0, bv (zj (x >>> zb 56)))]) (xs := bys [zj (x >>> zb 56)]) (sz := 1) HE (by kernel_rfl) (by kernel_rfl) rfl (by decide) HB ?_
 intro _ _ HF E9 Ew
 refine f_o <| Zl (d := some 21) (t := 23) (tx := 23) (ty := 23) (k := 0) (p := zc lb) (m := 1) (x := .slice (some ⟨HF, 0, none⟩) 1 1) (bytes := 1) E9 (by kernel_rfl) Ew rfl (ZI _) (Zk (size := 1) (tx := 23) (e' := 5) (by kernel_rfl) (Ew.heap.reads (k := 1) rfl) rfl (fun e => by cases e) (ZC _)) (by kernel_rfl) (z := .int .u8 0) (by kernel_rfl) rfl (by decide) (by omega) (by unfold maxLen; omega) ?_
 intro _ _ HG HH Ex Ey hnz _
 clear hnz
 rw [← Zg] at Ey
 have Ez : (zc lb) + 1 = zc (lb ++ [zj (x >>> zb 56)]) := (by first | (simp; done) | (simp; omega) | omega)
 rw [Ez] at Ex
 refine d_e [0,1,6,7] [] Ex fun _ Ha => zx <| ze <| d_r [0,1,6,7] [] Ha fun _ Hb => ?_
 refine ze <| zK <| wp_seq <| d_s [0,1,6,7,11] [] Hb fun _ EA => c_t EA ?_
 refine wp_skip <| ze <| wp_seq <| wp_block <| zk <| d_k [0,1,6,7,14,19] [(4, g_i .u64 (zI (x := x) (n := 48) rfl (by decide))), (5, g_i .u8 (z4 (x := x >>> zb 48) rfl))] 6 EA fun _ Hc => f_o <| ZZ (d := some 20) (t := 23) (T := 5) (m := 1) (parts := #[(0, bv (zj (x >>> zb 48)))]) (xs := bys [zj (x >>> zb 48)]) (sz := 1) Hc (by kernel_rfl) (by kernel_rfl) rfl (by decide) Ey ?_
 intro _ _ Hd He EB
 refine f_o <| Zl (d := some 21) (t := 23) (tx := 23) (ty := 23) (k := 0) (p := zc (lb ++ [zj (x >>> zb 56)])) (m := 1) (x := .slice (some ⟨Hd, 0, none⟩) 1 1) (bytes := 1) He (by kernel_rfl) EB rfl (ZI _) (Zk (size := 1) (tx := 23) (e' := 5) (by kernel_rfl) (EB.heap.reads (k := 2) rfl) rfl (fun e => by cases e) (ZC _)) (by kernel_rfl) (z := .int .u8 0) (by kernel_rfl) rfl (by decide) (by omega) (by unfold maxLen; omega) ?_
 intro _ _ HI HJ EC ED hnz _
 clear hnz
 rw [← Zg] at ED
 have EE : (zc (lb ++ [zj (x >>> zb 56)])) + 1 = zc ((lb ++ [zj (x >>> zb 56)]) ++ [zj (x >>> zb 48)]) := (by first | (simp; done) | (simp; omega) | omega)
 rw [EE] at EC
 refine d_e [0,1,6,7] [] EC fun _ Hf => zx <| ze <| d_r [0,1,6,7] [] Hf fun _ Hg => ?_
 refine ze <| zK <| wp_seq <| d_s [0,1,6,7,11] [] Hg fun _ EF => c_t EF ?_
 refine wp_skip <| ze <| wp_seq <| wp_block <| zk <| d_k [0,1,6,7,14,19] [(4, g_i .u64 (zI (x := x) (n := 40) rfl (by decide))), (5, g_i .u8 (z4 (x := x >>> zb 40) rfl))] 6 EF fun _ Hh => f_o <| ZZ (d := some 20) (t := 23) (T := 5) (m := 1) (parts := #[(0, bv (zj (x >>> zb 40)))]) (xs := bys [zj (x >>> zb 40)]) (sz := 1) Hh (by kernel_rfl) (by kernel_rfl) rfl (by decide) ED ?_
 intro _ _ Hi Hj EG
 refine f_o <| Zl (d := some 21) (t := 23) (tx := 23) (ty := 23) (k := 0) (p := zc ((lb ++ [zj (x >>> zb 56)]) ++ [zj (x >>> zb 48)])) (m := 1) (x := .slice (some ⟨Hi, 0, none⟩) 1 1) (bytes := 1) Hj (by kernel_rfl) EG rfl (ZI _) (Zk (size := 1) (tx := 23) (e' := 5) (by kernel_rfl) (EG.heap.reads (k := 3) rfl) rfl (fun e => by cases e) (ZC _)) (by kernel_rfl) (z := .int .u8 0) (by kernel_rfl) rfl (by decide) (by omega) (by unfold maxLen; omega) ?_
 intro _ _ HK HL EH EI hnz _
 clear hnz
 rw [← Zg] at EI
 have EJ : (zc ((lb ++ [zj (x >>> zb 56)]) ++ [zj (x >>> zb 48)])) + 1 = zc (((lb ++ [zj (x >>> zb 56)]) ++ [zj (x >>> zb 48)]) ++ [zj (x >>> zb 40)]) := (by first | (simp; done) | (simp; omega) | omega)
 rw [EJ] at EH
 refine d_e [0,1,6,7] [] EH fun _ Hk => zx <| ze <| d_r [0,1,6,7] [] Hk fun _ Hl => ?_
 refine ze <| zK <| wp_seq <| d_s [0,1,6,7,11] [] Hl fun _ EK => c_t EK ?_
 refine wp_skip <| ze <| wp_seq <| wp_block <| zk <| d_k [0,1,6,7,14,19] [(4, g_i .u64 (zI (x := x) (n := 32) rfl (by decide))), (5, g_i .u8 (z4 (x := x >>> zb 32) rfl))] 6 EK fun _ Hm => f_o <| ZZ (d := some 20) (t := 23) (T := 5) (m := 1) (parts := #[(0, bv (zj (x >>> zb 32)))]) (xs := bys [zj (x >>> zb 32)]) (sz := 1) Hm (by kernel_rfl) (by kernel_rfl) rfl (by decide) EI ?_
 intro _ _ Hn Ho EL
 refine f_o <| Zl (d := some 21) (t := 23) (tx := 23) (ty := 23) (k := 0) (p := zc (((lb ++ [zj (x >>> zb 56)]) ++ [zj (x >>> zb 48)]) ++ [zj (x >>> zb 40)])) (m := 1) (x := .slice (some ⟨Hn, 0, none⟩) 1 1) (bytes := 1) Ho (by kernel_rfl) EL rfl (ZI _) (Zk (size := 1) (tx := 23) (e' := 5) (by kernel_rfl) (EL.heap.reads (k := 4) rfl) rfl (fun e => by cases e) (ZC _)) (by kernel_rfl) (z := .int .u8 0) (by kernel_rfl) rfl (by decide) (by omega) (by unfold maxLen; omega) ?_
 intro _ _ HM HN EM EN hnz _
 clear hnz
 rw [← Zg] at EN
 have EO : (zc (((lb ++ [zj (x >>> zb 56)]) ++ [zj (x >>> zb 48)]) ++ [zj (x >>> zb 40)])) + 1 = zc ((((lb ++ [zj (x >>> zb 56)]) ++ [zj (x >>> zb 48)]) ++ [zj (x >>> zb 40)]) ++ [zj (x >>> zb 32)]) := (by first | (simp; done) | (simp; omega) | omega)
 rw [EO] at EM
 refine d_e [0,1,6,7] [] EM fun _ Hp => zx <| ze <| d_r [0,1,6,7] [] Hp fun _ Hq => ?_
 refine ze <| zK <| wp_seq <| d_s [0,1,6,7,11] [] Hq fun _ EP => c_t EP ?_
 refine wp_skip <| ze <| wp_seq <| wp_block <| zk <| d_k [0,1,6,7,14,19] [(4, g_i .u64 (zI (x := x) (n := 24) rfl (by decide))), (5, g_i .u8 (z4 (x := x >>> zb 24) rfl))] 6 EP fun _ Hr => f_o <| ZZ (d := some 20) (t := 23) (T := 5) (m := 1) (parts := #[(0, bv (zj (x >>> zb 24)))]) (xs := bys [zj (x >>> zb 24)]) (sz := 1) Hr (by kernel_rfl) (by kernel_rfl) rfl (by decide) EN ?_
 intro _ _ Hs Ht EQ
 refine f_o <| Zl (d := some 21) (t := 23) (tx := 23) (ty := 23) (k := 0) (p := zc ((((lb ++ [zj (x >>> zb 56)]) ++ [zj (x >>> zb 48)]) ++ [zj (x >>> zb 40)]) ++ [zj (x >>> zb 32)])) (m := 1) (x := .slice (some ⟨Hs, 0, none⟩) 1 1) (bytes := 1) Ht (by kernel_rfl) EQ rfl (ZI _) (Zk (size := 1) (tx := 23) (e' := 5) (by kernel_rfl) (EQ.heap.reads (k := 5) rfl) rfl (fun e => by cases e) (ZC _)) (by kernel_rfl) (z := .int .u8 0) (by kernel_rfl) rfl (by decide) (by omega) (by unfold maxLen; omega) ?_
 intro _ _ HO HP Ea Eb hnz _
 clear hnz
 rw [← Zg] at Eb
 have Er : (zc ((((lb ++ [zj (x >>> zb 56)]) ++ [zj (x >>> zb 48)]) ++ [zj (x >>> zb 40)]) ++ [zj (x >>> zb 32)])) + 1 = zc (((((lb ++ [zj (x >>> zb 56)]) ++ [zj (x >>> zb 48)]) ++ [zj (x >>> zb 40)]) ++ [zj (x >>> zb 32)]) ++ [zj (x >>> zb 24)]) := (by first | (simp; done) | (simp; omega) | omega)
 rw [Er] at Ea
 refine d_e [0,1,6,7] [] Ea fun _ ER => zx <| ze <| d_r [0,1,6,7] [] ER fun _ ES => ?_
 refine ze <| zK <| wp_seq <| d_s [0,1,6,7,11] [] ES fun _ Ec => c_t Ec ?_
 refine wp_skip <| ze <| wp_seq <| wp_block <| zk <| d_k [0,1,6,7,14,19] [(4, g_i .u64 (zI (x := x) (n := 16) rfl (by decide))), (5, g_i .u8 (z4 (x := x >>> zb 16) rfl))] 6 Ec fun _ ET => f_o <| ZZ (d := some 20) (t := 23) (T := 5) (m := 1) (parts := #[(0, bv (zj (x >>> zb 16)))]) (xs := bys [zj (x >>> zb 16)]) (sz := 1) ET (by kernel_rfl) (by kernel_rfl) rfl (by decide) Eb ?_
 intro _ _ EU EV Ed
 refine f_o <| Zl (d := some 21) (t := 23) (tx := 23) (ty := 23) (k := 0) (p := zc (((((lb ++ [zj (x >>> zb 56)]) ++ [zj (x >>> zb 48)]) ++ [zj (x >>> zb 40)]) ++ [zj (x >>> zb 32)]) ++ [zj (x >>> zb 24)])) (m := 1) (x := .slice (some ⟨EU, 0, none⟩) 1 1) (bytes := 1) EV (by kernel_rfl) Ed rfl (ZI _) (Zk (size := 1) (tx := 23) (e' := 5) (by kernel_rfl) (Ed.heap.reads (k := 6) rfl) rfl (fun e => by cases e) (ZC _)) (by kernel_rfl) (z := .int .u8 0) (by kernel_rfl) rfl (by decide) (by omega) (by unfold maxLen; omega) ?_
 intro _ _ Hv Hw Ee Ef hnz _
 clear hnz
 rw [← Zg] at Ef
 have Es : (zc (((((lb ++ [zj (x >>> zb 56)]) ++ [zj (x >>> zb 48)]) ++ [zj (x >>> zb 40)]) ++ [zj (x >>> zb 32)]) ++ [zj (x >>> zb 24)])) + 1 = zc ((((((lb ++ [zj (x >>> zb 56)]) ++ [zj (x >>> zb 48)]) ++ [zj (x >>> zb 40)]) ++ [zj (x >>> zb 32)]) ++ [zj (x >>> zb 24)]) ++ [zj (x >>> zb 16)]) := (by first | (simp; done) | (simp; omega) | omega)
 rw [Es] at Ee
 refine d_e [0,1,6,7] [] Ee fun _ EW => zx <| ze <| d_r [0,1,6,7] [] EW fun _ EX => ?_
 refine ze <| zK <| wp_seq <| d_s [0,1,6,7,11] [] EX fun _ Eg => c_t Eg ?_
 refine wp_skip <| ze <| wp_seq <| wp_block <| zk <| d_k [0,1,6,7,14,19] [(4, g_i .u64 (zI (x := x) (n := 8) rfl (by decide))), (5, g_i .u8 (z4 (x := x >>> zb 8) rfl))] 6 Eg fun _ EY => f_o <| ZZ (d := some 20) (t := 23) (T := 5) (m := 1) (parts := #[(0, bv (zj (x >>> zb 8)))]) (xs := bys [zj (x >>> zb 8)]) (sz := 1) EY (by kernel_rfl) (by kernel_rfl) rfl (by decide) Ef ?_
 intro _ _ EZ E0 Eh
 refine f_o <| Zl (d := some 21) (t := 23) (tx := 23) (ty := 23) (k := 0) (p := zc ((((((lb ++ [zj (x >>> zb 56)]) ++ [zj (x >>> zb 48)]) ++ [zj (x >>> zb 40)]) ++ [zj (x >>> zb 32)]) ++ [zj (x >>> zb 24)]) ++ [zj (x >>> zb 16)])) (m := 1) (x := .slice (some ⟨EZ, 0, none⟩) 1 1) (bytes := 1) E0 (by kernel_rfl) Eh rfl (ZI _) (Zk (size := 1) (tx := 23) (e' := 5) (by kernel_rfl) (Eh.heap.reads (k := 7) rfl) rfl (fun e => by cases e) (ZC _)) (by kernel_rfl) (z := .int .u8 0) (by kernel_rfl) rfl (by decide) (by omega) (by unfold maxLen; omega) ?_
 intro _ _ Hx Hy Ei Ej hnz _
 clear hnz
 rw [← Zg] at Ej
 have Et : (zc ((((((lb ++ [zj (x >>> zb 56)]) ++ [zj (x >>> zb 48)]) ++ [zj (x >>> zb 40)]) ++ [zj (x >>> zb 32)]) ++ [zj (x >>> zb 24)]) ++ [zj (x >>> zb 16)])) + 1 = zc (((((((lb ++ [zj (x >>> zb 56)]) ++ [zj (x >>> zb 48)]) ++ [zj (x >>> zb 40)]) ++ [zj (x >>> zb 32)]) ++ [zj (x >>> zb 24)]) ++ [zj (x >>> zb 16)]) ++ [zj (x >>> zb 8)]) := (by first | (simp; done) | (simp; omega) | omega)
 rw [Et] at Ei
 refine d_e [0,1,6,7] [] Ei fun _ E1 => zx <| ze <| d_r [0,1,6,7] [] E1 fun _ E2 => ?_
 refine ze <| zK <| wp_seq <| d_s [0,1,6,7,11] [] E2 fun _ Ek => c_t Ek ?_
 refine wp_skip <| ze <| wp_seq <| wp_block <| zk <| d_k [0,1,6,7,14,19] [(4, g_i .u64 (zI (x := x) (n := 0) rfl (by decide))), (5, g_i .u8 (z4 (x := x >>> zb 0) rfl))] 6 Ek fun _ E3 => f_o <| ZZ (d := some 20) (t := 23) (T := 5) (m := 1) (parts := #[(0, bv (zj (x >>> zb 0)))]) (xs := bys [zj (x >>> zb 0)]) (sz := 1) E3 (by kernel_rfl) (by kernel_rfl) rfl (by decide) Ej ?_
 intro _ _ E4 E5 El
 refine f_o <| Zl (d := some 21) (t := 23) (tx := 23) (ty := 23) (k := 0) (p := zc (((((((lb ++ [zj (x >>> zb 56)]) ++ [zj (x >>> zb 48)]) ++ [zj (x >>> zb 40)]) ++ [zj (x >>> zb 32)]) ++ [zj (x >>> zb 24)]) ++ [zj (x >>> zb 16)]) ++ [zj (x >>> zb 8)])) (m := 1) (x := .slice (some ⟨E4, 0, none⟩) 1 1) (bytes := 1) E5 (by kernel_rfl) El rfl (ZI _) (Zk (size := 1) (tx := 23) (e' := 5) (by kernel_rfl) (El.heap.reads (k := 8) rfl) rfl (fun e => by cases e) (ZC _)) (by kernel_rfl) (z := .int .u8 0) (by kernel_rfl) rfl (by decide) (by omega) (by unfold maxLen; omega) ?_
 intro _ _ Em En Eo Ep hnz _
 clear hnz
 rw [← Zg] at Ep
 have Eu : (zc (((((((lb ++ [zj (x >>> zb 56)]) ++ [zj (x >>> zb 48)]) ++ [zj (x >>> zb 40)]) ++ [zj (x >>> zb 32)]) ++ [zj (x >>> zb 24)]) ++ [zj (x >>> zb 16)]) ++ [zj (x >>> zb 8)])) + 1 = zc ((((((((lb ++ [zj (x >>> zb 56)]) ++ [zj (x >>> zb 48)]) ++ [zj (x >>> zb 40)]) ++ [zj (x >>> zb 32)]) ++ [zj (x >>> zb 24)]) ++ [zj (x >>> zb 16)]) ++ [zj (x >>> zb 8)]) ++ [zj (x >>> zb 0)]) := (by first | (simp; done) | (simp; omega) | omega)
 rw [Eu] at Eo
 refine d_e [0,1,6,7] [] Eo fun _ E6 => zx <| ze <| d_r [0,1,6,7] [] E6 fun _ E7 => ?_
 refine ze <| zK <| wp_seq <| d_s [0,1,6,7,11] [] E7 fun _ Eq => c_f Eq ?_
 refine wp_exit <| zD <| zD <| zP <| ze <| d_s [0,1,6,7] [] Eq fun _ E8 => wp_ret <| Qh (t := 6) (v := .slice Em (zc ((((((((lb ++ [zj (x >>> zb 56)]) ++ [zj (x >>> zb 48)]) ++ [zj (x >>> zb 40)]) ++ [zj (x >>> zb 32)]) ++ [zj (x >>> zb 24)]) ++ [zj (x >>> zb 16)]) ++ [zj (x >>> zb 8)]) ++ [zj (x >>> zb 0)])) En) E8 (by kernel_rfl) (by kernel_rfl) ?_
 have hl : (((((((lb ++ [zj (x >>> zb 56)]) ++ [zj (x >>> zb 48)]) ++ [zj (x >>> zb 40)]) ++ [zj (x >>> zb 32)]) ++ [zj (x >>> zb 24)]) ++ [zj (x >>> zb 16)]) ++ [zj (x >>> zb 8)]) ++ [zj (x >>> zb 0)] = lb ++ be8 x := by simp [be8]
 have Hf177 := Ep.pk [0] (M := [.vec Em En 1 (bys ((((((((lb ++ [zj (x >>> zb 56)]) ++ [zj (x >>> zb 48)]) ++ [zj (x >>> zb 40)]) ++ [zj (x >>> zb 32)]) ++ [zj (x >>> zb 24)]) ++ [zj (x >>> zb 16)]) ++ [zj (x >>> zb 8)]) ++ [zj (x >>> zb 0)])) 5])
 rw [hl] at Hf177
 exact ⟨_, _, by rw [hl], Hf177⟩
def pdZ (sz r : Nat) : Nat := (sz - (r + 1 + sz / 8) % sz) % sz
def padB (sz : Nat) (r n : Nat) : List UInt8 := ((([128] : List UInt8) ++ zf (pdZ sz r) 0) ++ zf (sz / 8 - 8) 0) ++ be8 (zb n * 8)
theorem padB_len (sz r n : Nat) (h : 0 < sz) (h2 : sz ≤ 128) : (padB sz r n).length ≤ 153 := by
  have : pdZ sz r < sz := ZU _ h
  simp [padB, be8]
  omega
def padH (h : Int) (al : List UInt8) : List UInt8 := if h = 1 then padB 64 (restH h al).length al.length else padB 128 (restH h al).length al.length
theorem padH_len (h : Int) (al : List UInt8) : (padH h al).length ≤ 153 := by
  unfold padH
  split
  · exact padB_len _ _ _ (by decide) (by decide)
  · exact padB_len _ _ _ (by decide) (by decide)
def out32 (s : List UInt32) : Nat → List UInt8
  | 0 => []
  | i + 1 => out32 s i ++ be4 (UInt32.toUInt64 (za s i 0))
def out64 (s : List UInt64) : Nat → List UInt8
  | 0 => []
  | i + 1 => out64 s i ++ be8 (za s i 0)
theorem out32_len (s : List UInt32) (i : Nat) : (out32 s i).length = 4 * i := by
  induction i with
  | zero => rfl
  | succ i ih => rw [out32, zH, ih]; rfl
theorem out64_len (s : List UInt64) (i : Nat) : (out64 s i).length = 8 * i := by
  induction i with
  | zero => rfl
  | succ i ih => rw [out64, zH, ih]; rfl
def sumF (h : Int) (al : List UInt8) : List UInt8 := zm (sizeOfH h) (if h = 1 then out32 (S32 h (al ++ padH h al)) 8 else out64 (S64 h (al ++ padH h al)) 8)
theorem sumF_len {h : Int} (hh : h = 1 ∨ h = 2 ∨ h = 3) (al : List UInt8) : (sumF h al).length = sizeOfH h := by
  unfold sumF
  rw [zs]
  rcases hh with rfl | rfl | rfl
  · rw [if_pos rfl, out32_len]; rfl
  · rw [if_neg (by decide), out64_len]; rfl
  · rw [if_neg (by decide), out64_len]; rfl
theorem end_step {B : List UInt8} {j : Nat} : (B ++ zf j 0) ++ [0] = B ++ zf (j + 1) 0 := by rw [List.append_assoc, List.replicate_succ']
theorem size_le (h : Int) : sizeOfH h ≤ 64 := by
  unfold sizeOfH
  split
  · decide
  · split
    · decide
    · split <;> decide
theorem sum64_go (w : World) (bd : Nat) (h : Int) (hh2 : h = 2 ∨ h = 3) (al : List UInt8) (ar : Option Addr) (cr : Nat) (gk32 : InU32 w [.box bd (([.int .i64 h] : List Value) ++ ((ZJ (S32 h al)) ++ ((zh (S64 h al)) ++ ([.slice ar (zc (restH h al)) cr, zn (zb (zc al))] : List Value)))) 115, .vec ar cr 1 (bys (restH h al)) 5] (some ⟨0, 0, none⟩) 64 K32) (gk64 : InU64 w [.box bd (([.int .i64 h] : List Value) ++ ((ZJ (S32 h al)) ++ ((zh (S64 h al)) ++ ([.slice ar (zc (restH h al)) cr, zn (zb (zc al))] : List Value)))) 115, .vec ar cr 1 (bys (restH h al)) 5] (some ⟨1, 0, none⟩) 80 K64) (hH : Heap w [.box bd (([.int .i64 h] : List Value) ++ ((ZJ (S32 h al)) ++ ((zh (S64 h al)) ++ ([.slice ar (zc (restH h al)) cr, zn (zb (zc al))] : List Value)))) 115, .vec ar cr 1 (bys (restH h al)) 5]) : Calls zB 74 #[pt bd] w fun e w' => ∃ ao co, e = .returned (.slice ao (zc (sumF h al)) co) ∧ Ev w [.box bd (([.int .i64 h] : List Value) ++ ((ZJ (S32 h al)) ++ ((zh (S64 h al)) ++ ([.slice ar (zc (restH h al)) cr, zn (zb (zc al))] : List Value)))) 115, .vec ar cr 1 (bys (restH h al)) 5] w' [.box bd (([.int .i64 h] : List Value) ++ ((ZJ (S32 h al)) ++ ((zh (S64 h al)) ++ ([.slice ar (zc (restH h al)) cr, zn (zb (zc al))] : List Value)))) 115, .vec ar cr 1 (bys (restH h al)) 5, .vec ao co 1 (bys (sumF h al)) 5] := by
 have hrl := restH_lt h al
 have hrl2 := restH_le h al
 refine d_0 [(0, pt bd)] 95 Tryz.func74 Tryz.ntmps74 (hH) fun bw bx bz => wp_seq <| d_r [0,2] [] bx fun _ bA => ze <| wp_seq <| zk <| d_k [0,2,9] [] 1 bA fun _ bB => f_o <| c_l [0,1] (M := [.box bd (([.int .i64 h] : List Value) ++ ((ZJ (S32 h al)) ++ ((zh (S64 h al)) ++ ([.slice ar (zc (restH h al)) cr, zn (zb (zc al))] : List Value)))) 115, .vec ar cr 1 (bys (restH h al)) 5]) bB bz (fun hM6 => clone_go _ bd h al ar cr hM6) ?_
 rintro _ _ ⟨bq5, Ef, Eg, rfl, bC⟩
 refine ⟨_, _, [.box bd (([.int .i64 h] : List Value) ++ ((ZJ (S32 h al)) ++ ((zh (S64 h al)) ++ ([.slice ar (zc (restH h al)) cr, zn (zb (zc al))] : List Value)))) 115, .vec ar cr 1 (bys (restH h al)) 5, .box bq5 (([.int .i64 h] : List Value) ++ ((ZJ (S32 h al)) ++ ((zh (S64 h al)) ++ ([.slice Ef (zc (restH h al)) Eg, zn (zb (zc al))] : List Value)))) 115, .vec Ef Eg 1 (bys (restH h al)) 5], rfl, bC, by kernel_rfl, fun _ aI He => ?_⟩
 refine d_e [0,2,3] [] aI fun _ aJ => ze <| wp_seq <| zk <| d_k [0,2,3,13] [] 3 aJ fun _ aK => f_o <| m_v 0 0 (.int .i64 h) aK He rfl (Jh rfl) fun _ aL => f_o <| c_p aL He (block_go23 _ h hh2) fun _ _ aM aN => d_e [0,2,3,4] [] aM fun _ aO => ze <| wp_seq <| zk <| d_k [0,2,3,4,17] [] 2 aO fun _ aP => ?_
 refine f_o <| op_makecap (d := some 18) (t := 23) (T := 5) (q := 1) (m := 256) (kl := .i64) (kc := .i64) (z := .int .u8 0) (bytes := 1) aP (by kernel_rfl) aN (by kernel_rfl) (by kernel_rfl) (by kernel_rfl) (by omega) (by omega) (by unfold maxLen; omega) ?_
 intro _ _ Ei aQ Hf
 rw [show zf 1 (Value.int .u8 0) = bys (zf 1 0) from (bys_replicate _).symm] at Hf
 refine d_e [0,2,3,4,5] [] aQ fun _ aR => ze <| wp_seq ?_
 have aS : 0 < 1 := (by omega)
 refine zk <| d_k [0,2,3,4,5,19] [] 1 aR fun _ aT => f_o <| q_v (x := Instr.indexAt 23 (.slice (some ⟨Ei, 0, none⟩) 1 256) (.int .i64 0)) (v := .pointer (some (Addr.add ⟨Ei, 0, none⟩ 0))) aT (Ql (e := 5) (sz := 1) (j := 0) (jo := 0) rfl (by kernel_rfl) (by kernel_rfl) (by omega) aS (ZG _) _) fun _ aU => f_o <| op_storeel (d := none) (t := 5) (ad := ⟨Ei, 0, none⟩) (ao := some ⟨Ei, 0, none⟩) (k := 4) (cap := 256) (sz := 1) (j := 0) (xs := bys (zf 1 0)) (v := bv (128 : UInt8)) aU (by kernel_rfl) Hf rfl rfl (by rw [bys_length]; first | omega | (simp; done) | (simp; omega)) (by kernel_rfl) rfl ?_
 intro _ aV  aW Eu
 rw [bys_set] at Eu
 refine f_e ?_
 replace Eu : Ev w [.box bd (([.int .i64 h] : List Value) ++ ((ZJ (S32 h al)) ++ ((zh (S64 h al)) ++ ([.slice ar (zc (restH h al)) cr, zn (zb (zc al))] : List Value)))) 115, .vec ar cr 1 (bys (restH h al)) 5] aV [.box bd (([.int .i64 h] : List Value) ++ ((ZJ (S32 h al)) ++ ((zh (S64 h al)) ++ ([.slice ar (zc (restH h al)) cr, zn (zb (zc al))] : List Value)))) 115, .vec ar cr 1 (bys (restH h al)) 5, .box bq5 (([.int .i64 h] : List Value) ++ ((ZJ (S32 h al)) ++ ((zh (S64 h al)) ++ ([.slice Ef (zc (restH h al)) Eg, zn (zb (zc al))] : List Value)))) 115, .vec Ef Eg 1 (bys (restH h al)) 5, .vec (some ⟨Ei, 0, none⟩) 256 1 (bys ([128] : List UInt8)) 5] := Eu
 refine ze <| wp_seq <| wp_block <| Z5 (fun aX ac wo => ∃ (j : Nat) (ae : Option Addr) (ce : Nat) (el : List UInt8), aX = (pdZ 128 (zc (restH h al)) - j : Nat) ∧ Env ac 95 [(0, pt bd), (2, .slice none 0 0), (3, pt bq5), (4, .int .i64 128), (5, .slice ae (zc el) ce)] ∧ Ev w [.box bd (([.int .i64 h] : List Value) ++ ((ZJ (S32 h al)) ++ ((zh (S64 h al)) ++ ([.slice ar (zc (restH h al)) cr, zn (zb (zc al))] : List Value)))) 115, .vec ar cr 1 (bys (restH h al)) 5] wo [.vec ae ce 1 (bys el) 5, .box bd (([.int .i64 h] : List Value) ++ ((ZJ (S32 h al)) ++ ((zh (S64 h al)) ++ ([.slice ar (zc (restH h al)) cr, zn (zb (zc al))] : List Value)))) 115, .vec ar cr 1 (bys (restH h al)) 5, .box bq5 (([.int .i64 h] : List Value) ++ ((ZJ (S32 h al)) ++ ((zh (S64 h al)) ++ ([.slice Ef (zc (restH h al)) Eg, zn (zb (zc al))] : List Value)))) 115, .vec Ef Eg 1 (bys (restH h al)) 5] ∧ (j ≤ pdZ 128 (zc (restH h al))) ∧ (el = ([128] : List UInt8) ++ zf j 0)) ⟨_, 0, some ⟨Ei, 0, none⟩, 256, ([128] : List UInt8), rfl, aW.sb, Eu.pk [4, 0, 1, 2, 3], Nat.zero_le _, rfl⟩ ?_
 rintro bD _ _ ⟨j, ae, ce, el, rfl, aY, E4, hj, heel⟩
 refine wp_seq <| wp_seq ?_
 have hel : zc el = 1 + j := by rw [heel]; simp; omega
 have hpz : pdZ 128 (zc (restH h al)) < 128 := ZU _ (by decide)
 refine zk <| d_k [0,2,3,4,5,23] [] 3 aY fun _ aZ => f_o <| m_v 1 17 (.slice ar (zc (restH h al)) cr) aZ E4 rfl (zW (n := 1) (j := 16) rfl (zW (n := 8) (j := 8) (ZB (S32_len _ _)) (zW (n := 8) (j := 0) (zd (S64_len _ _)) rfl))) fun _ a0 => d_e [0,2,3,4,5,34] [(7, g_n (w_a (zc (restH h al)) (zc el))), (10, g_n (w_a ((zc (restH h al)) + (zc el)) 16)), (12, g_i .i64 (show Int.tmod ((((zc (restH h al)) + (zc el)) + 16 : Nat) : Int) (128 : Int) = (((((zc (restH h al)) + (zc el)) + 16) % 128 : Nat) : Int) from Go.Dbr.i64_rem_nat (a := ((((zc (restH h al)) + (zc el)) + 16 : Nat) : Int)) (n := ((zc (restH h al)) + (zc el)) + 16) (m := 128) rfl (by omega)))] a0 fun _ E5 => ?_
 refine ze <| c_n (((((zc (restH h al)) + (zc el)) + 16) % 128 : Nat) : Int) (0 : Int) E5 (fun a1 => ?_) (fun a1 => ?_)
 ·
  refine wp_skip <| ze <| wp_block ?_
  have hpz : pdZ 128 (zc (restH h al)) < 128 := ZU _ (by decide)
  refine zk <| d_k [0,2,3,4,5,35] [] 1 E5 fun _ a2 => f_o <| ZZ (d := some 36) (t := 23) (T := 5) (m := 1) (parts := #[(0, .int .u8 0)]) (xs := bys [(0 : UInt8)]) (sz := 1) a2 (by kernel_rfl) (by kernel_rfl) rfl (by decide) E4 ?_
  intro _ _ a3 a4 Hg
  refine f_o <| Zl (d := some 37) (t := 23) (tx := 23) (ty := 23) (k := 0) (p := zc el) (m := 1) (x := .slice (some ⟨a3, 0, none⟩) 1 1) (bytes := 1) a4 (by kernel_rfl) Hg rfl (ZI _) (Zk (size := 1) (tx := 23) (e' := 5) (by kernel_rfl) (Hg.heap.reads (k := 5) rfl) rfl (fun e => by cases e) (ZC _)) (by kernel_rfl) (z := .int .u8 0) (by kernel_rfl) rfl (by decide) (by omega) (by unfold maxLen; omega) ?_
  intro _ _ a5 a6 Hh Hi hnz _
  clear hnz
  rw [← Zg] at Hi
  have Hj : (zc el) + 1 = zc (el ++ [(0 : UInt8)]) := (by first | (simp; done) | (simp; omega) | omega)
  rw [Hj] at Hh
  refine d_e [0,2,3,4,5] [] Hh fun _ a8 => zx <| ze <| ⟨_, ⟨j + 1, a5, a6, (el ++ [(0 : UInt8)]), rfl, a8.sb, Hi.pk [0, 1, 2, 3, 4], by unfold pdZ at *; omega, by rw [heel]; exact end_step⟩, ?_⟩
  unfold pdZ at *; omega
 refine wp_exit <| zD <| zD <| zP <| ze <| wp_seq ?_
 have hel : zc el = 1 + j := by rw [heel]; simp; omega
 have hjp : j = pdZ 128 (zc (restH h al)) := by unfold pdZ at *; omega
 have hpz : pdZ 128 (zc (restH h al)) < 128 := ZU _ (by decide)
 refine zk <| d_k [0,2,3,4,5,38,41] [] 4 E5 fun _ a9 => f_o <| op_appzeros (d := some 42) (t := 23) (tn := 3) (tx := 9) (ty := 23) (T := 5) (kn := .i64) (ik := .i64) (k := 0) (p := zc el) (m := 8) (xs := el) a9 (by kernel_rfl) E4 rfl rfl (by kernel_rfl) (by kernel_rfl) (by kernel_rfl) (by kernel_rfl) (by omega) ?_
 intro _ _ bE bF Hk Hl hnz _
 clear hnz
 have Hm : (zc el) + 8 = zc (el ++ zf 8 0) := (by first | (simp; done) | (simp; omega) | omega)
 rw [Hm] at Hk
 refine d_e [0,2,3,4,5] [] Hk fun _ ba => ze <| wp_seq <| wp_seq <| d_r [0,2,3,4,5,6] [] ba fun _ bb => ?_
 refine ze <| wp_block <| loop_enter ?_
 refine zK <| wp_seq <| wp_seq <| d_r [0,2,3,4,5,6,44] [] bb fun _ Hn => ze <| c_t Hn ?_
 refine wp_skip <| ze <| wp_seq <| wp_block <| zk <| d_k [0,2,3,4,5,6,47,50] [] 4 Hn fun _ bc => f_o <| m_v 1 18 (zn (zb (zc al))) bc Hl rfl (zW (n := 1) (j := 17) rfl (zW (n := 8) (j := 9) (ZB (S32_len _ _)) (zW (n := 8) (j := 1) (zd (S64_len _ _)) rfl))) fun _ be => d_k [0,2,3,4,5,6,47,56] [(5, g_i .u64 (ZW (x := zb (zc al)) (y := (8 : UInt64)) rfl rfl)), (8, g_i .u64 (zI (x := (zb (zc al)) * (8 : UInt64)) (n := 56) rfl (by decide))), (9, g_i .u8 (z4 (x := ((zb (zc al)) * (8 : UInt64)) >>> zb 56) rfl))] 10 be fun _ bf => f_o <| ZZ (d := some 57) (t := 23) (T := 5) (m := 1) (parts := #[(0, bv (zj (((zb (zc al)) * (8 : UInt64)) >>> zb 56)))]) (xs := bys [zj (((zb (zc al)) * (8 : UInt64)) >>> zb 56)]) (sz := 1) bf (by kernel_rfl) (by kernel_rfl) rfl (by decide) Hl ?_
 intro _ _ Ew Ho Ex
 refine f_o <| Zl (d := some 58) (t := 23) (tx := 23) (ty := 23) (k := 0) (p := zc (el ++ zf 8 0)) (m := 1) (x := .slice (some ⟨Ew, 0, none⟩) 1 1) (bytes := 1) Ho (by kernel_rfl) Ex rfl (ZI _) (Zk (size := 1) (tx := 23) (e' := 5) (by kernel_rfl) (Ex.heap.reads (k := 5) rfl) rfl (fun e => by cases e) (ZC _)) (by kernel_rfl) (z := .int .u8 0) (by kernel_rfl) rfl (by decide) (by omega) (by unfold maxLen; omega) ?_
 intro _ _ bg bh Ey Ej hnz _
 clear hnz
 rw [← Zg] at Ej
 have E6 : (zc (el ++ zf 8 0)) + 1 = zc ((el ++ zf 8 0) ++ [zj (((zb (zc al)) * (8 : UInt64)) >>> zb 56)]) := (by first | (simp; done) | (simp; omega) | omega)
 rw [E6] at Ey
 refine d_e [0,2,3,4,5,6] [] Ey fun _ Hp => zx <| ze <| d_r [0,2,3,4,5,6] [] Hp fun _ Hq => ?_
 refine ze <| zK <| wp_seq <| wp_seq <| d_r [0,2,3,4,5,6,44] [] Hq fun _ Ez => ze <| c_t Ez ?_
 refine wp_skip <| ze <| wp_seq <| wp_block <| zk <| d_k [0,2,3,4,5,6,47,50] [] 4 Ez fun _ Hr => f_o <| m_v 1 18 (zn (zb (zc al))) Hr Ej rfl (zW (n := 1) (j := 17) rfl (zW (n := 8) (j := 9) (ZB (S32_len _ _)) (zW (n := 8) (j := 1) (zd (S64_len _ _)) rfl))) fun _ Hs => d_k [0,2,3,4,5,6,47,56] [(5, g_i .u64 (ZW (x := zb (zc al)) (y := (8 : UInt64)) rfl rfl)), (8, g_i .u64 (zI (x := (zb (zc al)) * (8 : UInt64)) (n := 48) rfl (by decide))), (9, g_i .u8 (z4 (x := ((zb (zc al)) * (8 : UInt64)) >>> zb 48) rfl))] 10 Hs fun _ Ht => f_o <| ZZ (d := some 57) (t := 23) (T := 5) (m := 1) (parts := #[(0, bv (zj (((zb (zc al)) * (8 : UInt64)) >>> zb 48)))]) (xs := bys [zj (((zb (zc al)) * (8 : UInt64)) >>> zb 48)]) (sz := 1) Ht (by kernel_rfl) (by kernel_rfl) rfl (by decide) Ej ?_
 intro _ _ EA Hu EB
 refine f_o <| Zl (d := some 58) (t := 23) (tx := 23) (ty := 23) (k := 0) (p := zc ((el ++ zf 8 0) ++ [zj (((zb (zc al)) * (8 : UInt64)) >>> zb 56)])) (m := 1) (x := .slice (some ⟨EA, 0, none⟩) 1 1) (bytes := 1) Hu (by kernel_rfl) EB rfl (ZI _) (Zk (size := 1) (tx := 23) (e' := 5) (by kernel_rfl) (EB.heap.reads (k := 6) rfl) rfl (fun e => by cases e) (ZC _)) (by kernel_rfl) (z := .int .u8 0) (by kernel_rfl) rfl (by decide) (by omega) (by unfold maxLen; omega) ?_
 intro _ _ bi bj EC Ek hnz _
 clear hnz
 rw [← Zg] at Ek
 have E7 : (zc ((el ++ zf 8 0) ++ [zj (((zb (zc al)) * (8 : UInt64)) >>> zb 56)])) + 1 = zc (((el ++ zf 8 0) ++ [zj (((zb (zc al)) * (8 : UInt64)) >>> zb 56)]) ++ [zj (((zb (zc al)) * (8 : UInt64)) >>> zb 48)]) := (by first | (simp; done) | (simp; omega) | omega)
 rw [E7] at EC
 refine d_e [0,2,3,4,5,6] [] EC fun _ Hv => zx <| ze <| d_r [0,2,3,4,5,6] [] Hv fun _ Hw => ?_
 refine ze <| zK <| wp_seq <| wp_seq <| d_r [0,2,3,4,5,6,44] [] Hw fun _ ED => ze <| c_t ED ?_
 refine wp_skip <| ze <| wp_seq <| wp_block <| zk <| d_k [0,2,3,4,5,6,47,50] [] 4 ED fun _ Hx => f_o <| m_v 1 18 (zn (zb (zc al))) Hx Ek rfl (zW (n := 1) (j := 17) rfl (zW (n := 8) (j := 9) (ZB (S32_len _ _)) (zW (n := 8) (j := 1) (zd (S64_len _ _)) rfl))) fun _ Hy => d_k [0,2,3,4,5,6,47,56] [(5, g_i .u64 (ZW (x := zb (zc al)) (y := (8 : UInt64)) rfl rfl)), (8, g_i .u64 (zI (x := (zb (zc al)) * (8 : UInt64)) (n := 40) rfl (by decide))), (9, g_i .u8 (z4 (x := ((zb (zc al)) * (8 : UInt64)) >>> zb 40) rfl))] 10 Hy fun _ Hz => f_o <| ZZ (d := some 57) (t := 23) (T := 5) (m := 1) (parts := #[(0, bv (zj (((zb (zc al)) * (8 : UInt64)) >>> zb 40)))]) (xs := bys [zj (((zb (zc al)) * (8 : UInt64)) >>> zb 40)]) (sz := 1) Hz (by kernel_rfl) (by kernel_rfl) rfl (by decide) Ek ?_
 intro _ _ EE HA EF
 refine f_o <| Zl (d := some 58) (t := 23) (tx := 23) (ty := 23) (k := 0) (p := zc (((el ++ zf 8 0) ++ [zj (((zb (zc al)) * (8 : UInt64)) >>> zb 56)]) ++ [zj (((zb (zc al)) * (8 : UInt64)) >>> zb 48)])) (m := 1) (x := .slice (some ⟨EE, 0, none⟩) 1 1) (bytes := 1) HA (by kernel_rfl) EF rfl (ZI _) (Zk (size := 1) (tx := 23) (e' := 5) (by kernel_rfl) (EF.heap.reads (k := 7) rfl) rfl (fun e => by cases e) (ZC _)) (by kernel_rfl) (z := .int .u8 0) (by kernel_rfl) rfl (by decide) (by omega) (by unfold maxLen; omega) ?_
 intro _ _ bk bl EG El hnz _
 clear hnz
 rw [← Zg] at El
 have E8 : (zc (((el ++ zf 8 0) ++ [zj (((zb (zc al)) * (8 : UInt64)) >>> zb 56)]) ++ [zj (((zb (zc al)) * (8 : UInt64)) >>> zb 48)])) + 1 = zc ((((el ++ zf 8 0) ++ [zj (((zb (zc al)) * (8 : UInt64)) >>> zb 56)]) ++ [zj (((zb (zc al)) * (8 : UInt64)) >>> zb 48)]) ++ [zj (((zb (zc al)) * (8 : UInt64)) >>> zb 40)]) := (by first | (simp; done) | (simp; omega) | omega)
 rw [E8] at EG
 refine d_e [0,2,3,4,5,6] [] EG fun _ HB => zx <| ze <| d_r [0,2,3,4,5,6] [] HB fun _ HC => ?_
 refine ze <| zK <| wp_seq <| wp_seq <| d_r [0,2,3,4,5,6,44] [] HC fun _ EH => ze <| c_t EH ?_
 refine wp_skip <| ze <| wp_seq <| wp_block <| zk <| d_k [0,2,3,4,5,6,47,50] [] 4 EH fun _ HD => f_o <| m_v 1 18 (zn (zb (zc al))) HD El rfl (zW (n := 1) (j := 17) rfl (zW (n := 8) (j := 9) (ZB (S32_len _ _)) (zW (n := 8) (j := 1) (zd (S64_len _ _)) rfl))) fun _ HE => d_k [0,2,3,4,5,6,47,56] [(5, g_i .u64 (ZW (x := zb (zc al)) (y := (8 : UInt64)) rfl rfl)), (8, g_i .u64 (zI (x := (zb (zc al)) * (8 : UInt64)) (n := 32) rfl (by decide))), (9, g_i .u8 (z4 (x := ((zb (zc al)) * (8 : UInt64)) >>> zb 32) rfl))] 10 HE fun _ HF => f_o <| ZZ (d := some 57) (t := 23) (T := 5) (m := 1) (parts := #[(0, bv (zj (((zb (zc al)) * (8 : UInt64)) >>> zb 32)))]) (xs := bys [zj (((zb (zc al)) * (8 : UInt64)) >>> zb 32)]) (sz := 1) HF (by kernel_rfl) (by kernel_rfl) rfl (by decide) El ?_
 intro _ _ EI HG EJ
 refine f_o <| Zl (d := some 58) (t := 23) (tx := 23) (ty := 23) (k := 0) (p := zc ((((el ++ zf 8 0) ++ [zj (((zb (zc al)) * (8 : UInt64)) >>> zb 56)]) ++ [zj (((zb (zc al)) * (8 : UInt64)) >>> zb 48)]) ++ [zj (((zb (zc al)) * (8 : UInt64)) >>> zb 40)])) (m := 1) (x := .slice (some ⟨EI, 0, none⟩) 1 1) (bytes := 1) HG (by kernel_rfl) EJ rfl (ZI _) (Zk (size := 1) (tx := 23) (e' := 5) (by kernel_rfl) (EJ.heap.reads (k := 8) rfl) rfl (fun e => by cases e) (ZC _)) (by kernel_rfl) (z := .int .u8 0) (by kernel_rfl) rfl (by decide) (by omega) (by unfold maxLen; omega) ?_
 intro _ _ bm bn EK Em hnz _
 clear hnz
 rw [← Zg] at Em
 have E9 : (zc ((((el ++ zf 8 0) ++ [zj (((zb (zc al)) * (8 : UInt64)) >>> zb 56)]) ++ [zj (((zb (zc al)) * (8 : UInt64)) >>> zb 48)]) ++ [zj (((zb (zc al)) * (8 : UInt64)) >>> zb 40)])) + 1 = zc (((((el ++ zf 8 0) ++ [zj (((zb (zc al)) * (8 : UInt64)) >>> zb 56)]) ++ [zj (((zb (zc al)) * (8 : UInt64)) >>> zb 48)]) ++ [zj (((zb (zc al)) * (8 : UInt64)) >>> zb 40)]) ++ [zj (((zb (zc al)) * (8 : UInt64)) >>> zb 32)]) := (by first | (simp; done) | (simp; omega) | omega)
 rw [E9] at EK
 refine d_e [0,2,3,4,5,6] [] EK fun _ HH => zx <| ze <| d_r [0,2,3,4,5,6] [] HH fun _ HI => ?_
 refine ze <| zK <| wp_seq <| wp_seq <| d_r [0,2,3,4,5,6,44] [] HI fun _ EL => ze <| c_t EL ?_
 refine wp_skip <| ze <| wp_seq <| wp_block <| zk <| d_k [0,2,3,4,5,6,47,50] [] 4 EL fun _ HJ => f_o <| m_v 1 18 (zn (zb (zc al))) HJ Em rfl (zW (n := 1) (j := 17) rfl (zW (n := 8) (j := 9) (ZB (S32_len _ _)) (zW (n := 8) (j := 1) (zd (S64_len _ _)) rfl))) fun _ HK => d_k [0,2,3,4,5,6,47,56] [(5, g_i .u64 (ZW (x := zb (zc al)) (y := (8 : UInt64)) rfl rfl)), (8, g_i .u64 (zI (x := (zb (zc al)) * (8 : UInt64)) (n := 24) rfl (by decide))), (9, g_i .u8 (z4 (x := ((zb (zc al)) * (8 : UInt64)) >>> zb 24) rfl))] 10 HK fun _ HL => f_o <| ZZ (d := some 57) (t := 23) (T := 5) (m := 1) (parts := #[(0, bv (zj (((zb (zc al)) * (8 : UInt64)) >>> zb 24)))]) (xs := bys [zj (((zb (zc al)) * (8 : UInt64)) >>> zb 24)]) (sz := 1) HL (by kernel_rfl) (by kernel_rfl) rfl (by decide) Em ?_
 intro _ _ EM HM EN
 refine f_o <| Zl (d := some 58) (t := 23) (tx := 23) (ty := 23) (k := 0) (p := zc (((((el ++ zf 8 0) ++ [zj (((zb (zc al)) * (8 : UInt64)) >>> zb 56)]) ++ [zj (((zb (zc al)) * (8 : UInt64)) >>> zb 48)]) ++ [zj (((zb (zc al)) * (8 : UInt64)) >>> zb 40)]) ++ [zj (((zb (zc al)) * (8 : UInt64)) >>> zb 32)])) (m := 1) (x := .slice (some ⟨EM, 0, none⟩) 1 1) (bytes := 1) HM (by kernel_rfl) EN rfl (ZI _) (Zk (size := 1) (tx := 23) (e' := 5) (by kernel_rfl) (EN.heap.reads (k := 9) rfl) rfl (fun e => by cases e) (ZC _)) (by kernel_rfl) (z := .int .u8 0) (by kernel_rfl) rfl (by decide) (by omega) (by unfold maxLen; omega) ?_
 intro _ _ bo bp EO En hnz _
 clear hnz
 rw [← Zg] at En
 have Ha : (zc (((((el ++ zf 8 0) ++ [zj (((zb (zc al)) * (8 : UInt64)) >>> zb 56)]) ++ [zj (((zb (zc al)) * (8 : UInt64)) >>> zb 48)]) ++ [zj (((zb (zc al)) * (8 : UInt64)) >>> zb 40)]) ++ [zj (((zb (zc al)) * (8 : UInt64)) >>> zb 32)])) + 1 = zc ((((((el ++ zf 8 0) ++ [zj (((zb (zc al)) * (8 : UInt64)) >>> zb 56)]) ++ [zj (((zb (zc al)) * (8 : UInt64)) >>> zb 48)]) ++ [zj (((zb (zc al)) * (8 : UInt64)) >>> zb 40)]) ++ [zj (((zb (zc al)) * (8 : UInt64)) >>> zb 32)]) ++ [zj (((zb (zc al)) * (8 : UInt64)) >>> zb 24)]) := (by first | (simp; done) | (simp; omega) | omega)
 rw [Ha] at EO
 refine d_e [0,2,3,4,5,6] [] EO fun _ HN => zx <| ze <| d_r [0,2,3,4,5,6] [] HN fun _ HO => ?_
 refine ze <| zK <| wp_seq <| wp_seq <| d_r [0,2,3,4,5,6,44] [] HO fun _ EP => ze <| c_t EP ?_
 refine wp_skip <| ze <| wp_seq <| wp_block <| zk <| d_k [0,2,3,4,5,6,47,50] [] 4 EP fun _ HP => f_o <| m_v 1 18 (zn (zb (zc al))) HP En rfl (zW (n := 1) (j := 17) rfl (zW (n := 8) (j := 9) (ZB (S32_len _ _)) (zW (n := 8) (j := 1) (zd (S64_len _ _)) rfl))) fun _ HQ => d_k [0,2,3,4,5,6,47,56] [(5, g_i .u64 (ZW (x := zb (zc al)) (y := (8 : UInt64)) rfl rfl)), (8, g_i .u64 (zI (x := (zb (zc al)) * (8 : UInt64)) (n := 16) rfl (by decide))), (9, g_i .u8 (z4 (x := ((zb (zc al)) * (8 : UInt64)) >>> zb 16) rfl))] 10 HQ fun _ HR => f_o <| ZZ (d := some 57) (t := 23) (T := 5) (m := 1) (parts := #[(0, bv (zj (((zb (zc al)) * (8 : UInt64)) >>> zb 16)))]) (xs := bys [zj (((zb (zc al)) * (8 : UInt64)) >>> zb 16)]) (sz := 1) HR (by kernel_rfl) (by kernel_rfl) rfl (by decide) En ?_
 intro _ _ EQ HS ER
 refine f_o <| Zl (d := some 58) (t := 23) (tx := 23) (ty := 23) (k := 0) (p := zc ((((((el ++ zf 8 0) ++ [zj (((zb (zc al)) * (8 : UInt64)) >>> zb 56)]) ++ [zj (((zb (zc al)) * (8 : UInt64)) >>> zb 48)]) ++ [zj (((zb (zc al)) * (8 : UInt64)) >>> zb 40)]) ++ [zj (((zb (zc al)) * (8 : UInt64)) >>> zb 32)]) ++ [zj (((zb (zc al)) * (8 : UInt64)) >>> zb 24)])) (m := 1) (x := .slice (some ⟨EQ, 0, none⟩) 1 1) (bytes := 1) HS (by kernel_rfl) ER rfl (ZI _) (Zk (size := 1) (tx := 23) (e' := 5) (by kernel_rfl) (ER.heap.reads (k := 10) rfl) rfl (fun e => by cases e) (ZC _)) (by kernel_rfl) (z := .int .u8 0) (by kernel_rfl) rfl (by decide) (by omega) (by unfold maxLen; omega) ?_
 intro _ _ bq br ES Eo hnz _
 clear hnz
 rw [← Zg] at Eo
 have Hb : (zc ((((((el ++ zf 8 0) ++ [zj (((zb (zc al)) * (8 : UInt64)) >>> zb 56)]) ++ [zj (((zb (zc al)) * (8 : UInt64)) >>> zb 48)]) ++ [zj (((zb (zc al)) * (8 : UInt64)) >>> zb 40)]) ++ [zj (((zb (zc al)) * (8 : UInt64)) >>> zb 32)]) ++ [zj (((zb (zc al)) * (8 : UInt64)) >>> zb 24)])) + 1 = zc (((((((el ++ zf 8 0) ++ [zj (((zb (zc al)) * (8 : UInt64)) >>> zb 56)]) ++ [zj (((zb (zc al)) * (8 : UInt64)) >>> zb 48)]) ++ [zj (((zb (zc al)) * (8 : UInt64)) >>> zb 40)]) ++ [zj (((zb (zc al)) * (8 : UInt64)) >>> zb 32)]) ++ [zj (((zb (zc al)) * (8 : UInt64)) >>> zb 24)]) ++ [zj (((zb (zc al)) * (8 : UInt64)) >>> zb 16)]) := (by first | (simp; done) | (simp; omega) | omega)
 rw [Hb] at ES
 refine d_e [0,2,3,4,5,6] [] ES fun _ HT => zx <| ze <| d_r [0,2,3,4,5,6] [] HT fun _ HU => ?_
 refine ze <| zK <| wp_seq <| wp_seq <| d_r [0,2,3,4,5,6,44] [] HU fun _ ET => ze <| c_t ET ?_
 refine wp_skip <| ze <| wp_seq <| wp_block <| zk <| d_k [0,2,3,4,5,6,47,50] [] 4 ET fun _ HV => f_o <| m_v 1 18 (zn (zb (zc al))) HV Eo rfl (zW (n := 1) (j := 17) rfl (zW (n := 8) (j := 9) (ZB (S32_len _ _)) (zW (n := 8) (j := 1) (zd (S64_len _ _)) rfl))) fun _ HW => d_k [0,2,3,4,5,6,47,56] [(5, g_i .u64 (ZW (x := zb (zc al)) (y := (8 : UInt64)) rfl rfl)), (8, g_i .u64 (zI (x := (zb (zc al)) * (8 : UInt64)) (n := 8) rfl (by decide))), (9, g_i .u8 (z4 (x := ((zb (zc al)) * (8 : UInt64)) >>> zb 8) rfl))] 10 HW fun _ HX => f_o <| ZZ (d := some 57) (t := 23) (T := 5) (m := 1) (parts := #[(0, bv (zj (((zb (zc al)) * (8 : UInt64)) >>> zb 8)))]) (xs := bys [zj (((zb (zc al)) * (8 : UInt64)) >>> zb 8)]) (sz := 1) HX (by kernel_rfl) (by kernel_rfl) rfl (by decide) Eo ?_
 intro _ _ EU HY EV
 refine f_o <| Zl (d := some 58) (t := 23) (tx := 23) (ty := 23) (k := 0) (p := zc (((((((el ++ zf 8 0) ++ [zj (((zb (zc al)) * (8 : UInt64)) >>> zb 56)]) ++ [zj (((zb (zc al)) * (8 : UInt64)) >>> zb 48)]) ++ [zj (((zb (zc al)) * (8 : UInt64)) >>> zb 40)]) ++ [zj (((zb (zc al)) * (8 : UInt64)) >>> zb 32)]) ++ [zj (((zb (zc al)) * (8 : UInt64)) >>> zb 24)]) ++ [zj (((zb (zc al)) * (8 : UInt64)) >>> zb 16)])) (m := 1) (x := .slice (some ⟨EU, 0, none⟩) 1 1) (bytes := 1) HY (by kernel_rfl) EV rfl (ZI _) (Zk (size := 1) (tx := 23) (e' := 5) (by kernel_rfl) (EV.heap.reads (k := 11) rfl) rfl (fun e => by cases e) (ZC _)) (by kernel_rfl) (z := .int .u8 0) (by kernel_rfl) rfl (by decide) (by omega) (by unfold maxLen; omega) ?_
 intro _ _ bs bt EW Ep hnz _
 clear hnz
 rw [← Zg] at Ep
 have Hc : (zc (((((((el ++ zf 8 0) ++ [zj (((zb (zc al)) * (8 : UInt64)) >>> zb 56)]) ++ [zj (((zb (zc al)) * (8 : UInt64)) >>> zb 48)]) ++ [zj (((zb (zc al)) * (8 : UInt64)) >>> zb 40)]) ++ [zj (((zb (zc al)) * (8 : UInt64)) >>> zb 32)]) ++ [zj (((zb (zc al)) * (8 : UInt64)) >>> zb 24)]) ++ [zj (((zb (zc al)) * (8 : UInt64)) >>> zb 16)])) + 1 = zc ((((((((el ++ zf 8 0) ++ [zj (((zb (zc al)) * (8 : UInt64)) >>> zb 56)]) ++ [zj (((zb (zc al)) * (8 : UInt64)) >>> zb 48)]) ++ [zj (((zb (zc al)) * (8 : UInt64)) >>> zb 40)]) ++ [zj (((zb (zc al)) * (8 : UInt64)) >>> zb 32)]) ++ [zj (((zb (zc al)) * (8 : UInt64)) >>> zb 24)]) ++ [zj (((zb (zc al)) * (8 : UInt64)) >>> zb 16)]) ++ [zj (((zb (zc al)) * (8 : UInt64)) >>> zb 8)]) := (by first | (simp; done) | (simp; omega) | omega)
 rw [Hc] at EW
 refine d_e [0,2,3,4,5,6] [] EW fun _ HZ => zx <| ze <| d_r [0,2,3,4,5,6] [] HZ fun _ H0 => ?_
 refine ze <| zK <| wp_seq <| wp_seq <| d_r [0,2,3,4,5,6,44] [] H0 fun _ EX => ze <| c_t EX ?_
 refine wp_skip <| ze <| wp_seq <| wp_block <| zk <| d_k [0,2,3,4,5,6,47,50] [] 4 EX fun _ H1 => f_o <| m_v 1 18 (zn (zb (zc al))) H1 Ep rfl (zW (n := 1) (j := 17) rfl (zW (n := 8) (j := 9) (ZB (S32_len _ _)) (zW (n := 8) (j := 1) (zd (S64_len _ _)) rfl))) fun _ H2 => d_k [0,2,3,4,5,6,47,56] [(5, g_i .u64 (ZW (x := zb (zc al)) (y := (8 : UInt64)) rfl rfl)), (8, g_i .u64 (zI (x := (zb (zc al)) * (8 : UInt64)) (n := 0) rfl (by decide))), (9, g_i .u8 (z4 (x := ((zb (zc al)) * (8 : UInt64)) >>> zb 0) rfl))] 10 H2 fun _ H3 => f_o <| ZZ (d := some 57) (t := 23) (T := 5) (m := 1) (parts := #[(0, bv (zj (((zb (zc al)) * (8 : UInt64)) >>> zb 0)))]) (xs := bys [zj (((zb (zc al)) * (8 : UInt64)) >>> zb 0)]) (sz := 1) H3 (by kernel_rfl) (by kernel_rfl) rfl (by decide) Ep ?_
 intro _ _ EY H4 EZ
 refine f_o <| Zl (d := some 58) (t := 23) (tx := 23) (ty := 23) (k := 0) (p := zc ((((((((el ++ zf 8 0) ++ [zj (((zb (zc al)) * (8 : UInt64)) >>> zb 56)]) ++ [zj (((zb (zc al)) * (8 : UInt64)) >>> zb 48)]) ++ [zj (((zb (zc al)) * (8 : UInt64)) >>> zb 40)]) ++ [zj (((zb (zc al)) * (8 : UInt64)) >>> zb 32)]) ++ [zj (((zb (zc al)) * (8 : UInt64)) >>> zb 24)]) ++ [zj (((zb (zc al)) * (8 : UInt64)) >>> zb 16)]) ++ [zj (((zb (zc al)) * (8 : UInt64)) >>> zb 8)])) (m := 1) (x := .slice (some ⟨EY, 0, none⟩) 1 1) (bytes := 1) H4 (by kernel_rfl) EZ rfl (ZI _) (Zk (size := 1) (tx := 23) (e' := 5) (by kernel_rfl) (EZ.heap.reads (k := 12) rfl) rfl (fun e => by cases e) (ZC _)) (by kernel_rfl) (z := .int .u8 0) (by kernel_rfl) rfl (by decide) (by omega) (by unfold maxLen; omega) ?_
 intro _ _ Ec Ed E0 Ee hnz _
 clear hnz
 rw [← Zg] at Ee
 have Hd : (zc ((((((((el ++ zf 8 0) ++ [zj (((zb (zc al)) * (8 : UInt64)) >>> zb 56)]) ++ [zj (((zb (zc al)) * (8 : UInt64)) >>> zb 48)]) ++ [zj (((zb (zc al)) * (8 : UInt64)) >>> zb 40)]) ++ [zj (((zb (zc al)) * (8 : UInt64)) >>> zb 32)]) ++ [zj (((zb (zc al)) * (8 : UInt64)) >>> zb 24)]) ++ [zj (((zb (zc al)) * (8 : UInt64)) >>> zb 16)]) ++ [zj (((zb (zc al)) * (8 : UInt64)) >>> zb 8)])) + 1 = zc (((((((((el ++ zf 8 0) ++ [zj (((zb (zc al)) * (8 : UInt64)) >>> zb 56)]) ++ [zj (((zb (zc al)) * (8 : UInt64)) >>> zb 48)]) ++ [zj (((zb (zc al)) * (8 : UInt64)) >>> zb 40)]) ++ [zj (((zb (zc al)) * (8 : UInt64)) >>> zb 32)]) ++ [zj (((zb (zc al)) * (8 : UInt64)) >>> zb 24)]) ++ [zj (((zb (zc al)) * (8 : UInt64)) >>> zb 16)]) ++ [zj (((zb (zc al)) * (8 : UInt64)) >>> zb 8)]) ++ [zj (((zb (zc al)) * (8 : UInt64)) >>> zb 0)]) := (by first | (simp; done) | (simp; omega) | omega)
 rw [Hd] at E0
 refine d_e [0,2,3,4,5,6] [] E0 fun _ H5 => zx <| ze <| d_r [0,2,3,4,5,6] [] H5 fun _ H6 => ?_
 refine ze <| zK <| wp_seq <| wp_seq <| d_r [0,2,3,4,5,6,44] [] H6 fun _ Eq => ze <| c_f Eq ?_
 refine wp_exit <| zD <| zD <| zP <| ze <| wp_seq ?_
 have hpe : ((((((((el ++ zf 8 0) ++ [zj (((zb (zc al)) * (8 : UInt64)) >>> zb 56)]) ++ [zj (((zb (zc al)) * (8 : UInt64)) >>> zb 48)]) ++ [zj (((zb (zc al)) * (8 : UInt64)) >>> zb 40)]) ++ [zj (((zb (zc al)) * (8 : UInt64)) >>> zb 32)]) ++ [zj (((zb (zc al)) * (8 : UInt64)) >>> zb 24)]) ++ [zj (((zb (zc al)) * (8 : UInt64)) >>> zb 16)]) ++ [zj (((zb (zc al)) * (8 : UInt64)) >>> zb 8)]) ++ [zj (((zb (zc al)) * (8 : UInt64)) >>> zb 0)] = padH h al := by rw [heel, hjp]; simp [padH, padB, be8, show ¬ h = 1 by omega]
 rw [hpe] at Ee
 rw [hpe] at Eq
 have hpl := padH_len h al
 have hrt := restH_lt h al
 refine zk <| d_k [0,2,3,4,5,6,59,60] [] 2 Eq fun _ H7 => f_o <| c_l [3,4] (M := [.box bq5 (([.int .i64 h] : List Value) ++ ((ZJ (S32 h al)) ++ ((zh (S64 h al)) ++ ([.slice Ef (zc (restH h al)) Eg, zn (zb (zc al))] : List Value)))) 115, .vec Ef Eg 1 (bys (restH h al)) 5]) H7 Ee (fun hM297 => write_go _ bq5 h hh2 al Ef Eg Ec (zc (padH h al)) Ed (padH h al) (by first | rfl | (simp; done) | (simp; omega) | omega) (bys_in Ee.heap (k := 0) rfl [3, 4] (by kernel_rfl) rfl (by first | omega | (simp; done) | (simp; omega))) (by first | omega | (simp only [z3, ZM]; omega)) ((gk32.ev Ee).pick [3, 4] (by kernel_rfl)) ((gk64.ev Ee).pick [3, 4] (by kernel_rfl)) hM297) ?_
 rintro _ _ ⟨Ea, Eb, rfl, H8⟩
 refine ⟨_, _, [.box bq5 (([.int .i64 h] : List Value) ++ ((ZJ (S32 h (al ++ (padH h al)))) ++ ((zh (S64 h (al ++ (padH h al)))) ++ ([.slice Ea (zc (restH h (al ++ (padH h al)))) Eb, zn (zb (zc (al ++ (padH h al))))] : List Value)))) 115, .vec Ea Eb 1 (bys (restH h (al ++ (padH h al)))) 5, .vec Ec Ed 1 (bys (padH h al)) 5, .box bd (([.int .i64 h] : List Value) ++ ((ZJ (S32 h al)) ++ ((zh (S64 h al)) ++ ([.slice ar (zc (restH h al)) cr, zn (zb (zc al))] : List Value)))) 115, .vec ar cr 1 (bys (restH h al)) 5, .vec (some ⟨Ew, 0, none⟩) 1 1 (bys [zj (((zb (zc al)) * (8 : UInt64)) >>> zb 56)]) 5, .vec (some ⟨EA, 0, none⟩) 1 1 (bys [zj (((zb (zc al)) * (8 : UInt64)) >>> zb 48)]) 5, .vec (some ⟨EE, 0, none⟩) 1 1 (bys [zj (((zb (zc al)) * (8 : UInt64)) >>> zb 40)]) 5, .vec (some ⟨EI, 0, none⟩) 1 1 (bys [zj (((zb (zc al)) * (8 : UInt64)) >>> zb 32)]) 5, .vec (some ⟨EM, 0, none⟩) 1 1 (bys [zj (((zb (zc al)) * (8 : UInt64)) >>> zb 24)]) 5, .vec (some ⟨EQ, 0, none⟩) 1 1 (bys [zj (((zb (zc al)) * (8 : UInt64)) >>> zb 16)]) 5, .vec (some ⟨EU, 0, none⟩) 1 1 (bys [zj (((zb (zc al)) * (8 : UInt64)) >>> zb 8)]) 5, .vec (some ⟨EY, 0, none⟩) 1 1 (bys [zj (((zb (zc al)) * (8 : UInt64)) >>> zb 0)]) 5], rfl, H8, by kernel_rfl, fun _ H9 aa => ?_⟩
 refine f_e <| ze <| wp_seq <| d_r [0,2,3,4,5,6,7] [] H9 fun _ ab => ze <| wp_seq <| wp_seq <| d_r [0,2,3,4,5,6,7,62] [] ab fun _ af => ze <| wp_block ?_
 have ag := Ev.nil (sz := 1) (T := 5) aa
 refine Z5 (fun ah ac wo => ∃ (i : Nat) (a7 : Option Addr) (c7 : Nat) (ol : List UInt8), ah = (8 - i : Nat) ∧ Env ac 95 [(0, pt bd), (2, .slice none 0 0), (3, pt bq5), (4, .int .i64 128), (5, .slice Ec (zc (padH h al)) Ed), (6, .int .i64 (-1)), (7, .slice a7 (zc ol) c7), (62, ni i)] ∧ Ev w [.box bd (([.int .i64 h] : List Value) ++ ((ZJ (S32 h al)) ++ ((zh (S64 h al)) ++ ([.slice ar (zc (restH h al)) cr, zn (zb (zc al))] : List Value)))) 115, .vec ar cr 1 (bys (restH h al)) 5] wo [.vec a7 c7 1 (bys ol) 5, .box bq5 (([.int .i64 h] : List Value) ++ ((ZJ (S32 h (al ++ (padH h al)))) ++ ((zh (S64 h (al ++ (padH h al)))) ++ ([.slice Ea (zc (restH h (al ++ (padH h al)))) Eb, zn (zb (zc (al ++ (padH h al))))] : List Value)))) 115, .vec Ea Eb 1 (bys (restH h (al ++ (padH h al)))) 5, .vec Ec Ed 1 (bys (padH h al)) 5, .box bd (([.int .i64 h] : List Value) ++ ((ZJ (S32 h al)) ++ ((zh (S64 h al)) ++ ([.slice ar (zc (restH h al)) cr, zn (zb (zc al))] : List Value)))) 115, .vec ar cr 1 (bys (restH h al)) 5] ∧ (i ≤ 8) ∧ (ol = out64 (S64 h (al ++ padH h al)) i)) ⟨_, 0, none, 0, [], rfl, af.sb, ag.pk [13, 0, 1, 2, 3, 4], by omega, rfl⟩ ?_
 rintro bu _ _ ⟨i, a7, c7, ol, rfl, ai, Eh, hi, heo⟩
 refine wp_seq <| d_r [0,2,3,4,5,6,7,62,63] [] ai fun _ Er => ?_
 refine ze <| wp_seq <| c_d (((i : Nat) : Int) < (8 : Int)) Er (fun aj => ?_) (fun aj => ?_)
 ·
  refine wp_skip <| ze <| wp_seq <| wp_block <| wp_seq <| d_r [0,2,3,4,5,6,7,8,62] [] Er fun _ ak => ze <| wp_seq ?_
  have hol : zc ol = 8 * i := by rw [heo, out64_len]
  refine zk <| d_k [0,2,3,4,5,6,7,8,62,67] [] 3 ak fun _ am => f_o <| m_v 4 0 (.int .i64 h) am Eh rfl (Jh rfl) fun _ an => d_e [0,2,3,4,5,6,7,8,62,69] [(4, g_b (show (h == (1 : Int)) = false from beq_eq_false_iff_ne.2 (by omega)))] an fun _ E1 => ze <| c_f E1 ?_
  have hol : zc ol = 8 * i := by rw [heo, out64_len]
  refine zk <| d_k [0,2,3,4,5,6,7,8,62,79,81,83] [] 5 E1 fun _ ap => f_o <| q_v (x := Instr.indexAt 99 (.pointer (some ⟨bq5, 9, none⟩)) (ni i)) (v := .pointer (some ⟨bq5, 9 + i, none⟩)) ap (zt (e := 31) (sz := 1) (m := 8) (j := i) (o := 9 + i) (by kernel_rfl) (by kernel_rfl) (by omega) (by omega) (by omega) _) fun _ aq => f_o ?_
  have au : i < zc (S64 h (al ++ (padH h al))) := by rw [(S64_len _ _)]; omega
  refine m_v 1 (9 + i) (zn (za (S64 h (al ++ (padH h al))) i 0)) aq Eh rfl (seg_eq (by omega) (zW (n := 1) (j := 8 + (i)) rfl (zW (n := 8) (j := i) (ZB (S32_len _ _)) (Jh (zC au))))) fun _ av => f_o <| c_l [0] (M := [.vec a7 c7 1 (bys ol) 5]) av Eh (fun hM335 => spread8_go _ a7 c7 ol (za (S64 h (al ++ (padH h al))) i 0) (by omega) hM335) ?_
  rintro _ _ ⟨Es, Et, rfl, aw⟩
  refine ⟨_, _, [.vec Es Et 1 (bys (ol ++ be8 (za (S64 h (al ++ (padH h al))) i 0))) 5, .box bq5 (([.int .i64 h] : List Value) ++ ((ZJ (S32 h (al ++ (padH h al)))) ++ ((zh (S64 h (al ++ (padH h al)))) ++ ([.slice Ea (zc (restH h (al ++ (padH h al)))) Eb, zn (zb (zc (al ++ (padH h al))))] : List Value)))) 115, .vec Ea Eb 1 (bys (restH h (al ++ (padH h al)))) 5, .vec Ec Ed 1 (bys (padH h al)) 5, .box bd (([.int .i64 h] : List Value) ++ ((ZJ (S32 h al)) ++ ((zh (S64 h al)) ++ ([.slice ar (zc (restH h al)) cr, zn (zb (zc al))] : List Value)))) 115, .vec ar cr 1 (bys (restH h al)) 5], rfl, aw, by kernel_rfl, fun _ ax ay => ?_⟩
  refine d_e [0,2,3,4,5,6,7,8,62] [] ax fun _ az => zx <| ze <| d_r [0,2,3,4,5,6,7,8,62] [(0, g_n (w_a i 1))] az fun _ aA => ze <| ⟨_, ⟨i + 1, Es, Et, (ol ++ be8 (za (S64 h (al ++ (padH h al))) i 0)), rfl, aA.sb, ay.pk [0, 1, 2, 3, 4, 5], by omega, by rw [heo]; rfl⟩, ?_⟩
  omega
 refine wp_exit <| zD <| zD <| zP <| ze <| wp_seq ?_
 have hol : zc ol = 8 * i := by rw [heo, out64_len]
 have hi8 : i = 8 := by omega
 have hsz := size_le h
 have hsz1 : sizeOfH 1 = 32 := rfl
 refine zk <| d_k [0,2,3,4,5,6,7,62,88,91] [] 4 Er fun _ aB => f_o <| m_v 4 0 (.int .i64 h) aB Eh rfl (Jh rfl) fun _ aC => f_o <| c_p aC Eh (size_go _ h) fun _ aD aE E2 => f_o ?_
 have aH := Y4 E2.heap (k := 0) rfl
 refine Xx (d := some 94) (t := 23) (e := 5) (sz := 1) (len := zc ol) (cap := c7) (hi := sizeOfH h) (ao := a7) (lov := none) (hiv := (some (ni (sizeOfH h)))) aE (by kernel_rfl) (by kernel_rfl) (by kernel_rfl) (by omega) (.inl ⟨rfl, rfl⟩) (.inr ⟨.i64, rfl⟩) ?_
 intro _ E3
 have aF : Ev w [.box bd (([.int .i64 h] : List Value) ++ ((ZJ (S32 h al)) ++ ((zh (S64 h al)) ++ ([.slice ar (zc (restH h al)) cr, zn (zb (zc al))] : List Value)))) 115, .vec ar cr 1 (bys (restH h al)) 5] aD [.vec a7 c7 1 (bys (zm (sizeOfH h) ol)) 5, .box bq5 (([.int .i64 h] : List Value) ++ ((ZJ (S32 h (al ++ (padH h al)))) ++ ((zh (S64 h (al ++ (padH h al)))) ++ ([.slice Ea (zc (restH h (al ++ (padH h al)))) Eb, zn (zb (zc (al ++ (padH h al))))] : List Value)))) 115, .vec Ea Eb 1 (bys (restH h (al ++ (padH h al)))) 5, .vec Ec Ed 1 (bys (padH h al)) 5, .box bd (([.int .i64 h] : List Value) ++ ((ZJ (S32 h al)) ++ ((zh (S64 h al)) ++ ([.slice ar (zc (restH h al)) cr, zn (zb (zc al))] : List Value)))) 115, .vec ar cr 1 (bys (restH h al)) 5] := by
  have h := Ev.cut (k := 0) (n := zc ol) (sz := 1) E2 rfl (ZI _) (by omega) 0 (sizeOfH h) (by omega) (by omega)
  rw [cutAt_zero] at h
  rw [bys_cut0] at h
  exact h
 have el361 : sizeOfH h = zc (zm (sizeOfH h) ol) := by first | (simp; done) | (rw [zs]; omega) | (rw [zy]; omega) | (simp; omega)
 rw [el361] at E3
 refine d_e [0,2,3,4,5,6,7,62] [] E3 fun _ aG => ze <| wp_ret <| Qh (t := 2) (v := .slice a7 (zc (zm (sizeOfH h) ol)) c7) aG (by kernel_rfl) (by kernel_rfl) ?_
 have hse : zm (sizeOfH h) ol = sumF h al := by rw [heo, hi8]; unfold sumF; rw [if_neg (by omega)]
 have Hf364 := aF.pk [4, 5, 0] (M := [.box bd (([.int .i64 h] : List Value) ++ ((ZJ (S32 h al)) ++ ((zh (S64 h al)) ++ ([.slice ar (zc (restH h al)) cr, zn (zb (zc al))] : List Value)))) 115, .vec ar cr 1 (bys (restH h al)) 5, .vec a7 c7 1 (bys (zm (sizeOfH h) ol)) 5])
 rw [hse] at Hf364
 exact ⟨_, _, by rw [hse], Hf364⟩
theorem sum_go (w : World) (bd : Nat) (h : Int) (hh : h = 2 ∨ h = 3) (al : List UInt8) (ar : Option Addr) (cr : Nat) (gk32 : InU32 w [.box bd (([.int .i64 h] : List Value) ++ ((ZJ (S32 h al)) ++ ((zh (S64 h al)) ++ ([.slice ar (zc (restH h al)) cr, zn (zb (zc al))] : List Value)))) 115, .vec ar cr 1 (bys (restH h al)) 5] (some ⟨0, 0, none⟩) 64 K32) (gk64 : InU64 w [.box bd (([.int .i64 h] : List Value) ++ ((ZJ (S32 h al)) ++ ((zh (S64 h al)) ++ ([.slice ar (zc (restH h al)) cr, zn (zb (zc al))] : List Value)))) 115, .vec ar cr 1 (bys (restH h al)) 5] (some ⟨1, 0, none⟩) 80 K64) (hH : Heap w [.box bd (([.int .i64 h] : List Value) ++ ((ZJ (S32 h al)) ++ ((zh (S64 h al)) ++ ([.slice ar (zc (restH h al)) cr, zn (zb (zc al))] : List Value)))) 115, .vec ar cr 1 (bys (restH h al)) 5]) : Calls zB 74 #[pt bd] w fun e w' => ∃ ao co, e = .returned (.slice ao (zc (sumF h al)) co) ∧ Ev w [.box bd (([.int .i64 h] : List Value) ++ ((ZJ (S32 h al)) ++ ((zh (S64 h al)) ++ ([.slice ar (zc (restH h al)) cr, zn (zb (zc al))] : List Value)))) 115, .vec ar cr 1 (bys (restH h al)) 5] w' [.box bd (([.int .i64 h] : List Value) ++ ((ZJ (S32 h al)) ++ ((zh (S64 h al)) ++ ([.slice ar (zc (restH h al)) cr, zn (zb (zc al))] : List Value)))) 115, .vec ar cr 1 (bys (restH h al)) 5, .vec ao co 1 (bys (sumF h al)) 5] := by
  exact sum64_go w bd h hh al ar cr gk32 gk64 hH
theorem flat_take_succ {l : List (Sl UInt8)} {k : Nat} {x : Sl UInt8} (h : l[k]? = some x) : (l.take (k + 1)).flatMap (fun s => s.l) = (l.take k).flatMap (fun s => s.l) ++ x.l := by
  rw [List.take_add_one, h, List.flatMap_append]
  simp
theorem of_go (w : World) (h : Int) (hh : h = 2 ∨ h = 3) (ax : Option Addr) (nx cx : Nat) (lx : List (Sl UInt8)) (ex : nx = zc lx) (ix : InS (fun s : Sl UInt8 => s.f) 24 (fun x : Sl UInt8 => InB w [] x.a x.c x.l) w [] ax cx lx) (hT : ∀ (k : Nat) (x : Sl UInt8), lx[k]? = some x → zc (restH h (Z7 (fun s : Sl UInt8 => s.l) (zm k lx))) + zc x.l ≤ 140737488355200) (gk32 : InU32 w [] (some ⟨0, 0, none⟩) 64 K32) (gk64 : InU64 w [] (some ⟨1, 0, none⟩) 80 K64) : Calls zB 40 #[.int .i64 h, .slice ax nx cx] w fun e w' => ∃ ao co, e = .returned (.slice ao (zc (sumF h (Z7 (fun s : Sl UInt8 => s.l) lx))) co) ∧ Ev w [] w' [.vec ao co 1 (bys (sumF h (Z7 (fun s : Sl UInt8 => s.l) lx))) 5] := by
 subst ex
 have hs := ix.small
 have EN := ix.cap
 refine d_0 [(0, .int .i64 h), (1, .slice ax (zc lx) cx)] 24 Tryz.func40 Tryz.ntmps40 (Heap.nil _) fun EG EH EI => wp_seq <| d_r [0,1,4] [] EH fun _ EJ => ze <| wp_seq <| zk <| d_k [1,4,8] [] 1 EJ fun _ EK => f_o <| c_0 EK EI (new_dig _ h hh) ?_
 rintro _ _ ⟨bq5, rfl, EL⟩
 refine ⟨_, _, _, rfl, EL, rfl, fun _ Ek El => ?_⟩
 refine d_e [1,4,5] [] Ek fun _ Em => ze <| wp_seq <| wp_seq <| d_r [1,4,5,11] [] Em fun _ Ei => ze <| c_f Ei ?_
 refine wp_skip <| ze <| wp_seq <| wp_seq <| d_r [4,5,12,13,14] [] Ei fun _ En => ?_
 refine ze <| wp_block <| Z5 (fun Eo ac wo => ∃ (k : Nat) (al : List UInt8) (ar : Option Addr) (cr : Nat), Eo = (zc lx - k : Nat) ∧ Env ac 24 [(4, .slice none 0 0), (5, pt bq5), (12, .slice ax (zc lx) cx), (13, ni (zc lx)), (14, ni k)] ∧ Ev w [] wo [.box bq5 (([.int .i64 h] : List Value) ++ ((ZJ (S32 h al)) ++ ((zh (S64 h al)) ++ ([.slice ar (zc (restH h al)) cr, zn (zb (zc al))] : List Value)))) 115, .vec ar cr 1 (bys (restH h al)) 5] ∧ (k ≤ zc lx) ∧ (al = (Z7 (fun s : Sl UInt8 => s.l) (zm k lx)))) ⟨_, 0, [], none, 0, rfl, En.sb, El.pk [0, 1], by omega, by rfl⟩ ?_
 rintro EM _ _ ⟨k, al, ar, cr, rfl, Ep, Ea, hk, hal⟩
 refine wp_seq <| d_r [4,5,12,13,14,15] [] Ep fun _ Eh => ?_
 refine ze <| wp_seq <| c_d (((k : Nat) : Int) < ((zc lx : Nat) : Int)) Eh (fun Eq => ?_) (fun Eq => ?_)
 ·
  refine wp_skip <| ze <| wp_seq <| wp_block <| wp_seq ?_
  have Ej : k < zc lx := (by omega)
  obtain ⟨Ef, Eg⟩ := JF ix.nz Ej
  have Er : k < zc lx := by omega
  obtain ⟨⟨a_x34, c_x34, x34⟩, hx33⟩ : ∃ x, (lx)[k]? = some x := ⟨_, List.getElem?_eq_getElem Er⟩
  obtain i_x34 := ix.each _ (Yi hx33)
  replace i_x34 : InB w [] a_x34 c_x34 x34 := i_x34
  refine zk <| f_o <| q_v (x := Instr.indexAt 72 (.slice ax (zc lx) cx) (ni k)) (v := .pointer (some (Addr.add Ef k))) Eh (Ql (e := 23) (sz := 1) (j := k) (jo := k) Eg (by kernel_rfl) (by kernel_rfl) (by omega) Ej (ZG _) _) fun _ Es => f_o <| op_loadf (d := some 17) (t := 23) (ad := Ef) (ao := ax) (ys := Z7 (fun s : Sl UInt8 => s.f) lx) (o := k) (v := .slice a_x34 (zc x34) c_x34) Es (by kernel_rfl) rfl (ix.ro.ev Ea).reads Eg ((flat_get1 (fun _ _ => rfl) hx33).trans rfl) (by kernel_rfl) ?_
  intro _ Et
  refine d_e [4,5,7,12,13,14] [] Et fun _ Eu => ze ?_
  have hTk := hT k _ hx33
  rw [← hal] at hTk
  simp only at hTk
  refine zk <| d_k [4,5,12,13,14,18,19] [] 2 Eu fun _ Ew => f_o <| c_l [0,1] (M := [.box bq5 (([.int .i64 h] : List Value) ++ ((ZJ (S32 h al)) ++ ((zh (S64 h al)) ++ ([.slice ar (zc (restH h al)) cr, zn (zb (zc al))] : List Value)))) 115, .vec ar cr 1 (bys (restH h al)) 5]) Ew Ea (fun hM44 => write_go _ bq5 h hh al ar cr a_x34 (zc x34) c_x34 x34 (by first | rfl | (simp; done) | (simp; omega) | omega) ((i_x34.ev Ea).pick [0, 1] (by kernel_rfl)) (by first | omega | (simp only [z3, ZM]; omega)) ((gk32.ev Ea).pick [0, 1] (by kernel_rfl)) ((gk64.ev Ea).pick [0, 1] (by kernel_rfl)) hM44) ?_
  rintro _ _ ⟨Eb, Ec, rfl, Ex⟩
  refine ⟨_, _, [.box bq5 (([.int .i64 h] : List Value) ++ ((ZJ (S32 h (al ++ x34))) ++ ((zh (S64 h (al ++ x34))) ++ ([.slice Eb (zc (restH h (al ++ x34))) Ec, zn (zb (zc (al ++ x34)))] : List Value)))) 115, .vec Eb Ec 1 (bys (restH h (al ++ x34))) 5], rfl, Ex, by kernel_rfl, fun _ Ey Ez => ?_⟩
  refine f_e <| zx <| ze <| d_r [4,5,12,13,14] [(0, g_n (w_a k 1))] Ey fun _ EA => ze <| ⟨_, ⟨k + 1, al ++ x34, Eb, Ec, rfl, EA.sb, Ez.pk [0, 1], by omega, by rw [flat_take_succ hx33, hal]⟩, ?_⟩
  omega
 refine wp_exit <| zD <| zD <| zP <| ze <| wp_seq <| zk <| d_k [4,5,12,13,14,22] [] 1 Eh fun _ EB => f_o <| c_l [0,1] (M := [.box bq5 (([.int .i64 h] : List Value) ++ ((ZJ (S32 h al)) ++ ((zh (S64 h al)) ++ ([.slice ar (zc (restH h al)) cr, zn (zb (zc al))] : List Value)))) 115, .vec ar cr 1 (bys (restH h al)) 5]) EB Ea (fun hM56 => sum_go _ bq5 h hh al ar cr ((gk32.ev Ea).pick [0, 1] (by kernel_rfl)) ((gk64.ev Ea).pick [0, 1] (by kernel_rfl)) hM56) ?_
 rintro _ _ ⟨Ed, Ee, rfl, EC⟩
 refine ⟨_, _, [.box bq5 (([.int .i64 h] : List Value) ++ ((ZJ (S32 h al)) ++ ((zh (S64 h al)) ++ ([.slice ar (zc (restH h al)) cr, zn (zb (zc al))] : List Value)))) 115, .vec ar cr 1 (bys (restH h al)) 5, .vec Ed Ee 1 (bys (sumF h al)) 5], rfl, EC, by kernel_rfl, fun _ ED EE => ?_⟩
 refine d_e [4,5,12,13,14] [] ED fun _ EF => ze <| wp_ret <| Qh (t := 4) (v := .slice Ed (zc (sumF h al)) Ee) EF (by kernel_rfl) (by kernel_rfl) ?_
 have hkk : k = zc lx := by omega
 have hae : al = (Z7 (fun s : Sl UInt8 => s.l) lx) := by rw [hal, hkk, List.take_length]
 have Hf65 := EE.pk [2] (M := [.vec Ed Ee 1 (bys (sumF h al)) 5])
 subst hae
 exact ⟨_, _, rfl, Hf65⟩
end Go.Proofs.YtlnogkmnklfjlaaGreatDoor.Sh
namespace Go.Proofs.YtlnogkmnklfjlaaGreatDoor
open Go.Dbr
theorem lv_app : ∀ (a b : List UInt8), lv (a ++ b) = lv a + 256 ^ a.length * lv b
  | [], b => by simp [lv]
  | x :: r, b => by
    rw [List.cons_append, lv, lv, lv_app r b, z3, Nat.pow_succ, Nat.mul_add, ZP]
    congr 2
    rw [← Nat.mul_assoc, z5 256]
theorem lv_zeros : ∀ n, lv (zf n 0) = 0
  | 0 => rfl
  | n + 1 => by rw [List.replicate_succ, lv, lv_zeros n]; rfl
theorem chunk_val {l : List UInt8} {s e : Nat} (he : e ≤ l.length) (hs : s ≤ e) (h31 : e - s ≤ 32) : lv (zm 0 (zf 32 (0 : UInt8)) ++ zm (e - s) (zo s l) ++ zo (0 + (e - s)) (zf 32 (0 : UInt8))) = lv (zm (e - s) (zo s l)) := by
  rw [List.take_zero, List.nil_append, lv_app, List.drop_replicate, lv_zeros, Nat.mul_zero, Nat.add_zero]
theorem drop_split {l : List UInt8} {s e : Nat} (hs : s ≤ e) (he : e ≤ l.length) : lv (zo s l) = lv (zm (e - s) (zo s l)) + 256 ^ (e - s) * lv (zo e l) := by
  have h := lv_app (zm (e - s) (zo s l)) (zo (e - s) (zo s l))
  rw [List.take_append_drop, zs, zy, Nat.min_eq_left (by omega), QO, show s + (e - s) = e by omega] at h
  exact h
theorem wide_chunk {f : Int} (hf : f = 1 ∨ f = 2 ∨ f = 3 ∨ f = 4) {l : List UInt8} {e : Nat} {X : List UInt8} (he : e ≤ l.length) (h0 : 0 < e) (hm : e % 31 = 0 ∨ e = l.length) (hX : lv X = lv (zm (e - (e - 1) / 31 * 31) (zo ((e - 1) / 31 * 31) l))) :
    nd (addM f (nv (nd (mulM f (nv (nd (lv (zo e l) % mF f))) (nv [0, 0, 0, 72057594037927936])))) (nv (nd (lv X)))) = nd (lv (zo ((e - 1) / 31 * 31) l) % mF f) := by
  have hs : (e - 1) / 31 * 31 ≤ e := by omega
  have hXl : lv X < W256 := by
    rw [hX]
    refine Nat.lt_of_lt_of_le (lv_lt _) ?_
    rw [zs, zy]
    refine Nat.le_trans (Nat.pow_le_pow_right (by decide) (show _ ≤ 31 by omega)) (by decide)
  rw [QI hXl, hX, QI (mulM_lt hf _ _), QI (mod_lt_w hf), ← add_mM, mulM, show nv [0, 0, 0, 72057594037927936] = 256 ^ 31 by decide +kernel, drop_split hs he]
  congr 1
  rcases hm with h | h
  · rw [show e - (e - 1) / 31 * 31 = 31 by omega]
    generalize lv (zm 31 (zo ((e - 1) / 31 * 31) l)) = A
    generalize lv (zo e l) = B
    rw [Nat.mod_mul_mod, Nat.mod_mod, ← Nat.add_mod, Nat.add_comm, z5]
  · rw [show lv (zo e l) = 0 by rw [h, Jd]; rfl]
    simp
theorem h4f : (4 : Int) = 1 ∨ (4 : Int) = 2 ∨ (4 : Int) = 3 ∨ (4 : Int) = 4 := .inr (.inr (.inr rfl))
theorem wide4_go (w : World)  (ab : Option Addr) (nb cb : Nat) (lb : List UInt8) (eb : nb = zc lb) (ib : InB w [] ab cb lb) : Calls zB 49 #[.int .i64 4, .slice ab nb cb] w fun e w' => e = .returned (.agg (zg (zh (nd (lv lb % mF 4))))) ∧ Ev w [] w' [] := by
 subst eb
 have hsm := ib.small
 have hcp := ib.cap
 refine d_0 [(0, .int .i64 4), (1, .slice ab (zc lb) cb)] 37 Tryz.func49 Tryz.ntmps49 (Heap.nil _) fun E6 E7 E8 => wp_seq <| zk <| f_o <| m_z 33 (zh (zf 4 0)) E7 E8 fun _ _ Ed E9 Ha => f_e <| ze <| wp_seq <| zk <| f_o <| m_z 33 (zh (zf 4 0)) E9 Ha fun _ _ Ec Hb ET => f_e <| ze <| wp_seq <| wp_seq <| d_r [0,1,4,5,6] [] Hb fun _ EU => ?_
 refine ze <| wp_block <| Z5 (fun EV ac wo => ∃ (e : Nat) (x : List UInt64), EV = (e + 1 : Nat) ∧ Env ac 37 [(0, .int .i64 4), (1, .slice ab (zc lb) cb), (4, pt Ed), (5, pt Ec), (6, ni e)] ∧ Ev w [] wo [.box Ec (zh x) 33, .box Ed (zh (zf 4 0)) 33] ∧ (e ≤ zc lb) ∧ (e % 31 = 0 ∨ e = zc lb) ∧ (zc x = 4) ∧ (x = nd (lv (zo e lb) % mF 4))) ⟨_, zc lb, zf 4 0, rfl, EU.sb, ET.pk [1, 0], by omega, by omega, zi, by rw [Jd, lv, Nat.zero_mod]; rfl⟩ ?_
 rintro Hc _ _ ⟨e, x, rfl, EW, Eh, he, hm, hx, hxe⟩
 refine wp_seq <| wp_seq <| zk <| d_k [0,1,4,5,6,13] [] 3 EW fun _ Eq => ?_
 rcases Za (decide (((e : Nat) : Int) > (0 : Int))) with Ee | Ee
 ·
  have EX := Eq.fx (t := 13) (congrArg Value.bool Ee)
  have hp24 : ((e : Nat) : Int) > (0 : Int) := of_decide_eq_true Ee
  refine d_k [0,1,4,5,6,13,14] [] 4 EX fun _ EY => f_o <| c_p EY Eh (is_go_yes _ 4 h4f) fun _ _ EZ Er => d_e [0,1,4,5,6,16] [] EZ fun _ Es => ze <| c_t Es ?_
  refine wp_skip <| ze <| wp_block <| wp_seq ?_
  rw [hxe] at Er
  refine d_r [0,1,4,5,6,7] [(1, g_n (w_r (e := ((e : Nat) : Int) - (1 : Int)) (x := ((e - 1 : Nat) : Int)) (by omega))), (2, g_i .i64 (show IntKind.wrap .i64 (Int.tdiv ((e - 1 : Nat) : Int) (31 : Int)) = (((e - 1) / 31 : Nat) : Int) from Go.Dbr.i64_quo_nat (a := ((e - 1 : Nat) : Int)) (n := e - 1) (m := 31) rfl (by omega))), (3, g_n (w_m ((e - 1) / 31) 31))] Es fun _ E0 => ze <| wp_seq <| zk <| f_o <| m_z 22 (bys (zf 32 0)) E0 Er fun _ _ Ea E1 Et => ?_
  refine f_e <| ze <| wp_seq <| r_c (fun ac wo => Env ac 37 [(0, .int .i64 4), (1, .slice ab (zc lb) cb), (4, pt Ed), (5, pt Ec), (6, ni e), (7, ni (((e - 1) / 31) * 31)), (8, pt Ea)] ∧ Ev w [] wo [.box Ec (zh (nd (lv (zo e lb) % mF 4))) 33, .box Ed (zh (zf 4 0)) 33, .box Ea (bys (zm 0 (zf 32 0) ++ (zm (e - (((e - 1) / 31) * 31)) (zo (((e - 1) / 31) * 31) lb)) ++ zo (0 + (e - (((e - 1) / 31) * 31))) (zf 32 0))) 22]) ?_ ?_
  ·
   refine h_s (fun wv => Ev w [] wv [.box Ea (bys (zf 32 0)) 22]) [5] 6 ?_
   have Ef := Et.trans (zS Et.heap)
   refine Xj fun G hG => ?_
   have nd88 : ∀ (ac : Act) (wo : World), Env ac 37 [(0, .int .i64 4), (1, .slice ab (zc lb) cb), (4, pt Ed), (5, pt Ec), (6, ni e), (7, ni (((e - 1) / 31) * 31)), (8, pt Ea), (21, .slice (some ⟨Ea, 0, none⟩) 32 32), (22, .slice ab (zc lb) cb), (23, ni (((e - 1) / 31) * 31)), (24, ni e)] → Ev w [] wo [.box Ec (zh (nd (lv (zo e lb) % mF 4))) 33, .box Ed (zh (zf 4 0)) 33, .box Ea (bys (zf 32 0)) 22] → G 2 #[true, true, true, true, false, false] ac wo := by
    intro _ _ E2 Ep
    refine Zr hG ?_
    refine q_t 4 ?_
    have E3 := ib.cap
    refine JY (d := some 25) (t := 23) (e := 5) (sz := 1) (len := zc lb) (cap := cb) (lo := ((e - 1) / 31) * 31) (hi := e) (ao := ab) (lov := (some (ni (((e - 1) / 31) * 31)))) (hiv := (some (ni e))) E2 (by kernel_rfl) (by kernel_rfl) (by kernel_rfl) (by omega) (by omega) (.inr ⟨.i64, rfl⟩) (.inr ⟨.i64, rfl⟩) ?_
    intro _ E4
    refine ⟨fun _ => Ep.pk [2], ?_⟩
    refine q_t 5 ?_
    have hcy96 : Nat.min (e - (((e - 1) / 31) * 31)) 32 = e - (((e - 1) / 31) * 31) := by show min _ _ = _; omega
    refine op_copybox (d := some 26) (dT := 23) (sT := 23) (ty := 3) (elem := 5) (b := Ea) (off := 0) (k := 2) (m := e - (((e - 1) / 31) * 31)) (xs := bys (zm (e - (((e - 1) / 31) * 31)) (zo (((e - 1) / 31) * 31) lb))) (ys := bys (zm (e - (((e - 1) / 31) * 31)) (zo (((e - 1) / 31) * 31) lb))) (dLen := 32) (dCap := 32) (so := Yt ab cb (((e - 1) / 31) * 31) 1) (sLen := e - (((e - 1) / 31) * 31)) (sCap := cb - (((e - 1) / 31) * 31)) E4 (by kernel_rfl) Ep rfl (by kernel_rfl) (by kernel_rfl) (bys_cut_reads (ib.ev Ep).reads (n := (zc lb)) cb (((e - 1) / 31) * 31) e (by simp) (by omega) (by omega) (by omega)) (fun e => cut_nz ib.nz e (by omega)) hcy96 (zJ (by first | (simp [bys]; done) | (simp [bys]; omega))) (z7 (by first | (simp; done) | (simp; omega))) (by rw [z7 (zi)]; omega) (ZC _) (cs' := bys (zm 0 (zf 32 0) ++ (zm (e - (((e - 1) / 31) * 31)) (zo (((e - 1) / 31) * 31) lb)) ++ zo (0 + (e - (((e - 1) / 31) * 31))) (zf 32 0))) (by simp [bys, ZO, Yh, YW]) (L' := [.box Ec (zh (nd (lv (zo e lb) % mF 4))) 33, .box Ed (zh (zf 4 0)) 33, .box Ea (bys (zm 0 (zf 32 0) ++ (zm (e - (((e - 1) / 31) * 31)) (zo (((e - 1) / 31) * 31) lb)) ++ zo (0 + (e - (((e - 1) / 31) * 31))) (zf 32 0))) 22]) rfl ?_
    intro _ _  E5 Eu
    refine ⟨q_y, ?_⟩
    exact h_e ⟨E5.sb, Eu.pk [0, 1, 2]⟩
   have nd101 : ∀ (ac : Act) (wo : World), Env ac 37 [(0, .int .i64 4), (1, .slice ab (zc lb) cb), (4, pt Ed), (5, pt Ec), (6, ni e), (7, ni (((e - 1) / 31) * 31)), (8, pt Ea), (25, .slice (Yt ab cb (((e - 1) / 31) * 31) 1) (e - (((e - 1) / 31) * 31)) (cb - (((e - 1) / 31) * 31)))] → Ev w [] wo [.box Ec (zh (nd (lv (zo e lb) % mF 4))) 33, .box Ed (zh (zf 4 0)) 33, .box Ea (bys (zf 32 0)) 22] → G 2 #[false, true, true, true, true, false] ac wo := by
    intro _ _ Ew Eg
    refine Zr hG ?_
    refine q_t 0 ?_
    refine ZY (d := some 21) (t := 22) (e := 5) (sz := 1) (m := 32) (lo := 0) (hi := 32) (b := Ea) (off := 0) (lov := none) (hiv := none) (o := 0) Ew (by kernel_rfl) (by kernel_rfl) (by kernel_rfl) (by omega) (by omega) (by omega) (.inl ⟨rfl, rfl⟩) (.inl ⟨rfl, rfl⟩) (by omega) ?_
    intro _ Ex
    refine ⟨fun _ => Eg.pk [2], ?_⟩
    refine q_t 5 ?_
    have hcy108 : Nat.min (e - (((e - 1) / 31) * 31)) 32 = e - (((e - 1) / 31) * 31) := by show min _ _ = _; omega
    refine op_copybox (d := some 26) (dT := 23) (sT := 23) (ty := 3) (elem := 5) (b := Ea) (off := 0) (k := 2) (m := e - (((e - 1) / 31) * 31)) (xs := bys (zm (e - (((e - 1) / 31) * 31)) (zo (((e - 1) / 31) * 31) lb))) (ys := bys (zm (e - (((e - 1) / 31) * 31)) (zo (((e - 1) / 31) * 31) lb))) (dLen := 32) (dCap := 32) (so := Yt ab cb (((e - 1) / 31) * 31) 1) (sLen := e - (((e - 1) / 31) * 31)) (sCap := cb - (((e - 1) / 31) * 31)) Ex (by kernel_rfl) Eg rfl (by kernel_rfl) (by kernel_rfl) (bys_cut_reads (ib.ev Eg).reads (n := (zc lb)) cb (((e - 1) / 31) * 31) e (by simp) (by omega) (by omega) (by omega)) (fun e => cut_nz ib.nz e (by omega)) hcy108 (zJ (by first | (simp [bys]; done) | (simp [bys]; omega))) (z7 (by first | (simp; done) | (simp; omega))) (by rw [z7 (zi)]; omega) (ZC _) (cs' := bys (zm 0 (zf 32 0) ++ (zm (e - (((e - 1) / 31) * 31)) (zo (((e - 1) / 31) * 31) lb)) ++ zo (0 + (e - (((e - 1) / 31) * 31))) (zf 32 0))) (by simp [bys, ZO, Yh, YW]) (L' := [.box Ec (zh (nd (lv (zo e lb) % mF 4))) 33, .box Ed (zh (zf 4 0)) 33, .box Ea (bys (zm 0 (zf 32 0) ++ (zm (e - (((e - 1) / 31) * 31)) (zo (((e - 1) / 31) * 31) lb)) ++ zo (0 + (e - (((e - 1) / 31) * 31))) (zf 32 0))) 22]) rfl ?_
    intro _ _  Ey Ez
    refine ⟨q_y, ?_⟩
    exact h_e ⟨Ey.sb, Ez.pk [0, 1, 2]⟩
   refine Zr hG ?_
   refine q_s [1,2,3] [] 3 E1 (Ef.pk [2]) fun _ Ei => QA [0, 4] (by kernel_rfl) rfl ?_
   refine ⟨?_, ?_, trivial⟩
   ·
    rintro _ rfl
    refine ZY (d := some 21) (t := 22) (e := 5) (sz := 1) (m := 32) (lo := 0) (hi := 32) (b := Ea) (off := 0) (lov := none) (hiv := none) (o := 0) Ei (by kernel_rfl) (by kernel_rfl) (by kernel_rfl) (by omega) (by omega) (by omega) (.inl ⟨rfl, rfl⟩) (.inl ⟨rfl, rfl⟩) (by omega) ?_
    intro _ EA
    refine ⟨fun _ => Ef.pk [2], ?_⟩
    exact QF hG (by kernel_rfl) (nd88 _ _ (EA.sb) (Ef.pk [0, 1, 2]))
   rintro _ rfl
   have ES := ib.cap
   refine JY (d := some 25) (t := 23) (e := 5) (sz := 1) (len := zc lb) (cap := cb) (lo := ((e - 1) / 31) * 31) (hi := e) (ao := ab) (lov := (some (ni (((e - 1) / 31) * 31)))) (hiv := (some (ni e))) Ei (by kernel_rfl) (by kernel_rfl) (by kernel_rfl) (by omega) (by omega) (.inr ⟨.i64, rfl⟩) (.inr ⟨.i64, rfl⟩) ?_
   intro _ EB
   refine ⟨fun _ => Ef.pk [2], ?_⟩
   exact QF hG (by kernel_rfl) (nd101 _ _ (EB.sb) (Ef.pk [0, 1, 2]))
  rintro _ _ ⟨EC, Ej⟩
  refine ze <| wp_seq <| r_c (fun ac wo => Env ac 37 [(0, .int .i64 4), (1, .slice ab (zc lb) cb), (4, pt Ed), (5, pt Ec), (6, ni e), (7, ni (((e - 1) / 31) * 31)), (8, pt Ea)] ∧ Ev w [] wo [.box Ec (zh (nd (addM 4 (nv (nd (mulM 4 (nv (nd (lv (zo e lb) % mF 4))) (nv ([0, 0, 0, 72057594037927936] : List UInt64))))) (nv (nd (lv (zm 0 (zf 32 0) ++ (zm (e - (((e - 1) / 31) * 31)) (zo (((e - 1) / 31) * 31) lb)) ++ zo (0 + (e - (((e - 1) / 31) * 31))) (zf 32 0)))))))) 33, .box Ed (zh (zf 4 0)) 33, .box Ea (bys (zm 0 (zf 32 0) ++ (zm (e - (((e - 1) / 31) * 31)) (zo (((e - 1) / 31) * 31) lb)) ++ zo (0 + (e - (((e - 1) / 31) * 31))) (zf 32 0))) 22]) ?_ ?_
  ·
   refine h_s (fun wv => Ev w [] wv [.box Ec (zh (nd (lv (zo e lb) % mF 4))) 33, .box Ea (bys (zm 0 (zf 32 0) ++ (zm (e - (((e - 1) / 31) * 31)) (zo (((e - 1) / 31) * 31) lb)) ++ zo (0 + (e - (((e - 1) / 31) * 31))) (zf 32 0))) 22]) [8] 9 ?_
   have Eb := Ej.trans (zS Ej.heap)
   refine q_s [0,1] [] 7 EC (Eb.pk [0, 2]) fun _ ED => q_r 2 (s := Instr.loadAt 33 (pt Ec)) (v := .agg (zg (zh (nd (lv (zo e lb) % mF 4))))) ED (fun w hS => zV (m := 4) (cs := zh (nd (lv (zo e lb) % mF 4))) (zd (zl _ _)) (by kernel_rfl) (by kernel_rfl) (hS.heap.cells (k := 0) (off := 0) (m := 4) rfl (zr (zd (zl _ _))))) (Eb.pk [0, 2]) fun _ EE => q_s [3] [] 5 EE (Eb.pk [0, 2]) fun _ EF => q_r 5 (s := Instr.loadAt 22 (pt Ea)) (v := .agg (zg (bys (zm 0 (zf 32 0) ++ (zm (e - (((e - 1) / 31) * 31)) (zo (((e - 1) / 31) * 31) lb)) ++ zo (0 + (e - (((e - 1) / 31) * 31))) (zf 32 0))))) EF (fun w hS => zV (m := 32) (cs := bys (zm 0 (zf 32 0) ++ (zm (e - (((e - 1) / 31) * 31)) (zo (((e - 1) / 31) * 31) lb)) ++ zo (0 + (e - (((e - 1) / 31) * 31))) (zf 32 0))) (z7 (Kv (zi) (by first | (simp; done) | (simp; omega)) (by omega))) (by kernel_rfl) (by kernel_rfl) (hS.heap.cells (k := 1) (off := 0) (m := 32) rfl (zr (z7 (Kv (zi) (by first | (simp; done) | (simp; omega)) (by omega)))))) (Eb.pk [0, 2]) fun _ EG => q_t 4 ?_
   refine c_p EG Eb (hM4 _ (nd (lv (zo e lb) % mF 4)) ([0, 0, 0, 72057594037927936] : List UInt64) (zl _ _) (show zc ([0, 0, 0, 72057594037927936] : List UInt64) = 4 from rfl)) fun _ _ EH Ek => ⟨fun _ => Ek.pk [0, 2], ?_⟩
   refine q_t 6 ?_
   refine c_p EH Ek (Xy _ (zm 0 (zf 32 0) ++ (zm (e - (((e - 1) / 31) * 31)) (zo (((e - 1) / 31) * 31) lb)) ++ zo (0 + (e - (((e - 1) / 31) * 31))) (zf 32 0)) (Kv (zi) (by first | (simp; done) | (simp; omega)) (by omega))) fun _ _ EI El => ⟨fun _ => El.pk [0, 2], ?_⟩
   refine q_t 7 ?_
   refine c_p EI El (add_go _ 4 h4f (nd (mulM 4 (nv (nd (lv (zo e lb) % mF 4))) (nv ([0, 0, 0, 72057594037927936] : List UInt64)))) (nd (lv (zm 0 (zf 32 0) ++ (zm (e - (((e - 1) / 31) * 31)) (zo (((e - 1) / 31) * 31) lb)) ++ zo (0 + (e - (((e - 1) / 31) * 31))) (zf 32 0)))) (zl _ _) (zl _ _)) fun _ _ EJ Em => ⟨fun _ => Em.pk [0, 2], ?_⟩
   refine q_t 8 ?_
   refine zZ 0 4 (zh (nd (addM 4 (nv (nd (mulM 4 (nv (nd (lv (zo e lb) % mF 4))) (nv ([0, 0, 0, 72057594037927936] : List UInt64))))) (nv (nd (lv (zm 0 (zf 32 0) ++ (zm (e - (((e - 1) / 31) * 31)) (zo (((e - 1) / 31) * 31) lb)) ++ zo (0 + (e - (((e - 1) / 31) * 31))) (zf 32 0)))))))) _ EJ Em rfl (zd (zl _ _)) (zd (zl _ _)) (zw _) rfl fun _ _ EK EL => ⟨q_y, ?_⟩
   exact h_e ⟨EK.sb, EL.pk [0, 1, 2]⟩
  rintro _ _ ⟨EM, EN⟩
  refine ze <| d_r [0,1,4,5,6,7,8] [] EM fun _ EO => zx <| ze <| ⟨_, ⟨(e - 1) / 31 * 31, (nd (addM 4 (nv (nd (mulM 4 (nv (nd (lv (zo e lb) % mF 4))) (nv ([0, 0, 0, 72057594037927936] : List UInt64))))) (nv (nd (lv (zm 0 (zf 32 0) ++ (zm (e - (((e - 1) / 31) * 31)) (zo (((e - 1) / 31) * 31) lb)) ++ zo (0 + (e - (((e - 1) / 31) * 31))) (zf 32 0))))))), rfl, EO.sb, EN.pk [0, 1], by omega, by omega, (zl _ _), wide_chunk h4f (by omega) (by omega) hm (chunk_val (by omega) (by omega) (by omega))⟩, ?_⟩
  omega
 have EP := Eq.fx (t := 13) (congrArg Value.bool Ee)
 have hp285 : ¬ (((e : Nat) : Int) > (0 : Int)) := of_decide_eq_false Ee
 refine d_e [0,1,4,5,6,16] [] EP fun _ En => ze <| c_f En ?_
 refine wp_exit <| zD <| zD <| zP <| ze <| wp_seq ?_
 have Hd : e = 0 := by omega
 subst Hd
 rw [hxe] at Eh
 refine zk <| f_o <| m_aw 0 4 (zh (nd (lv (zo 0 lb) % mF 4))) En Eh rfl (zd (zl _ _)) fun _ EQ => f_o <| zZ 1 4 (zh (nd (lv (zo 0 lb) % mF 4))) [.box Ec (zh (nd (lv (zo 0 lb) % mF 4))) 33, .box Ed (zh (nd (lv (zo 0 lb) % mF 4))) 33] EQ Eh rfl (zd (zl _ _)) (zd (zi)) (zw _) rfl fun _ _ ER Eo => f_e <| ze <| wp_ret <| d_cell1 (v := .agg (zg (zh (nd (lv (zo 0 lb) % mF 4))))) (t := 4) (T := 33) (ad := ⟨Ed, 0, none⟩) ER (by kernel_rfl) (by kernel_rfl) (zF (t := 33) (k := 1) (off := 0) (m := 4) (xs := zh (nd (lv (zo 0 lb) % mF 4))) Eo rfl (zr (zd (zl _ _))) (zd (zl _ _)) (by kernel_rfl) (by kernel_rfl)) ?_
 exact ⟨rfl, Eo.pk []⟩
end Go.Proofs.YtlnogkmnklfjlaaGreatDoor
namespace Go.Dbr
open Go Go.RowKit
section
variable {P : Program}
theorem run_toarr2 {t e : TypeId} {m : Nat} {ao : Option Addr} {ad : Addr} {p c : Nat} (hu : P.underlying t = some (.array m e)) (ha : ao = some ad) (h : m ≤ p) (w : World) : (Instr.arrayAt t (.slice ao p c)).run P w = .ok (.pointer (some ad)) w := by
  subst ha
  exact run_toarr hu h w
theorem add0 (ad : Addr) : ad = ad.add 0 := by
  unfold Addr.add
  rw [if_pos rfl]
theorem bys_pre {l : List UInt8} {m : Nat} : ∀ j, j < m → (bys l)[0 + j]? = (bys (zm m l))[j]? := fun j hj => by
  rw [bys_take, List.getElem?_take, if_pos hj, Nat.zero_add]
theorem bys_prel {l : List UInt8} {m : Nat} (h : m ≤ l.length) : (bys (zm m l)).length = m := by
  rw [bys_length, zs]
  omega
variable {w : World}
end
end Go.Dbr
namespace Go.Dbr
open Go Go.RowKit
section
variable {P : Program} {ops : Array Oper} {Q : Exit → Act → World → Prop} {n i : Nat} {l : List (Nat × Value)} {a : Act} {w w0 : World} {L L0 : List Ent} {d : Option Tmp} {K : Act → World → Prop}
end
end Go.Dbr
namespace Go.Proofs.YtlnogkmnklfjlaaGreatDoor
open Go.Dbr
theorem hL4 : LeftOk 4 := leftOk h4f
theorem h3s : (3 : Int) = 1 ∨ (3 : Int) = 2 ∨ (3 : Int) = 3 := .inr (.inr rfl)
theorem parts_ok {h : Int} {lx : List (Sl UInt8)} (hb : ∀ x ∈ lx, x.l.length ≤ 140737488353280) : ∀ (k : Nat) (x : Sl UInt8), lx[k]? = some x → zc (Sh.restH h (Z7 (fun s : Sl UInt8 => s.l) (zm k lx))) + zc x.l ≤ 140737488355200 := fun k x hx => by
  have h1 := Sh.restH_lt h (Z7 (fun s : Sl UInt8 => s.l) (zm k lx))
  have h2 := hb x (Yi hx)
  omega
def nE (b : List UInt8) : Nat := lv (Sh.sumF 3 b) % mF 4
theorem nE_lt (b : List UInt8) : nE b < W256 := mod_lt_w h4f
def clE (k : List UInt8) : List UInt8 := zp (zp k 0 (za k 0 0 &&& 248)) 31 (za (zp k 0 (za k 0 0 &&& 248)) 31 0 &&& 63 ||| 64)
theorem clE_len {k : List UInt8} (h : k.length = 32) : (clE k).length = 32 := by rw [clE, Qk, Qk, h]
theorem s3_len (b : List UInt8) : (Sh.sumF 3 b).length = 64 := (Sh.sumF_len h3s b).trans rfl
theorem s3_take (b : List UInt8) : (zm 32 (Sh.sumF 3 b)).length = 32 := by rw [zs, s3_len]; rfl
def sE (sd : List UInt8) : Nat := lv (clE (zm 32 (Sh.sumF 3 sd)))
theorem sE_lt (sd : List UInt8) : sE sd < W256 := by
  have := lv_lt (clE (zm 32 (Sh.sumF 3 sd)))
  rw [clE_len (s3_take sd)] at this
  exact this
def ahE (sd : List UInt8) : List UInt8 := zo 32 (Sh.sumF 3 sd)
theorem sha_go (w : World) (ax : Option Addr) (nx cx : Nat) (lx : List (Sl UInt8)) (ex : nx = zc lx) (ix : InS (fun s : Sl UInt8 => s.f) 24 (fun x : Sl UInt8 => InB w [] x.a x.c x.l) w [] ax cx lx) (hT : ∀ x ∈ lx, zc x.l ≤ 140737488353280) {b : List UInt8} (hb : (Z7 (fun s : Sl UInt8 => s.l) lx) = b) (gk32 : InU32 w [] (some ⟨0, 0, none⟩) 64 Sh.K32) (gk64 : InU64 w [] (some ⟨1, 0, none⟩) 80 Sh.K64) : Calls zB 40 #[.int .i64 3, .slice ax nx cx] w fun e w' => ∃ ao co, e = .returned (.slice ao (zc (Sh.sumF 3 b)) co) ∧ Ev w [] w' [.vec ao co 1 (bys (Sh.sumF 3 b)) 5] := by
  subst hb
  exact Sh.of_go w 3 (.inr rfl) ax nx cx lx ex ix (parts_ok hT) gk32 gk64
theorem enumber_go (w : World) (ax : Option Addr) (nx cx : Nat) (lx : List (Sl UInt8)) (ex : nx = zc lx) (ix : InS (fun s : Sl UInt8 => s.f) 24 (fun x : Sl UInt8 => InB w [] x.a x.c x.l) w [] ax cx lx) (hT : ∀ x ∈ lx, zc x.l ≤ 140737488353280) {b : List UInt8} (hb : (Z7 (fun s : Sl UInt8 => s.l) lx) = b) (gk32 : InU32 w [] (some ⟨0, 0, none⟩) 64 Sh.K32) (gk64 : InU64 w [] (some ⟨1, 0, none⟩) 80 Sh.K64) : Calls zB 21 #[.slice ax nx cx] w fun e w' => e = .returned (.agg (zg (zh (nd (nE b))))) ∧ Ev w [] w' [] := by
 subst ex
 have hs := ix.small
 have Eq := ix.cap
 refine d_0 [(0, .slice ax (zc lx) cx)] 6 Tryz.func21 Tryz.ntmps21 (Heap.nil _) fun Ek El Em => wp_seq <| zk <| f_o <| m_z 33 (zh (zf 4 0)) El Em fun _ _ En Eo Ea => f_e <| ze <| wp_seq ?_
 have hs3l := s3_len (Z7 (fun s : Sl UInt8 => s.l) lx)
 refine zk <| d_k [2,3] [] 1 Eo fun _ Ep => f_o <| c_0 Ep Ea (sha_go _ ax (zc lx) cx lx (by first | rfl | (simp; done) | (simp; omega) | omega) (ix.go Ea [] (by kernel_rfl) (fun _ h => (InB.ev h Ea).pick [] (by kernel_rfl))) hT (b := (Z7 (fun s : Sl UInt8 => s.l) lx)) rfl ((gk32.ev Ea).pick [] (by kernel_rfl)) ((gk64.ev Ea).pick [] (by kernel_rfl))) ?_
 rintro _ _ ⟨Ed, Ee, rfl, Ef⟩
 refine ⟨_, _, _, rfl, Ef, rfl, fun _ Eg Eb => ?_⟩
 refine f_o <| c_p Eg Eb (wide4_go _  Ed (zc (Sh.sumF 3 (Z7 (fun s : Sl UInt8 => s.l) lx))) Ee (Sh.sumF 3 (Z7 (fun s : Sl UInt8 => s.l) lx)) (by first | rfl | (simp; done) | (simp; omega) | omega) (bys_in Eb.heap (k := 0) rfl [] (by kernel_rfl) rfl (by first | omega | (simp; done) | (simp; omega)))) fun _ _ Eh Ei => f_o <| zZ 1 4 (zh (nd (lv (Sh.sumF 3 (Z7 (fun s : Sl UInt8 => s.l) lx)) % mF 4))) _ Eh Ei rfl (zd (zl _ _)) (zd (zi)) (zw _) rfl fun _ _ Ej Ec => f_e <| ze <| wp_ret <| d_cell1 (v := .agg (zg (zh (nd (lv (Sh.sumF 3 (Z7 (fun s : Sl UInt8 => s.l) lx)) % mF 4))))) (t := 2) (T := 33) (ad := ⟨En, 0, none⟩) Ej (by kernel_rfl) (by kernel_rfl) (zF (t := 33) (k := 1) (off := 0) (m := 4) (xs := zh (nd (lv (Sh.sumF 3 (Z7 (fun s : Sl UInt8 => s.l) lx)) % mF 4))) Ec rfl (zr (zd (zl _ _))) (zd (zl _ _)) (by kernel_rfl) (by kernel_rfl)) ?_
 exact ⟨by rw [← hb]; rfl, Ec.pk []⟩
theorem secret_go (w : World) (sd : List UInt8) (hsd : zc sd = 32) (gk32 : InU32 w [] (some ⟨0, 0, none⟩) 64 Sh.K32) (gk64 : InU64 w [] (some ⟨1, 0, none⟩) 80 Sh.K64) : Calls zB 12 #[.agg (zg (bys sd))] w fun e w' => ∃ ao co, e = .returned (.tuple #[.agg (zg (zh (nd (sE sd)))), .slice ao (zc (ahE sd)) co]) ∧ Ev w [] w' [.vec ao co 1 (bys (ahE sd)) 5] := by
 refine d_0 [(0, .agg (zg (bys sd)))] 26 Tryz.func12 Tryz.ntmps12 (Heap.nil _) fun Ho Hp Hq => wp_seq <| zk <| f_o <| m_m 22 (bys sd) Hp Hq fun _ _ Em Hr Hs => f_o <| m_z 33 (zh (zf 4 0)) Hr Hs fun _ _ Ed Ht EV => d_e [1,2,3] [] Ht fun _ EW => ze <| wp_seq <| zk <| f_o <| ZY (d := some 6) (t := 22) (e := 5) (sz := 1) (m := 32) (lo := 0) (hi := 32) (b := Em) (off := 0) (lov := none) (hiv := none) (o := 0) EW (by kernel_rfl) (by kernel_rfl) (by kernel_rfl) (by omega) (by omega) (by omega) (.inl ⟨rfl, rfl⟩) (.inl ⟨rfl, rfl⟩) (by omega) ?_
 intro _ EX
 refine f_o <| ZZ (d := some 7) (t := 72) (T := 23) (m := 1) (parts := #[(0, .slice (some ⟨Em, 0, none⟩) 32 32)]) (xs := [.slice (some ⟨Em, 0, none⟩) 32 32]) (sz := 1) EX (by kernel_rfl) (by kernel_rfl) rfl (by decide) EV ?_
 intro _ _ Ex EY Eg
 refine f_o ?_
 rw [show (.slice (some ⟨Em, 0, none⟩) 32 32 : Value) = .slice (some ⟨Em, 0, none⟩) (zc sd) 32 from by rw [show zc sd = 32 from by first | omega | (simp only [Zb, s3_len, zs, zy, Zj, hsd]; omega) | (simp only [Zb, s3_len, zs, zy, Zj, hsd])]] at Eg
 refine c_0 EY Eg (sha_go _ (some ⟨Ex, 0, none⟩) 1 1 ([⟨some ⟨Em, 0, none⟩, 32, sd⟩] : List (Sl UInt8)) (by first | rfl | (simp; done) | (simp; omega) | omega) ⟨Eg.heap.ro (k := 2) rfl [] (by kernel_rfl) rfl, (fun e => by cases e), (by simp), (by simp), (zE.2 ⟨(QD (Eg.heap.roBox (k := 0) (m := 32) rfl (zr (z7 hsd)) [] (by kernel_rfl) rfl) hsd (by first | decide | (dsimp only; decide))), (fun x h => absurd h ZF)⟩)⟩ (zE.2 ⟨(show zc sd ≤ 140737488353280 from (by first | omega | (simp only [Zb, s3_len, zs, zy, Zj, hsd]; omega) | (simp only [Zb, s3_len, zs, zy, Zj, hsd]; decide))), (fun x h => absurd h ZF)⟩) (b := sd) (by simp only [Zz, Z3, ZH]) ((gk32.ev Eg).pick [] (by kernel_rfl)) ((gk64.ev Eg).pick [] (by kernel_rfl))) ?_
 rintro _ _ ⟨Eb, Ea, rfl, EZ⟩
 refine ⟨_, _, _, rfl, EZ, rfl, fun _ E0 El => ?_⟩
 refine d_e [2,3,4] [] E0 fun _ E1 => ze <| wp_seq ?_
 have hs3 := s3_len sd
 have hst := s3_take sd
 refine zk <| d_k [2,3,4,9] [] 1 E1 fun _ E2 => f_o ?_
 have E3 := Y4 El.heap (k := 0) rfl
 refine Xx (d := some 10) (t := 23) (e := 5) (sz := 1) (len := zc (Sh.sumF 3 sd)) (cap := Ea) (hi := 32) (ao := Eb) (lov := none) (hiv := (some (.int .i64 32))) E2 (by kernel_rfl) (by kernel_rfl) (by kernel_rfl) (by omega) (.inl ⟨rfl, rfl⟩) (.inr ⟨.i64, rfl⟩) ?_
 intro _ E4
 have E5 : 0 < 32 := by omega
 obtain ⟨En, Eo⟩ := JF (fun e => by have := (bys_vnz El.heap (k := 0) rfl) e; omega) E5
 refine f_o <| q_v (x := Instr.arrayAt 22 (.slice Eb 32 Ea)) (v := .pointer (some En)) E4 (Go.Dbr.run_toarr2 (e := 5) (m := 32) (by kernel_rfl) Eo (by omega) _) fun _ E6 => f_o ?_
 have E7 : 32 ≤ zc (zm 32 (Sh.sumF 3 sd)) := by first | omega | (simp; done) | (simp; omega)
 refine op_loadaggat (d := some 12) (t := 22) (ad := En) (ao := Eb) (ys := bys (zm 32 (Sh.sumF 3 sd))) (o := 0) (m := 32) (xs := bys (zm 32 (zm 32 (Sh.sumF 3 sd)))) E6 (by kernel_rfl) (add0 _) (JE (El.heap.reads (k := 0) rfl) 32) Eo bys_pre (bys_prel E7) (by kernel_rfl) (by kernel_rfl) ?_
 intro _ E8
 refine f_o <| m_z 22 (bys (zf 32 0)) E8 El fun _ _ Ec E9 Ha => f_o <| zZ 4 32 (bys (zm 32 (zm 32 (Sh.sumF 3 sd)))) _ E9 Ha rfl (z7 (by first | (simp; done) | (simp; omega) | (rw [zs]; omega))) (z7 (zi)) (ZC _) rfl fun _ _ Hb Eu => f_e <| ze <| wp_seq ?_
 rw [show (zm 32 (zm 32 (Sh.sumF 3 sd))) = (zm 32 (Sh.sumF 3 sd)) from (by rw [List.take_take]; rfl)] at Eu
 refine zk <| d_k [2,3,4,5,13] [] 1 Hb fun _ Hc => f_o ?_
 have Hd : 0 < zc (zm 32 (Sh.sumF 3 sd)) := by rw [hst]; omega
 refine m_v 4 0 (bv (za (zm 32 (Sh.sumF 3 sd)) 0 0)) Hc Eu rfl (Qr Hd) fun _ He => d_k [2,3,4,5,15,16] [(2, g_i .u8 (Xu (x := za (zm 32 (Sh.sumF 3 sd)) 0 0) (y := (248 : UInt8)) rfl rfl))] 4 He fun _ Hf => f_o ?_
 have Hg : 0 < zc (zm 32 (Sh.sumF 3 sd)) := by rw [hst]; omega
 refine m_t 4 0 (bv ((za (zm 32 (Sh.sumF 3 sd)) 0 0) &&& (248 : UInt8))) [.vec Eb Ea 1 (bys (Sh.sumF 3 sd)) 5, .box Em (bys sd) 22, .box Ed (zh (zf 4 0)) 33, .vec (some ⟨Ex, 0, none⟩) 1 1 [.slice (some ⟨Em, 0, none⟩) (zc sd) 32] 23, .box Ec (bys (zp (zm 32 (Sh.sumF 3 sd)) 0 ((za (zm 32 (Sh.sumF 3 sd)) 0 0) &&& (248 : UInt8)))) 22] Hf Eu rfl (Qr Hg) (bys_set _ _ _) rfl fun _ _ Hh Ey => f_e <| ze <| wp_seq <| zk <| d_k [2,3,4,5,17] [] 1 Hh fun _ Hi => f_o ?_
 have Hj : 31 < zc (zp (zm 32 (Sh.sumF 3 sd)) 0 ((za (zm 32 (Sh.sumF 3 sd)) 0 0) &&& (248 : UInt8))) := by rw [(List.length_set.trans hst)]; omega
 refine m_v 4 31 (bv (za (zp (zm 32 (Sh.sumF 3 sd)) 0 ((za (zm 32 (Sh.sumF 3 sd)) 0 0) &&& (248 : UInt8))) 31 0)) Hi Ey rfl (Qr Hj) fun _ Hk => d_k [2,3,4,5,20,21] [(2, g_i .u8 (Xu (x := za (zp (zm 32 (Sh.sumF 3 sd)) 0 ((za (zm 32 (Sh.sumF 3 sd)) 0 0) &&& (248 : UInt8))) 31 0) (y := (63 : UInt8)) rfl rfl)), (3, g_i .u8 (Go.Dbr.u8_or (x := (za (zp (zm 32 (Sh.sumF 3 sd)) 0 ((za (zm 32 (Sh.sumF 3 sd)) 0 0) &&& (248 : UInt8))) 31 0) &&& (63 : UInt8)) (y := (64 : UInt8)) rfl rfl))] 5 Hk fun _ Hl => f_o ?_
 have Hm : 31 < zc (zp (zm 32 (Sh.sumF 3 sd)) 0 ((za (zm 32 (Sh.sumF 3 sd)) 0 0) &&& (248 : UInt8))) := by rw [(List.length_set.trans hst)]; omega
 refine m_t 4 31 (bv (((za (zp (zm 32 (Sh.sumF 3 sd)) 0 ((za (zm 32 (Sh.sumF 3 sd)) 0 0) &&& (248 : UInt8))) 31 0) &&& (63 : UInt8)) ||| (64 : UInt8))) _ Hl Ey rfl (Qr Hm) (bys_set _ _ _) rfl fun _ _ Hn Ew => f_e <| ze <| wp_seq ?_
 rw [show (zp (zp (zm 32 (Sh.sumF 3 sd)) 0 ((za (zm 32 (Sh.sumF 3 sd)) 0 0) &&& (248 : UInt8))) 31 (((za (zp (zm 32 (Sh.sumF 3 sd)) 0 ((za (zm 32 (Sh.sumF 3 sd)) 0 0) &&& (248 : UInt8))) 31 0) &&& (63 : UInt8)) ||| (64 : UInt8))) = (clE (zm 32 (Sh.sumF 3 sd))) from rfl] at Ew
 refine r_c (fun ac wo => Env ac 26 [(2, pt Ed), (3, .slice (Yt Eb Ea 32 1) ((zc (Sh.sumF 3 sd)) - 32) (Ea - 32)), (4, .slice Eb (zc (Sh.sumF 3 sd)) Ea), (5, pt Ec)] ∧ Ev w [] wo [.vec Eb Ea 1 (bys (Sh.sumF 3 sd)) 5, .box Ed (zh (nd (lv (clE (zm 32 (Sh.sumF 3 sd)))))) 33, .box Ec (bys (clE (zm 32 (Sh.sumF 3 sd)))) 22]) ?_ ?_
 ·
  refine h_s (fun wv => Ev w [] wv [.vec Eb Ea 1 (bys (Sh.sumF 3 sd)) 5, .box Ec (bys (clE (zm 32 (Sh.sumF 3 sd)))) 22]) [] 6 ?_
  have Eh := Ew.trans (zS Ew.heap)
  refine Xj fun G hG => ?_
  have nd185 : ∀ (ac : Act) (wo : World), Env ac 26 [(2, pt Ed), (3, .slice none 0 0), (4, .slice Eb (zc (Sh.sumF 3 sd)) Ea), (5, pt Ec), (23, .agg (zg (zh (nd (lv (clE (zm 32 (Sh.sumF 3 sd)))))))), (25, .slice (Yt Eb Ea 32 1) ((zc (Sh.sumF 3 sd)) - 32) (Ea - 32))] → Ev w [] wo [.vec Eb Ea 1 (bys (Sh.sumF 3 sd)) 5, .box Ed (zh (zf 4 0)) 33, .box Ec (bys (clE (zm 32 (Sh.sumF 3 sd)))) 22] → G 2 #[true, true, true, true, false, false] ac wo := by
   intro _ _ Ez EA
   refine Zr hG ?_
   refine q_t 4 ?_
   refine zZ 1 4 (zh (nd (lv (clE (zm 32 (Sh.sumF 3 sd)))))) [.vec Eb Ea 1 (bys (Sh.sumF 3 sd)) 5, .box Ed (zh (nd (lv (clE (zm 32 (Sh.sumF 3 sd)))))) 33, .box Ec (bys (clE (zm 32 (Sh.sumF 3 sd)))) 22] Ez EA rfl (zd (zl _ _)) (zd (zi)) (zw _) rfl fun _ _ EB Ei => ⟨fun _ => Ei.pk [0, 2], ?_⟩
   refine q_s [5] [] 0 EB (Ei.pk [0, 2]) fun _ EC => ?_
   exact h_e ⟨EC.sb, Ei.pk [0, 1, 2]⟩
  have nd196 : ∀ (ac : Act) (wo : World), Env ac 26 [(2, pt Ed), (3, .slice none 0 0), (4, .slice Eb (zc (Sh.sumF 3 sd)) Ea), (5, pt Ec), (24, .slice Eb (zc (Sh.sumF 3 sd)) Ea)] → Ev w [] wo [.vec Eb Ea 1 (bys (Sh.sumF 3 sd)) 5, .box Ed (zh (nd (lv (clE (zm 32 (Sh.sumF 3 sd)))))) 33, .box Ec (bys (clE (zm 32 (Sh.sumF 3 sd)))) 22] → G 2 #[true, true, true, false, true, false] ac wo := by
   intro _ _ ED Ee
   refine Zr hG ?_
   refine q_t 3 ?_
   have ER := Y4 Ee.heap (k := 0) rfl
   refine JY (d := some 25) (t := 23) (e := 5) (sz := 1) (len := zc (Sh.sumF 3 sd)) (cap := Ea) (lo := 32) (hi := zc (Sh.sumF 3 sd)) (ao := Eb) (lov := (some (.int .i64 32))) (hiv := none) ED (by kernel_rfl) (by kernel_rfl) (by kernel_rfl) (by omega) (by omega) (.inr ⟨.i64, rfl⟩) (.inl ⟨rfl, rfl⟩) ?_
   intro _ EE
   refine ⟨fun _ => Ee.pk [0, 2], ?_⟩
   refine q_s [5] [] 0 EE (Ee.pk [0, 2]) fun _ EF => ?_
   exact h_e ⟨EF.sb, Ee.pk [0, 1, 2]⟩
  have nd206 : ∀ (ac : Act) (wo : World), Env ac 26 [(2, pt Ed), (3, .slice none 0 0), (4, .slice Eb (zc (Sh.sumF 3 sd)) Ea), (5, pt Ec), (23, .agg (zg (zh (nd (lv (clE (zm 32 (Sh.sumF 3 sd)))))))), (24, .slice Eb (zc (Sh.sumF 3 sd)) Ea)] → Ev w [] wo [.vec Eb Ea 1 (bys (Sh.sumF 3 sd)) 5, .box Ed (zh (zf 4 0)) 33, .box Ec (bys (clE (zm 32 (Sh.sumF 3 sd)))) 22] → G 3 #[true, true, true, false, false, false] ac wo := by
   intro _ _ Ep Ef
   refine Zr hG ?_
   refine QA [3, 4] (by kernel_rfl) rfl ?_
   refine ⟨?_, ?_, trivial⟩
   ·
    rintro _ rfl
    have ES := Y4 Ef.heap (k := 0) rfl
    refine JY (d := some 25) (t := 23) (e := 5) (sz := 1) (len := zc (Sh.sumF 3 sd)) (cap := Ea) (lo := 32) (hi := zc (Sh.sumF 3 sd)) (ao := Eb) (lov := (some (.int .i64 32))) (hiv := none) Ep (by kernel_rfl) (by kernel_rfl) (by kernel_rfl) (by omega) (by omega) (.inr ⟨.i64, rfl⟩) (.inl ⟨rfl, rfl⟩) ?_
    intro _ EG
    refine ⟨fun _ => Ef.pk [0, 2], ?_⟩
    exact QF hG (by kernel_rfl) (nd185 _ _ (EG.sb) (Ef.pk [0, 1, 2]))
   rintro _ rfl
   refine zZ 1 4 (zh (nd (lv (clE (zm 32 (Sh.sumF 3 sd)))))) _ Ep Ef rfl (zd (zl _ _)) (zd (zi)) (zw _) rfl fun _ _ EH Eq => ⟨fun _ => Eq.pk [0, 2], ?_⟩
   exact QF hG (by kernel_rfl) (nd196 _ _ (EH.sb) (Eq.pk [0, 1, 2]))
  have nd218 : ∀ (ac : Act) (wo : World), Env ac 26 [(2, pt Ed), (3, .slice none 0 0), (4, .slice Eb (zc (Sh.sumF 3 sd)) Ea), (5, pt Ec), (22, .agg (zg (bys (clE (zm 32 (Sh.sumF 3 sd)))))), (25, .slice (Yt Eb Ea 32 1) ((zc (Sh.sumF 3 sd)) - 32) (Ea - 32))] → Ev w [] wo [.vec Eb Ea 1 (bys (Sh.sumF 3 sd)) 5, .box Ed (zh (zf 4 0)) 33, .box Ec (bys (clE (zm 32 (Sh.sumF 3 sd)))) 22] → G 3 #[true, false, true, true, false, false] ac wo := by
   intro _ _ EI EJ
   refine Zr hG ?_
   refine q_t 1 ?_
   refine c_p EI EJ (Xy _ (clE (zm 32 (Sh.sumF 3 sd))) (clE_len hst)) fun _ _ EK Er => ⟨fun _ => Er.pk [0, 2], ?_⟩
   refine q_t 4 ?_
   refine zZ 1 4 (zh (nd (lv (clE (zm 32 (Sh.sumF 3 sd)))))) [.vec Eb Ea 1 (bys (Sh.sumF 3 sd)) 5, .box Ed (zh (nd (lv (clE (zm 32 (Sh.sumF 3 sd)))))) 33, .box Ec (bys (clE (zm 32 (Sh.sumF 3 sd)))) 22] EK Er rfl (zd (zl _ _)) (zd (zi)) (zw _) rfl fun _ _ EL Ej => ⟨fun _ => Ej.pk [0, 2], ?_⟩
   refine q_s [5] [] 0 EL (Ej.pk [0, 2]) fun _ EM => ?_
   exact h_e ⟨EM.sb, Ej.pk [0, 1, 2]⟩
  refine Zr hG ?_
  refine q_r 0 (s := Instr.loadAt 22 (pt Ec)) (v := .agg (zg (bys (clE (zm 32 (Sh.sumF 3 sd)))))) Hn (fun w hS => zV (m := 32) (cs := bys (clE (zm 32 (Sh.sumF 3 sd)))) (z7 (clE_len hst)) (by kernel_rfl) (by kernel_rfl) (hS.heap.cells (k := 1) (off := 0) (m := 32) rfl (zr (z7 (clE_len hst))))) (Eh.pk [0, 4]) fun _ EN => q_s [2] [] 4 EN (Eh.pk [0, 4]) fun _ Es => QA [1, 3] (by kernel_rfl) rfl ?_
  refine ⟨?_, ?_, trivial⟩
  ·
   rintro _ rfl
   refine c_p Es Eh (Xy _ (clE (zm 32 (Sh.sumF 3 sd))) (clE_len hst)) fun _ _ EO Et => ⟨fun _ => Et.pk [0, 4], ?_⟩
   exact QF hG (by kernel_rfl) (nd206 _ _ (EO.sb) (Et.pk [0, 2, 4]))
  rintro _ rfl
  have ET := Y4 Eh.heap (k := 0) rfl
  refine JY (d := some 25) (t := 23) (e := 5) (sz := 1) (len := zc (Sh.sumF 3 sd)) (cap := Ea) (lo := 32) (hi := zc (Sh.sumF 3 sd)) (ao := Eb) (lov := (some (.int .i64 32))) (hiv := none) Es (by kernel_rfl) (by kernel_rfl) (by kernel_rfl) (by omega) (by omega) (.inr ⟨.i64, rfl⟩) (.inl ⟨rfl, rfl⟩) ?_
  intro _ EP
  refine ⟨fun _ => Eh.pk [0, 4], ?_⟩
  exact QF hG (by kernel_rfl) (nd218 _ _ (EP.sb) (Eh.pk [0, 2, 4]))
 rintro _ _ ⟨EQ, Ek⟩
 refine ze <| wp_ret <| d_cell_tmp (v := .agg (zg (zh (nd (lv (clE (zm 32 (Sh.sumF 3 sd)))))))) (x := .slice (Yt Eb Ea 32 1) ((zc (Sh.sumF 3 sd)) - 32) (Ea - 32)) (t := 2) (T := 33) (ad := ⟨Ed, 0, none⟩) (u := 3) EQ (by kernel_rfl) (by kernel_rfl) (zF (t := 33) (k := 1) (off := 0) (m := 4) (xs := zh (nd (lv (clE (zm 32 (Sh.sumF 3 sd)))))) Ek rfl (zr (zd (zl _ _))) (zd (zl _ _)) (by kernel_rfl) (by kernel_rfl)) (by kernel_rfl) ?_
 have EU := Y4 Ek.heap (k := 0) rfl
 have Hf254 := Ev.cut (k := 0) (n := zc (Sh.sumF 3 sd)) (sz := 1) Ek rfl (ZI _) (by omega) 32 (zc (Sh.sumF 3 sd)) (by omega) (by omega)
 rw [bys_cutw (l := Sh.sumF 3 sd) (lo := 32) (n := zc (Sh.sumF 3 sd)) (by simp)] at Hf254
 exact ⟨_, _, by rw [show zc (ahE sd) = zc (Sh.sumF 3 sd) - 32 from zy]; first | done | rfl, Hf254.pk [0]⟩
theorem bys_sub (m o : Nat) (l : List UInt8) : ((bys l).drop o).take m = bys (zm m (zo o l)) := by simp [bys, Yh, YW]
theorem bytesB_go (w : World) (k : Nat) (hk : k < W256) : Calls zB 15 #[.agg (zg (zh (tmF Q6 (nv (nd k)) 64)))] w fun e w' => e = .returned (.agg (zg (bys (puE k)))) ∧ Ev w [] w' [] := by
  have h := bytes16_go w (tmF Q6 (nv (nd k)) 64) (tmF_len _ _ _)
  rw [QI hk, pu_L hk] at h
  rw [QI hk]
  exact h
theorem nv_nE (b : List UInt8) : nv (nd (nE b)) = nE b := QI (nE_lt b)
def hfS (sg : List UInt8) : List UInt8 := zm 32 (zo 32 sg)
noncomputable def verB (pb tx sg : List UInt8) : Bool := isE pb && isE (zm 32 sg) && decide (lv (hfS sg) < mF 4) && decide (Go.Ed.Ec.mul (lv (hfS sg)) gB = Go.Ed.Ec.add (gPt (zm 32 sg)) (Go.Ed.Ec.mul (nE (zm 32 sg ++ (pb ++ tx))) (gPt pb)))
theorem ver_no1 {pb tx sg : List UInt8} (h : isE pb = false) : verB pb tx sg = false := by rw [verB, h, QC, QC, QC]
theorem ver_no2 {pb tx sg : List UInt8} (h : isE (zm 32 sg) = false) : verB pb tx sg = false := by rw [verB, h, YL, QC, QC]
theorem ver_no3 {pb tx sg : List UInt8} (h : ¬ lv (hfS sg) < mF 4) : verB pb tx sg = false := by rw [verB, decide_eq_false h, YL, QC]
theorem toL_pt {b : List UInt8} (h : isE b = true) : toL b = ptL (yE b) (odE b) := (to_yes h).symm
theorem hS_len {sg : List UInt8} (h : sg.length = 64) : (hfS sg).length = 32 := by rw [hfS, zs, zy, h]; rfl
theorem lv_w {l : List UInt8} (h : l.length = 32) : lv l < W256 := by
  have := lv_lt l
  rw [h] at this
  exact this
theorem ver_yes {pb tx sg : List UInt8} (hs : sg.length = 64) (h1 : isE pb = true) (h2 : isE (zm 32 sg) = true) (h3 : lv (hfS sg) < mF 4) {p q : L4} (hp : p = tmF Q6 (nv (nd (lv (hfS sg)))) 64) (hq : q = wtE (toL (zm 32 sg)) (tmF (toL pb) (nv (nd (nE (zm 32 sg ++ (pb ++ tx))))) 64)) :
    Jf (k1 p) (k2 p) (k3 p) (k1 q) (k2 q) (k3 q) = verB pb tx sg := by
  rw [QI (lv_w (hS_len hs))] at hp
  rw [nv_nE, toL_pt h1, toL_pt h2] at hq
  have rp : RepE p (Go.Ed.Ec.mul (lv (hfS sg)) gB) := by rw [hp]; exact rep_times rep_base (lv_w (hS_len hs))
  have rq : RepE q (Go.Ed.Ec.add (gPt (zm 32 sg)) (Go.Ed.Ec.mul (nE (zm 32 sg ++ (pb ++ tx))) (gPt pb))) := by rw [hq]; exact rep_wt (rep_pt h2) (rep_times (rep_pt h1) (nE_lt _))
  rw [sameN_ok ⟨rp.rep.1, rp.rep.2.1, rp.rep.2.2.1⟩ ⟨rq.rep.1, rq.rep.2.1, rq.rep.2.2.1⟩, verB, h1, h2, decide_eq_true h3, Qd, Qd, Qd]
theorem public_go (w : World) (sd : List UInt8) (hsd : zc sd = 32) (gk32 : InU32 w [] (some ⟨0, 0, none⟩) 64 Sh.K32) (gk64 : InU64 w [] (some ⟨1, 0, none⟩) 80 Sh.K64) : Calls zB 6 #[.agg (zg (bys sd))] w fun e w' => e = .returned (.agg (zg (bys (puE (sE sd))))) ∧ Ev w [] w' [] := by
 refine d_0 [(0, .agg (zg (bys sd)))] 14 Tryz.func6 Tryz.ntmps6 (Heap.nil _) fun Ew Ex Ey => wp_seq <| zk <| f_o <| m_m 22 (bys sd) Ex Ey fun _ _ Ez EA EB => f_o <| m_z 22 (bys (zf 32 0)) EA EB fun _ _ Ec EC Eb => f_e <| ze <| wp_seq <| zk <| f_o <| m_aw 0 32 (bys sd) EC Eb rfl (z7 hsd) fun _ Eh => f_o <| c_0 Eh Eb (secret_go _ sd hsd ((gk32.ev Eb).pick [] (by kernel_rfl)) ((gk64.ev Eb).pick [] (by kernel_rfl))) ?_
 rintro _ _ ⟨Ed, Ee, rfl, Ei⟩
 refine ⟨_, _, _, rfl, Ei, rfl, fun _ Ej Ek => ?_⟩
 refine d_k [2,8,9] [] 5 Ej fun _ El => f_o <| m_z 33 (zh (zf 4 0)) El Ek fun _ _ Ea Em En => f_o <| zZ 3 4 (zh (nd (sE sd))) _ Em En rfl (zd (zl _ _)) (zd (zi)) (zw _) rfl fun _ _ Eo Ef => d_e [2,3] [] Eo fun _ Ep => ?_
 refine ze <| wp_seq <| r_c (fun ac wo => Env ac 14 [(2, pt Ec), (3, pt Ea)] ∧ Ev w [] wo [.box Ec (bys (puE (sE sd))) 22, .box Ea (zh (nd (sE sd))) 33]) ?_ ?_
 ·
  refine s_g0 [(2, pt Ec), (3, pt Ea)] [0,1,2,3] [(10, .agg (zg (zh Q6))), (11, .agg (zg (zh (nd (sE sd))))), (12, .agg (zg (zh (tmF Q6 (nv (nd (sE sd))) 64)))), (13, .agg (zg (bys (puE (sE sd)))))] 1 [(2, pt Ec), (3, pt Ea), (13, .agg (zg (bys (puE (sE sd)))))] (Ep.sb) (Ef.trans (zS Ef.heap)) ?_ fun _ _ Eq Er => ?_
  ·
   refine s_f (fun _ => base_go _) ?_
   refine s_a 3 0 4 (zh (nd (sE sd))) rfl (zr (zd (zl _ _))) (zd (zl _ _)) <| s_f (fun _ => Kd _ Q6 (nd (sE sd)) (ptL_len _ _) (zl _ _)) ?_
   refine s_f (fun _ => bytesB_go _ (sE sd) (sE_lt _)) ?_
   exact s_n
  refine q_u 4 ?_
  refine zZ 2 32 (bys (puE (sE sd))) [.vec Ed Ee 1 (bys (ahE sd)) 5, .box Ez (bys sd) 22, .box Ec (bys (puE (sE sd))) 22, .box Ea (zh (nd (sE sd))) 33] Eq Er rfl (z7 (Zb _)) (z7 (zi)) (ZC _) rfl fun _ _ Es Et => ?_
  exact a_e ⟨Es.sb, Et.pk [2, 3]⟩
 rintro _ _ ⟨Eu, Eg⟩
 refine ze <| wp_ret <| d_cell1 (v := .agg (zg (bys (puE (sE sd))))) (t := 2) (T := 22) (ad := ⟨Ec, 0, none⟩) Eu (by kernel_rfl) (by kernel_rfl) (zF (t := 22) (k := 0) (off := 0) (m := 32) (xs := bys (puE (sE sd))) Eg rfl (zr (z7 (Zb _))) (z7 (Zb _)) (by kernel_rfl) (by kernel_rfl)) ?_
 exact ⟨rfl, Eg.pk []⟩
theorem verify_go (w : World) (pb : List UInt8) (hpb : zc pb = 32) (am : Option Addr) (nm cm : Nat) (lm : List UInt8) (em : nm = zc lm) (im : InB w [] am cm lm) (sg : List UInt8) (hsg : zc sg = 64) (gk32 : InU32 w [] (some ⟨0, 0, none⟩) 64 Sh.K32) (gk64 : InU64 w [] (some ⟨1, 0, none⟩) 80 Sh.K64) : Calls zB 10 #[.agg (zg (bys pb)), .slice am nm cm, .agg (zg (bys sg))] w fun e w' => e = .returned (.bool (verB pb lm sg)) ∧ Ev w [] w' [] := by
 subst em
 have hs := im.small
 have aI := im.cap
 refine d_0 [(0, .agg (zg (bys pb))), (1, .slice am (zc lm) cm), (2, .agg (zg (bys sg)))] 54 Tryz.func10 Tryz.ntmps10 (Heap.nil _) fun aC aD aE => wp_seq <| zk <| f_o <| m_m 22 (bys pb) aD aE fun _ _ Eb aF aG => f_o <| m_m 26 (bys sg) aF aG fun _ _ Ea aH E7 => d_e [1,3,5,6] [] aH fun _ H3 => ze <| wp_seq <| zk <| f_o <| m_aw 0 32 (bys pb) H3 E7 rfl (z7 hpb) fun _ H4 => f_o <| c_p H4 E7 (told_go _ pb hpb) fun _ _ H5 H6 => ?_
 refine d_k [1,3,5,6,16,17] [] 5 H5 fun _ H7 => f_o <| m_z 37 ((zh (zf 4 0)) ++ ((zh (zf 4 0)) ++ ((zh (zf 4 0)) ++ (zh (zf 4 0))))) H7 H6 fun _ _ Ec H8 H9 => f_o <| zZ 2 16 (zh (toL pb)) _ H8 H9 rfl (zd (Xr _)) (zG (zd (zi)) (zG (zd (zi)) (zG (zd (zi)) (zd (zi))))) (zw _) rfl fun _ _ aa E8 => d_e [1,3,5,6,7,8] [] aa fun _ ab => ze <| wp_seq <| zk <| f_o <| ZY (d := some 19) (t := 26) (e := 5) (sz := 1) (m := 64) (lo := 0) (hi := 32) (b := Ea) (off := 0) (lov := none) (hiv := (some (.int .i64 32))) (o := 0) ab (by kernel_rfl) (by kernel_rfl) (by kernel_rfl) (by omega) (by omega) (by omega) (.inl ⟨rfl, rfl⟩) (.inr ⟨.i64, rfl⟩) (by omega) ?_
 intro _ ad
 refine f_o <| q_v (x := Instr.arrayAt 22 (.slice (some ⟨Ea, 0, none⟩) 32 64)) (v := pt Ea) ad (Kp (e := 5) (m := 32) (by kernel_rfl) (by omega) _) fun _ ae => f_o <| m_a 1 0 32 (bys (zm 32 sg)) ae E8 rfl (by simp [bys, Yh]) (z7 (by rw [zs, hsg]; decide)) fun _ af => f_o <| c_p af E8 (told_go _ (zm 32 sg) (by rw [zs, hsg]; decide)) fun _ _ ag ah => d_k [1,3,5,6,7,8,23,24] [] 7 ag fun _ ai => f_o <| m_z 37 ((zh (zf 4 0)) ++ ((zh (zf 4 0)) ++ ((zh (zf 4 0)) ++ (zh (zf 4 0))))) ai ah fun _ _ Ed aj ak => f_o <| zZ 3 16 (zh (toL (zm 32 sg))) [.box Eb (bys pb) 22, .box Ea (bys sg) 26, .box Ec (zh (toL pb)) 37, .box Ed (zh (toL (zm 32 sg))) 37] aj ak rfl (zd (Xr _)) (zG (zd (zi)) (zG (zd (zi)) (zG (zd (zi)) (zd (zi))))) (zw _) rfl fun _ _ al E9 => ?_
 refine d_e [1,3,5,6,7,8,9,10] [] al fun _ an => ze <| wp_seq <| zk <| f_o <| ZY (d := some 25) (t := 26) (e := 5) (sz := 1) (m := 64) (lo := 32) (hi := 64) (b := Ea) (off := 0) (lov := (some (.int .i64 32))) (hiv := none) (o := 32) an (by kernel_rfl) (by kernel_rfl) (by kernel_rfl) (by omega) (by omega) (by omega) (.inr ⟨.i64, rfl⟩) (.inl ⟨rfl, rfl⟩) (by omega) ?_
 intro _ ao
 refine f_o <| q_v (x := Instr.arrayAt 22 (.slice (some ⟨Ea, 32, none⟩) 32 32)) (v := .pointer (some ⟨Ea, 32, none⟩)) ao (Kp (e := 5) (m := 32) (by kernel_rfl) (by omega) _) fun _ ap => f_o <| m_a 1 32 32 (bys (zm 32 (zo 32 sg))) ap E9 rfl (bys_sub _ _ _) (z7 (sub_len hsg (by omega))) fun _ aq => f_o <| c_p aq E9 (Xy _ (zm 32 (zo 32 sg)) (sub_len hsg (by omega))) fun _ _ ar au => f_o <| m_z 33 (zh (zf 4 0)) ar au fun _ _ Ee av aw => f_o <| zZ 4 4 (zh (nd (lv (zm 32 (zo 32 sg))))) _ av aw rfl (zd (zl _ _)) (zd (zi)) (zw _) rfl fun _ _ ax EC => f_e <| ze <| wp_seq <| wp_seq <| zk <| d_k [1,3,5,6,7,9,10,11,31] [] 3 ax fun _ Ha => ?_
 rcases Za (!(isE pb)) with Eu | Eu
 ·
  have ay := Ha.fx (t := 31) (congrArg Value.bool Eu)
  have hp87 : ¬ (isE pb = true) := by simpa using Eu
  refine d_e [1,3,5,6,7,9,11,39] [] ay fun _ Hb => ze <| c_t Hb ?_
  refine d_s [1,3,5,6,7,9,11] [] Hb fun _ az => wp_ret <| Zx <| Qh (t := 6) (v := .bool false) az (by kernel_rfl) (by kernel_rfl) ?_
  exact ⟨by rw [ver_no1 (Q9.2 hp87)], EC.pk []⟩
 have aA := Ha.fx (t := 31) (congrArg Value.bool Eu)
 have hp93 : isE pb = true := by simpa using Eu
 refine d_k [1,3,5,6,7,9,11,35] [] 7 aA fun _ Hc => ?_
 rcases Za (!(isE (zm 32 sg))) with Ew | Ew
 ·
  have aB := Hc.fx (t := 35) (congrArg Value.bool Ew)
  have hp98 : ¬ (isE (zm 32 sg) = true) := by simpa using Ew
  refine d_e [1,3,5,6,7,9,11,39] [] aB fun _ ED => ze <| c_t ED ?_
  refine d_s [1,3,5,6,7,9,11] [] ED fun _ Hd => wp_ret <| Zx <| Qh (t := 6) (v := .bool false) Hd (by kernel_rfl) (by kernel_rfl) ?_
  exact ⟨by rw [ver_no2 (Q9.2 hp98)], EC.pk []⟩
 have He := Hc.fx (t := 35) (congrArg Value.bool Ew)
 have hp104 : isE (zm 32 sg) = true := by simpa using Ew
 refine f_o <| m_aw 4 4 (zh (nd (lv (zm 32 (zo 32 sg))))) He EC rfl (zd (zl _ _)) fun _ Hf => f_o <| c_p Hf EC (rightq_go _ 4 (nd (lv (zm 32 (zo 32 sg)))) (zl _ _)) fun _ _ Hg Ex => d_e [1,3,5,6,7,9,11,39] [] Hg fun _ Ey => ?_
 refine ze <| cond_at Ey (t := !(decide (nv (nd (lv (zm 32 (zo 32 sg)))) < mF 4))) (by kernel_rfl) (fun El => ?_) (fun El => ?_)
 ·
  replace El : ¬ (nv (nd (lv (zm 32 (zo 32 sg)))) < mF 4) := by simpa using El
  refine d_s [1,3,5,6,7,9,11] [] Ey fun _ Hh => wp_ret <| Zx <| Qh (t := 6) (v := .bool false) Hh (by kernel_rfl) (by kernel_rfl) ?_
  have hn : ¬ lv (hfS sg) < mF 4 := (by have h := El; have e : nv (nd (lv (hfS sg))) = lv (hfS sg) := QI (lv_w (hS_len hsg)); unfold hfS at e ⊢; rw [e] at h; simpa using h)
  exact ⟨by rw [ver_no3 hn], Ex.pk []⟩
 replace El : nv (nd (lv (zm 32 (zo 32 sg)))) < mF 4 := by simpa using El
 refine wp_skip <| ze <| wp_seq <| r_c (fun ac wo => ∃ (Em : Nat), Env ac 54 [(3, pt Eb), (5, pt Ea), (6, .bool false), (7, pt Ec), (9, pt Ed), (11, pt Ee), (12, pt Em)] ∧ Ev w [] wo [.box Eb (bys pb) 22, .box Ea (bys sg) 26, .box Ec (zh (toL pb)) 37, .box Ed (zh (toL (zm 32 sg))) 37, .box Ee (zh (nd (lv (zm 32 (zo 32 sg))))) 33, .box Em (zh (nd (nE ((zm 32 sg) ++ (pb ++ (lm)))))) 33]) ?_ ?_
 ·
  refine h_s (fun wv => Ev w [] wv [.box Eb (bys pb) 22, .box Ea (bys sg) 26]) [] 7 ?_
  have En := Ex.trans (zS Ex.heap)
  refine Xj fun G hG => ?_
  have nd366 : ∀ (ac : Act) (wo : World), Env ac 54 [(3, pt Eb), (5, pt Ea), (6, .bool false), (7, pt Ec), (9, pt Ed), (11, pt Ee), (44, .agg (zg (zh (nd (nE ((zm 32 sg) ++ (pb ++ (lm))))))))] → Ev w [] wo [.box Eb (bys pb) 22, .box Ea (bys sg) 26, .box Ec (zh (toL pb)) 37, .box Ed (zh (toL (zm 32 sg))) 37, .box Ee (zh (nd (lv (zm 32 (zo 32 sg))))) 33] → G 2 #[true, true, true, true, true, false, false] ac wo := by
   intro _ _ Hi Hj
   refine Zr hG ?_
   refine q_t 5 ?_
   refine m_z 33 (zh (zf 4 0)) Hi Hj fun _ _ EE Hk EF => ⟨fun _ => EF.pk [0, 1], ?_⟩
   refine q_t 6 ?_
   refine zZ 5 4 (zh (nd (nE ((zm 32 sg) ++ (pb ++ (lm)))))) [.box Eb (bys pb) 22, .box Ea (bys sg) 26, .box Ec (zh (toL pb)) 37, .box Ed (zh (toL (zm 32 sg))) 37, .box Ee (zh (nd (lv (zm 32 (zo 32 sg))))) 33, .box EE (zh (nd (nE ((zm 32 sg) ++ (pb ++ (lm)))))) 33] Hk EF rfl (zd (zl _ _)) (zd (zi)) (zw _) rfl fun _ _ Hl EG => ⟨fun _ => EG.pk [0, 1], ?_⟩
   exact h_e ⟨EE, Hl.sb, EG.pk [0, 1, 2, 3, 4, 5]⟩
  have nd380 : ∀ (ac : Act) (wo : World) (Ef : Nat) (Er : Nat), Env ac 54 [(3, pt Eb), (5, pt Ea), (6, .bool false), (7, pt Ec), (9, pt Ed), (11, pt Ee), (12, pt Er), (43, .slice (some ⟨Ef, 0, none⟩) 3 3)] → Ev w [] wo [.box Eb (bys pb) 22, .box Ea (bys sg) 26, .box Ec (zh (toL pb)) 37, .box Ed (zh (toL (zm 32 sg))) 37, .box Ee (zh (nd (lv (zm 32 (zo 32 sg))))) 33, .vec (some ⟨Ef, 0, none⟩) 3 1 [.slice (some ⟨Ea, 0, none⟩) 32 64, .slice (some ⟨Eb, 0, none⟩) 32 32, .slice am (zc lm) cm] 23, .box Er (zh (zf 4 0)) 33] → G 2 #[true, true, true, true, false, true, false] ac wo := by
   intro _ _ Ef Er Hm Ek
   refine Zr hG ?_
   refine q_t 4 ?_
   rw [show (.slice (some ⟨Ea, 0, none⟩) 32 64 : Value) = .slice (some ⟨Ea, 0, none⟩) (zc (zm 32 sg)) 64 from by rw [show zc (zm 32 sg) = 32 from by first | omega | (simp only [Zb, s3_len, zs, zy, Zj, hpb, hsg]; omega) | (simp only [Zb, s3_len, zs, zy, Zj, hpb, hsg])]] at Ek
   rw [show (.slice (some ⟨Eb, 0, none⟩) 32 32 : Value) = .slice (some ⟨Eb, 0, none⟩) (zc pb) 32 from by rw [show zc pb = 32 from by first | omega | (simp only [Zb, s3_len, zs, zy, Zj, hpb, hsg]; omega) | (simp only [Zb, s3_len, zs, zy, Zj, hpb, hsg])]] at Ek
   refine c_p Hm Ek (enumber_go _ (some ⟨Ef, 0, none⟩) 3 3 ([⟨some ⟨Ea, 0, none⟩, 64, zm 32 sg⟩, ⟨some ⟨Eb, 0, none⟩, 32, pb⟩, ⟨am, cm, lm⟩] : List (Sl UInt8)) (by first | rfl | (simp; done) | (simp; omega) | omega) ⟨Ek.heap.ro (k := 5) rfl [] (by kernel_rfl) rfl, (fun e => by cases e), (by simp), (by simp), (zE.2 ⟨((QD (Ek.heap.roBox (k := 1) (m := 64) rfl (zr (z7 hsg)) [] (by kernel_rfl) rfl) hsg (by first | decide | (dsimp only; decide))).take 32), (zE.2 ⟨(QD (Ek.heap.roBox (k := 0) (m := 32) rfl (zr (z7 hpb)) [] (by kernel_rfl) rfl) hpb (by first | decide | (dsimp only; decide))), (zE.2 ⟨((im.ev Ek).pick [] (by kernel_rfl)), (fun x h => absurd h ZF)⟩)⟩)⟩)⟩ (zE.2 ⟨(show zc (zm 32 sg) ≤ 140737488353280 from (by first | omega | (simp only [Zb, s3_len, zs, zy, Zj, hpb, hsg]; omega) | (simp only [Zb, s3_len, zs, zy, Zj, hpb, hsg]; decide))), (zE.2 ⟨(show zc pb ≤ 140737488353280 from (by first | omega | (simp only [Zb, s3_len, zs, zy, Zj, hpb, hsg]; omega) | (simp only [Zb, s3_len, zs, zy, Zj, hpb, hsg]; decide))), (zE.2 ⟨(show zc lm ≤ 140737488353280 from (by first | omega | (simp only [Zb, s3_len, zs, zy, Zj, hpb, hsg]; omega) | (simp only [Zb, s3_len, zs, zy, Zj, hpb, hsg]; decide))), (fun x h => absurd h ZF)⟩)⟩)⟩) (b := (zm 32 sg) ++ (pb ++ (lm))) (by simp only [Zz, Z3, ZH]) ((gk32.ev Ek).pick [] (by kernel_rfl)) ((gk64.ev Ek).pick [] (by kernel_rfl))) fun _ _ Hn EH => ⟨fun _ => EH.pk [0, 1], ?_⟩
   refine q_t 6 ?_
   refine zZ 6 4 (zh (nd (nE ((zm 32 sg) ++ (pb ++ (lm)))))) _ Hn EH rfl (zd (zl _ _)) (zd (zi)) (zw _) rfl fun _ _ Ho EI => ⟨fun _ => EI.pk [0, 1], ?_⟩
   exact h_e ⟨Er, Ho.sb, EI.pk [0, 1, 2, 3, 4, 6]⟩
  have nd396 : ∀ (ac : Act) (wo : World) (Ef : Nat), Env ac 54 [(3, pt Eb), (5, pt Ea), (6, .bool false), (7, pt Ec), (9, pt Ed), (11, pt Ee), (43, .slice (some ⟨Ef, 0, none⟩) 3 3)] → Ev w [] wo [.box Eb (bys pb) 22, .box Ea (bys sg) 26, .box Ec (zh (toL pb)) 37, .box Ed (zh (toL (zm 32 sg))) 37, .box Ee (zh (nd (lv (zm 32 (zo 32 sg))))) 33, .vec (some ⟨Ef, 0, none⟩) 3 1 [.slice (some ⟨Ea, 0, none⟩) 32 64, .slice (some ⟨Eb, 0, none⟩) 32 32, .slice am (zc lm) cm] 23] → G 3 #[true, true, true, true, false, false, false] ac wo := by
   intro _ _ Ef EJ Eg
   refine Zr hG ?_
   refine QA [4, 5] (by kernel_rfl) rfl ?_
   refine ⟨?_, ?_, trivial⟩
   ·
    rintro _ rfl
    rw [show (.slice (some ⟨Ea, 0, none⟩) 32 64 : Value) = .slice (some ⟨Ea, 0, none⟩) (zc (zm 32 sg)) 64 from by rw [show zc (zm 32 sg) = 32 from by first | omega | (simp only [Zb, s3_len, zs, zy, Zj, hpb, hsg]; omega) | (simp only [Zb, s3_len, zs, zy, Zj, hpb, hsg])]] at Eg
    rw [show (.slice (some ⟨Eb, 0, none⟩) 32 32 : Value) = .slice (some ⟨Eb, 0, none⟩) (zc pb) 32 from by rw [show zc pb = 32 from by first | omega | (simp only [Zb, s3_len, zs, zy, Zj, hpb, hsg]; omega) | (simp only [Zb, s3_len, zs, zy, Zj, hpb, hsg])]] at Eg
    refine c_p EJ Eg (enumber_go _ (some ⟨Ef, 0, none⟩) 3 3 ([⟨some ⟨Ea, 0, none⟩, 64, zm 32 sg⟩, ⟨some ⟨Eb, 0, none⟩, 32, pb⟩, ⟨am, cm, lm⟩] : List (Sl UInt8)) (by first | rfl | (simp; done) | (simp; omega) | omega) ⟨Eg.heap.ro (k := 5) rfl [] (by kernel_rfl) rfl, (fun e => by cases e), (by simp), (by simp), (zE.2 ⟨((QD (Eg.heap.roBox (k := 1) (m := 64) rfl (zr (z7 hsg)) [] (by kernel_rfl) rfl) hsg (by first | decide | (dsimp only; decide))).take 32), (zE.2 ⟨(QD (Eg.heap.roBox (k := 0) (m := 32) rfl (zr (z7 hpb)) [] (by kernel_rfl) rfl) hpb (by first | decide | (dsimp only; decide))), (zE.2 ⟨((im.ev Eg).pick [] (by kernel_rfl)), (fun x h => absurd h ZF)⟩)⟩)⟩)⟩ (zE.2 ⟨(show zc (zm 32 sg) ≤ 140737488353280 from (by first | omega | (simp only [Zb, s3_len, zs, zy, Zj, hpb, hsg]; omega) | (simp only [Zb, s3_len, zs, zy, Zj, hpb, hsg]; decide))), (zE.2 ⟨(show zc pb ≤ 140737488353280 from (by first | omega | (simp only [Zb, s3_len, zs, zy, Zj, hpb, hsg]; omega) | (simp only [Zb, s3_len, zs, zy, Zj, hpb, hsg]; decide))), (zE.2 ⟨(show zc lm ≤ 140737488353280 from (by first | omega | (simp only [Zb, s3_len, zs, zy, Zj, hpb, hsg]; omega) | (simp only [Zb, s3_len, zs, zy, Zj, hpb, hsg]; decide))), (fun x h => absurd h ZF)⟩)⟩)⟩) (b := (zm 32 sg) ++ (pb ++ (lm))) (by simp only [Zz, Z3, ZH]) ((gk32.ev Eg).pick [] (by kernel_rfl)) ((gk64.ev Eg).pick [] (by kernel_rfl))) fun _ _ Hp EK => ⟨fun _ => EK.pk [0, 1], ?_⟩
    exact QF hG (by kernel_rfl) (nd366 _ _ (Hp.sb) (EK.pk [0, 1, 2, 3, 4]))
   rintro _ rfl
   refine m_z 33 (zh (zf 4 0)) EJ Eg fun _ _ Hq Hr EL => ⟨fun _ => EL.pk [0, 1], ?_⟩
   exact QF hG (by kernel_rfl) (nd380 _ _ Ef Hq (Hr.sb) (EL.pk [0, 1, 2, 3, 4, 5, 6]))
  have nd413 : ∀ (ac : Act) (wo : World) (Eo : Nat), Env ac 54 [(3, pt Eb), (5, pt Ea), (6, .bool false), (7, pt Ec), (9, pt Ed), (11, pt Ee), (12, pt Eo), (40, .slice (some ⟨Ea, 0, none⟩) 32 64), (41, .slice (some ⟨Eb, 0, none⟩) 32 32), (42, .slice am (zc lm) cm)] → Ev w [] wo [.box Eb (bys pb) 22, .box Ea (bys sg) 26, .box Ec (zh (toL pb)) 37, .box Ed (zh (toL (zm 32 sg))) 37, .box Ee (zh (nd (lv (zm 32 (zo 32 sg))))) 33, .box Eo (zh (zf 4 0)) 33] → G 3 #[true, true, true, false, false, true, false] ac wo := by
   intro _ _ Eo Hs Ht
   refine Zr hG ?_
   refine q_t 3 ?_
   refine ZZ (d := some 43) (t := 72) (T := 23) (m := 3) (parts := #[(0, .slice (some ⟨Ea, 0, none⟩) 32 64), (1, .slice (some ⟨Eb, 0, none⟩) 32 32), (2, .slice am (zc lm) cm)]) (xs := [.slice (some ⟨Ea, 0, none⟩) 32 64, .slice (some ⟨Eb, 0, none⟩) 32 32, .slice am (zc lm) cm]) (sz := 1) Hs (by kernel_rfl) (by kernel_rfl) rfl (by decide) Ht ?_
   intro _ _ EM Hu Eh
   refine ⟨fun _ => Eh.pk [0, 1], ?_⟩
   refine q_t 4 ?_
   rw [show (.slice (some ⟨Ea, 0, none⟩) 32 64 : Value) = .slice (some ⟨Ea, 0, none⟩) (zc (zm 32 sg)) 64 from by rw [show zc (zm 32 sg) = 32 from by first | omega | (simp only [Zb, s3_len, zs, zy, Zj, hpb, hsg]; omega) | (simp only [Zb, s3_len, zs, zy, Zj, hpb, hsg])]] at Eh
   rw [show (.slice (some ⟨Eb, 0, none⟩) 32 32 : Value) = .slice (some ⟨Eb, 0, none⟩) (zc pb) 32 from by rw [show zc pb = 32 from by first | omega | (simp only [Zb, s3_len, zs, zy, Zj, hpb, hsg]; omega) | (simp only [Zb, s3_len, zs, zy, Zj, hpb, hsg])]] at Eh
   refine c_p Hu Eh (enumber_go _ (some ⟨EM, 0, none⟩) 3 3 ([⟨some ⟨Ea, 0, none⟩, 64, zm 32 sg⟩, ⟨some ⟨Eb, 0, none⟩, 32, pb⟩, ⟨am, cm, lm⟩] : List (Sl UInt8)) (by first | rfl | (simp; done) | (simp; omega) | omega) ⟨Eh.heap.ro (k := 6) rfl [] (by kernel_rfl) rfl, (fun e => by cases e), (by simp), (by simp), (zE.2 ⟨((QD (Eh.heap.roBox (k := 1) (m := 64) rfl (zr (z7 hsg)) [] (by kernel_rfl) rfl) hsg (by first | decide | (dsimp only; decide))).take 32), (zE.2 ⟨(QD (Eh.heap.roBox (k := 0) (m := 32) rfl (zr (z7 hpb)) [] (by kernel_rfl) rfl) hpb (by first | decide | (dsimp only; decide))), (zE.2 ⟨((im.ev Eh).pick [] (by kernel_rfl)), (fun x h => absurd h ZF)⟩)⟩)⟩)⟩ (zE.2 ⟨(show zc (zm 32 sg) ≤ 140737488353280 from (by first | omega | (simp only [Zb, s3_len, zs, zy, Zj, hpb, hsg]; omega) | (simp only [Zb, s3_len, zs, zy, Zj, hpb, hsg]; decide))), (zE.2 ⟨(show zc pb ≤ 140737488353280 from (by first | omega | (simp only [Zb, s3_len, zs, zy, Zj, hpb, hsg]; omega) | (simp only [Zb, s3_len, zs, zy, Zj, hpb, hsg]; decide))), (zE.2 ⟨(show zc lm ≤ 140737488353280 from (by first | omega | (simp only [Zb, s3_len, zs, zy, Zj, hpb, hsg]; omega) | (simp only [Zb, s3_len, zs, zy, Zj, hpb, hsg]; decide))), (fun x h => absurd h ZF)⟩)⟩)⟩) (b := (zm 32 sg) ++ (pb ++ (lm))) (by simp only [Zz, Z3, ZH]) ((gk32.ev Eh).pick [] (by kernel_rfl)) ((gk64.ev Eh).pick [] (by kernel_rfl))) fun _ _ Hv EN => ⟨fun _ => EN.pk [0, 1], ?_⟩
   refine q_t 6 ?_
   refine zZ 5 4 (zh (nd (nE ((zm 32 sg) ++ (pb ++ (lm)))))) [.box Eb (bys pb) 22, .box Ea (bys sg) 26, .box Ec (zh (toL pb)) 37, .box Ed (zh (toL (zm 32 sg))) 37, .box Ee (zh (nd (lv (zm 32 (zo 32 sg))))) 33, .box Eo (zh (nd (nE ((zm 32 sg) ++ (pb ++ (lm)))))) 33, .vec (some ⟨EM, 0, none⟩) 3 1 [.slice (some ⟨Ea, 0, none⟩) (zc (zm 32 sg)) 64, .slice (some ⟨Eb, 0, none⟩) (zc pb) 32, .slice am (zc lm) cm] 23] Hv EN rfl (zd (zl _ _)) (zd (zi)) (zw _) rfl fun _ _ Hw EO => ⟨fun _ => EO.pk [0, 1], ?_⟩
   exact h_e ⟨Eo, Hw.sb, EO.pk [0, 1, 2, 3, 4, 5]⟩
  have nd434 : ∀ (ac : Act) (wo : World), Env ac 54 [(3, pt Eb), (5, pt Ea), (6, .bool false), (7, pt Ec), (9, pt Ed), (11, pt Ee), (40, .slice (some ⟨Ea, 0, none⟩) 32 64), (41, .slice (some ⟨Eb, 0, none⟩) 32 32), (42, .slice am (zc lm) cm)] → Ev w [] wo [.box Eb (bys pb) 22, .box Ea (bys sg) 26, .box Ec (zh (toL pb)) 37, .box Ed (zh (toL (zm 32 sg))) 37, .box Ee (zh (nd (lv (zm 32 (zo 32 sg))))) 33] → G 4 #[true, true, true, false, false, false, false] ac wo := by
   intro _ _ EP EQ
   refine Zr hG ?_
   refine QA [3, 5] (by kernel_rfl) rfl ?_
   refine ⟨?_, ?_, trivial⟩
   ·
    rintro _ rfl
    refine ZZ (d := some 43) (t := 72) (T := 23) (m := 3) (parts := #[(0, .slice (some ⟨Ea, 0, none⟩) 32 64), (1, .slice (some ⟨Eb, 0, none⟩) 32 32), (2, .slice am (zc lm) cm)]) (xs := [.slice (some ⟨Ea, 0, none⟩) 32 64, .slice (some ⟨Eb, 0, none⟩) 32 32, .slice am (zc lm) cm]) (sz := 1) EP (by kernel_rfl) (by kernel_rfl) rfl (by decide) EQ ?_
    intro _ _ Hx Hy ER
    refine ⟨fun _ => ER.pk [0, 1], ?_⟩
    exact QF hG (by kernel_rfl) (nd396 _ _ Hx (Hy.sb) (ER.pk [0, 1, 2, 3, 4, 5]))
   rintro _ rfl
   refine m_z 33 (zh (zf 4 0)) EP EQ fun _ _ Hz HA ES => ⟨fun _ => ES.pk [0, 1], ?_⟩
   exact QF hG (by kernel_rfl) (nd413 _ _ Hz (HA.sb) (ES.pk [0, 1, 2, 3, 4, 5]))
  have nd449 : ∀ (ac : Act) (wo : World) (Es : Nat), Env ac 54 [(3, pt Eb), (5, pt Ea), (6, .bool false), (7, pt Ec), (9, pt Ed), (11, pt Ee), (12, pt Es), (40, .slice (some ⟨Ea, 0, none⟩) 32 64), (42, .slice am (zc lm) cm)] → Ev w [] wo [.box Eb (bys pb) 22, .box Ea (bys sg) 26, .box Ec (zh (toL pb)) 37, .box Ed (zh (toL (zm 32 sg))) 37, .box Ee (zh (nd (lv (zm 32 (zo 32 sg))))) 33, .box Es (zh (zf 4 0)) 33] → G 4 #[true, false, true, false, false, true, false] ac wo := by
   intro _ _ Es HB ET
   refine Zr hG ?_
   refine q_t 1 ?_
   refine ZY (d := some 41) (t := 22) (e := 5) (sz := 1) (m := 32) (lo := 0) (hi := 32) (b := Eb) (off := 0) (lov := none) (hiv := none) (o := 0) HB (by kernel_rfl) (by kernel_rfl) (by kernel_rfl) (by omega) (by omega) (by omega) (.inl ⟨rfl, rfl⟩) (.inl ⟨rfl, rfl⟩) (by omega) ?_
   intro _ HC
   refine ⟨fun _ => ET.pk [0, 1], ?_⟩
   refine q_t 3 ?_
   refine ZZ (d := some 43) (t := 72) (T := 23) (m := 3) (parts := #[(0, .slice (some ⟨Ea, 0, none⟩) 32 64), (1, .slice (some ⟨Eb, 0, none⟩) 32 32), (2, .slice am (zc lm) cm)]) (xs := [.slice (some ⟨Ea, 0, none⟩) 32 64, .slice (some ⟨Eb, 0, none⟩) 32 32, .slice am (zc lm) cm]) (sz := 1) HC (by kernel_rfl) (by kernel_rfl) rfl (by decide) ET ?_
   intro _ _ HD HE Ei
   refine ⟨fun _ => Ei.pk [0, 1], ?_⟩
   refine q_t 4 ?_
   rw [show (.slice (some ⟨Ea, 0, none⟩) 32 64 : Value) = .slice (some ⟨Ea, 0, none⟩) (zc (zm 32 sg)) 64 from by rw [show zc (zm 32 sg) = 32 from by first | omega | (simp only [Zb, s3_len, zs, zy, Zj, hpb, hsg]; omega) | (simp only [Zb, s3_len, zs, zy, Zj, hpb, hsg])]] at Ei
   rw [show (.slice (some ⟨Eb, 0, none⟩) 32 32 : Value) = .slice (some ⟨Eb, 0, none⟩) (zc pb) 32 from by rw [show zc pb = 32 from by first | omega | (simp only [Zb, s3_len, zs, zy, Zj, hpb, hsg]; omega) | (simp only [Zb, s3_len, zs, zy, Zj, hpb, hsg])]] at Ei
   refine c_p HE Ei (enumber_go _ (some ⟨HD, 0, none⟩) 3 3 ([⟨some ⟨Ea, 0, none⟩, 64, zm 32 sg⟩, ⟨some ⟨Eb, 0, none⟩, 32, pb⟩, ⟨am, cm, lm⟩] : List (Sl UInt8)) (by first | rfl | (simp; done) | (simp; omega) | omega) ⟨Ei.heap.ro (k := 6) rfl [] (by kernel_rfl) rfl, (fun e => by cases e), (by simp), (by simp), (zE.2 ⟨((QD (Ei.heap.roBox (k := 1) (m := 64) rfl (zr (z7 hsg)) [] (by kernel_rfl) rfl) hsg (by first | decide | (dsimp only; decide))).take 32), (zE.2 ⟨(QD (Ei.heap.roBox (k := 0) (m := 32) rfl (zr (z7 hpb)) [] (by kernel_rfl) rfl) hpb (by first | decide | (dsimp only; decide))), (zE.2 ⟨((im.ev Ei).pick [] (by kernel_rfl)), (fun x h => absurd h ZF)⟩)⟩)⟩)⟩ (zE.2 ⟨(show zc (zm 32 sg) ≤ 140737488353280 from (by first | omega | (simp only [Zb, s3_len, zs, zy, Zj, hpb, hsg]; omega) | (simp only [Zb, s3_len, zs, zy, Zj, hpb, hsg]; decide))), (zE.2 ⟨(show zc pb ≤ 140737488353280 from (by first | omega | (simp only [Zb, s3_len, zs, zy, Zj, hpb, hsg]; omega) | (simp only [Zb, s3_len, zs, zy, Zj, hpb, hsg]; decide))), (zE.2 ⟨(show zc lm ≤ 140737488353280 from (by first | omega | (simp only [Zb, s3_len, zs, zy, Zj, hpb, hsg]; omega) | (simp only [Zb, s3_len, zs, zy, Zj, hpb, hsg]; decide))), (fun x h => absurd h ZF)⟩)⟩)⟩) (b := (zm 32 sg) ++ (pb ++ (lm))) (by simp only [Zz, Z3, ZH]) ((gk32.ev Ei).pick [] (by kernel_rfl)) ((gk64.ev Ei).pick [] (by kernel_rfl))) fun _ _ HF EU => ⟨fun _ => EU.pk [0, 1], ?_⟩
   refine q_t 6 ?_
   refine zZ 5 4 (zh (nd (nE ((zm 32 sg) ++ (pb ++ (lm)))))) _ HF EU rfl (zd (zl _ _)) (zd (zi)) (zw _) rfl fun _ _ HG EV => ⟨fun _ => EV.pk [0, 1], ?_⟩
   exact h_e ⟨Es, HG.sb, EV.pk [0, 1, 2, 3, 4, 5]⟩
  have nd472 : ∀ (ac : Act) (wo : World) (Ep : Nat), Env ac 54 [(3, pt Eb), (5, pt Ea), (6, .bool false), (7, pt Ec), (9, pt Ed), (11, pt Ee), (12, pt Ep), (41, .slice (some ⟨Eb, 0, none⟩) 32 32), (42, .slice am (zc lm) cm)] → Ev w [] wo [.box Eb (bys pb) 22, .box Ea (bys sg) 26, .box Ec (zh (toL pb)) 37, .box Ed (zh (toL (zm 32 sg))) 37, .box Ee (zh (nd (lv (zm 32 (zo 32 sg))))) 33, .box Ep (zh (zf 4 0)) 33] → G 4 #[false, true, true, false, false, true, false] ac wo := by
   intro _ _ Ep HH EW
   refine Zr hG ?_
   refine q_t 0 ?_
   refine ZY (d := some 40) (t := 26) (e := 5) (sz := 1) (m := 64) (lo := 0) (hi := 32) (b := Ea) (off := 0) (lov := none) (hiv := (some (.int .i64 32))) (o := 0) HH (by kernel_rfl) (by kernel_rfl) (by kernel_rfl) (by omega) (by omega) (by omega) (.inl ⟨rfl, rfl⟩) (.inr ⟨.i64, rfl⟩) (by omega) ?_
   intro _ HI
   refine ⟨fun _ => EW.pk [0, 1], ?_⟩
   refine q_t 3 ?_
   refine ZZ (d := some 43) (t := 72) (T := 23) (m := 3) (parts := #[(0, .slice (some ⟨Ea, 0, none⟩) 32 64), (1, .slice (some ⟨Eb, 0, none⟩) 32 32), (2, .slice am (zc lm) cm)]) (xs := [.slice (some ⟨Ea, 0, none⟩) 32 64, .slice (some ⟨Eb, 0, none⟩) 32 32, .slice am (zc lm) cm]) (sz := 1) HI (by kernel_rfl) (by kernel_rfl) rfl (by decide) EW ?_
   intro _ _ EX HJ Ej
   refine ⟨fun _ => Ej.pk [0, 1], ?_⟩
   refine q_t 4 ?_
   rw [show (.slice (some ⟨Ea, 0, none⟩) 32 64 : Value) = .slice (some ⟨Ea, 0, none⟩) (zc (zm 32 sg)) 64 from by rw [show zc (zm 32 sg) = 32 from by first | omega | (simp only [Zb, s3_len, zs, zy, Zj, hpb, hsg]; omega) | (simp only [Zb, s3_len, zs, zy, Zj, hpb, hsg])]] at Ej
   rw [show (.slice (some ⟨Eb, 0, none⟩) 32 32 : Value) = .slice (some ⟨Eb, 0, none⟩) (zc pb) 32 from by rw [show zc pb = 32 from by first | omega | (simp only [Zb, s3_len, zs, zy, Zj, hpb, hsg]; omega) | (simp only [Zb, s3_len, zs, zy, Zj, hpb, hsg])]] at Ej
   refine c_p HJ Ej (enumber_go _ (some ⟨EX, 0, none⟩) 3 3 ([⟨some ⟨Ea, 0, none⟩, 64, zm 32 sg⟩, ⟨some ⟨Eb, 0, none⟩, 32, pb⟩, ⟨am, cm, lm⟩] : List (Sl UInt8)) (by first | rfl | (simp; done) | (simp; omega) | omega) ⟨Ej.heap.ro (k := 6) rfl [] (by kernel_rfl) rfl, (fun e => by cases e), (by simp), (by simp), (zE.2 ⟨((QD (Ej.heap.roBox (k := 1) (m := 64) rfl (zr (z7 hsg)) [] (by kernel_rfl) rfl) hsg (by first | decide | (dsimp only; decide))).take 32), (zE.2 ⟨(QD (Ej.heap.roBox (k := 0) (m := 32) rfl (zr (z7 hpb)) [] (by kernel_rfl) rfl) hpb (by first | decide | (dsimp only; decide))), (zE.2 ⟨((im.ev Ej).pick [] (by kernel_rfl)), (fun x h => absurd h ZF)⟩)⟩)⟩)⟩ (zE.2 ⟨(show zc (zm 32 sg) ≤ 140737488353280 from (by first | omega | (simp only [Zb, s3_len, zs, zy, Zj, hpb, hsg]; omega) | (simp only [Zb, s3_len, zs, zy, Zj, hpb, hsg]; decide))), (zE.2 ⟨(show zc pb ≤ 140737488353280 from (by first | omega | (simp only [Zb, s3_len, zs, zy, Zj, hpb, hsg]; omega) | (simp only [Zb, s3_len, zs, zy, Zj, hpb, hsg]; decide))), (zE.2 ⟨(show zc lm ≤ 140737488353280 from (by first | omega | (simp only [Zb, s3_len, zs, zy, Zj, hpb, hsg]; omega) | (simp only [Zb, s3_len, zs, zy, Zj, hpb, hsg]; decide))), (fun x h => absurd h ZF)⟩)⟩)⟩) (b := (zm 32 sg) ++ (pb ++ (lm))) (by simp only [Zz, Z3, ZH]) ((gk32.ev Ej).pick [] (by kernel_rfl)) ((gk64.ev Ej).pick [] (by kernel_rfl))) fun _ _ HK EY => ⟨fun _ => EY.pk [0, 1], ?_⟩
   refine q_t 6 ?_
   refine zZ 5 4 (zh (nd (nE ((zm 32 sg) ++ (pb ++ (lm)))))) [.box Eb (bys pb) 22, .box Ea (bys sg) 26, .box Ec (zh (toL pb)) 37, .box Ed (zh (toL (zm 32 sg))) 37, .box Ee (zh (nd (lv (zm 32 (zo 32 sg))))) 33, .box Ep (zh (nd (nE ((zm 32 sg) ++ (pb ++ (lm)))))) 33, .vec (some ⟨EX, 0, none⟩) 3 1 [.slice (some ⟨Ea, 0, none⟩) (zc (zm 32 sg)) 64, .slice (some ⟨Eb, 0, none⟩) (zc pb) 32, .slice am (zc lm) cm] 23] HK EY rfl (zd (zl _ _)) (zd (zi)) (zw _) rfl fun _ _ HL EZ => ⟨fun _ => EZ.pk [0, 1], ?_⟩
   exact h_e ⟨Ep, HL.sb, EZ.pk [0, 1, 2, 3, 4, 5]⟩
  have nd495 : ∀ (ac : Act) (wo : World), Env ac 54 [(3, pt Eb), (5, pt Ea), (6, .bool false), (7, pt Ec), (9, pt Ed), (11, pt Ee), (40, .slice (some ⟨Ea, 0, none⟩) 32 64), (42, .slice am (zc lm) cm)] → Ev w [] wo [.box Eb (bys pb) 22, .box Ea (bys sg) 26, .box Ec (zh (toL pb)) 37, .box Ed (zh (toL (zm 32 sg))) 37, .box Ee (zh (nd (lv (zm 32 (zo 32 sg))))) 33] → G 5 #[true, false, true, false, false, false, false] ac wo := by
   intro _ _ E0 Ez
   refine Zr hG ?_
   refine QA [1, 5] (by kernel_rfl) rfl ?_
   refine ⟨?_, ?_, trivial⟩
   ·
    rintro _ rfl
    refine ZY (d := some 41) (t := 22) (e := 5) (sz := 1) (m := 32) (lo := 0) (hi := 32) (b := Eb) (off := 0) (lov := none) (hiv := none) (o := 0) E0 (by kernel_rfl) (by kernel_rfl) (by kernel_rfl) (by omega) (by omega) (by omega) (.inl ⟨rfl, rfl⟩) (.inl ⟨rfl, rfl⟩) (by omega) ?_
    intro _ HM
    refine ⟨fun _ => Ez.pk [0, 1], ?_⟩
    exact QF hG (by kernel_rfl) (nd434 _ _ (HM.sb) (Ez.pk [0, 1, 2, 3, 4]))
   rintro _ rfl
   refine m_z 33 (zh (zf 4 0)) E0 Ez fun _ _ HN HO E1 => ⟨fun _ => E1.pk [0, 1], ?_⟩
   exact QF hG (by kernel_rfl) (nd449 _ _ HN (HO.sb) (E1.pk [0, 1, 2, 3, 4, 5]))
  have nd507 : ∀ (ac : Act) (wo : World), Env ac 54 [(3, pt Eb), (5, pt Ea), (6, .bool false), (7, pt Ec), (9, pt Ed), (11, pt Ee), (41, .slice (some ⟨Eb, 0, none⟩) 32 32), (42, .slice am (zc lm) cm)] → Ev w [] wo [.box Eb (bys pb) 22, .box Ea (bys sg) 26, .box Ec (zh (toL pb)) 37, .box Ed (zh (toL (zm 32 sg))) 37, .box Ee (zh (nd (lv (zm 32 (zo 32 sg))))) 33] → G 5 #[false, true, true, false, false, false, false] ac wo := by
   intro _ _ E2 EA
   refine Zr hG ?_
   refine QA [0, 5] (by kernel_rfl) rfl ?_
   refine ⟨?_, ?_, trivial⟩
   ·
    rintro _ rfl
    refine ZY (d := some 40) (t := 26) (e := 5) (sz := 1) (m := 64) (lo := 0) (hi := 32) (b := Ea) (off := 0) (lov := none) (hiv := (some (.int .i64 32))) (o := 0) E2 (by kernel_rfl) (by kernel_rfl) (by kernel_rfl) (by omega) (by omega) (by omega) (.inl ⟨rfl, rfl⟩) (.inr ⟨.i64, rfl⟩) (by omega) ?_
    intro _ HP
    refine ⟨fun _ => EA.pk [0, 1], ?_⟩
    exact QF hG (by kernel_rfl) (nd434 _ _ (HP.sb) (EA.pk [0, 1, 2, 3, 4]))
   rintro _ rfl
   refine m_z 33 (zh (zf 4 0)) E2 EA fun _ _ HQ HR E3 => ⟨fun _ => E3.pk [0, 1], ?_⟩
   exact QF hG (by kernel_rfl) (nd472 _ _ HQ (HR.sb) (E3.pk [0, 1, 2, 3, 4, 5]))
  have nd519 : ∀ (ac : Act) (wo : World) (Eq : Nat), Env ac 54 [(3, pt Eb), (5, pt Ea), (6, .bool false), (7, pt Ec), (9, pt Ed), (11, pt Ee), (12, pt Eq), (42, .slice am (zc lm) cm)] → Ev w [] wo [.box Eb (bys pb) 22, .box Ea (bys sg) 26, .box Ec (zh (toL pb)) 37, .box Ed (zh (toL (zm 32 sg))) 37, .box Ee (zh (nd (lv (zm 32 (zo 32 sg))))) 33, .box Eq (zh (zf 4 0)) 33] → G 5 #[false, false, true, false, false, true, false] ac wo := by
   intro _ _ Eq E4 Et
   refine Zr hG ?_
   refine QA [0, 1] (by kernel_rfl) rfl ?_
   refine ⟨?_, ?_, trivial⟩
   ·
    rintro _ rfl
    refine ZY (d := some 40) (t := 26) (e := 5) (sz := 1) (m := 64) (lo := 0) (hi := 32) (b := Ea) (off := 0) (lov := none) (hiv := (some (.int .i64 32))) (o := 0) E4 (by kernel_rfl) (by kernel_rfl) (by kernel_rfl) (by omega) (by omega) (by omega) (.inl ⟨rfl, rfl⟩) (.inr ⟨.i64, rfl⟩) (by omega) ?_
    intro _ HS
    refine ⟨fun _ => Et.pk [0, 1], ?_⟩
    exact QF hG (by kernel_rfl) (nd449 _ _ Eq (HS.sb) (Et.pk [0, 1, 2, 3, 4, 5]))
   rintro _ rfl
   refine ZY (d := some 41) (t := 22) (e := 5) (sz := 1) (m := 32) (lo := 0) (hi := 32) (b := Eb) (off := 0) (lov := none) (hiv := none) (o := 0) E4 (by kernel_rfl) (by kernel_rfl) (by kernel_rfl) (by omega) (by omega) (by omega) (.inl ⟨rfl, rfl⟩) (.inl ⟨rfl, rfl⟩) (by omega) ?_
   intro _ HT
   refine ⟨fun _ => Et.pk [0, 1], ?_⟩
   exact QF hG (by kernel_rfl) (nd472 _ _ Eq (HT.sb) (Et.pk [0, 1, 2, 3, 4, 5]))
  refine Zr hG ?_
  refine q_s [2] [] 6 Ey (En.pk [0, 1]) fun _ EB => QA [0, 1, 5] (by kernel_rfl) rfl ?_
  refine ⟨?_, ?_, ?_, trivial⟩
  ·
   rintro _ rfl
   refine ZY (d := some 40) (t := 26) (e := 5) (sz := 1) (m := 64) (lo := 0) (hi := 32) (b := Ea) (off := 0) (lov := none) (hiv := (some (.int .i64 32))) (o := 0) EB (by kernel_rfl) (by kernel_rfl) (by kernel_rfl) (by omega) (by omega) (by omega) (.inl ⟨rfl, rfl⟩) (.inr ⟨.i64, rfl⟩) (by omega) ?_
   intro _ HU
   refine ⟨fun _ => En.pk [0, 1], ?_⟩
   exact QF hG (by kernel_rfl) (nd495 _ _ (HU.sb) (En.pk [0, 1, 2, 3, 4]))
  ·
   rintro _ rfl
   refine ZY (d := some 41) (t := 22) (e := 5) (sz := 1) (m := 32) (lo := 0) (hi := 32) (b := Eb) (off := 0) (lov := none) (hiv := none) (o := 0) EB (by kernel_rfl) (by kernel_rfl) (by kernel_rfl) (by omega) (by omega) (by omega) (.inl ⟨rfl, rfl⟩) (.inl ⟨rfl, rfl⟩) (by omega) ?_
   intro _ HV
   refine ⟨fun _ => En.pk [0, 1], ?_⟩
   exact QF hG (by kernel_rfl) (nd507 _ _ (HV.sb) (En.pk [0, 1, 2, 3, 4]))
  rintro _ rfl
  refine m_z 33 (zh (zf 4 0)) EB En fun _ _ HW HX E5 => ⟨fun _ => E5.pk [0, 1], ?_⟩
  exact QF hG (by kernel_rfl) (nd519 _ _ HW (HX.sb) (E5.pk [0, 1, 2, 3, 4, 5]))
 rintro _ _ ⟨Em, HY, E6⟩
 refine ze <| wp_seq <| r_c (fun ac wo => Env ac 54 [(3, pt Eb), (5, pt Ea), (6, .bool (Jf (k1 (tmF Q6 (nv (nd (lv (zm 32 (zo 32 sg))))) 64)) (k2 (tmF Q6 (nv (nd (lv (zm 32 (zo 32 sg))))) 64)) (k3 (tmF Q6 (nv (nd (lv (zm 32 (zo 32 sg))))) 64)) (k1 (wtE (toL (zm 32 sg)) (tmF (toL pb) (nv (nd (nE ((zm 32 sg) ++ (pb ++ (lm)))))) 64))) (k2 (wtE (toL (zm 32 sg)) (tmF (toL pb) (nv (nd (nE ((zm 32 sg) ++ (pb ++ (lm)))))) 64))) (k3 (wtE (toL (zm 32 sg)) (tmF (toL pb) (nv (nd (nE ((zm 32 sg) ++ (pb ++ (lm)))))) 64))))), (7, pt Ec), (9, pt Ed), (11, pt Ee), (12, pt Em)] ∧ Ev w [] wo [.box Eb (bys pb) 22, .box Ea (bys sg) 26, .box Ec (zh (toL pb)) 37, .box Ed (zh (toL (zm 32 sg))) 37, .box Ee (zh (nd (lv (zm 32 (zo 32 sg))))) 33, .box Em (zh (nd (nE ((zm 32 sg) ++ (pb ++ (lm)))))) 33]) ?_ ?_
 ·
  refine s_g0 [(3, pt Eb), (5, pt Ea), (7, pt Ec), (9, pt Ed), (11, pt Ee), (12, pt Em)] [0,1,2,3,4,5,6,7,8,9] [(6, .bool (Jf (k1 (tmF Q6 (nv (nd (lv (zm 32 (zo 32 sg))))) 64)) (k2 (tmF Q6 (nv (nd (lv (zm 32 (zo 32 sg))))) 64)) (k3 (tmF Q6 (nv (nd (lv (zm 32 (zo 32 sg))))) 64)) (k1 (wtE (toL (zm 32 sg)) (tmF (toL pb) (nv (nd (nE ((zm 32 sg) ++ (pb ++ (lm)))))) 64))) (k2 (wtE (toL (zm 32 sg)) (tmF (toL pb) (nv (nd (nE ((zm 32 sg) ++ (pb ++ (lm)))))) 64))) (k3 (wtE (toL (zm 32 sg)) (tmF (toL pb) (nv (nd (nE ((zm 32 sg) ++ (pb ++ (lm)))))) 64))))), (45, .agg (zg (zh Q6))), (46, .agg (zg (zh (nd (lv (zm 32 (zo 32 sg))))))), (47, .agg (zg (zh (tmF Q6 (nv (nd (lv (zm 32 (zo 32 sg))))) 64)))), (48, .agg (zg (zh (toL (zm 32 sg))))), (49, .agg (zg (zh (toL pb)))), (50, .agg (zg (zh (nd (nE ((zm 32 sg) ++ (pb ++ (lm)))))))), (51, .agg (zg (zh (tmF (toL pb) (nv (nd (nE ((zm 32 sg) ++ (pb ++ (lm)))))) 64)))), (52, .agg (zg (zh (wtE (toL (zm 32 sg)) (tmF (toL pb) (nv (nd (nE ((zm 32 sg) ++ (pb ++ (lm)))))) 64))))), (53, .bool (Jf (k1 (tmF Q6 (nv (nd (lv (zm 32 (zo 32 sg))))) 64)) (k2 (tmF Q6 (nv (nd (lv (zm 32 (zo 32 sg))))) 64)) (k3 (tmF Q6 (nv (nd (lv (zm 32 (zo 32 sg))))) 64)) (k1 (wtE (toL (zm 32 sg)) (tmF (toL pb) (nv (nd (nE ((zm 32 sg) ++ (pb ++ (lm)))))) 64))) (k2 (wtE (toL (zm 32 sg)) (tmF (toL pb) (nv (nd (nE ((zm 32 sg) ++ (pb ++ (lm)))))) 64))) (k3 (wtE (toL (zm 32 sg)) (tmF (toL pb) (nv (nd (nE ((zm 32 sg) ++ (pb ++ (lm)))))) 64)))))] 0 [(3, pt Eb), (5, pt Ea), (6, .bool (Jf (k1 (tmF Q6 (nv (nd (lv (zm 32 (zo 32 sg))))) 64)) (k2 (tmF Q6 (nv (nd (lv (zm 32 (zo 32 sg))))) 64)) (k3 (tmF Q6 (nv (nd (lv (zm 32 (zo 32 sg))))) 64)) (k1 (wtE (toL (zm 32 sg)) (tmF (toL pb) (nv (nd (nE ((zm 32 sg) ++ (pb ++ (lm)))))) 64))) (k2 (wtE (toL (zm 32 sg)) (tmF (toL pb) (nv (nd (nE ((zm 32 sg) ++ (pb ++ (lm)))))) 64))) (k3 (wtE (toL (zm 32 sg)) (tmF (toL pb) (nv (nd (nE ((zm 32 sg) ++ (pb ++ (lm)))))) 64))))), (7, pt Ec), (9, pt Ed), (11, pt Ee), (12, pt Em)] (HY.sb) (E6.trans (zS E6.heap)) ?_ fun _ _ HZ H0 => ?_
  ·
   refine s_f (fun _ => base_go _) ?_
   refine s_a 4 0 4 (zh (nd (lv (zm 32 (zo 32 sg))))) rfl (zr (zd (zl _ _))) (zd (zl _ _)) <| s_f (fun _ => Kd _ Q6 (nd (lv (zm 32 (zo 32 sg)))) (ptL_len _ _) (zl _ _)) ?_
   refine s_a 3 0 16 (zh (toL (zm 32 sg))) rfl (zr (zd (Xr _))) (zd (Xr _)) <| s_a 2 0 16 (zh (toL pb)) rfl (zr (zd (Xr _))) (zd (Xr _)) <| s_a 5 0 4 (zh (nd (nE ((zm 32 sg) ++ (pb ++ (lm)))))) rfl (zr (zd (zl _ _))) (zd (zl _ _)) <| s_f (fun _ => Kd _ (toL pb) (nd (nE ((zm 32 sg) ++ (pb ++ (lm))))) (Xr _) (zl _ _)) ?_
   refine s_f (fun _ => with16_go _ (toL (zm 32 sg)) (tmF (toL pb) (nv (nd (nE ((zm 32 sg) ++ (pb ++ (lm)))))) 64) (Xr _) (tmF_len _ _ _)) ?_
   refine s_f (fun _ => same16_go _ (tmF Q6 (nv (nd (lv (zm 32 (zo 32 sg))))) 64) (wtE (toL (zm 32 sg)) (tmF (toL pb) (nv (nd (nE ((zm 32 sg) ++ (pb ++ (lm)))))) 64)) (tmF_len _ _ _) (wtE_len _ _)) ?_
   refine s_p [] ?_
   exact s_n
  exact a_e ⟨HZ.sb, H0.pk [0, 1, 2, 3, 4, 5]⟩
 rintro _ _ ⟨H1, H2⟩
 refine ze <| wp_ret <| Qh (t := 6) (v := .bool (Jf (k1 (tmF Q6 (nv (nd (lv (zm 32 (zo 32 sg))))) 64)) (k2 (tmF Q6 (nv (nd (lv (zm 32 (zo 32 sg))))) 64)) (k3 (tmF Q6 (nv (nd (lv (zm 32 (zo 32 sg))))) 64)) (k1 (wtE (toL (zm 32 sg)) (tmF (toL pb) (nv (nd (nE ((zm 32 sg) ++ (pb ++ (lm)))))) 64))) (k2 (wtE (toL (zm 32 sg)) (tmF (toL pb) (nv (nd (nE ((zm 32 sg) ++ (pb ++ (lm)))))) 64))) (k3 (wtE (toL (zm 32 sg)) (tmF (toL pb) (nv (nd (nE ((zm 32 sg) ++ (pb ++ (lm)))))) 64))))) H1 (by kernel_rfl) (by kernel_rfl) ?_
 have hy : lv (hfS sg) < mF 4 := (by have h := El; have e : nv (nd (lv (hfS sg))) = lv (hfS sg) := QI (lv_w (hS_len hsg)); unfold hfS at e ⊢; rw [e] at h; simpa using h)
 exact ⟨congrArg (fun t : Bool => Ending.returned (.bool t)) (ver_yes hsg hp93 hp104 hy rfl rfl), H2.pk []⟩
end Go.Proofs.YtlnogkmnklfjlaaGreatDoor
