import Derived.Test.YtlnogkmnklfjlaaGreatDoorSg11
import Derived.Test.YtlnogkmnklfjlaaGreatDoorSg6
import Derived.Test.YtlnogkmnklfjlaaGreatDoorSg7
import Derived.Test.YtlnogkmnklfjlaaGreatDoorSg9
import Derived.Test.YtlnogkmnklfjlaaGreatDoorSg2
import Derived.Test.YtlnogkmnklfjlaaGreatDoorSg10
open List renaming getD → za, length → zb, replicate → zd, toArray → zg, length_replicate → zi, take → zn, drop → zo, set → zp, length_take → zs, length_drop → zu, forall_mem_cons → zA, length_cons → zX, not_mem_nil → Zs, take_of_length_le → Zt, length_nil → ZH, map_append → ZI, length_set → ZV, flatMap → ZY, mem_of_getElem? → Q0, map_take → Yu, drop_length → Y7, map_drop → Je
open UInt64 renaming ofNat → zc, toUInt8 → zj
open Go.Dbr renaming then_normal → ze, u64s_lenh → zf, u64s → zh, region_from → zk, uv64 → zm, load_whole → zq, u64s_one → zt, block_normal → zv, then_exit → zy, loop_once → zF, bys_lenh → zH, block_exit → zL, run_loadAgg2 → zM, m_gw → zQ, seg_skip → zR, bys_append → Zd, bys_one → Zj, op_append → Zk, h_from → Zl, u32s_lenh → Zz, bys_len → ZD, u32s → ZG, op_lit → ZO, op_slicearr → ZQ, loop_m → ZR, bys_getD → Z9, cutAt → Q3, bys_vcap → Yd, op_slice → YV, seg_in → Ja, copy_len → Ks
open Go.Proofs.YtlnogkmnklfjlaaGreatDoor renaming nds_len → zl, puE_len → zD, lb_len → zY, fromle_go → XR
open Go.Dbr.Ev renaming cellAgg → zB, drew → zO
open Nat renaming mul_comm → zZ, add_mul → Zo, mul_one → ZA, mod_lt → ZL, zero_add → Qp
open Go.Proofs.YtlnogkmnklfjlaaGreatDoor.Sh renaming restH → Zb, sizeOfH → QQ, padH → Yz, S32_len → YJ, S64_len → YK, out64_len → J7, sumF → XD
open Go.Dbr.Reads renaming src → Zg
open Option renaming map_some → Z7
namespace Go.Proofs.YtlnogkmnklfjlaaGreatDoor.Sh
open Go.Dbr
set_option maxRecDepth 100000
set_option maxHeartbeats 2000000
set_option linter.unusedVariables false
set_option linter.unusedSimpArgs false
theorem sum64_go (w : World) (bd : Nat) (h : Int) (hh2 : h = 2 ∨ h = 3) (al : List UInt8) (ar : Option Addr) (cr : Nat) (gk32 : InU32 w [.box bd (([.int .i64 h] : List Value) ++ ((ZG (S32 h al)) ++ ((zh (S64 h al)) ++ ([.slice ar (zb (Zb h al)) cr, zm (zc (zb al))] : List Value)))) 115, .vec ar cr 1 (bys (Zb h al)) 5] (some ⟨0, 0, none⟩) 64 K32) (gk64 : InU64 w [.box bd (([.int .i64 h] : List Value) ++ ((ZG (S32 h al)) ++ ((zh (S64 h al)) ++ ([.slice ar (zb (Zb h al)) cr, zm (zc (zb al))] : List Value)))) 115, .vec ar cr 1 (bys (Zb h al)) 5] (some ⟨1, 0, none⟩) 80 K64) (hH : Heap w [.box bd (([.int .i64 h] : List Value) ++ ((ZG (S32 h al)) ++ ((zh (S64 h al)) ++ ([.slice ar (zb (Zb h al)) cr, zm (zc (zb al))] : List Value)))) 115, .vec ar cr 1 (bys (Zb h al)) 5]) : Calls Tryz.prog 74 #[pt bd] w fun e w' => ∃ ao co, e = .returned (.slice ao (zb (XD h al)) co) ∧ Ev w [.box bd (([.int .i64 h] : List Value) ++ ((ZG (S32 h al)) ++ ((zh (S64 h al)) ++ ([.slice ar (zb (Zb h al)) cr, zm (zc (zb al))] : List Value)))) 115, .vec ar cr 1 (bys (Zb h al)) 5] w' [.box bd (([.int .i64 h] : List Value) ++ ((ZG (S32 h al)) ++ ((zh (S64 h al)) ++ ([.slice ar (zb (Zb h al)) cr, zm (zc (zb al))] : List Value)))) 115, .vec ar cr 1 (bys (Zb h al)) 5, .vec ao co 1 (bys (XD h al)) 5] := by
 have hrl := restH_lt h al
 have hrl2 := restH_le h al
 refine d_0 [(0, pt bd)] 95 Go.Proofs.Tryz.func74 Go.Proofs.Tryz.ntmps74 (hH) fun bw bx bz => wp_seq <| d_r [0,2] [] bx fun _ bA => ze <| wp_seq <| zk <| d_k [0,2,9] [] 1 bA fun _ bB => f_o <| c_l [0,1] (M := [.box bd (([.int .i64 h] : List Value) ++ ((ZG (S32 h al)) ++ ((zh (S64 h al)) ++ ([.slice ar (zb (Zb h al)) cr, zm (zc (zb al))] : List Value)))) 115, .vec ar cr 1 (bys (Zb h al)) 5]) bB bz (fun hM6 => clone_go _ bd h al ar cr hM6) ?_
 rintro _ _ ⟨bq5, Ef, Eg, rfl, bC⟩
 refine ⟨_, _, [.box bd (([.int .i64 h] : List Value) ++ ((ZG (S32 h al)) ++ ((zh (S64 h al)) ++ ([.slice ar (zb (Zb h al)) cr, zm (zc (zb al))] : List Value)))) 115, .vec ar cr 1 (bys (Zb h al)) 5, .box bq5 (([.int .i64 h] : List Value) ++ ((ZG (S32 h al)) ++ ((zh (S64 h al)) ++ ([.slice Ef (zb (Zb h al)) Eg, zm (zc (zb al))] : List Value)))) 115, .vec Ef Eg 1 (bys (Zb h al)) 5], rfl, bC, by kernel_rfl, fun _ aI He => ?_⟩
 refine d_e [0,2,3] [] aI fun _ aJ => ze <| wp_seq <| zk <| d_k [0,2,3,13] [] 3 aJ fun _ aK => f_o <| m_v 0 0 (.int .i64 h) aK He rfl (Ja rfl) fun _ aL => f_o <| c_p aL He (block_go23 _ h hh2) fun _ _ aM aN => ?_
 refine d_e [0,2,3,4] [] aM fun _ aO => ze <| wp_seq <| zk <| d_k [0,2,3,4,17] [] 2 aO fun _ aP => f_o <| op_makecap (d := some 18) (t := 23) (T := 5) (q := 1) (m := 256) (kl := .i64) (kc := .i64) (z := .int .u8 0) (bytes := 1) aP (by kernel_rfl) aN (by kernel_rfl) (by kernel_rfl) (by kernel_rfl) (by omega) (by omega) (by unfold maxLen; omega) ?_
 intro _ _ Ei aQ Hf
 rw [show zd 1 (Value.int .u8 0) = bys (zd 1 0) from (bys_replicate _).symm] at Hf
 refine d_e [0,2,3,4,5] [] aQ fun _ aR => ze <| wp_seq ?_
 have aS : 0 < 1 := (by omega)
 refine zk <| d_k [0,2,3,4,5,19] [] 1 aR fun _ aT => f_o <| q_v (x := Instr.indexAt 23 (.slice (some ⟨Ei, 0, none⟩) 1 256) (.int .i64 0)) (v := .pointer (some (Addr.add ⟨Ei, 0, none⟩ 0))) aT (Go.Dbr.run_indexsl (e := 5) (sz := 1) (j := 0) (jo := 0) rfl (by kernel_rfl) (by kernel_rfl) (by omega) aS (ZA _) _) fun _ aU => f_o <| op_storeel (d := none) (t := 5) (ad := ⟨Ei, 0, none⟩) (ao := some ⟨Ei, 0, none⟩) (k := 4) (cap := 256) (sz := 1) (j := 0) (xs := bys (zd 1 0)) (v := bv (128 : UInt8)) aU (by kernel_rfl) Hf rfl rfl (by rw [bys_length]; first | omega | (simp; done) | (simp; omega)) (by kernel_rfl) rfl ?_
 intro _ aV  aW Eu
 rw [bys_set] at Eu
 refine f_e ?_
 replace Eu : Ev w [.box bd (([.int .i64 h] : List Value) ++ ((ZG (S32 h al)) ++ ((zh (S64 h al)) ++ ([.slice ar (zb (Zb h al)) cr, zm (zc (zb al))] : List Value)))) 115, .vec ar cr 1 (bys (Zb h al)) 5] aV [.box bd (([.int .i64 h] : List Value) ++ ((ZG (S32 h al)) ++ ((zh (S64 h al)) ++ ([.slice ar (zb (Zb h al)) cr, zm (zc (zb al))] : List Value)))) 115, .vec ar cr 1 (bys (Zb h al)) 5, .box bq5 (([.int .i64 h] : List Value) ++ ((ZG (S32 h al)) ++ ((zh (S64 h al)) ++ ([.slice Ef (zb (Zb h al)) Eg, zm (zc (zb al))] : List Value)))) 115, .vec Ef Eg 1 (bys (Zb h al)) 5, .vec (some ⟨Ei, 0, none⟩) 256 1 (bys ([128] : List UInt8)) 5] := Eu
 refine ze <| wp_seq <| wp_block <| ZR (fun aX ac wo => ∃ (j : Nat) (ae : Option Addr) (ce : Nat) (el : List UInt8), aX = (pdZ 128 (zb (Zb h al)) - j : Nat) ∧ Env ac 95 [(0, pt bd), (2, .slice none 0 0), (3, pt bq5), (4, .int .i64 128), (5, .slice ae (zb el) ce)] ∧ Ev w [.box bd (([.int .i64 h] : List Value) ++ ((ZG (S32 h al)) ++ ((zh (S64 h al)) ++ ([.slice ar (zb (Zb h al)) cr, zm (zc (zb al))] : List Value)))) 115, .vec ar cr 1 (bys (Zb h al)) 5] wo [.vec ae ce 1 (bys el) 5, .box bd (([.int .i64 h] : List Value) ++ ((ZG (S32 h al)) ++ ((zh (S64 h al)) ++ ([.slice ar (zb (Zb h al)) cr, zm (zc (zb al))] : List Value)))) 115, .vec ar cr 1 (bys (Zb h al)) 5, .box bq5 (([.int .i64 h] : List Value) ++ ((ZG (S32 h al)) ++ ((zh (S64 h al)) ++ ([.slice Ef (zb (Zb h al)) Eg, zm (zc (zb al))] : List Value)))) 115, .vec Ef Eg 1 (bys (Zb h al)) 5] ∧ (j ≤ pdZ 128 (zb (Zb h al))) ∧ (el = ([128] : List UInt8) ++ zd j 0)) ⟨_, 0, some ⟨Ei, 0, none⟩, 256, ([128] : List UInt8), rfl, aW.sb, Eu.pk [4, 0, 1, 2, 3], Nat.zero_le _, rfl⟩ ?_
 rintro bD _ _ ⟨j, ae, ce, el, rfl, aY, E4, hj, heel⟩
 refine wp_seq <| wp_seq ?_
 have hel : zb el = 1 + j := by rw [heel]; simp; omega
 have hpz : pdZ 128 (zb (Zb h al)) < 128 := ZL _ (by decide)
 refine zk <| d_k [0,2,3,4,5,23] [] 3 aY fun _ aZ => f_o <| m_v 1 17 (.slice ar (zb (Zb h al)) cr) aZ E4 rfl (zR (n := 1) (j := 16) rfl (zR (n := 8) (j := 8) (Zz (YJ _ _)) (zR (n := 8) (j := 0) (zf (YK _ _)) rfl))) fun _ a0 => d_e [0,2,3,4,5,34] [(7, g_n (w_a (zb (Zb h al)) (zb el))), (10, g_n (w_a ((zb (Zb h al)) + (zb el)) 16)), (12, g_i .i64 (show Int.tmod ((((zb (Zb h al)) + (zb el)) + 16 : Nat) : Int) (128 : Int) = (((((zb (Zb h al)) + (zb el)) + 16) % 128 : Nat) : Int) from Go.Dbr.i64_rem_nat (a := ((((zb (Zb h al)) + (zb el)) + 16 : Nat) : Int)) (n := ((zb (Zb h al)) + (zb el)) + 16) (m := 128) rfl (by omega)))] a0 fun _ E5 => ?_
 refine ze <| c_n (((((zb (Zb h al)) + (zb el)) + 16) % 128 : Nat) : Int) (0 : Int) E5 (fun a1 => ?_) (fun a1 => ?_)
 ·
  refine wp_skip <| ze <| wp_block ?_
  have hpz : pdZ 128 (zb (Zb h al)) < 128 := ZL _ (by decide)
  refine zk <| d_k [0,2,3,4,5,35] [] 1 E5 fun _ a2 => f_o <| ZO (d := some 36) (t := 23) (T := 5) (m := 1) (parts := #[(0, .int .u8 0)]) (xs := bys [(0 : UInt8)]) (sz := 1) a2 (by kernel_rfl) (by kernel_rfl) rfl (by decide) E4 ?_
  intro _ _ a3 a4 Hg
  refine f_o <| Zk (d := some 37) (t := 23) (tx := 23) (ty := 23) (k := 0) (p := zb el) (m := 1) (x := .slice (some ⟨a3, 0, none⟩) 1 1) (bytes := 1) a4 (by kernel_rfl) Hg rfl (ZD _) (Zg (size := 1) (tx := 23) (e' := 5) (by kernel_rfl) (Hg.heap.reads (k := 5) rfl) rfl (fun e => by cases e) (Zj _)) (by kernel_rfl) (z := .int .u8 0) (by kernel_rfl) rfl (by decide) (by omega) (by unfold maxLen; omega) ?_
  intro _ _ a5 a6 Hh Hi hnz _
  clear hnz
  rw [← Zd] at Hi
  have Hj : (zb el) + 1 = zb (el ++ [(0 : UInt8)]) := (by first | (simp; done) | (simp; omega) | omega)
  rw [Hj] at Hh
  refine d_e [0,2,3,4,5] [] Hh fun _ a8 => zv <| ze <| ⟨_, ⟨j + 1, a5, a6, (el ++ [(0 : UInt8)]), rfl, a8.sb, Hi.pk [0, 1, 2, 3, 4], by unfold pdZ at *; omega, by rw [heel]; exact end_step⟩, ?_⟩
  unfold pdZ at *; omega
 refine wp_exit <| zy <| zy <| zL <| ze <| wp_seq ?_
 have hel : zb el = 1 + j := by rw [heel]; simp; omega
 have hjp : j = pdZ 128 (zb (Zb h al)) := by unfold pdZ at *; omega
 have hpz : pdZ 128 (zb (Zb h al)) < 128 := ZL _ (by decide)
 refine zk <| d_k [0,2,3,4,5,38,41] [] 4 E5 fun _ a9 => f_o <| op_appzeros (d := some 42) (t := 23) (tn := 3) (tx := 9) (ty := 23) (T := 5) (kn := .i64) (ik := .i64) (k := 0) (p := zb el) (m := 8) (xs := el) a9 (by kernel_rfl) E4 rfl rfl (by kernel_rfl) (by kernel_rfl) (by kernel_rfl) (by kernel_rfl) (by omega) ?_
 intro _ _ bE bF Hk Hl hnz _
 clear hnz
 have Hm : (zb el) + 8 = zb (el ++ zd 8 0) := (by first | (simp; done) | (simp; omega) | omega)
 rw [Hm] at Hk
 refine d_e [0,2,3,4,5] [] Hk fun _ ba => ze <| wp_seq <| wp_seq <| d_r [0,2,3,4,5,6] [] ba fun _ bb => ze <| wp_block <| loop_enter ?_
 refine zF <| wp_seq <| wp_seq <| d_r [0,2,3,4,5,6,44] [] bb fun _ Hn => ze <| c_t Hn ?_
 refine wp_skip <| ze <| wp_seq <| wp_block <| zk <| d_k [0,2,3,4,5,6,47,50] [] 4 Hn fun _ bc => f_o <| m_v 1 18 (zm (zc (zb al))) bc Hl rfl (zR (n := 1) (j := 17) rfl (zR (n := 8) (j := 9) (Zz (YJ _ _)) (zR (n := 8) (j := 1) (zf (YK _ _)) rfl))) fun _ be => d_k [0,2,3,4,5,6,47,56] [(5, g_i .u64 (Go.Dbr.u64_mul (x := zc (zb al)) (y := (8 : UInt64)) rfl rfl)), (8, g_i .u64 (Go.Dbr.u64_shr (x := (zc (zb al)) * (8 : UInt64)) (n := 56) rfl (by decide))), (9, g_i .u8 (Go.Dbr.u64_to_u8 (x := ((zc (zb al)) * (8 : UInt64)) >>> zc 56) rfl))] 10 be fun _ bf => f_o <| ZO (d := some 57) (t := 23) (T := 5) (m := 1) (parts := #[(0, bv (zj (((zc (zb al)) * (8 : UInt64)) >>> zc 56)))]) (xs := bys [zj (((zc (zb al)) * (8 : UInt64)) >>> zc 56)]) (sz := 1) bf (by kernel_rfl) (by kernel_rfl) rfl (by decide) Hl ?_
 intro _ _ Ew Ho Ex
 refine f_o <| Zk (d := some 58) (t := 23) (tx := 23) (ty := 23) (k := 0) (p := zb (el ++ zd 8 0)) (m := 1) (x := .slice (some ⟨Ew, 0, none⟩) 1 1) (bytes := 1) Ho (by kernel_rfl) Ex rfl (ZD _) (Zg (size := 1) (tx := 23) (e' := 5) (by kernel_rfl) (Ex.heap.reads (k := 5) rfl) rfl (fun e => by cases e) (Zj _)) (by kernel_rfl) (z := .int .u8 0) (by kernel_rfl) rfl (by decide) (by omega) (by unfold maxLen; omega) ?_
 intro _ _ bg bh Ey Ej hnz _
 clear hnz
 rw [← Zd] at Ej
 have E6 : (zb (el ++ zd 8 0)) + 1 = zb ((el ++ zd 8 0) ++ [zj (((zc (zb al)) * (8 : UInt64)) >>> zc 56)]) := (by first | (simp; done) | (simp; omega) | omega)
 rw [E6] at Ey
 refine d_e [0,2,3,4,5,6] [] Ey fun _ Hp => zv <| ze <| d_r [0,2,3,4,5,6] [] Hp fun _ Hq => ze <| zF <| wp_seq <| wp_seq <| d_r [0,2,3,4,5,6,44] [] Hq fun _ Ez => ze <| c_t Ez ?_
 refine wp_skip <| ze <| wp_seq <| wp_block <| zk <| d_k [0,2,3,4,5,6,47,50] [] 4 Ez fun _ Hr => f_o <| m_v 1 18 (zm (zc (zb al))) Hr Ej rfl (zR (n := 1) (j := 17) rfl (zR (n := 8) (j := 9) (Zz (YJ _ _)) (zR (n := 8) (j := 1) (zf (YK _ _)) rfl))) fun _ Hs => d_k [0,2,3,4,5,6,47,56] [(5, g_i .u64 (Go.Dbr.u64_mul (x := zc (zb al)) (y := (8 : UInt64)) rfl rfl)), (8, g_i .u64 (Go.Dbr.u64_shr (x := (zc (zb al)) * (8 : UInt64)) (n := 48) rfl (by decide))), (9, g_i .u8 (Go.Dbr.u64_to_u8 (x := ((zc (zb al)) * (8 : UInt64)) >>> zc 48) rfl))] 10 Hs fun _ Ht => f_o <| ZO (d := some 57) (t := 23) (T := 5) (m := 1) (parts := #[(0, bv (zj (((zc (zb al)) * (8 : UInt64)) >>> zc 48)))]) (xs := bys [zj (((zc (zb al)) * (8 : UInt64)) >>> zc 48)]) (sz := 1) Ht (by kernel_rfl) (by kernel_rfl) rfl (by decide) Ej ?_
 intro _ _ EA Hu EB
 refine f_o <| Zk (d := some 58) (t := 23) (tx := 23) (ty := 23) (k := 0) (p := zb ((el ++ zd 8 0) ++ [zj (((zc (zb al)) * (8 : UInt64)) >>> zc 56)])) (m := 1) (x := .slice (some ⟨EA, 0, none⟩) 1 1) (bytes := 1) Hu (by kernel_rfl) EB rfl (ZD _) (Zg (size := 1) (tx := 23) (e' := 5) (by kernel_rfl) (EB.heap.reads (k := 6) rfl) rfl (fun e => by cases e) (Zj _)) (by kernel_rfl) (z := .int .u8 0) (by kernel_rfl) rfl (by decide) (by omega) (by unfold maxLen; omega) ?_
 intro _ _ bi bj EC Ek hnz _
 clear hnz
 rw [← Zd] at Ek
 have E7 : (zb ((el ++ zd 8 0) ++ [zj (((zc (zb al)) * (8 : UInt64)) >>> zc 56)])) + 1 = zb (((el ++ zd 8 0) ++ [zj (((zc (zb al)) * (8 : UInt64)) >>> zc 56)]) ++ [zj (((zc (zb al)) * (8 : UInt64)) >>> zc 48)]) := (by first | (simp; done) | (simp; omega) | omega)
 rw [E7] at EC
 refine d_e [0,2,3,4,5,6] [] EC fun _ Hv => zv <| ze <| d_r [0,2,3,4,5,6] [] Hv fun _ Hw => ze <| zF <| wp_seq <| wp_seq <| d_r [0,2,3,4,5,6,44] [] Hw fun _ ED => ze <| c_t ED ?_
 refine wp_skip <| ze <| wp_seq <| wp_block <| zk <| d_k [0,2,3,4,5,6,47,50] [] 4 ED fun _ Hx => f_o <| m_v 1 18 (zm (zc (zb al))) Hx Ek rfl (zR (n := 1) (j := 17) rfl (zR (n := 8) (j := 9) (Zz (YJ _ _)) (zR (n := 8) (j := 1) (zf (YK _ _)) rfl))) fun _ Hy => d_k [0,2,3,4,5,6,47,56] [(5, g_i .u64 (Go.Dbr.u64_mul (x := zc (zb al)) (y := (8 : UInt64)) rfl rfl)), (8, g_i .u64 (Go.Dbr.u64_shr (x := (zc (zb al)) * (8 : UInt64)) (n := 40) rfl (by decide))), (9, g_i .u8 (Go.Dbr.u64_to_u8 (x := ((zc (zb al)) * (8 : UInt64)) >>> zc 40) rfl))] 10 Hy fun _ Hz => f_o <| ZO (d := some 57) (t := 23) (T := 5) (m := 1) (parts := #[(0, bv (zj (((zc (zb al)) * (8 : UInt64)) >>> zc 40)))]) (xs := bys [zj (((zc (zb al)) * (8 : UInt64)) >>> zc 40)]) (sz := 1) Hz (by kernel_rfl) (by kernel_rfl) rfl (by decide) Ek ?_
 intro _ _ EE HA EF
 refine f_o <| Zk (d := some 58) (t := 23) (tx := 23) (ty := 23) (k := 0) (p := zb (((el ++ zd 8 0) ++ [zj (((zc (zb al)) * (8 : UInt64)) >>> zc 56)]) ++ [zj (((zc (zb al)) * (8 : UInt64)) >>> zc 48)])) (m := 1) (x := .slice (some ⟨EE, 0, none⟩) 1 1) (bytes := 1) HA (by kernel_rfl) EF rfl (ZD _) (Zg (size := 1) (tx := 23) (e' := 5) (by kernel_rfl) (EF.heap.reads (k := 7) rfl) rfl (fun e => by cases e) (Zj _)) (by kernel_rfl) (z := .int .u8 0) (by kernel_rfl) rfl (by decide) (by omega) (by unfold maxLen; omega) ?_
 intro _ _ bk bl EG El hnz _
 clear hnz
 rw [← Zd] at El
 have E8 : (zb (((el ++ zd 8 0) ++ [zj (((zc (zb al)) * (8 : UInt64)) >>> zc 56)]) ++ [zj (((zc (zb al)) * (8 : UInt64)) >>> zc 48)])) + 1 = zb ((((el ++ zd 8 0) ++ [zj (((zc (zb al)) * (8 : UInt64)) >>> zc 56)]) ++ [zj (((zc (zb al)) * (8 : UInt64)) >>> zc 48)]) ++ [zj (((zc (zb al)) * (8 : UInt64)) >>> zc 40)]) := (by first | (simp; done) | (simp; omega) | omega)
 rw [E8] at EG
 refine d_e [0,2,3,4,5,6] [] EG fun _ HB => zv <| ze <| d_r [0,2,3,4,5,6] [] HB fun _ HC => ze <| zF <| wp_seq <| wp_seq <| d_r [0,2,3,4,5,6,44] [] HC fun _ EH => ze <| c_t EH ?_
 refine wp_skip <| ze <| wp_seq <| wp_block <| zk <| d_k [0,2,3,4,5,6,47,50] [] 4 EH fun _ HD => f_o <| m_v 1 18 (zm (zc (zb al))) HD El rfl (zR (n := 1) (j := 17) rfl (zR (n := 8) (j := 9) (Zz (YJ _ _)) (zR (n := 8) (j := 1) (zf (YK _ _)) rfl))) fun _ HE => d_k [0,2,3,4,5,6,47,56] [(5, g_i .u64 (Go.Dbr.u64_mul (x := zc (zb al)) (y := (8 : UInt64)) rfl rfl)), (8, g_i .u64 (Go.Dbr.u64_shr (x := (zc (zb al)) * (8 : UInt64)) (n := 32) rfl (by decide))), (9, g_i .u8 (Go.Dbr.u64_to_u8 (x := ((zc (zb al)) * (8 : UInt64)) >>> zc 32) rfl))] 10 HE fun _ HF => f_o <| ZO (d := some 57) (t := 23) (T := 5) (m := 1) (parts := #[(0, bv (zj (((zc (zb al)) * (8 : UInt64)) >>> zc 32)))]) (xs := bys [zj (((zc (zb al)) * (8 : UInt64)) >>> zc 32)]) (sz := 1) HF (by kernel_rfl) (by kernel_rfl) rfl (by decide) El ?_
 intro _ _ EI HG EJ
 refine f_o <| Zk (d := some 58) (t := 23) (tx := 23) (ty := 23) (k := 0) (p := zb ((((el ++ zd 8 0) ++ [zj (((zc (zb al)) * (8 : UInt64)) >>> zc 56)]) ++ [zj (((zc (zb al)) * (8 : UInt64)) >>> zc 48)]) ++ [zj (((zc (zb al)) * (8 : UInt64)) >>> zc 40)])) (m := 1) (x := .slice (some ⟨EI, 0, none⟩) 1 1) (bytes := 1) HG (by kernel_rfl) EJ rfl (ZD _) (Zg (size := 1) (tx := 23) (e' := 5) (by kernel_rfl) (EJ.heap.reads (k := 8) rfl) rfl (fun e => by cases e) (Zj _)) (by kernel_rfl) (z := .int .u8 0) (by kernel_rfl) rfl (by decide) (by omega) (by unfold maxLen; omega) ?_
 intro _ _ bm bn EK Em hnz _
 clear hnz
 rw [← Zd] at Em
 have E9 : (zb ((((el ++ zd 8 0) ++ [zj (((zc (zb al)) * (8 : UInt64)) >>> zc 56)]) ++ [zj (((zc (zb al)) * (8 : UInt64)) >>> zc 48)]) ++ [zj (((zc (zb al)) * (8 : UInt64)) >>> zc 40)])) + 1 = zb (((((el ++ zd 8 0) ++ [zj (((zc (zb al)) * (8 : UInt64)) >>> zc 56)]) ++ [zj (((zc (zb al)) * (8 : UInt64)) >>> zc 48)]) ++ [zj (((zc (zb al)) * (8 : UInt64)) >>> zc 40)]) ++ [zj (((zc (zb al)) * (8 : UInt64)) >>> zc 32)]) := (by first | (simp; done) | (simp; omega) | omega)
 rw [E9] at EK
 refine d_e [0,2,3,4,5,6] [] EK fun _ HH => zv <| ze <| d_r [0,2,3,4,5,6] [] HH fun _ HI => ze <| zF <| wp_seq <| wp_seq <| d_r [0,2,3,4,5,6,44] [] HI fun _ EL => ze <| c_t EL ?_
 refine wp_skip <| ze <| wp_seq <| wp_block <| zk <| d_k [0,2,3,4,5,6,47,50] [] 4 EL fun _ HJ => f_o <| m_v 1 18 (zm (zc (zb al))) HJ Em rfl (zR (n := 1) (j := 17) rfl (zR (n := 8) (j := 9) (Zz (YJ _ _)) (zR (n := 8) (j := 1) (zf (YK _ _)) rfl))) fun _ HK => d_k [0,2,3,4,5,6,47,56] [(5, g_i .u64 (Go.Dbr.u64_mul (x := zc (zb al)) (y := (8 : UInt64)) rfl rfl)), (8, g_i .u64 (Go.Dbr.u64_shr (x := (zc (zb al)) * (8 : UInt64)) (n := 24) rfl (by decide))), (9, g_i .u8 (Go.Dbr.u64_to_u8 (x := ((zc (zb al)) * (8 : UInt64)) >>> zc 24) rfl))] 10 HK fun _ HL => f_o <| ZO (d := some 57) (t := 23) (T := 5) (m := 1) (parts := #[(0, bv (zj (((zc (zb al)) * (8 : UInt64)) >>> zc 24)))]) (xs := bys [zj (((zc (zb al)) * (8 : UInt64)) >>> zc 24)]) (sz := 1) HL (by kernel_rfl) (by kernel_rfl) rfl (by decide) Em ?_
 intro _ _ EM HM EN
 refine f_o <| Zk (d := some 58) (t := 23) (tx := 23) (ty := 23) (k := 0) (p := zb (((((el ++ zd 8 0) ++ [zj (((zc (zb al)) * (8 : UInt64)) >>> zc 56)]) ++ [zj (((zc (zb al)) * (8 : UInt64)) >>> zc 48)]) ++ [zj (((zc (zb al)) * (8 : UInt64)) >>> zc 40)]) ++ [zj (((zc (zb al)) * (8 : UInt64)) >>> zc 32)])) (m := 1) (x := .slice (some ⟨EM, 0, none⟩) 1 1) (bytes := 1) HM (by kernel_rfl) EN rfl (ZD _) (Zg (size := 1) (tx := 23) (e' := 5) (by kernel_rfl) (EN.heap.reads (k := 9) rfl) rfl (fun e => by cases e) (Zj _)) (by kernel_rfl) (z := .int .u8 0) (by kernel_rfl) rfl (by decide) (by omega) (by unfold maxLen; omega) ?_
 intro _ _ bo bp EO En hnz _
 clear hnz
 rw [← Zd] at En
 have Ha : (zb (((((el ++ zd 8 0) ++ [zj (((zc (zb al)) * (8 : UInt64)) >>> zc 56)]) ++ [zj (((zc (zb al)) * (8 : UInt64)) >>> zc 48)]) ++ [zj (((zc (zb al)) * (8 : UInt64)) >>> zc 40)]) ++ [zj (((zc (zb al)) * (8 : UInt64)) >>> zc 32)])) + 1 = zb ((((((el ++ zd 8 0) ++ [zj (((zc (zb al)) * (8 : UInt64)) >>> zc 56)]) ++ [zj (((zc (zb al)) * (8 : UInt64)) >>> zc 48)]) ++ [zj (((zc (zb al)) * (8 : UInt64)) >>> zc 40)]) ++ [zj (((zc (zb al)) * (8 : UInt64)) >>> zc 32)]) ++ [zj (((zc (zb al)) * (8 : UInt64)) >>> zc 24)]) := (by first | (simp; done) | (simp; omega) | omega)
 rw [Ha] at EO
 refine d_e [0,2,3,4,5,6] [] EO fun _ HN => zv <| ze <| d_r [0,2,3,4,5,6] [] HN fun _ HO => ze <| zF <| wp_seq <| wp_seq <| d_r [0,2,3,4,5,6,44] [] HO fun _ EP => ze <| c_t EP ?_
 refine wp_skip <| ze <| wp_seq <| wp_block <| zk <| d_k [0,2,3,4,5,6,47,50] [] 4 EP fun _ HP => f_o <| m_v 1 18 (zm (zc (zb al))) HP En rfl (zR (n := 1) (j := 17) rfl (zR (n := 8) (j := 9) (Zz (YJ _ _)) (zR (n := 8) (j := 1) (zf (YK _ _)) rfl))) fun _ HQ => d_k [0,2,3,4,5,6,47,56] [(5, g_i .u64 (Go.Dbr.u64_mul (x := zc (zb al)) (y := (8 : UInt64)) rfl rfl)), (8, g_i .u64 (Go.Dbr.u64_shr (x := (zc (zb al)) * (8 : UInt64)) (n := 16) rfl (by decide))), (9, g_i .u8 (Go.Dbr.u64_to_u8 (x := ((zc (zb al)) * (8 : UInt64)) >>> zc 16) rfl))] 10 HQ fun _ HR => f_o <| ZO (d := some 57) (t := 23) (T := 5) (m := 1) (parts := #[(0, bv (zj (((zc (zb al)) * (8 : UInt64)) >>> zc 16)))]) (xs := bys [zj (((zc (zb al)) * (8 : UInt64)) >>> zc 16)]) (sz := 1) HR (by kernel_rfl) (by kernel_rfl) rfl (by decide) En ?_
 intro _ _ EQ HS ER
 refine f_o <| Zk (d := some 58) (t := 23) (tx := 23) (ty := 23) (k := 0) (p := zb ((((((el ++ zd 8 0) ++ [zj (((zc (zb al)) * (8 : UInt64)) >>> zc 56)]) ++ [zj (((zc (zb al)) * (8 : UInt64)) >>> zc 48)]) ++ [zj (((zc (zb al)) * (8 : UInt64)) >>> zc 40)]) ++ [zj (((zc (zb al)) * (8 : UInt64)) >>> zc 32)]) ++ [zj (((zc (zb al)) * (8 : UInt64)) >>> zc 24)])) (m := 1) (x := .slice (some ⟨EQ, 0, none⟩) 1 1) (bytes := 1) HS (by kernel_rfl) ER rfl (ZD _) (Zg (size := 1) (tx := 23) (e' := 5) (by kernel_rfl) (ER.heap.reads (k := 10) rfl) rfl (fun e => by cases e) (Zj _)) (by kernel_rfl) (z := .int .u8 0) (by kernel_rfl) rfl (by decide) (by omega) (by unfold maxLen; omega) ?_
 intro _ _ bq br ES Eo hnz _
 clear hnz
 rw [← Zd] at Eo
 have Hb : (zb ((((((el ++ zd 8 0) ++ [zj (((zc (zb al)) * (8 : UInt64)) >>> zc 56)]) ++ [zj (((zc (zb al)) * (8 : UInt64)) >>> zc 48)]) ++ [zj (((zc (zb al)) * (8 : UInt64)) >>> zc 40)]) ++ [zj (((zc (zb al)) * (8 : UInt64)) >>> zc 32)]) ++ [zj (((zc (zb al)) * (8 : UInt64)) >>> zc 24)])) + 1 = zb (((((((el ++ zd 8 0) ++ [zj (((zc (zb al)) * (8 : UInt64)) >>> zc 56)]) ++ [zj (((zc (zb al)) * (8 : UInt64)) >>> zc 48)]) ++ [zj (((zc (zb al)) * (8 : UInt64)) >>> zc 40)]) ++ [zj (((zc (zb al)) * (8 : UInt64)) >>> zc 32)]) ++ [zj (((zc (zb al)) * (8 : UInt64)) >>> zc 24)]) ++ [zj (((zc (zb al)) * (8 : UInt64)) >>> zc 16)]) := (by first | (simp; done) | (simp; omega) | omega)
 rw [Hb] at ES
 refine d_e [0,2,3,4,5,6] [] ES fun _ HT => zv <| ze <| d_r [0,2,3,4,5,6] [] HT fun _ HU => ze <| zF <| wp_seq <| wp_seq <| d_r [0,2,3,4,5,6,44] [] HU fun _ ET => ze <| c_t ET ?_
 refine wp_skip <| ze <| wp_seq <| wp_block <| zk <| d_k [0,2,3,4,5,6,47,50] [] 4 ET fun _ HV => f_o <| m_v 1 18 (zm (zc (zb al))) HV Eo rfl (zR (n := 1) (j := 17) rfl (zR (n := 8) (j := 9) (Zz (YJ _ _)) (zR (n := 8) (j := 1) (zf (YK _ _)) rfl))) fun _ HW => d_k [0,2,3,4,5,6,47,56] [(5, g_i .u64 (Go.Dbr.u64_mul (x := zc (zb al)) (y := (8 : UInt64)) rfl rfl)), (8, g_i .u64 (Go.Dbr.u64_shr (x := (zc (zb al)) * (8 : UInt64)) (n := 8) rfl (by decide))), (9, g_i .u8 (Go.Dbr.u64_to_u8 (x := ((zc (zb al)) * (8 : UInt64)) >>> zc 8) rfl))] 10 HW fun _ HX => f_o <| ZO (d := some 57) (t := 23) (T := 5) (m := 1) (parts := #[(0, bv (zj (((zc (zb al)) * (8 : UInt64)) >>> zc 8)))]) (xs := bys [zj (((zc (zb al)) * (8 : UInt64)) >>> zc 8)]) (sz := 1) HX (by kernel_rfl) (by kernel_rfl) rfl (by decide) Eo ?_
 intro _ _ EU HY EV
 refine f_o <| Zk (d := some 58) (t := 23) (tx := 23) (ty := 23) (k := 0) (p := zb (((((((el ++ zd 8 0) ++ [zj (((zc (zb al)) * (8 : UInt64)) >>> zc 56)]) ++ [zj (((zc (zb al)) * (8 : UInt64)) >>> zc 48)]) ++ [zj (((zc (zb al)) * (8 : UInt64)) >>> zc 40)]) ++ [zj (((zc (zb al)) * (8 : UInt64)) >>> zc 32)]) ++ [zj (((zc (zb al)) * (8 : UInt64)) >>> zc 24)]) ++ [zj (((zc (zb al)) * (8 : UInt64)) >>> zc 16)])) (m := 1) (x := .slice (some ⟨EU, 0, none⟩) 1 1) (bytes := 1) HY (by kernel_rfl) EV rfl (ZD _) (Zg (size := 1) (tx := 23) (e' := 5) (by kernel_rfl) (EV.heap.reads (k := 11) rfl) rfl (fun e => by cases e) (Zj _)) (by kernel_rfl) (z := .int .u8 0) (by kernel_rfl) rfl (by decide) (by omega) (by unfold maxLen; omega) ?_
 intro _ _ bs bt EW Ep hnz _
 clear hnz
 rw [← Zd] at Ep
 have Hc : (zb (((((((el ++ zd 8 0) ++ [zj (((zc (zb al)) * (8 : UInt64)) >>> zc 56)]) ++ [zj (((zc (zb al)) * (8 : UInt64)) >>> zc 48)]) ++ [zj (((zc (zb al)) * (8 : UInt64)) >>> zc 40)]) ++ [zj (((zc (zb al)) * (8 : UInt64)) >>> zc 32)]) ++ [zj (((zc (zb al)) * (8 : UInt64)) >>> zc 24)]) ++ [zj (((zc (zb al)) * (8 : UInt64)) >>> zc 16)])) + 1 = zb ((((((((el ++ zd 8 0) ++ [zj (((zc (zb al)) * (8 : UInt64)) >>> zc 56)]) ++ [zj (((zc (zb al)) * (8 : UInt64)) >>> zc 48)]) ++ [zj (((zc (zb al)) * (8 : UInt64)) >>> zc 40)]) ++ [zj (((zc (zb al)) * (8 : UInt64)) >>> zc 32)]) ++ [zj (((zc (zb al)) * (8 : UInt64)) >>> zc 24)]) ++ [zj (((zc (zb al)) * (8 : UInt64)) >>> zc 16)]) ++ [zj (((zc (zb al)) * (8 : UInt64)) >>> zc 8)]) := (by first | (simp; done) | (simp; omega) | omega)
 rw [Hc] at EW
 refine d_e [0,2,3,4,5,6] [] EW fun _ HZ => zv <| ze <| d_r [0,2,3,4,5,6] [] HZ fun _ H0 => ze <| zF <| wp_seq <| wp_seq <| d_r [0,2,3,4,5,6,44] [] H0 fun _ EX => ze <| c_t EX ?_
 refine wp_skip <| ze <| wp_seq <| wp_block <| zk <| d_k [0,2,3,4,5,6,47,50] [] 4 EX fun _ H1 => f_o <| m_v 1 18 (zm (zc (zb al))) H1 Ep rfl (zR (n := 1) (j := 17) rfl (zR (n := 8) (j := 9) (Zz (YJ _ _)) (zR (n := 8) (j := 1) (zf (YK _ _)) rfl))) fun _ H2 => d_k [0,2,3,4,5,6,47,56] [(5, g_i .u64 (Go.Dbr.u64_mul (x := zc (zb al)) (y := (8 : UInt64)) rfl rfl)), (8, g_i .u64 (Go.Dbr.u64_shr (x := (zc (zb al)) * (8 : UInt64)) (n := 0) rfl (by decide))), (9, g_i .u8 (Go.Dbr.u64_to_u8 (x := ((zc (zb al)) * (8 : UInt64)) >>> zc 0) rfl))] 10 H2 fun _ H3 => f_o <| ZO (d := some 57) (t := 23) (T := 5) (m := 1) (parts := #[(0, bv (zj (((zc (zb al)) * (8 : UInt64)) >>> zc 0)))]) (xs := bys [zj (((zc (zb al)) * (8 : UInt64)) >>> zc 0)]) (sz := 1) H3 (by kernel_rfl) (by kernel_rfl) rfl (by decide) Ep ?_
 intro _ _ EY H4 EZ
 refine f_o <| Zk (d := some 58) (t := 23) (tx := 23) (ty := 23) (k := 0) (p := zb ((((((((el ++ zd 8 0) ++ [zj (((zc (zb al)) * (8 : UInt64)) >>> zc 56)]) ++ [zj (((zc (zb al)) * (8 : UInt64)) >>> zc 48)]) ++ [zj (((zc (zb al)) * (8 : UInt64)) >>> zc 40)]) ++ [zj (((zc (zb al)) * (8 : UInt64)) >>> zc 32)]) ++ [zj (((zc (zb al)) * (8 : UInt64)) >>> zc 24)]) ++ [zj (((zc (zb al)) * (8 : UInt64)) >>> zc 16)]) ++ [zj (((zc (zb al)) * (8 : UInt64)) >>> zc 8)])) (m := 1) (x := .slice (some ⟨EY, 0, none⟩) 1 1) (bytes := 1) H4 (by kernel_rfl) EZ rfl (ZD _) (Zg (size := 1) (tx := 23) (e' := 5) (by kernel_rfl) (EZ.heap.reads (k := 12) rfl) rfl (fun e => by cases e) (Zj _)) (by kernel_rfl) (z := .int .u8 0) (by kernel_rfl) rfl (by decide) (by omega) (by unfold maxLen; omega) ?_
 intro _ _ Ec Ed E0 Ee hnz _
 clear hnz
 rw [← Zd] at Ee
 have Hd : (zb ((((((((el ++ zd 8 0) ++ [zj (((zc (zb al)) * (8 : UInt64)) >>> zc 56)]) ++ [zj (((zc (zb al)) * (8 : UInt64)) >>> zc 48)]) ++ [zj (((zc (zb al)) * (8 : UInt64)) >>> zc 40)]) ++ [zj (((zc (zb al)) * (8 : UInt64)) >>> zc 32)]) ++ [zj (((zc (zb al)) * (8 : UInt64)) >>> zc 24)]) ++ [zj (((zc (zb al)) * (8 : UInt64)) >>> zc 16)]) ++ [zj (((zc (zb al)) * (8 : UInt64)) >>> zc 8)])) + 1 = zb (((((((((el ++ zd 8 0) ++ [zj (((zc (zb al)) * (8 : UInt64)) >>> zc 56)]) ++ [zj (((zc (zb al)) * (8 : UInt64)) >>> zc 48)]) ++ [zj (((zc (zb al)) * (8 : UInt64)) >>> zc 40)]) ++ [zj (((zc (zb al)) * (8 : UInt64)) >>> zc 32)]) ++ [zj (((zc (zb al)) * (8 : UInt64)) >>> zc 24)]) ++ [zj (((zc (zb al)) * (8 : UInt64)) >>> zc 16)]) ++ [zj (((zc (zb al)) * (8 : UInt64)) >>> zc 8)]) ++ [zj (((zc (zb al)) * (8 : UInt64)) >>> zc 0)]) := (by first | (simp; done) | (simp; omega) | omega)
 rw [Hd] at E0
 refine d_e [0,2,3,4,5,6] [] E0 fun _ H5 => zv <| ze <| d_r [0,2,3,4,5,6] [] H5 fun _ H6 => ze <| zF <| wp_seq <| wp_seq <| d_r [0,2,3,4,5,6,44] [] H6 fun _ Eq => ze <| c_f Eq ?_
 refine wp_exit <| zy <| zy <| zL <| ze <| wp_seq ?_
 have hpe : ((((((((el ++ zd 8 0) ++ [zj (((zc (zb al)) * (8 : UInt64)) >>> zc 56)]) ++ [zj (((zc (zb al)) * (8 : UInt64)) >>> zc 48)]) ++ [zj (((zc (zb al)) * (8 : UInt64)) >>> zc 40)]) ++ [zj (((zc (zb al)) * (8 : UInt64)) >>> zc 32)]) ++ [zj (((zc (zb al)) * (8 : UInt64)) >>> zc 24)]) ++ [zj (((zc (zb al)) * (8 : UInt64)) >>> zc 16)]) ++ [zj (((zc (zb al)) * (8 : UInt64)) >>> zc 8)]) ++ [zj (((zc (zb al)) * (8 : UInt64)) >>> zc 0)] = Yz h al := by rw [heel, hjp]; simp [Yz, padB, be8, show ¬ h = 1 by omega]
 rw [hpe] at Ee
 rw [hpe] at Eq
 have hpl := padH_len h al
 have hrt := restH_lt h al
 refine zk <| d_k [0,2,3,4,5,6,59,60] [] 2 Eq fun _ H7 => f_o <| c_l [3,4] (M := [.box bq5 (([.int .i64 h] : List Value) ++ ((ZG (S32 h al)) ++ ((zh (S64 h al)) ++ ([.slice Ef (zb (Zb h al)) Eg, zm (zc (zb al))] : List Value)))) 115, .vec Ef Eg 1 (bys (Zb h al)) 5]) H7 Ee (fun hM297 => write_go _ bq5 h hh2 al Ef Eg Ec (zb (Yz h al)) Ed (Yz h al) (by first | rfl | (simp; done) | (simp; omega) | omega) (bys_in Ee.heap (k := 0) rfl [3, 4] (by kernel_rfl) rfl (by first | omega | (simp; done) | (simp; omega))) (by first | omega | (simp only [zX, ZH]; omega)) ((gk32.ev Ee).pick [3, 4] (by kernel_rfl)) ((gk64.ev Ee).pick [3, 4] (by kernel_rfl)) hM297) ?_
 rintro _ _ ⟨Ea, Eb, rfl, H8⟩
 refine ⟨_, _, [.box bq5 (([.int .i64 h] : List Value) ++ ((ZG (S32 h (al ++ (Yz h al)))) ++ ((zh (S64 h (al ++ (Yz h al)))) ++ ([.slice Ea (zb (Zb h (al ++ (Yz h al)))) Eb, zm (zc (zb (al ++ (Yz h al))))] : List Value)))) 115, .vec Ea Eb 1 (bys (Zb h (al ++ (Yz h al)))) 5, .vec Ec Ed 1 (bys (Yz h al)) 5, .box bd (([.int .i64 h] : List Value) ++ ((ZG (S32 h al)) ++ ((zh (S64 h al)) ++ ([.slice ar (zb (Zb h al)) cr, zm (zc (zb al))] : List Value)))) 115, .vec ar cr 1 (bys (Zb h al)) 5, .vec (some ⟨Ew, 0, none⟩) 1 1 (bys [zj (((zc (zb al)) * (8 : UInt64)) >>> zc 56)]) 5, .vec (some ⟨EA, 0, none⟩) 1 1 (bys [zj (((zc (zb al)) * (8 : UInt64)) >>> zc 48)]) 5, .vec (some ⟨EE, 0, none⟩) 1 1 (bys [zj (((zc (zb al)) * (8 : UInt64)) >>> zc 40)]) 5, .vec (some ⟨EI, 0, none⟩) 1 1 (bys [zj (((zc (zb al)) * (8 : UInt64)) >>> zc 32)]) 5, .vec (some ⟨EM, 0, none⟩) 1 1 (bys [zj (((zc (zb al)) * (8 : UInt64)) >>> zc 24)]) 5, .vec (some ⟨EQ, 0, none⟩) 1 1 (bys [zj (((zc (zb al)) * (8 : UInt64)) >>> zc 16)]) 5, .vec (some ⟨EU, 0, none⟩) 1 1 (bys [zj (((zc (zb al)) * (8 : UInt64)) >>> zc 8)]) 5, .vec (some ⟨EY, 0, none⟩) 1 1 (bys [zj (((zc (zb al)) * (8 : UInt64)) >>> zc 0)]) 5], rfl, H8, by kernel_rfl, fun _ H9 aa => ?_⟩
 refine f_e <| ze <| wp_seq <| d_r [0,2,3,4,5,6,7] [] H9 fun _ ab => ze <| wp_seq <| wp_seq <| d_r [0,2,3,4,5,6,7,62] [] ab fun _ af => ze <| wp_block ?_
 have ag := Ev.nil (sz := 1) (T := 5) aa
 refine ZR (fun ah ac wo => ∃ (i : Nat) (a7 : Option Addr) (c7 : Nat) (ol : List UInt8), ah = (8 - i : Nat) ∧ Env ac 95 [(0, pt bd), (2, .slice none 0 0), (3, pt bq5), (4, .int .i64 128), (5, .slice Ec (zb (Yz h al)) Ed), (6, .int .i64 (-1)), (7, .slice a7 (zb ol) c7), (62, ni i)] ∧ Ev w [.box bd (([.int .i64 h] : List Value) ++ ((ZG (S32 h al)) ++ ((zh (S64 h al)) ++ ([.slice ar (zb (Zb h al)) cr, zm (zc (zb al))] : List Value)))) 115, .vec ar cr 1 (bys (Zb h al)) 5] wo [.vec a7 c7 1 (bys ol) 5, .box bq5 (([.int .i64 h] : List Value) ++ ((ZG (S32 h (al ++ (Yz h al)))) ++ ((zh (S64 h (al ++ (Yz h al)))) ++ ([.slice Ea (zb (Zb h (al ++ (Yz h al)))) Eb, zm (zc (zb (al ++ (Yz h al))))] : List Value)))) 115, .vec Ea Eb 1 (bys (Zb h (al ++ (Yz h al)))) 5, .vec Ec Ed 1 (bys (Yz h al)) 5, .box bd (([.int .i64 h] : List Value) ++ ((ZG (S32 h al)) ++ ((zh (S64 h al)) ++ ([.slice ar (zb (Zb h al)) cr, zm (zc (zb al))] : List Value)))) 115, .vec ar cr 1 (bys (Zb h al)) 5] ∧ (i ≤ 8) ∧ (ol = out64 (S64 h (al ++ Yz h al)) i)) ⟨_, 0, none, 0, [], rfl, af.sb, ag.pk [13, 0, 1, 2, 3, 4], by omega, rfl⟩ ?_
 rintro bu _ _ ⟨i, a7, c7, ol, rfl, ai, Eh, hi, heo⟩
 refine wp_seq <| d_r [0,2,3,4,5,6,7,62,63] [] ai fun _ Er => ?_
 refine ze <| wp_seq <| c_d (((i : Nat) : Int) < (8 : Int)) Er (fun aj => ?_) (fun aj => ?_)
 ·
  refine wp_skip <| ze <| wp_seq <| wp_block <| wp_seq <| d_r [0,2,3,4,5,6,7,8,62] [] Er fun _ ak => ze <| wp_seq ?_
  have hol : zb ol = 8 * i := by rw [heo, J7]
  refine zk <| d_k [0,2,3,4,5,6,7,8,62,67] [] 3 ak fun _ am => f_o <| m_v 4 0 (.int .i64 h) am Eh rfl (Ja rfl) fun _ an => d_e [0,2,3,4,5,6,7,8,62,69] [(4, g_b (show (h == (1 : Int)) = false from beq_eq_false_iff_ne.2 (by omega)))] an fun _ E1 => ze <| c_f E1 ?_
  have hol : zb ol = 8 * i := by rw [heo, J7]
  refine zk <| d_k [0,2,3,4,5,6,7,8,62,79,81,83] [] 5 E1 fun _ ap => f_o <| q_v (x := Instr.indexAt 99 (.pointer (some ⟨bq5, 9, none⟩)) (ni i)) (v := .pointer (some ⟨bq5, 9 + i, none⟩)) ap (Go.Dbr.run_indexarr (e := 31) (sz := 1) (m := 8) (j := i) (o := 9 + i) (by kernel_rfl) (by kernel_rfl) (by omega) (by omega) (by omega) _) fun _ aq => f_o ?_
  have au : i < zb (S64 h (al ++ (Yz h al))) := by rw [(YK _ _)]; omega
  refine m_v 1 (9 + i) (zm (za (S64 h (al ++ (Yz h al))) i 0)) aq Eh rfl (seg_eq (by omega) (zR (n := 1) (j := 8 + (i)) rfl (zR (n := 8) (j := i) (Zz (YJ _ _)) (Ja (u64s_getD au))))) fun _ av => f_o <| c_l [0] (M := [.vec a7 c7 1 (bys ol) 5]) av Eh (fun hM335 => spread8_go _ a7 c7 ol (za (S64 h (al ++ (Yz h al))) i 0) (by omega) hM335) ?_
  rintro _ _ ⟨Es, Et, rfl, aw⟩
  refine ⟨_, _, [.vec Es Et 1 (bys (ol ++ be8 (za (S64 h (al ++ (Yz h al))) i 0))) 5, .box bq5 (([.int .i64 h] : List Value) ++ ((ZG (S32 h (al ++ (Yz h al)))) ++ ((zh (S64 h (al ++ (Yz h al)))) ++ ([.slice Ea (zb (Zb h (al ++ (Yz h al)))) Eb, zm (zc (zb (al ++ (Yz h al))))] : List Value)))) 115, .vec Ea Eb 1 (bys (Zb h (al ++ (Yz h al)))) 5, .vec Ec Ed 1 (bys (Yz h al)) 5, .box bd (([.int .i64 h] : List Value) ++ ((ZG (S32 h al)) ++ ((zh (S64 h al)) ++ ([.slice ar (zb (Zb h al)) cr, zm (zc (zb al))] : List Value)))) 115, .vec ar cr 1 (bys (Zb h al)) 5], rfl, aw, by kernel_rfl, fun _ ax ay => ?_⟩
  refine d_e [0,2,3,4,5,6,7,8,62] [] ax fun _ az => zv <| ze <| d_r [0,2,3,4,5,6,7,8,62] [(0, g_n (w_a i 1))] az fun _ aA => ze <| ⟨_, ⟨i + 1, Es, Et, (ol ++ be8 (za (S64 h (al ++ (Yz h al))) i 0)), rfl, aA.sb, ay.pk [0, 1, 2, 3, 4, 5], by omega, by rw [heo]; rfl⟩, ?_⟩
  omega
 refine wp_exit <| zy <| zy <| zL <| ze <| wp_seq ?_
 have hol : zb ol = 8 * i := by rw [heo, J7]
 have hi8 : i = 8 := by omega
 have hsz := size_le h
 have hsz1 : QQ 1 = 32 := rfl
 refine zk <| d_k [0,2,3,4,5,6,7,62,88,91] [] 4 Er fun _ aB => f_o <| m_v 4 0 (.int .i64 h) aB Eh rfl (Ja rfl) fun _ aC => f_o <| c_p aC Eh (size_go _ h) fun _ aD aE E2 => f_o ?_
 have aH := Yd E2.heap (k := 0) rfl
 refine op_slice0 (d := some 94) (t := 23) (e := 5) (sz := 1) (len := zb ol) (cap := c7) (hi := QQ h) (ao := a7) (lov := none) (hiv := (some (ni (QQ h)))) aE (by kernel_rfl) (by kernel_rfl) (by kernel_rfl) (by omega) (.inl ⟨rfl, rfl⟩) (.inr ⟨.i64, rfl⟩) ?_
 intro _ E3
 have aF : Ev w [.box bd (([.int .i64 h] : List Value) ++ ((ZG (S32 h al)) ++ ((zh (S64 h al)) ++ ([.slice ar (zb (Zb h al)) cr, zm (zc (zb al))] : List Value)))) 115, .vec ar cr 1 (bys (Zb h al)) 5] aD [.vec a7 c7 1 (bys (zn (QQ h) ol)) 5, .box bq5 (([.int .i64 h] : List Value) ++ ((ZG (S32 h (al ++ (Yz h al)))) ++ ((zh (S64 h (al ++ (Yz h al)))) ++ ([.slice Ea (zb (Zb h (al ++ (Yz h al)))) Eb, zm (zc (zb (al ++ (Yz h al))))] : List Value)))) 115, .vec Ea Eb 1 (bys (Zb h (al ++ (Yz h al)))) 5, .vec Ec Ed 1 (bys (Yz h al)) 5, .box bd (([.int .i64 h] : List Value) ++ ((ZG (S32 h al)) ++ ((zh (S64 h al)) ++ ([.slice ar (zb (Zb h al)) cr, zm (zc (zb al))] : List Value)))) 115, .vec ar cr 1 (bys (Zb h al)) 5] := by
  have h := Ev.cut (k := 0) (n := zb ol) (sz := 1) E2 rfl (ZD _) (by omega) 0 (QQ h) (by omega) (by omega)
  rw [cutAt_zero] at h
  rw [bys_cut0] at h
  exact h
 have el361 : QQ h = zb (zn (QQ h) ol) := by first | (simp; done) | (rw [zs]; omega) | (rw [zu]; omega) | (simp; omega)
 rw [el361] at E3
 refine d_e [0,2,3,4,5,6,7,62] [] E3 fun _ aG => ze <| wp_ret <| d_ret1 (t := 2) (v := .slice a7 (zb (zn (QQ h) ol)) c7) aG (by kernel_rfl) (by kernel_rfl) ?_
 have hse : zn (QQ h) ol = XD h al := by rw [heo, hi8]; unfold XD; rw [if_neg (by omega)]
 have Hf364 := aF.pk [4, 5, 0] (M := [.box bd (([.int .i64 h] : List Value) ++ ((ZG (S32 h al)) ++ ((zh (S64 h al)) ++ ([.slice ar (zb (Zb h al)) cr, zm (zc (zb al))] : List Value)))) 115, .vec ar cr 1 (bys (Zb h al)) 5, .vec a7 c7 1 (bys (zn (QQ h) ol)) 5])
 rw [hse] at Hf364
 exact ⟨_, _, by rw [hse], Hf364⟩
end Go.Proofs.YtlnogkmnklfjlaaGreatDoor.Sh

namespace Go.Proofs.YtlnogkmnklfjlaaGreatDoor.Sh
open Go.Dbr
set_option maxRecDepth 100000
set_option maxHeartbeats 2000000
set_option linter.unusedVariables false
set_option linter.unusedSimpArgs false
theorem sum_go (w : World) (bd : Nat) (h : Int) (hh : h = 2 ∨ h = 3) (al : List UInt8) (ar : Option Addr) (cr : Nat) (gk32 : InU32 w [.box bd (([.int .i64 h] : List Value) ++ ((ZG (S32 h al)) ++ ((zh (S64 h al)) ++ ([.slice ar (zb (Zb h al)) cr, zm (zc (zb al))] : List Value)))) 115, .vec ar cr 1 (bys (Zb h al)) 5] (some ⟨0, 0, none⟩) 64 K32) (gk64 : InU64 w [.box bd (([.int .i64 h] : List Value) ++ ((ZG (S32 h al)) ++ ((zh (S64 h al)) ++ ([.slice ar (zb (Zb h al)) cr, zm (zc (zb al))] : List Value)))) 115, .vec ar cr 1 (bys (Zb h al)) 5] (some ⟨1, 0, none⟩) 80 K64) (hH : Heap w [.box bd (([.int .i64 h] : List Value) ++ ((ZG (S32 h al)) ++ ((zh (S64 h al)) ++ ([.slice ar (zb (Zb h al)) cr, zm (zc (zb al))] : List Value)))) 115, .vec ar cr 1 (bys (Zb h al)) 5]) : Calls Tryz.prog 74 #[pt bd] w fun e w' => ∃ ao co, e = .returned (.slice ao (zb (XD h al)) co) ∧ Ev w [.box bd (([.int .i64 h] : List Value) ++ ((ZG (S32 h al)) ++ ((zh (S64 h al)) ++ ([.slice ar (zb (Zb h al)) cr, zm (zc (zb al))] : List Value)))) 115, .vec ar cr 1 (bys (Zb h al)) 5] w' [.box bd (([.int .i64 h] : List Value) ++ ((ZG (S32 h al)) ++ ((zh (S64 h al)) ++ ([.slice ar (zb (Zb h al)) cr, zm (zc (zb al))] : List Value)))) 115, .vec ar cr 1 (bys (Zb h al)) 5, .vec ao co 1 (bys (XD h al)) 5] := by
  exact sum64_go w bd h hh al ar cr gk32 gk64 hH
theorem flat_take_succ {l : List (Sl UInt8)} {k : Nat} {x : Sl UInt8} (h : l[k]? = some x) : (l.take (k + 1)).flatMap (fun s => s.l) = (l.take k).flatMap (fun s => s.l) ++ x.l := by
  rw [List.take_add_one, h, List.flatMap_append]
  simp
theorem of_go (w : World) (h : Int) (hh : h = 2 ∨ h = 3) (ax : Option Addr) (nx cx : Nat) (lx : List (Sl UInt8)) (ex : nx = zb lx) (ix : InS (fun s : Sl UInt8 => s.f) 24 (fun x : Sl UInt8 => InB w [] x.a x.c x.l) w [] ax cx lx) (hT : ∀ (k : Nat) (x : Sl UInt8), lx[k]? = some x → zb (Zb h (ZY (fun s : Sl UInt8 => s.l) (zn k lx))) + zb x.l ≤ 140737488355200) (gk32 : InU32 w [] (some ⟨0, 0, none⟩) 64 K32) (gk64 : InU64 w [] (some ⟨1, 0, none⟩) 80 K64) : Calls Tryz.prog 40 #[.int .i64 h, .slice ax nx cx] w fun e w' => ∃ ao co, e = .returned (.slice ao (zb (XD h (ZY (fun s : Sl UInt8 => s.l) lx))) co) ∧ Ev w [] w' [.vec ao co 1 (bys (XD h (ZY (fun s : Sl UInt8 => s.l) lx))) 5] := by
 subst ex
 have hs := ix.small
 have EN := ix.cap
 refine d_0 [(0, .int .i64 h), (1, .slice ax (zb lx) cx)] 24 Go.Proofs.Tryz.func40 Go.Proofs.Tryz.ntmps40 (Heap.nil _) fun EG EH EI => wp_seq <| d_r [0,1,4] [] EH fun _ EJ => ze <| wp_seq <| zk <| d_k [1,4,8] [] 1 EJ fun _ EK => f_o <| c_0 EK EI (new_dig _ h hh) ?_
 rintro _ _ ⟨bq5, rfl, EL⟩
 refine ⟨_, _, _, rfl, EL, rfl, fun _ Ek El => ?_⟩
 refine d_e [1,4,5] [] Ek fun _ Em => ze <| wp_seq <| wp_seq <| d_r [1,4,5,11] [] Em fun _ Ei => ze <| c_f Ei ?_
 refine wp_skip <| ze <| wp_seq <| wp_seq <| d_r [4,5,12,13,14] [] Ei fun _ En => ze <| wp_block <| ZR (fun Eo ac wo => ∃ (k : Nat) (al : List UInt8) (ar : Option Addr) (cr : Nat), Eo = (zb lx - k : Nat) ∧ Env ac 24 [(4, .slice none 0 0), (5, pt bq5), (12, .slice ax (zb lx) cx), (13, ni (zb lx)), (14, ni k)] ∧ Ev w [] wo [.box bq5 (([.int .i64 h] : List Value) ++ ((ZG (S32 h al)) ++ ((zh (S64 h al)) ++ ([.slice ar (zb (Zb h al)) cr, zm (zc (zb al))] : List Value)))) 115, .vec ar cr 1 (bys (Zb h al)) 5] ∧ (k ≤ zb lx) ∧ (al = (ZY (fun s : Sl UInt8 => s.l) (zn k lx)))) ⟨_, 0, [], none, 0, rfl, En.sb, El.pk [0, 1], by omega, by rfl⟩ ?_
 rintro EM _ _ ⟨k, al, ar, cr, rfl, Ep, Ea, hk, hal⟩
 refine wp_seq <| d_r [4,5,12,13,14,15] [] Ep fun _ Eh => ?_
 refine ze <| wp_seq <| c_d (((k : Nat) : Int) < ((zb lx : Nat) : Int)) Eh (fun Eq => ?_) (fun Eq => ?_)
 ·
  refine wp_skip <| ze <| wp_seq <| wp_block <| wp_seq ?_
  have Ej : k < zb lx := (by omega)
  obtain ⟨Ef, Eg⟩ := some_of ix.nz Ej
  have Er : k < zb lx := by omega
  obtain ⟨⟨a_x34, c_x34, x34⟩, hx33⟩ : ∃ x, (lx)[k]? = some x := ⟨_, List.getElem?_eq_getElem Er⟩
  obtain i_x34 := ix.each _ (Q0 hx33)
  replace i_x34 : InB w [] a_x34 c_x34 x34 := i_x34
  refine zk <| f_o <| q_v (x := Instr.indexAt 72 (.slice ax (zb lx) cx) (ni k)) (v := .pointer (some (Addr.add Ef k))) Eh (Go.Dbr.run_indexsl (e := 23) (sz := 1) (j := k) (jo := k) Eg (by kernel_rfl) (by kernel_rfl) (by omega) Ej (ZA _) _) fun _ Es => f_o <| op_loadf (d := some 17) (t := 23) (ad := Ef) (ao := ax) (ys := ZY (fun s : Sl UInt8 => s.f) lx) (o := k) (v := .slice a_x34 (zb x34) c_x34) Es (by kernel_rfl) rfl (ix.ro.ev Ea).reads Eg ((flat_get1 (fun _ _ => rfl) hx33).trans rfl) (by kernel_rfl) ?_
  intro _ Et
  refine d_e [4,5,7,12,13,14] [] Et fun _ Eu => ze ?_
  have hTk := hT k _ hx33
  rw [← hal] at hTk
  simp only at hTk
  refine zk <| d_k [4,5,12,13,14,18,19] [] 2 Eu fun _ Ew => f_o <| c_l [0,1] (M := [.box bq5 (([.int .i64 h] : List Value) ++ ((ZG (S32 h al)) ++ ((zh (S64 h al)) ++ ([.slice ar (zb (Zb h al)) cr, zm (zc (zb al))] : List Value)))) 115, .vec ar cr 1 (bys (Zb h al)) 5]) Ew Ea (fun hM44 => write_go _ bq5 h hh al ar cr a_x34 (zb x34) c_x34 x34 (by first | rfl | (simp; done) | (simp; omega) | omega) ((i_x34.ev Ea).pick [0, 1] (by kernel_rfl)) (by first | omega | (simp only [zX, ZH]; omega)) ((gk32.ev Ea).pick [0, 1] (by kernel_rfl)) ((gk64.ev Ea).pick [0, 1] (by kernel_rfl)) hM44) ?_
  rintro _ _ ⟨Eb, Ec, rfl, Ex⟩
  refine ⟨_, _, [.box bq5 (([.int .i64 h] : List Value) ++ ((ZG (S32 h (al ++ x34))) ++ ((zh (S64 h (al ++ x34))) ++ ([.slice Eb (zb (Zb h (al ++ x34))) Ec, zm (zc (zb (al ++ x34)))] : List Value)))) 115, .vec Eb Ec 1 (bys (Zb h (al ++ x34))) 5], rfl, Ex, by kernel_rfl, fun _ Ey Ez => ?_⟩
  refine f_e <| zv <| ze <| d_r [4,5,12,13,14] [(0, g_n (w_a k 1))] Ey fun _ EA => ze <| ⟨_, ⟨k + 1, al ++ x34, Eb, Ec, rfl, EA.sb, Ez.pk [0, 1], by omega, by rw [flat_take_succ hx33, hal]⟩, ?_⟩
  omega
 refine wp_exit <| zy <| zy <| zL <| ze <| wp_seq <| zk <| d_k [4,5,12,13,14,22] [] 1 Eh fun _ EB => f_o <| c_l [0,1] (M := [.box bq5 (([.int .i64 h] : List Value) ++ ((ZG (S32 h al)) ++ ((zh (S64 h al)) ++ ([.slice ar (zb (Zb h al)) cr, zm (zc (zb al))] : List Value)))) 115, .vec ar cr 1 (bys (Zb h al)) 5]) EB Ea (fun hM56 => sum_go _ bq5 h hh al ar cr ((gk32.ev Ea).pick [0, 1] (by kernel_rfl)) ((gk64.ev Ea).pick [0, 1] (by kernel_rfl)) hM56) ?_
 rintro _ _ ⟨Ed, Ee, rfl, EC⟩
 refine ⟨_, _, [.box bq5 (([.int .i64 h] : List Value) ++ ((ZG (S32 h al)) ++ ((zh (S64 h al)) ++ ([.slice ar (zb (Zb h al)) cr, zm (zc (zb al))] : List Value)))) 115, .vec ar cr 1 (bys (Zb h al)) 5, .vec Ed Ee 1 (bys (XD h al)) 5], rfl, EC, by kernel_rfl, fun _ ED EE => ?_⟩
 refine d_e [4,5,12,13,14] [] ED fun _ EF => ze <| wp_ret <| d_ret1 (t := 4) (v := .slice Ed (zb (XD h al)) Ee) EF (by kernel_rfl) (by kernel_rfl) ?_
 have hkk : k = zb lx := by omega
 have hae : al = (ZY (fun s : Sl UInt8 => s.l) lx) := by rw [hal, hkk, List.take_length]
 have Hf65 := EE.pk [2] (M := [.vec Ed Ee 1 (bys (XD h al)) 5])
 subst hae
 exact ⟨_, _, rfl, Hf65⟩
end Go.Proofs.YtlnogkmnklfjlaaGreatDoor.Sh

namespace Go.Proofs.YtlnogkmnklfjlaaGreatDoor
open Go.Dbr
set_option maxRecDepth 100000
set_option maxHeartbeats 2000000
set_option linter.unusedVariables false
set_option linter.unusedSimpArgs false
theorem lv_app : ∀ (a b : List UInt8), lv (a ++ b) = lv a + 256 ^ a.length * lv b
  | [], b => by simp [lv]
  | x :: r, b => by
    rw [List.cons_append, lv, lv, lv_app r b, zX, Nat.pow_succ, Nat.mul_add, Nat.add_assoc]
    congr 2
    rw [← Nat.mul_assoc, zZ 256]
theorem lv_zeros : ∀ n, lv (zd n 0) = 0
  | 0 => rfl
  | n + 1 => by rw [List.replicate_succ, lv, lv_zeros n]; rfl
theorem chunk_val {l : List UInt8} {s e : Nat} (he : e ≤ l.length) (hs : s ≤ e) (h31 : e - s ≤ 32) : lv (zn 0 (zd 32 (0 : UInt8)) ++ zn (e - s) (zo s l) ++ zo (0 + (e - s)) (zd 32 (0 : UInt8))) = lv (zn (e - s) (zo s l)) := by
  rw [List.take_zero, List.nil_append, lv_app, List.drop_replicate, lv_zeros, Nat.mul_zero, Nat.add_zero]
theorem drop_split {l : List UInt8} {s e : Nat} (hs : s ≤ e) (he : e ≤ l.length) : lv (zo s l) = lv (zn (e - s) (zo s l)) + 256 ^ (e - s) * lv (zo e l) := by
  have h := lv_app (zn (e - s) (zo s l)) (zo (e - s) (zo s l))
  rw [List.take_append_drop, zs, zu, Nat.min_eq_left (by omega), List.drop_drop, show s + (e - s) = e by omega] at h
  exact h
theorem wide_chunk {f : Int} (hf : f = 1 ∨ f = 2 ∨ f = 3 ∨ f = 4) {l : List UInt8} {e : Nat} {X : List UInt8} (he : e ≤ l.length) (h0 : 0 < e) (hm : e % 31 = 0 ∨ e = l.length) (hX : lv X = lv (zn (e - (e - 1) / 31 * 31) (zo ((e - 1) / 31 * 31) l))) :
    nd (addM f (nv (nd (mulM f (nv (nd (lv (zo e l) % mF f))) (nv [0, 0, 0, 72057594037927936])))) (nv (nd (lv X)))) = nd (lv (zo ((e - 1) / 31 * 31) l) % mF f) := by
  have hs : (e - 1) / 31 * 31 ≤ e := by omega
  have hXl : lv X < W256 := by
    rw [hX]
    refine Nat.lt_of_lt_of_le (lv_lt _) ?_
    rw [zs, zu]
    refine Nat.le_trans (Nat.pow_le_pow_right (by decide) (show _ ≤ 31 by omega)) (by decide)
  rw [nv_nd hXl, hX, nv_nd (mulM_lt hf _ _), nv_nd (mod_lt_w hf), ← add_mM, mulM, show nv [0, 0, 0, 72057594037927936] = 256 ^ 31 by decide +kernel, drop_split hs he]
  congr 1
  rcases hm with h | h
  · rw [show e - (e - 1) / 31 * 31 = 31 by omega]
    generalize lv (zn 31 (zo ((e - 1) / 31 * 31) l)) = A
    generalize lv (zo e l) = B
    rw [Nat.mod_mul_mod, Nat.mod_mod, ← Nat.add_mod, Nat.add_comm, zZ]
  · rw [show lv (zo e l) = 0 by rw [h, Y7]; rfl]
    simp
theorem h4f : (4 : Int) = 1 ∨ (4 : Int) = 2 ∨ (4 : Int) = 3 ∨ (4 : Int) = 4 := .inr (.inr (.inr rfl))
theorem wide4_go (w : World)  (ab : Option Addr) (nb cb : Nat) (lb : List UInt8) (eb : nb = zb lb) (ib : InB w [] ab cb lb) : Calls Tryz.prog 49 #[.int .i64 4, .slice ab nb cb] w fun e w' => e = .returned (.agg (zg (zh (nd (lv lb % mF 4))))) ∧ Ev w [] w' [] := by
 subst eb
 have hsm := ib.small
 have hcp := ib.cap
 refine d_0 [(0, .int .i64 4), (1, .slice ab (zb lb) cb)] 37 Go.Proofs.Tryz.func49 Go.Proofs.Tryz.ntmps49 (Heap.nil _) fun E6 E7 E8 => wp_seq <| zk <| f_o <| m_z 33 (zh (zd 4 0)) E7 E8 fun _ _ Ed E9 Ha => f_e <| ze <| wp_seq <| zk <| f_o <| m_z 33 (zh (zd 4 0)) E9 Ha fun _ _ Ec Hb ET => f_e <| ze <| wp_seq <| wp_seq <| d_r [0,1,4,5,6] [] Hb fun _ EU => ?_
 refine ze <| wp_block <| ZR (fun EV ac wo => ∃ (e : Nat) (x : List UInt64), EV = (e + 1 : Nat) ∧ Env ac 37 [(0, .int .i64 4), (1, .slice ab (zb lb) cb), (4, pt Ed), (5, pt Ec), (6, ni e)] ∧ Ev w [] wo [.box Ec (zh x) 33, .box Ed (zh (zd 4 0)) 33] ∧ (e ≤ zb lb) ∧ (e % 31 = 0 ∨ e = zb lb) ∧ (zb x = 4) ∧ (x = nd (lv (zo e lb) % mF 4))) ⟨_, zb lb, zd 4 0, rfl, EU.sb, ET.pk [1, 0], by omega, by omega, zi, by rw [Y7, lv, Nat.zero_mod]; rfl⟩ ?_
 rintro Hc _ _ ⟨e, x, rfl, EW, Eh, he, hm, hx, hxe⟩
 refine wp_seq <| wp_seq <| zk <| d_k [0,1,4,5,6,13] [] 3 EW fun _ Eq => ?_
 rcases Bool.eq_false_or_eq_true (decide (((e : Nat) : Int) > (0 : Int))) with Ee | Ee
 ·
  have EX := Eq.fx (t := 13) (congrArg Value.bool Ee)
  have hp24 : ((e : Nat) : Int) > (0 : Int) := of_decide_eq_true Ee
  refine d_k [0,1,4,5,6,13,14] [] 4 EX fun _ EY => f_o <| c_p EY Eh (is_go_yes _ 4 h4f) fun _ _ EZ Er => d_e [0,1,4,5,6,16] [] EZ fun _ Es => ze <| c_t Es ?_
  refine wp_skip <| ze <| wp_block <| wp_seq ?_
  rw [hxe] at Er
  refine d_r [0,1,4,5,6,7] [(1, g_n (w_r (e := ((e : Nat) : Int) - (1 : Int)) (x := ((e - 1 : Nat) : Int)) (by omega))), (2, g_i .i64 (show IntKind.wrap .i64 (Int.tdiv ((e - 1 : Nat) : Int) (31 : Int)) = (((e - 1) / 31 : Nat) : Int) from Go.Dbr.i64_quo_nat (a := ((e - 1 : Nat) : Int)) (n := e - 1) (m := 31) rfl (by omega))), (3, g_n (w_m ((e - 1) / 31) 31))] Es fun _ E0 => ze <| wp_seq <| zk <| f_o <| m_z 22 (bys (zd 32 0)) E0 Er fun _ _ Ea E1 Et => ?_
  refine f_e <| ze <| wp_seq <| r_c (fun ac wo => Env ac 37 [(0, .int .i64 4), (1, .slice ab (zb lb) cb), (4, pt Ed), (5, pt Ec), (6, ni e), (7, ni (((e - 1) / 31) * 31)), (8, pt Ea)] ∧ Ev w [] wo [.box Ec (zh (nd (lv (zo e lb) % mF 4))) 33, .box Ed (zh (zd 4 0)) 33, .box Ea (bys (zn 0 (zd 32 0) ++ (zn (e - (((e - 1) / 31) * 31)) (zo (((e - 1) / 31) * 31) lb)) ++ zo (0 + (e - (((e - 1) / 31) * 31))) (zd 32 0))) 22]) ?_ ?_
  ·
   refine h_s (fun wv => Ev w [] wv [.box Ea (bys (zd 32 0)) 22]) [5] 6 ?_
   have Ef := Et.trans (zO Et.heap)
   refine h_name fun G hG => ?_
   have nd88 : ∀ (ac : Act) (wo : World), Env ac 37 [(0, .int .i64 4), (1, .slice ab (zb lb) cb), (4, pt Ed), (5, pt Ec), (6, ni e), (7, ni (((e - 1) / 31) * 31)), (8, pt Ea), (21, .slice (some ⟨Ea, 0, none⟩) 32 32), (22, .slice ab (zb lb) cb), (23, ni (((e - 1) / 31) * 31)), (24, ni e)] → Ev w [] wo [.box Ec (zh (nd (lv (zo e lb) % mF 4))) 33, .box Ed (zh (zd 4 0)) 33, .box Ea (bys (zd 32 0)) 22] → G 2 #[true, true, true, true, false, false] ac wo := by
    intro _ _ E2 Ep
    refine Zl hG ?_
    refine q_t 4 ?_
    have E3 := ib.cap
    refine YV (d := some 25) (t := 23) (e := 5) (sz := 1) (len := zb lb) (cap := cb) (lo := ((e - 1) / 31) * 31) (hi := e) (ao := ab) (lov := (some (ni (((e - 1) / 31) * 31)))) (hiv := (some (ni e))) E2 (by kernel_rfl) (by kernel_rfl) (by kernel_rfl) (by omega) (by omega) (.inr ⟨.i64, rfl⟩) (.inr ⟨.i64, rfl⟩) ?_
    intro _ E4
    refine ⟨fun _ => Ep.pk [2], ?_⟩
    refine q_t 5 ?_
    have hcy96 : Nat.min (e - (((e - 1) / 31) * 31)) 32 = e - (((e - 1) / 31) * 31) := by show min _ _ = _; omega
    refine op_copybox (d := some 26) (dT := 23) (sT := 23) (ty := 3) (elem := 5) (b := Ea) (off := 0) (k := 2) (m := e - (((e - 1) / 31) * 31)) (xs := bys (zn (e - (((e - 1) / 31) * 31)) (zo (((e - 1) / 31) * 31) lb))) (ys := bys (zn (e - (((e - 1) / 31) * 31)) (zo (((e - 1) / 31) * 31) lb))) (dLen := 32) (dCap := 32) (so := Q3 ab cb (((e - 1) / 31) * 31) 1) (sLen := e - (((e - 1) / 31) * 31)) (sCap := cb - (((e - 1) / 31) * 31)) E4 (by kernel_rfl) Ep rfl (by kernel_rfl) (by kernel_rfl) (bys_cut_reads (ib.ev Ep).reads (n := (zb lb)) cb (((e - 1) / 31) * 31) e (by simp) (by omega) (by omega) (by omega)) (fun e => cut_nz ib.nz e (by omega)) hcy96 (Zt (by first | (simp [bys]; done) | (simp [bys]; omega))) (zH (by first | (simp; done) | (simp; omega))) (by rw [zH (zi)]; omega) (Zj _) (cs' := bys (zn 0 (zd 32 0) ++ (zn (e - (((e - 1) / 31) * 31)) (zo (((e - 1) / 31) * 31) lb)) ++ zo (0 + (e - (((e - 1) / 31) * 31))) (zd 32 0))) (by simp [bys, ZI, Yu, Je]) (L' := [.box Ec (zh (nd (lv (zo e lb) % mF 4))) 33, .box Ed (zh (zd 4 0)) 33, .box Ea (bys (zn 0 (zd 32 0) ++ (zn (e - (((e - 1) / 31) * 31)) (zo (((e - 1) / 31) * 31) lb)) ++ zo (0 + (e - (((e - 1) / 31) * 31))) (zd 32 0))) 22]) rfl ?_
    intro _ _  E5 Eu
    refine ⟨q_y, ?_⟩
    exact h_e ⟨E5.sb, Eu.pk [0, 1, 2]⟩
   have nd101 : ∀ (ac : Act) (wo : World), Env ac 37 [(0, .int .i64 4), (1, .slice ab (zb lb) cb), (4, pt Ed), (5, pt Ec), (6, ni e), (7, ni (((e - 1) / 31) * 31)), (8, pt Ea), (25, .slice (Q3 ab cb (((e - 1) / 31) * 31) 1) (e - (((e - 1) / 31) * 31)) (cb - (((e - 1) / 31) * 31)))] → Ev w [] wo [.box Ec (zh (nd (lv (zo e lb) % mF 4))) 33, .box Ed (zh (zd 4 0)) 33, .box Ea (bys (zd 32 0)) 22] → G 2 #[false, true, true, true, true, false] ac wo := by
    intro _ _ Ew Eg
    refine Zl hG ?_
    refine q_t 0 ?_
    refine ZQ (d := some 21) (t := 22) (e := 5) (sz := 1) (m := 32) (lo := 0) (hi := 32) (b := Ea) (off := 0) (lov := none) (hiv := none) (o := 0) Ew (by kernel_rfl) (by kernel_rfl) (by kernel_rfl) (by omega) (by omega) (by omega) (.inl ⟨rfl, rfl⟩) (.inl ⟨rfl, rfl⟩) (by omega) ?_
    intro _ Ex
    refine ⟨fun _ => Eg.pk [2], ?_⟩
    refine q_t 5 ?_
    have hcy108 : Nat.min (e - (((e - 1) / 31) * 31)) 32 = e - (((e - 1) / 31) * 31) := by show min _ _ = _; omega
    refine op_copybox (d := some 26) (dT := 23) (sT := 23) (ty := 3) (elem := 5) (b := Ea) (off := 0) (k := 2) (m := e - (((e - 1) / 31) * 31)) (xs := bys (zn (e - (((e - 1) / 31) * 31)) (zo (((e - 1) / 31) * 31) lb))) (ys := bys (zn (e - (((e - 1) / 31) * 31)) (zo (((e - 1) / 31) * 31) lb))) (dLen := 32) (dCap := 32) (so := Q3 ab cb (((e - 1) / 31) * 31) 1) (sLen := e - (((e - 1) / 31) * 31)) (sCap := cb - (((e - 1) / 31) * 31)) Ex (by kernel_rfl) Eg rfl (by kernel_rfl) (by kernel_rfl) (bys_cut_reads (ib.ev Eg).reads (n := (zb lb)) cb (((e - 1) / 31) * 31) e (by simp) (by omega) (by omega) (by omega)) (fun e => cut_nz ib.nz e (by omega)) hcy108 (Zt (by first | (simp [bys]; done) | (simp [bys]; omega))) (zH (by first | (simp; done) | (simp; omega))) (by rw [zH (zi)]; omega) (Zj _) (cs' := bys (zn 0 (zd 32 0) ++ (zn (e - (((e - 1) / 31) * 31)) (zo (((e - 1) / 31) * 31) lb)) ++ zo (0 + (e - (((e - 1) / 31) * 31))) (zd 32 0))) (by simp [bys, ZI, Yu, Je]) (L' := [.box Ec (zh (nd (lv (zo e lb) % mF 4))) 33, .box Ed (zh (zd 4 0)) 33, .box Ea (bys (zn 0 (zd 32 0) ++ (zn (e - (((e - 1) / 31) * 31)) (zo (((e - 1) / 31) * 31) lb)) ++ zo (0 + (e - (((e - 1) / 31) * 31))) (zd 32 0))) 22]) rfl ?_
    intro _ _  Ey Ez
    refine ⟨q_y, ?_⟩
    exact h_e ⟨Ey.sb, Ez.pk [0, 1, 2]⟩
   refine Zl hG ?_
   refine q_s [1,2,3] [] 3 E1 (Ef.pk [2]) fun _ Ei => h_ways [0, 4] (by kernel_rfl) rfl ?_
   refine ⟨?_, ?_, trivial⟩
   ·
    rintro _ rfl
    refine ZQ (d := some 21) (t := 22) (e := 5) (sz := 1) (m := 32) (lo := 0) (hi := 32) (b := Ea) (off := 0) (lov := none) (hiv := none) (o := 0) Ei (by kernel_rfl) (by kernel_rfl) (by kernel_rfl) (by omega) (by omega) (by omega) (.inl ⟨rfl, rfl⟩) (.inl ⟨rfl, rfl⟩) (by omega) ?_
    intro _ EA
    refine ⟨fun _ => Ef.pk [2], ?_⟩
    exact h_to hG (by kernel_rfl) (nd88 _ _ (EA.sb) (Ef.pk [0, 1, 2]))
   rintro _ rfl
   have ES := ib.cap
   refine YV (d := some 25) (t := 23) (e := 5) (sz := 1) (len := zb lb) (cap := cb) (lo := ((e - 1) / 31) * 31) (hi := e) (ao := ab) (lov := (some (ni (((e - 1) / 31) * 31)))) (hiv := (some (ni e))) Ei (by kernel_rfl) (by kernel_rfl) (by kernel_rfl) (by omega) (by omega) (.inr ⟨.i64, rfl⟩) (.inr ⟨.i64, rfl⟩) ?_
   intro _ EB
   refine ⟨fun _ => Ef.pk [2], ?_⟩
   exact h_to hG (by kernel_rfl) (nd101 _ _ (EB.sb) (Ef.pk [0, 1, 2]))
  rintro _ _ ⟨EC, Ej⟩
  refine ze <| wp_seq <| r_c (fun ac wo => Env ac 37 [(0, .int .i64 4), (1, .slice ab (zb lb) cb), (4, pt Ed), (5, pt Ec), (6, ni e), (7, ni (((e - 1) / 31) * 31)), (8, pt Ea)] ∧ Ev w [] wo [.box Ec (zh (nd (addM 4 (nv (nd (mulM 4 (nv (nd (lv (zo e lb) % mF 4))) (nv ([0, 0, 0, 72057594037927936] : List UInt64))))) (nv (nd (lv (zn 0 (zd 32 0) ++ (zn (e - (((e - 1) / 31) * 31)) (zo (((e - 1) / 31) * 31) lb)) ++ zo (0 + (e - (((e - 1) / 31) * 31))) (zd 32 0)))))))) 33, .box Ed (zh (zd 4 0)) 33, .box Ea (bys (zn 0 (zd 32 0) ++ (zn (e - (((e - 1) / 31) * 31)) (zo (((e - 1) / 31) * 31) lb)) ++ zo (0 + (e - (((e - 1) / 31) * 31))) (zd 32 0))) 22]) ?_ ?_
  ·
   refine h_s (fun wv => Ev w [] wv [.box Ec (zh (nd (lv (zo e lb) % mF 4))) 33, .box Ea (bys (zn 0 (zd 32 0) ++ (zn (e - (((e - 1) / 31) * 31)) (zo (((e - 1) / 31) * 31) lb)) ++ zo (0 + (e - (((e - 1) / 31) * 31))) (zd 32 0))) 22]) [8] 9 ?_
   have Eb := Ej.trans (zO Ej.heap)
   refine q_s [0,1] [] 7 EC (Eb.pk [0, 2]) fun _ ED => q_r 2 (s := Instr.loadAt 33 (pt Ec)) (v := .agg (zg (zh (nd (lv (zo e lb) % mF 4))))) ED (fun w hS => zM (m := 4) (cs := zh (nd (lv (zo e lb) % mF 4))) (zf (zl _ _)) (by kernel_rfl) (by kernel_rfl) (hS.heap.cells (k := 0) (off := 0) (m := 4) rfl (zq (zf (zl _ _))))) (Eb.pk [0, 2]) fun _ EE => q_s [3] [] 5 EE (Eb.pk [0, 2]) fun _ EF => q_r 5 (s := Instr.loadAt 22 (pt Ea)) (v := .agg (zg (bys (zn 0 (zd 32 0) ++ (zn (e - (((e - 1) / 31) * 31)) (zo (((e - 1) / 31) * 31) lb)) ++ zo (0 + (e - (((e - 1) / 31) * 31))) (zd 32 0))))) EF (fun w hS => zM (m := 32) (cs := bys (zn 0 (zd 32 0) ++ (zn (e - (((e - 1) / 31) * 31)) (zo (((e - 1) / 31) * 31) lb)) ++ zo (0 + (e - (((e - 1) / 31) * 31))) (zd 32 0))) (zH (Ks (zi) (by first | (simp; done) | (simp; omega)) (by omega))) (by kernel_rfl) (by kernel_rfl) (hS.heap.cells (k := 1) (off := 0) (m := 32) rfl (zq (zH (Ks (zi) (by first | (simp; done) | (simp; omega)) (by omega)))))) (Eb.pk [0, 2]) fun _ EG => ?_
   refine q_t 4 ?_
   refine c_p EG Eb (hM4 _ (nd (lv (zo e lb) % mF 4)) ([0, 0, 0, 72057594037927936] : List UInt64) (zl _ _) (show zb ([0, 0, 0, 72057594037927936] : List UInt64) = 4 from rfl)) fun _ _ EH Ek => ⟨fun _ => Ek.pk [0, 2], ?_⟩
   refine q_t 6 ?_
   refine c_p EH Ek (XR _ (zn 0 (zd 32 0) ++ (zn (e - (((e - 1) / 31) * 31)) (zo (((e - 1) / 31) * 31) lb)) ++ zo (0 + (e - (((e - 1) / 31) * 31))) (zd 32 0)) (Ks (zi) (by first | (simp; done) | (simp; omega)) (by omega))) fun _ _ EI El => ⟨fun _ => El.pk [0, 2], ?_⟩
   refine q_t 7 ?_
   refine c_p EI El (add_go _ 4 h4f (nd (mulM 4 (nv (nd (lv (zo e lb) % mF 4))) (nv ([0, 0, 0, 72057594037927936] : List UInt64)))) (nd (lv (zn 0 (zd 32 0) ++ (zn (e - (((e - 1) / 31) * 31)) (zo (((e - 1) / 31) * 31) lb)) ++ zo (0 + (e - (((e - 1) / 31) * 31))) (zd 32 0)))) (zl _ _) (zl _ _)) fun _ _ EJ Em => ⟨fun _ => Em.pk [0, 2], ?_⟩
   refine q_t 8 ?_
   refine zQ 0 4 (zh (nd (addM 4 (nv (nd (mulM 4 (nv (nd (lv (zo e lb) % mF 4))) (nv ([0, 0, 0, 72057594037927936] : List UInt64))))) (nv (nd (lv (zn 0 (zd 32 0) ++ (zn (e - (((e - 1) / 31) * 31)) (zo (((e - 1) / 31) * 31) lb)) ++ zo (0 + (e - (((e - 1) / 31) * 31))) (zd 32 0)))))))) _ EJ Em rfl (zf (zl _ _)) (zf (zl _ _)) (zt _) rfl fun _ _ EK EL => ⟨q_y, ?_⟩
   exact h_e ⟨EK.sb, EL.pk [0, 1, 2]⟩
  rintro _ _ ⟨EM, EN⟩
  refine ze <| d_r [0,1,4,5,6,7,8] [] EM fun _ EO => zv <| ze <| ⟨_, ⟨(e - 1) / 31 * 31, (nd (addM 4 (nv (nd (mulM 4 (nv (nd (lv (zo e lb) % mF 4))) (nv ([0, 0, 0, 72057594037927936] : List UInt64))))) (nv (nd (lv (zn 0 (zd 32 0) ++ (zn (e - (((e - 1) / 31) * 31)) (zo (((e - 1) / 31) * 31) lb)) ++ zo (0 + (e - (((e - 1) / 31) * 31))) (zd 32 0))))))), rfl, EO.sb, EN.pk [0, 1], by omega, by omega, (zl _ _), wide_chunk h4f (by omega) (by omega) hm (chunk_val (by omega) (by omega) (by omega))⟩, ?_⟩
  omega
 have EP := Eq.fx (t := 13) (congrArg Value.bool Ee)
 have hp285 : ¬ (((e : Nat) : Int) > (0 : Int)) := of_decide_eq_false Ee
 refine d_e [0,1,4,5,6,16] [] EP fun _ En => ze <| c_f En ?_
 refine wp_exit <| zy <| zy <| zL <| ze <| wp_seq ?_
 have Hd : e = 0 := by omega
 subst Hd
 rw [hxe] at Eh
 refine zk <| f_o <| m_aw 0 4 (zh (nd (lv (zo 0 lb) % mF 4))) En Eh rfl (zf (zl _ _)) fun _ EQ => f_o <| zQ 1 4 (zh (nd (lv (zo 0 lb) % mF 4))) [.box Ec (zh (nd (lv (zo 0 lb) % mF 4))) 33, .box Ed (zh (nd (lv (zo 0 lb) % mF 4))) 33] EQ Eh rfl (zf (zl _ _)) (zf (zi)) (zt _) rfl fun _ _ ER Eo => f_e <| ze <| wp_ret <| d_cell1 (v := .agg (zg (zh (nd (lv (zo 0 lb) % mF 4))))) (t := 4) (T := 33) (ad := ⟨Ed, 0, none⟩) ER (by kernel_rfl) (by kernel_rfl) (zB (t := 33) (k := 1) (off := 0) (m := 4) (xs := zh (nd (lv (zo 0 lb) % mF 4))) Eo rfl (zq (zf (zl _ _))) (zf (zl _ _)) (by kernel_rfl) (by kernel_rfl)) ?_
 exact ⟨rfl, Eo.pk []⟩
end Go.Proofs.YtlnogkmnklfjlaaGreatDoor

namespace Go.Dbr
open Go Go.RowKit
section
variable {P : Program}
theorem run_toarr2 {t e : TypeId} {m : Nat} {ao : Option Addr} {ad : Addr} {p c : Nat} (hu : P.underlying t = some (.array m e)) (ha : ao = some ad) (h : m ≤ p) (w : World) : (Instr.arrayAt t (.slice ao p c)).run P w = .ok (.pointer (some ad)) w := by
  subst ha
  exact run_toarr hu h w
theorem add0 (ad : Addr) : ad = ad.add 0 := by
  unfold Addr.add
  rw [if_pos rfl]
theorem bys_pre {l : List UInt8} {m : Nat} : ∀ j, j < m → (bys l)[0 + j]? = (bys (zn m l))[j]? := fun j hj => by
  rw [bys_take, List.getElem?_take, if_pos hj, Qp]
theorem bys_prel {l : List UInt8} {m : Nat} (h : m ≤ l.length) : (bys (zn m l)).length = m := by
  rw [bys_length, zs]
  omega
variable {w : World}
end
end Go.Dbr

namespace Go.Dbr
open Go Go.RowKit
section
variable {P : Program} {ops : Array Oper} {Q : Exit → Act → World → Prop} {n i : Nat} {l : List (Nat × Value)} {a : Act} {w w0 : World} {L L0 : List Ent} {d : Option Tmp} {K : Act → World → Prop}
theorem Heap.readsWhole {k b : Nat} {cs : List Value} {TA : TypeId} (h : Heap w L) (hk : L[k]? = some (.box b cs TA)) : Reads w (some ⟨b, 0, none⟩) cs := by
  have hh := h.holds k _ hk
  intro j u hj
  rw [add_off, Qp]
  have hh2 : w.heap[b]? = some (.cells cs.toArray TA (0, 0)) := hh
  rw [cell_of_row w b j cs.toArray TA (0, 0) hh2]
  simpa using hj
theorem op_appbox (E : Env a n l) {t tx ty T TA : TypeId} {k b : Nat} {sz p m : Nat} {cs ys : List Value} {x : Value} {z : Value} {bytes : Nat}
    (h : opAt ops n i l = some (.run d (appendOf t tx ty (.slice (some ⟨b, 0, none⟩) p p) x))) (H : Ev w0 L0 w L) (hk : L[k]? = some (.box b cs TA)) (hn : cs.length = p * sz) (hs : Src P sz tx x m ys w)
    (ht : P.underlying t = some (.slice T)) (hti : (P.info? T).map (fun i => (i.zero, i.size, i.bytes)) = some (some z, sz, bytes)) (hzs : z.cells.size = sz) (hm : 0 < m)
    (hb : ((p + m) + (p + m) / 4 + 192) * bytes ≤ 281474976710656) (h63 : p + m ≤ maxLen)
    (next : ∀ a' w' ao' cap', Env a' n (putl d (.slice ao' (p + m) cap') l) → Ev w0 L0 w' (L ++ [.vec ao' cap' sz (cs ++ ys) T]) → p + m ≤ cap' → K a' w') : wpOp P ops Q i K a w := by
  obtain ⟨ti, hi, hz, hsz, hby⟩ : ∃ ti, P.info? T = some ti ∧ ti.zero = some z ∧ ti.size = sz ∧ ti.bytes = bytes := by
    cases hi : P.info? T with
    | none => simp [hi] at hti
    | some ti => simp only [hi, Z7, Option.some.injEq, Prod.mk.injEq] at hti; exact ⟨ti, rfl, hti.1, hti.2.1, hti.2.2⟩
  subst hsz
  subst hby
  have hyl := hs.newsLen
  have hlen : (cs ++ ys).length = (p + m) * ti.size := by rw [List.length_append, hn, hyl, Zo]
  have hold : (Builtin.firstCells ti.size p (.slice (some ⟨b, 0, none⟩) p p)).run P w.drew = .ok cs.toArray w.drew := by
    refine run_firstCells_some w.drew ti.size p ⟨b, 0, none⟩ p p cs hn fun j u hj => ?_
    have := H.heap.readsWhole hk j u hj
    simpa using this
  have hrun := run_append_grow_src (P := P) w t tx ty T ti z ht hi hz (some ⟨b, 0, none⟩) p p cs hold x m ys hs (by omega) (by simp only [maxLen] at h63; omega) (growslice_fits_wide (by omega) hb)
  have hge := grownCap_ge w (p + m) p T
  have hcm := grownCap_le_maxLen w (p + m) p T h63
  have hcap : (cs ++ ys).length ≤ grownCap w (p + m) p T * ti.size := by rw [hlen]; exact Nat.mul_le_mul_right _ hge
  refine any_run E h (run_nv hrun) fun a' E' => next a' _ _ _ E' (H.trans (Ev.add H.heap ⟨rfl, rfl, rfl, by simp, fun b hb _ => Below.heap_alloc w.drew _ b hb⟩ ⟨rfl, hcm, hcap, _, (0, 0), heap_alloc_new w.drew _, .inl rfl, ?_, fun j hj => ?_⟩ (fun b hb => ?_))) hge
  · simp only [Qp]
    rw [Array.size_append, List.size_toArray, hlen, size_zeroCells, hzs, ← Zo]
    rw [show p + m + (grownCap w (p + m) p T - (p + m)) = grownCap w (p + m) p T by omega]
    exact Nat.le_refl _
  · rw [Qp, Array.getElem?_append_left (by simpa using hj)]
    simp
  · simp only [Ent.own, Z7, Option.some.injEq] at hb
    have : w.drew.heap.size = w.heap.size := rfl
    omega
end
end Go.Dbr

namespace Go.Proofs.YtlnogkmnklfjlaaGreatDoor
open Go.Dbr
set_option maxRecDepth 100000
set_option maxHeartbeats 2000000
set_option linter.unusedVariables false
set_option linter.unusedSimpArgs false
theorem hL4 : LeftOk 4 := leftOk h4f
theorem hR4 : RMulOk 4 := rmulOk h4f hL4
theorem h3s : (3 : Int) = 1 ∨ (3 : Int) = 2 ∨ (3 : Int) = 3 := .inr (.inr rfl)
theorem parts_ok {h : Int} {lx : List (Sl UInt8)} (hb : ∀ x ∈ lx, x.l.length ≤ 140737488353280) : ∀ (k : Nat) (x : Sl UInt8), lx[k]? = some x → zb (Sh.restH h (ZY (fun s : Sl UInt8 => s.l) (zn k lx))) + zb x.l ≤ 140737488355200 := fun k x hx => by
  have h1 := Sh.restH_lt h (ZY (fun s : Sl UInt8 => s.l) (zn k lx))
  have h2 := hb x (Q0 hx)
  omega
def nE (b : List UInt8) : Nat := lv (Sh.sumF 3 b) % mF 4
theorem nE_lt (b : List UInt8) : nE b < W256 := mod_lt_w h4f
def clE (k : List UInt8) : List UInt8 := zp (zp k 0 (za k 0 0 &&& 248)) 31 (za (zp k 0 (za k 0 0 &&& 248)) 31 0 &&& 63 ||| 64)
theorem clE_len {k : List UInt8} (h : k.length = 32) : (clE k).length = 32 := by rw [clE, ZV, ZV, h]
theorem s3_len (b : List UInt8) : (Sh.sumF 3 b).length = 64 := (Sh.sumF_len h3s b).trans rfl
theorem s3_take (b : List UInt8) : (zn 32 (Sh.sumF 3 b)).length = 32 := by rw [zs, s3_len]; rfl
def sE (sd : List UInt8) : Nat := lv (clE (zn 32 (Sh.sumF 3 sd)))
theorem sE_lt (sd : List UInt8) : sE sd < W256 := by
  have := lv_lt (clE (zn 32 (Sh.sumF 3 sd)))
  rw [clE_len (s3_take sd)] at this
  exact this
def ahE (sd : List UInt8) : List UInt8 := zo 32 (Sh.sumF 3 sd)
theorem ahE_len (sd : List UInt8) : (ahE sd).length = 32 := by rw [ahE, zu, s3_len]
theorem sha_go (w : World) (ax : Option Addr) (nx cx : Nat) (lx : List (Sl UInt8)) (ex : nx = zb lx) (ix : InS (fun s : Sl UInt8 => s.f) 24 (fun x : Sl UInt8 => InB w [] x.a x.c x.l) w [] ax cx lx) (hT : ∀ x ∈ lx, zb x.l ≤ 140737488353280) {b : List UInt8} (hb : (ZY (fun s : Sl UInt8 => s.l) lx) = b) (gk32 : InU32 w [] (some ⟨0, 0, none⟩) 64 Sh.K32) (gk64 : InU64 w [] (some ⟨1, 0, none⟩) 80 Sh.K64) : Calls Tryz.prog 40 #[.int .i64 3, .slice ax nx cx] w fun e w' => ∃ ao co, e = .returned (.slice ao (zb (Sh.sumF 3 b)) co) ∧ Ev w [] w' [.vec ao co 1 (bys (Sh.sumF 3 b)) 5] := by
  subst hb
  exact Sh.of_go w 3 (.inr rfl) ax nx cx lx ex ix (parts_ok hT) gk32 gk64
theorem enumber_go (w : World) (ax : Option Addr) (nx cx : Nat) (lx : List (Sl UInt8)) (ex : nx = zb lx) (ix : InS (fun s : Sl UInt8 => s.f) 24 (fun x : Sl UInt8 => InB w [] x.a x.c x.l) w [] ax cx lx) (hT : ∀ x ∈ lx, zb x.l ≤ 140737488353280) {b : List UInt8} (hb : (ZY (fun s : Sl UInt8 => s.l) lx) = b) (gk32 : InU32 w [] (some ⟨0, 0, none⟩) 64 Sh.K32) (gk64 : InU64 w [] (some ⟨1, 0, none⟩) 80 Sh.K64) : Calls Tryz.prog 21 #[.slice ax nx cx] w fun e w' => e = .returned (.agg (zg (zh (nd (nE b))))) ∧ Ev w [] w' [] := by
 subst ex
 have hs := ix.small
 have Eq := ix.cap
 refine d_0 [(0, .slice ax (zb lx) cx)] 6 Go.Proofs.Tryz.func21 Go.Proofs.Tryz.ntmps21 (Heap.nil _) fun Ek El Em => wp_seq <| zk <| f_o <| m_z 33 (zh (zd 4 0)) El Em fun _ _ En Eo Ea => f_e <| ze <| wp_seq ?_
 have hs3l := s3_len (ZY (fun s : Sl UInt8 => s.l) lx)
 refine zk <| d_k [2,3] [] 1 Eo fun _ Ep => f_o <| c_0 Ep Ea (sha_go _ ax (zb lx) cx lx (by first | rfl | (simp; done) | (simp; omega) | omega) (ix.go Ea [] (by kernel_rfl) (fun _ h => (InB.ev h Ea).pick [] (by kernel_rfl))) hT (b := (ZY (fun s : Sl UInt8 => s.l) lx)) rfl ((gk32.ev Ea).pick [] (by kernel_rfl)) ((gk64.ev Ea).pick [] (by kernel_rfl))) ?_
 rintro _ _ ⟨Ed, Ee, rfl, Ef⟩
 refine ⟨_, _, _, rfl, Ef, rfl, fun _ Eg Eb => ?_⟩
 refine f_o <| c_p Eg Eb (wide4_go _  Ed (zb (Sh.sumF 3 (ZY (fun s : Sl UInt8 => s.l) lx))) Ee (Sh.sumF 3 (ZY (fun s : Sl UInt8 => s.l) lx)) (by first | rfl | (simp; done) | (simp; omega) | omega) (bys_in Eb.heap (k := 0) rfl [] (by kernel_rfl) rfl (by first | omega | (simp; done) | (simp; omega)))) fun _ _ Eh Ei => f_o <| zQ 1 4 (zh (nd (lv (Sh.sumF 3 (ZY (fun s : Sl UInt8 => s.l) lx)) % mF 4))) _ Eh Ei rfl (zf (zl _ _)) (zf (zi)) (zt _) rfl fun _ _ Ej Ec => f_e <| ze <| wp_ret <| d_cell1 (v := .agg (zg (zh (nd (lv (Sh.sumF 3 (ZY (fun s : Sl UInt8 => s.l) lx)) % mF 4))))) (t := 2) (T := 33) (ad := ⟨En, 0, none⟩) Ej (by kernel_rfl) (by kernel_rfl) (zB (t := 33) (k := 1) (off := 0) (m := 4) (xs := zh (nd (lv (Sh.sumF 3 (ZY (fun s : Sl UInt8 => s.l) lx)) % mF 4))) Ec rfl (zq (zf (zl _ _))) (zf (zl _ _)) (by kernel_rfl) (by kernel_rfl)) ?_
 exact ⟨by rw [← hb]; rfl, Ec.pk []⟩
theorem secret_go (w : World) (sd : List UInt8) (hsd : zb sd = 32) (gk32 : InU32 w [] (some ⟨0, 0, none⟩) 64 Sh.K32) (gk64 : InU64 w [] (some ⟨1, 0, none⟩) 80 Sh.K64) : Calls Tryz.prog 12 #[.agg (zg (bys sd))] w fun e w' => ∃ ao co, e = .returned (.tuple #[.agg (zg (zh (nd (sE sd)))), .slice ao (zb (ahE sd)) co]) ∧ Ev w [] w' [.vec ao co 1 (bys (ahE sd)) 5] := by
 refine d_0 [(0, .agg (zg (bys sd)))] 26 Go.Proofs.Tryz.func12 Go.Proofs.Tryz.ntmps12 (Heap.nil _) fun Ho Hp Hq => wp_seq <| zk <| f_o <| m_m 22 (bys sd) Hp Hq fun _ _ Em Hr Hs => f_o <| m_z 33 (zh (zd 4 0)) Hr Hs fun _ _ Ed Ht EV => d_e [1,2,3] [] Ht fun _ EW => ?_
 refine ze <| wp_seq <| zk <| f_o <| ZQ (d := some 6) (t := 22) (e := 5) (sz := 1) (m := 32) (lo := 0) (hi := 32) (b := Em) (off := 0) (lov := none) (hiv := none) (o := 0) EW (by kernel_rfl) (by kernel_rfl) (by kernel_rfl) (by omega) (by omega) (by omega) (.inl ⟨rfl, rfl⟩) (.inl ⟨rfl, rfl⟩) (by omega) ?_
 intro _ EX
 refine f_o <| ZO (d := some 7) (t := 72) (T := 23) (m := 1) (parts := #[(0, .slice (some ⟨Em, 0, none⟩) 32 32)]) (xs := [.slice (some ⟨Em, 0, none⟩) 32 32]) (sz := 1) EX (by kernel_rfl) (by kernel_rfl) rfl (by decide) EV ?_
 intro _ _ Ex EY Eg
 refine f_o ?_
 rw [show (.slice (some ⟨Em, 0, none⟩) 32 32 : Value) = .slice (some ⟨Em, 0, none⟩) (zb sd) 32 from by rw [show zb sd = 32 from by first | omega | (simp only [zD, ahE_len, s3_len, zs, zu, zY, hsd]; omega) | (simp only [zD, ahE_len, s3_len, zs, zu, zY, hsd])]] at Eg
 refine c_0 EY Eg (sha_go _ (some ⟨Ex, 0, none⟩) 1 1 ([⟨some ⟨Em, 0, none⟩, 32, sd⟩] : List (Sl UInt8)) (by first | rfl | (simp; done) | (simp; omega) | omega) ⟨Eg.heap.ro (k := 2) rfl [] (by kernel_rfl) rfl, (fun e => by cases e), (by simp), (by simp), (zA.2 ⟨(bys_inbox (Eg.heap.roBox (k := 0) (m := 32) rfl (zq (zH hsd)) [] (by kernel_rfl) rfl) hsd (by first | decide | (dsimp only; decide))), (fun x h => absurd h Zs)⟩)⟩ (zA.2 ⟨(show zb sd ≤ 140737488353280 from (by first | omega | (simp only [zD, ahE_len, s3_len, zs, zu, zY, hsd]; omega) | (simp only [zD, ahE_len, s3_len, zs, zu, zY, hsd]; decide))), (fun x h => absurd h Zs)⟩) (b := sd) (by simp only [List.flatMap_cons, List.flatMap_nil, List.append_nil]) ((gk32.ev Eg).pick [] (by kernel_rfl)) ((gk64.ev Eg).pick [] (by kernel_rfl))) ?_
 rintro _ _ ⟨Eb, Ea, rfl, EZ⟩
 refine ⟨_, _, _, rfl, EZ, rfl, fun _ E0 El => ?_⟩
 refine d_e [2,3,4] [] E0 fun _ E1 => ze <| wp_seq ?_
 have hs3 := s3_len sd
 have hst := s3_take sd
 refine zk <| d_k [2,3,4,9] [] 1 E1 fun _ E2 => f_o ?_
 have E3 := Yd El.heap (k := 0) rfl
 refine op_slice0 (d := some 10) (t := 23) (e := 5) (sz := 1) (len := zb (Sh.sumF 3 sd)) (cap := Ea) (hi := 32) (ao := Eb) (lov := none) (hiv := (some (.int .i64 32))) E2 (by kernel_rfl) (by kernel_rfl) (by kernel_rfl) (by omega) (.inl ⟨rfl, rfl⟩) (.inr ⟨.i64, rfl⟩) ?_
 intro _ E4
 have E5 : 0 < 32 := by omega
 obtain ⟨En, Eo⟩ := some_of (fun e => by have := (bys_vnz El.heap (k := 0) rfl) e; omega) E5
 refine f_o <| q_v (x := Instr.arrayAt 22 (.slice Eb 32 Ea)) (v := .pointer (some En)) E4 (Go.Dbr.run_toarr2 (e := 5) (m := 32) (by kernel_rfl) Eo (by omega) _) fun _ E6 => f_o ?_
 have E7 : 32 ≤ zb (zn 32 (Sh.sumF 3 sd)) := by first | omega | (simp; done) | (simp; omega)
 refine op_loadaggat (d := some 12) (t := 22) (ad := En) (ao := Eb) (ys := bys (zn 32 (Sh.sumF 3 sd))) (o := 0) (m := 32) (xs := bys (zn 32 (zn 32 (Sh.sumF 3 sd)))) E6 (by kernel_rfl) (add0 _) (bys_take_reads (El.heap.reads (k := 0) rfl) 32) Eo bys_pre (bys_prel E7) (by kernel_rfl) (by kernel_rfl) ?_
 intro _ E8
 refine f_o <| m_z 22 (bys (zd 32 0)) E8 El fun _ _ Ec E9 Ha => f_o <| zQ 4 32 (bys (zn 32 (zn 32 (Sh.sumF 3 sd)))) _ E9 Ha rfl (zH (by first | (simp; done) | (simp; omega) | (rw [zs]; omega))) (zH (zi)) (Zj _) rfl fun _ _ Hb Eu => f_e <| ze <| wp_seq ?_
 rw [show (zn 32 (zn 32 (Sh.sumF 3 sd))) = (zn 32 (Sh.sumF 3 sd)) from (by rw [List.take_take]; rfl)] at Eu
 refine zk <| d_k [2,3,4,5,13] [] 1 Hb fun _ Hc => f_o ?_
 have Hd : 0 < zb (zn 32 (Sh.sumF 3 sd)) := by rw [hst]; omega
 refine m_v 4 0 (bv (za (zn 32 (Sh.sumF 3 sd)) 0 0)) Hc Eu rfl (Z9 Hd) fun _ He => d_k [2,3,4,5,15,16] [(2, g_i .u8 (Go.Dbr.u8_and (x := za (zn 32 (Sh.sumF 3 sd)) 0 0) (y := (248 : UInt8)) rfl rfl))] 4 He fun _ Hf => f_o ?_
 have Hg : 0 < zb (zn 32 (Sh.sumF 3 sd)) := by rw [hst]; omega
 refine m_t 4 0 (bv ((za (zn 32 (Sh.sumF 3 sd)) 0 0) &&& (248 : UInt8))) [.vec Eb Ea 1 (bys (Sh.sumF 3 sd)) 5, .box Em (bys sd) 22, .box Ed (zh (zd 4 0)) 33, .vec (some ⟨Ex, 0, none⟩) 1 1 [.slice (some ⟨Em, 0, none⟩) (zb sd) 32] 23, .box Ec (bys (zp (zn 32 (Sh.sumF 3 sd)) 0 ((za (zn 32 (Sh.sumF 3 sd)) 0 0) &&& (248 : UInt8)))) 22] Hf Eu rfl (Z9 Hg) (bys_set _ _ _) rfl fun _ _ Hh Ey => f_e <| ze <| wp_seq <| zk <| d_k [2,3,4,5,17] [] 1 Hh fun _ Hi => f_o ?_
 have Hj : 31 < zb (zp (zn 32 (Sh.sumF 3 sd)) 0 ((za (zn 32 (Sh.sumF 3 sd)) 0 0) &&& (248 : UInt8))) := by rw [(List.length_set.trans hst)]; omega
 refine m_v 4 31 (bv (za (zp (zn 32 (Sh.sumF 3 sd)) 0 ((za (zn 32 (Sh.sumF 3 sd)) 0 0) &&& (248 : UInt8))) 31 0)) Hi Ey rfl (Z9 Hj) fun _ Hk => d_k [2,3,4,5,20,21] [(2, g_i .u8 (Go.Dbr.u8_and (x := za (zp (zn 32 (Sh.sumF 3 sd)) 0 ((za (zn 32 (Sh.sumF 3 sd)) 0 0) &&& (248 : UInt8))) 31 0) (y := (63 : UInt8)) rfl rfl)), (3, g_i .u8 (Go.Dbr.u8_or (x := (za (zp (zn 32 (Sh.sumF 3 sd)) 0 ((za (zn 32 (Sh.sumF 3 sd)) 0 0) &&& (248 : UInt8))) 31 0) &&& (63 : UInt8)) (y := (64 : UInt8)) rfl rfl))] 5 Hk fun _ Hl => f_o ?_
 have Hm : 31 < zb (zp (zn 32 (Sh.sumF 3 sd)) 0 ((za (zn 32 (Sh.sumF 3 sd)) 0 0) &&& (248 : UInt8))) := by rw [(List.length_set.trans hst)]; omega
 refine m_t 4 31 (bv (((za (zp (zn 32 (Sh.sumF 3 sd)) 0 ((za (zn 32 (Sh.sumF 3 sd)) 0 0) &&& (248 : UInt8))) 31 0) &&& (63 : UInt8)) ||| (64 : UInt8))) _ Hl Ey rfl (Z9 Hm) (bys_set _ _ _) rfl fun _ _ Hn Ew => f_e <| ze <| wp_seq ?_
 rw [show (zp (zp (zn 32 (Sh.sumF 3 sd)) 0 ((za (zn 32 (Sh.sumF 3 sd)) 0 0) &&& (248 : UInt8))) 31 (((za (zp (zn 32 (Sh.sumF 3 sd)) 0 ((za (zn 32 (Sh.sumF 3 sd)) 0 0) &&& (248 : UInt8))) 31 0) &&& (63 : UInt8)) ||| (64 : UInt8))) = (clE (zn 32 (Sh.sumF 3 sd))) from rfl] at Ew
 refine r_c (fun ac wo => Env ac 26 [(2, pt Ed), (3, .slice (Q3 Eb Ea 32 1) ((zb (Sh.sumF 3 sd)) - 32) (Ea - 32)), (4, .slice Eb (zb (Sh.sumF 3 sd)) Ea), (5, pt Ec)] ∧ Ev w [] wo [.vec Eb Ea 1 (bys (Sh.sumF 3 sd)) 5, .box Ed (zh (nd (lv (clE (zn 32 (Sh.sumF 3 sd)))))) 33, .box Ec (bys (clE (zn 32 (Sh.sumF 3 sd)))) 22]) ?_ ?_
 ·
  refine h_s (fun wv => Ev w [] wv [.vec Eb Ea 1 (bys (Sh.sumF 3 sd)) 5, .box Ec (bys (clE (zn 32 (Sh.sumF 3 sd)))) 22]) [] 6 ?_
  have Eh := Ew.trans (zO Ew.heap)
  refine h_name fun G hG => ?_
  have nd185 : ∀ (ac : Act) (wo : World), Env ac 26 [(2, pt Ed), (3, .slice none 0 0), (4, .slice Eb (zb (Sh.sumF 3 sd)) Ea), (5, pt Ec), (23, .agg (zg (zh (nd (lv (clE (zn 32 (Sh.sumF 3 sd)))))))), (25, .slice (Q3 Eb Ea 32 1) ((zb (Sh.sumF 3 sd)) - 32) (Ea - 32))] → Ev w [] wo [.vec Eb Ea 1 (bys (Sh.sumF 3 sd)) 5, .box Ed (zh (zd 4 0)) 33, .box Ec (bys (clE (zn 32 (Sh.sumF 3 sd)))) 22] → G 2 #[true, true, true, true, false, false] ac wo := by
   intro _ _ Ez EA
   refine Zl hG ?_
   refine q_t 4 ?_
   refine zQ 1 4 (zh (nd (lv (clE (zn 32 (Sh.sumF 3 sd)))))) [.vec Eb Ea 1 (bys (Sh.sumF 3 sd)) 5, .box Ed (zh (nd (lv (clE (zn 32 (Sh.sumF 3 sd)))))) 33, .box Ec (bys (clE (zn 32 (Sh.sumF 3 sd)))) 22] Ez EA rfl (zf (zl _ _)) (zf (zi)) (zt _) rfl fun _ _ EB Ei => ⟨fun _ => Ei.pk [0, 2], ?_⟩
   refine q_s [5] [] 0 EB (Ei.pk [0, 2]) fun _ EC => ?_
   exact h_e ⟨EC.sb, Ei.pk [0, 1, 2]⟩
  have nd196 : ∀ (ac : Act) (wo : World), Env ac 26 [(2, pt Ed), (3, .slice none 0 0), (4, .slice Eb (zb (Sh.sumF 3 sd)) Ea), (5, pt Ec), (24, .slice Eb (zb (Sh.sumF 3 sd)) Ea)] → Ev w [] wo [.vec Eb Ea 1 (bys (Sh.sumF 3 sd)) 5, .box Ed (zh (nd (lv (clE (zn 32 (Sh.sumF 3 sd)))))) 33, .box Ec (bys (clE (zn 32 (Sh.sumF 3 sd)))) 22] → G 2 #[true, true, true, false, true, false] ac wo := by
   intro _ _ ED Ee
   refine Zl hG ?_
   refine q_t 3 ?_
   have ER := Yd Ee.heap (k := 0) rfl
   refine YV (d := some 25) (t := 23) (e := 5) (sz := 1) (len := zb (Sh.sumF 3 sd)) (cap := Ea) (lo := 32) (hi := zb (Sh.sumF 3 sd)) (ao := Eb) (lov := (some (.int .i64 32))) (hiv := none) ED (by kernel_rfl) (by kernel_rfl) (by kernel_rfl) (by omega) (by omega) (.inr ⟨.i64, rfl⟩) (.inl ⟨rfl, rfl⟩) ?_
   intro _ EE
   refine ⟨fun _ => Ee.pk [0, 2], ?_⟩
   refine q_s [5] [] 0 EE (Ee.pk [0, 2]) fun _ EF => ?_
   exact h_e ⟨EF.sb, Ee.pk [0, 1, 2]⟩
  have nd206 : ∀ (ac : Act) (wo : World), Env ac 26 [(2, pt Ed), (3, .slice none 0 0), (4, .slice Eb (zb (Sh.sumF 3 sd)) Ea), (5, pt Ec), (23, .agg (zg (zh (nd (lv (clE (zn 32 (Sh.sumF 3 sd)))))))), (24, .slice Eb (zb (Sh.sumF 3 sd)) Ea)] → Ev w [] wo [.vec Eb Ea 1 (bys (Sh.sumF 3 sd)) 5, .box Ed (zh (zd 4 0)) 33, .box Ec (bys (clE (zn 32 (Sh.sumF 3 sd)))) 22] → G 3 #[true, true, true, false, false, false] ac wo := by
   intro _ _ Ep Ef
   refine Zl hG ?_
   refine h_ways [3, 4] (by kernel_rfl) rfl ?_
   refine ⟨?_, ?_, trivial⟩
   ·
    rintro _ rfl
    have ES := Yd Ef.heap (k := 0) rfl
    refine YV (d := some 25) (t := 23) (e := 5) (sz := 1) (len := zb (Sh.sumF 3 sd)) (cap := Ea) (lo := 32) (hi := zb (Sh.sumF 3 sd)) (ao := Eb) (lov := (some (.int .i64 32))) (hiv := none) Ep (by kernel_rfl) (by kernel_rfl) (by kernel_rfl) (by omega) (by omega) (.inr ⟨.i64, rfl⟩) (.inl ⟨rfl, rfl⟩) ?_
    intro _ EG
    refine ⟨fun _ => Ef.pk [0, 2], ?_⟩
    exact h_to hG (by kernel_rfl) (nd185 _ _ (EG.sb) (Ef.pk [0, 1, 2]))
   rintro _ rfl
   refine zQ 1 4 (zh (nd (lv (clE (zn 32 (Sh.sumF 3 sd)))))) _ Ep Ef rfl (zf (zl _ _)) (zf (zi)) (zt _) rfl fun _ _ EH Eq => ⟨fun _ => Eq.pk [0, 2], ?_⟩
   exact h_to hG (by kernel_rfl) (nd196 _ _ (EH.sb) (Eq.pk [0, 1, 2]))
  have nd218 : ∀ (ac : Act) (wo : World), Env ac 26 [(2, pt Ed), (3, .slice none 0 0), (4, .slice Eb (zb (Sh.sumF 3 sd)) Ea), (5, pt Ec), (22, .agg (zg (bys (clE (zn 32 (Sh.sumF 3 sd)))))), (25, .slice (Q3 Eb Ea 32 1) ((zb (Sh.sumF 3 sd)) - 32) (Ea - 32))] → Ev w [] wo [.vec Eb Ea 1 (bys (Sh.sumF 3 sd)) 5, .box Ed (zh (zd 4 0)) 33, .box Ec (bys (clE (zn 32 (Sh.sumF 3 sd)))) 22] → G 3 #[true, false, true, true, false, false] ac wo := by
   intro _ _ EI EJ
   refine Zl hG ?_
   refine q_t 1 ?_
   refine c_p EI EJ (XR _ (clE (zn 32 (Sh.sumF 3 sd))) (clE_len hst)) fun _ _ EK Er => ⟨fun _ => Er.pk [0, 2], ?_⟩
   refine q_t 4 ?_
   refine zQ 1 4 (zh (nd (lv (clE (zn 32 (Sh.sumF 3 sd)))))) [.vec Eb Ea 1 (bys (Sh.sumF 3 sd)) 5, .box Ed (zh (nd (lv (clE (zn 32 (Sh.sumF 3 sd)))))) 33, .box Ec (bys (clE (zn 32 (Sh.sumF 3 sd)))) 22] EK Er rfl (zf (zl _ _)) (zf (zi)) (zt _) rfl fun _ _ EL Ej => ⟨fun _ => Ej.pk [0, 2], ?_⟩
   refine q_s [5] [] 0 EL (Ej.pk [0, 2]) fun _ EM => ?_
   exact h_e ⟨EM.sb, Ej.pk [0, 1, 2]⟩
  refine Zl hG ?_
  refine q_r 0 (s := Instr.loadAt 22 (pt Ec)) (v := .agg (zg (bys (clE (zn 32 (Sh.sumF 3 sd)))))) Hn (fun w hS => zM (m := 32) (cs := bys (clE (zn 32 (Sh.sumF 3 sd)))) (zH (clE_len hst)) (by kernel_rfl) (by kernel_rfl) (hS.heap.cells (k := 1) (off := 0) (m := 32) rfl (zq (zH (clE_len hst))))) (Eh.pk [0, 4]) fun _ EN => q_s [2] [] 4 EN (Eh.pk [0, 4]) fun _ Es => h_ways [1, 3] (by kernel_rfl) rfl ?_
  refine ⟨?_, ?_, trivial⟩
  ·
   rintro _ rfl
   refine c_p Es Eh (XR _ (clE (zn 32 (Sh.sumF 3 sd))) (clE_len hst)) fun _ _ EO Et => ⟨fun _ => Et.pk [0, 4], ?_⟩
   exact h_to hG (by kernel_rfl) (nd206 _ _ (EO.sb) (Et.pk [0, 2, 4]))
  rintro _ rfl
  have ET := Yd Eh.heap (k := 0) rfl
  refine YV (d := some 25) (t := 23) (e := 5) (sz := 1) (len := zb (Sh.sumF 3 sd)) (cap := Ea) (lo := 32) (hi := zb (Sh.sumF 3 sd)) (ao := Eb) (lov := (some (.int .i64 32))) (hiv := none) Es (by kernel_rfl) (by kernel_rfl) (by kernel_rfl) (by omega) (by omega) (.inr ⟨.i64, rfl⟩) (.inl ⟨rfl, rfl⟩) ?_
  intro _ EP
  refine ⟨fun _ => Eh.pk [0, 4], ?_⟩
  exact h_to hG (by kernel_rfl) (nd218 _ _ (EP.sb) (Eh.pk [0, 2, 4]))
 rintro _ _ ⟨EQ, Ek⟩
 refine ze <| wp_ret <| d_cell_tmp (v := .agg (zg (zh (nd (lv (clE (zn 32 (Sh.sumF 3 sd)))))))) (x := .slice (Q3 Eb Ea 32 1) ((zb (Sh.sumF 3 sd)) - 32) (Ea - 32)) (t := 2) (T := 33) (ad := ⟨Ed, 0, none⟩) (u := 3) EQ (by kernel_rfl) (by kernel_rfl) (zB (t := 33) (k := 1) (off := 0) (m := 4) (xs := zh (nd (lv (clE (zn 32 (Sh.sumF 3 sd)))))) Ek rfl (zq (zf (zl _ _))) (zf (zl _ _)) (by kernel_rfl) (by kernel_rfl)) (by kernel_rfl) ?_
 have EU := Yd Ek.heap (k := 0) rfl
 have Hf254 := Ev.cut (k := 0) (n := zb (Sh.sumF 3 sd)) (sz := 1) Ek rfl (ZD _) (by omega) 32 (zb (Sh.sumF 3 sd)) (by omega) (by omega)
 rw [bys_cutw (l := Sh.sumF 3 sd) (lo := 32) (n := zb (Sh.sumF 3 sd)) (by simp)] at Hf254
 exact ⟨_, _, by rw [show zb (ahE sd) = zb (Sh.sumF 3 sd) - 32 from zu]; first | done | rfl, Hf254.pk [0]⟩
end Go.Proofs.YtlnogkmnklfjlaaGreatDoor
