import Derived.Test.YtlnogkmnklfjlaaDoorSt10
import Derived.Test.YtlnogkmnklfjlaaDoorSt5
import Derived.Test.YtlnogkmnklfjlaaDoorSt7
import Derived.Test.YtlnogkmnklfjlaaDoorSt2
import Derived.Test.YtlnogkmnklfjlaaDoorSt9
open List renaming length → za, getD → zb, replicate → ze, length_replicate → zf, toArray → zi, take → zk, drop → zo, length_take → zp, length_drop → zr, forall_mem_cons → zu, set → zy, not_mem_nil → z3, take_of_length_le → Zk, length_cons → Zu, map_append → ZE, flatMap → ZG, length_set → ZI, map_take → QG, mem_of_getElem? → Q3, map_drop → Yt, length_nil → J0, drop_length → XD
open Go.Dbr renaming u64s_lenh → zc, then_normal → zg, u64s → zh, region_from → zm, uv64 → zn, load_whole → zq, store_whole → zs, u64s_one → zv, block_normal → zA, bys_lenh → zC, then_exit → zI, seg_skip → zN, run_loadAgg2 → zR, loop_once → z7, block_exit → z9, u32s_lenh → Zc, u32s → Zh, h_from → Zi, op_slicearr → Zp, bys_one → ZD, bys_append → ZP, op_append → ZV, bys_getD → Qa, loop_m → Qh, bys_len → Qm, op_lit → Qu, cutAt → QO, bys_vcap → YC, seg_in → YN, op_slice → Jl, copy_len → XN
open UInt64 renaming ofNat → zd, toUInt8 → zj
open Go.Proofs.YtlnogkmnklfjlaaDoor renaming nds_len → zl, mulM → zt, puE_len → zE, lb_len → zG, fromle_go → JO
open Go.Dbr.Ev renaming cellAgg → zM, drew → z4
open Go.Proofs.YtlnogkmnklfjlaaDoor.Sh renaming restH → zV, sizeOfH → QJ, S32_len → Yb, S64_len → Yc, padH → Yl, out64_len → JR, sumF → XC
open Nat renaming mul_comm → z5, add_mul → Zm, mul_one → Zo, mod_lt → ZB, zero_add → Z3
open Option renaming map_some → Zx
open Go.Dbr.Reads renaming src → ZR
/- Layer 5: sums: the walk. -/

namespace Go.Proofs.YtlnogkmnklfjlaaDoor.Sh
open Go.Dbr
set_option maxRecDepth 100000
set_option maxHeartbeats 2000000
set_option linter.unusedVariables false
set_option linter.unusedSimpArgs false

theorem sum64_go (w : World) (bd : Nat) (h : Int) (hh2 : h = 2 ∨ h = 3) (al : List UInt8) (ar : Option Addr) (cr : Nat) (gk32 : InU32 w [.box bd (([.int .i64 h] : List Value) ++ ((Zh (S32 h al)) ++ ((zh (S64 h al)) ++ ([.slice ar (za (zV h al)) cr, zn (zd (za al))] : List Value)))) 106, .vec ar cr 1 (bys (zV h al)) 5] (some ⟨0, 0, none⟩) 64 K32) (gk64 : InU64 w [.box bd (([.int .i64 h] : List Value) ++ ((Zh (S32 h al)) ++ ((zh (S64 h al)) ++ ([.slice ar (za (zV h al)) cr, zn (zd (za al))] : List Value)))) 106, .vec ar cr 1 (bys (zV h al)) 5] (some ⟨1, 0, none⟩) 80 K64) (hH : Heap w [.box bd (([.int .i64 h] : List Value) ++ ((Zh (S32 h al)) ++ ((zh (S64 h al)) ++ ([.slice ar (za (zV h al)) cr, zn (zd (za al))] : List Value)))) 106, .vec ar cr 1 (bys (zV h al)) 5]) : Calls Tryd.prog 71 #[pt bd] w fun e w' => ∃ ao co, e = .returned (.slice ao (za (XC h al)) co) ∧ Ev w [.box bd (([.int .i64 h] : List Value) ++ ((Zh (S32 h al)) ++ ((zh (S64 h al)) ++ ([.slice ar (za (zV h al)) cr, zn (zd (za al))] : List Value)))) 106, .vec ar cr 1 (bys (zV h al)) 5] w' [.box bd (([.int .i64 h] : List Value) ++ ((Zh (S32 h al)) ++ ((zh (S64 h al)) ++ ([.slice ar (za (zV h al)) cr, zn (zd (za al))] : List Value)))) 106, .vec ar cr 1 (bys (zV h al)) 5, .vec ao co 1 (bys (XC h al)) 5] := by
 have hrl := restH_lt h al
 have hrl2 := restH_le h al
 refine d_0 [(0, pt bd)] 95 Go.Proofs.Tryd.func71 Go.Proofs.Tryd.ntmps71 (hH) fun act0 En0 Hv0 => ?_
 refine wp_seq <| d_r [0,2] [] En0 fun _ En2 => ?_
 refine zg <| wp_seq <| zm <| d_k [0,2,9] [] 1 En2 fun _ En4 => ?_
 refine f_o <| c_l [0,1] (M := [.box bd (([.int .i64 h] : List Value) ++ ((Zh (S32 h al)) ++ ((zh (S64 h al)) ++ ([.slice ar (za (zV h al)) cr, zn (zd (za al))] : List Value)))) 106, .vec ar cr 1 (bys (zV h al)) 5]) En4 Hv0 (fun hM6 => clone_go _ bd h al ar cr hM6) ?_
 rintro _ _ ⟨bq5, aoq5, coq5, rfl, he8⟩
 refine ⟨_, _, [.box bd (([.int .i64 h] : List Value) ++ ((Zh (S32 h al)) ++ ((zh (S64 h al)) ++ ([.slice ar (za (zV h al)) cr, zn (zd (za al))] : List Value)))) 106, .vec ar cr 1 (bys (zV h al)) 5, .box bq5 (([.int .i64 h] : List Value) ++ ((Zh (S32 h al)) ++ ((zh (S64 h al)) ++ ([.slice aoq5 (za (zV h al)) coq5, zn (zd (za al))] : List Value)))) 106, .vec aoq5 coq5 1 (bys (zV h al)) 5], rfl, he8, by kernel_rfl, fun _ En11 Hv12 => ?_⟩
 refine d_e [0,2,3] [] En11 fun _ En14 => ?_
 refine zg <| wp_seq <| zm <| d_k [0,2,3,13] [] 3 En14 fun _ En16 => ?_
 refine f_o <| m_v 0 0 (.int .i64 h) En16 Hv12 rfl (YN rfl) fun _ En18 => ?_
 refine f_o <| c_p En18 Hv12 (block_go23 _ h hh2) fun _ _ En24 Hv25 => ?_
 refine d_e [0,2,3,4] [] En24 fun _ En27 => ?_
 refine zg <| wp_seq <| zm <| d_k [0,2,3,4,17] [] 2 En27 fun _ En29 => ?_
 refine f_o <| op_makecap (d := some 18) (t := 26) (T := 5) (q := 1) (m := 256) (kl := .i64) (kc := .i64) (z := .int .u8 0) (bytes := 1) En29 (by kernel_rfl) Hv25 (by kernel_rfl) (by kernel_rfl) (by kernel_rfl) (by omega) (by omega) (by unfold maxLen; omega) ?_
 intro _ _ bk30 En33 Hv34
 rw [show ze 1 (Value.int .u8 0) = bys (ze 1 0) from (bys_replicate _).symm] at Hv34
 refine d_e [0,2,3,4,5] [] En33 fun _ En36 => ?_
 refine zg <| wp_seq ?_
 have hb39 : 0 < 1 := (by omega)
 refine zm <| d_k [0,2,3,4,5,19] [] 1 En36 fun _ En41 => ?_
 refine f_o <| q_v (x := Instr.indexAt 26 (.slice (some ⟨bk30, 0, none⟩) 1 256) (.int .i64 0)) (v := .pointer (some (Addr.add ⟨bk30, 0, none⟩ 0))) En41 (Go.Dbr.run_indexsl (e := 5) (sz := 1) (j := 0) (jo := 0) rfl (by kernel_rfl) (by kernel_rfl) (by omega) hb39 (Zo _) _) fun _ En43 => ?_
 refine f_o <| op_storeel (d := none) (t := 5) (ad := ⟨bk30, 0, none⟩) (ao := some ⟨bk30, 0, none⟩) (k := 4) (cap := 256) (sz := 1) (j := 0) (xs := bys (ze 1 0)) (v := bv (128 : UInt8)) En43 (by kernel_rfl) Hv34 rfl rfl (by rw [bys_length]; first | omega | (simp; done) | (simp; omega)) (by kernel_rfl) rfl ?_
 intro _ wo45  En46 Hv47
 rw [bys_set] at Hv47
 refine f_e ?_
 replace Hv47 : Ev w [.box bd (([.int .i64 h] : List Value) ++ ((Zh (S32 h al)) ++ ((zh (S64 h al)) ++ ([.slice ar (za (zV h al)) cr, zn (zd (za al))] : List Value)))) 106, .vec ar cr 1 (bys (zV h al)) 5] wo45 [.box bd (([.int .i64 h] : List Value) ++ ((Zh (S32 h al)) ++ ((zh (S64 h al)) ++ ([.slice ar (za (zV h al)) cr, zn (zd (za al))] : List Value)))) 106, .vec ar cr 1 (bys (zV h al)) 5, .box bq5 (([.int .i64 h] : List Value) ++ ((Zh (S32 h al)) ++ ((zh (S64 h al)) ++ ([.slice aoq5 (za (zV h al)) coq5, zn (zd (za al))] : List Value)))) 106, .vec aoq5 coq5 1 (bys (zV h al)) 5, .vec (some ⟨bk30, 0, none⟩) 256 1 (bys ([128] : List UInt8)) 5] := Hv47
 refine zg <| wp_seq <| wp_block <| Qh (fun ms48 ac wo => ∃ (j : Nat) (ae : Option Addr) (ce : Nat) (el : List UInt8), ms48 = (pdZ 128 (za (zV h al)) - j : Nat) ∧ Env ac 95 [(0, pt bd), (2, .slice none 0 0), (3, pt bq5), (4, .int .i64 128), (5, .slice ae (za el) ce)] ∧ Ev w [.box bd (([.int .i64 h] : List Value) ++ ((Zh (S32 h al)) ++ ((zh (S64 h al)) ++ ([.slice ar (za (zV h al)) cr, zn (zd (za al))] : List Value)))) 106, .vec ar cr 1 (bys (zV h al)) 5] wo [.vec ae ce 1 (bys el) 5, .box bd (([.int .i64 h] : List Value) ++ ((Zh (S32 h al)) ++ ((zh (S64 h al)) ++ ([.slice ar (za (zV h al)) cr, zn (zd (za al))] : List Value)))) 106, .vec ar cr 1 (bys (zV h al)) 5, .box bq5 (([.int .i64 h] : List Value) ++ ((Zh (S32 h al)) ++ ((zh (S64 h al)) ++ ([.slice aoq5 (za (zV h al)) coq5, zn (zd (za al))] : List Value)))) 106, .vec aoq5 coq5 1 (bys (zV h al)) 5] ∧ (j ≤ pdZ 128 (za (zV h al))) ∧ (el = ([128] : List UInt8) ++ ze j 0)) ⟨_, 0, some ⟨bk30, 0, none⟩, 256, ([128] : List UInt8), rfl, En46.sb, Hv47.pk [4, 0, 1, 2, 3], Nat.zero_le _, rfl⟩ ?_
 rintro mm54 _ _ ⟨j, ae, ce, el, rfl, En52, Hv53, hj, heel⟩
 refine wp_seq <| wp_seq ?_
 have hel : za el = 1 + j := by rw [heel]; simp; omega
 have hpz : pdZ 128 (za (zV h al)) < 128 := ZB _ (by decide)
 refine zm <| d_k [0,2,3,4,5,23] [] 3 En52 fun _ En56 => ?_
 refine f_o <| m_v 1 17 (.slice ar (za (zV h al)) cr) En56 Hv53 rfl (zN (n := 1) (j := 16) rfl (zN (n := 8) (j := 8) (Zc (Yb _ _)) (zN (n := 8) (j := 0) (zc (Yc _ _)) rfl))) fun _ En58 => ?_
 refine d_e [0,2,3,4,5,34] [(7, g_n (w_a (za (zV h al)) (za el))), (10, g_n (w_a ((za (zV h al)) + (za el)) 16)), (12, g_i .i64 (show Int.tmod ((((za (zV h al)) + (za el)) + 16 : Nat) : Int) (128 : Int) = (((((za (zV h al)) + (za el)) + 16) % 128 : Nat) : Int) from Go.Dbr.i64_rem_nat (a := ((((za (zV h al)) + (za el)) + 16 : Nat) : Int)) (n := ((za (zV h al)) + (za el)) + 16) (m := 128) rfl (by omega)))] En58 fun _ En60 => ?_
 refine zg <| c_n (((((za (zV h al)) + (za el)) + 16) % 128 : Nat) : Int) (0 : Int) En60 (fun hc61 => ?_) (fun hc61 => ?_)
 ·
  refine wp_skip <| zg <| wp_block ?_
  have hpz : pdZ 128 (za (zV h al)) < 128 := ZB _ (by decide)
  refine zm <| d_k [0,2,3,4,5,35] [] 1 En60 fun _ En63 => ?_
  refine f_o <| Qu (d := some 36) (t := 26) (T := 5) (m := 1) (parts := #[(0, .int .u8 0)]) (xs := bys [(0 : UInt8)]) (sz := 1) En63 (by kernel_rfl) (by kernel_rfl) rfl (by decide) Hv53 ?_
  intro _ _ bk64 En67 Hv68
  refine f_o <| ZV (d := some 37) (t := 26) (tx := 26) (ty := 26) (k := 0) (p := za el) (m := 1) (x := .slice (some ⟨bk64, 0, none⟩) 1 1) (bytes := 1) En67 (by kernel_rfl) Hv68 rfl (Qm _) (ZR (size := 1) (tx := 26) (e' := 5) (by kernel_rfl) (Hv68.heap.reads (k := 5) rfl) rfl (fun e => by cases e) (ZD _)) (by kernel_rfl) (z := .int .u8 0) (by kernel_rfl) rfl (by decide) (by omega) (by unfold maxLen; omega) ?_
  intro _ _ ao69 cp70 En75 Hv76 hnz _
  clear hnz
  rw [← ZP] at Hv76
  have ehz71 : (za el) + 1 = za (el ++ [(0 : UInt8)]) := (by first | (simp; done) | (simp; omega) | omega)
  rw [ehz71] at En75
  refine d_e [0,2,3,4,5] [] En75 fun _ En78 => ?_
  refine zA <| zg <| ⟨_, ⟨j + 1, ao69, cp70, (el ++ [(0 : UInt8)]), rfl, En78.sb, Hv76.pk [0, 1, 2, 3, 4], by unfold pdZ at *; omega, by rw [heel]; exact end_step⟩, ?_⟩
  unfold pdZ at *; omega
 refine wp_exit <| zI <| zI <| z9 <| zg <| wp_seq ?_
 have hel : za el = 1 + j := by rw [heel]; simp; omega
 have hjp : j = pdZ 128 (za (zV h al)) := by unfold pdZ at *; omega
 have hpz : pdZ 128 (za (zV h al)) < 128 := ZB _ (by decide)
 refine zm <| d_k [0,2,3,4,5,38,41] [] 4 En60 fun _ En80 => ?_
 refine f_o <| op_appzeros (d := some 42) (t := 26) (tn := 3) (tx := 9) (ty := 26) (T := 5) (kn := .i64) (ik := .i64) (k := 0) (p := za el) (m := 8) (xs := el) En80 (by kernel_rfl) Hv53 rfl rfl (by kernel_rfl) (by kernel_rfl) (by kernel_rfl) (by kernel_rfl) (by omega) ?_
 intro _ _ ao81 cp82 En86 Hv87 hnz _
 clear hnz
 have ehz83 : (za el) + 8 = za (el ++ ze 8 0) := (by first | (simp; done) | (simp; omega) | omega)
 rw [ehz83] at En86
 refine d_e [0,2,3,4,5] [] En86 fun _ En89 => ?_
 refine zg <| wp_seq <| wp_seq <| d_r [0,2,3,4,5,6] [] En89 fun _ En91 => ?_
 refine zg <| wp_block <| loop_enter ?_
 refine z7 <| wp_seq <| wp_seq <| d_r [0,2,3,4,5,6,44] [] En91 fun _ En93 => ?_
 refine zg <| c_t En93 ?_
 refine wp_skip <| zg <| wp_seq <| wp_block <| zm <| d_k [0,2,3,4,5,6,47,50] [] 4 En93 fun _ En95 => ?_
 refine f_o <| m_v 1 18 (zn (zd (za al))) En95 Hv87 rfl (zN (n := 1) (j := 17) rfl (zN (n := 8) (j := 9) (Zc (Yb _ _)) (zN (n := 8) (j := 1) (zc (Yc _ _)) rfl))) fun _ En97 => ?_
 refine d_k [0,2,3,4,5,6,47,56] [(5, g_i .u64 (Go.Dbr.u64_mul (x := zd (za al)) (y := (8 : UInt64)) rfl rfl)), (8, g_i .u64 (Go.Dbr.u64_shr (x := (zd (za al)) * (8 : UInt64)) (n := 56) rfl (by decide))), (9, g_i .u8 (Go.Dbr.u64_to_u8 (x := ((zd (za al)) * (8 : UInt64)) >>> zd 56) rfl))] 10 En97 fun _ En99 => ?_
 refine f_o <| Qu (d := some 57) (t := 26) (T := 5) (m := 1) (parts := #[(0, bv (zj (((zd (za al)) * (8 : UInt64)) >>> zd 56)))]) (xs := bys [zj (((zd (za al)) * (8 : UInt64)) >>> zd 56)]) (sz := 1) En99 (by kernel_rfl) (by kernel_rfl) rfl (by decide) Hv87 ?_
 intro _ _ bk100 En103 Hv104
 refine f_o <| ZV (d := some 58) (t := 26) (tx := 26) (ty := 26) (k := 0) (p := za (el ++ ze 8 0)) (m := 1) (x := .slice (some ⟨bk100, 0, none⟩) 1 1) (bytes := 1) En103 (by kernel_rfl) Hv104 rfl (Qm _) (ZR (size := 1) (tx := 26) (e' := 5) (by kernel_rfl) (Hv104.heap.reads (k := 5) rfl) rfl (fun e => by cases e) (ZD _)) (by kernel_rfl) (z := .int .u8 0) (by kernel_rfl) rfl (by decide) (by omega) (by unfold maxLen; omega) ?_
 intro _ _ ao105 cp106 En111 Hv112 hnz _
 clear hnz
 rw [← ZP] at Hv112
 have ehz107 : (za (el ++ ze 8 0)) + 1 = za ((el ++ ze 8 0) ++ [zj (((zd (za al)) * (8 : UInt64)) >>> zd 56)]) := (by first | (simp; done) | (simp; omega) | omega)
 rw [ehz107] at En111
 refine d_e [0,2,3,4,5,6] [] En111 fun _ En114 => ?_
 refine zA <| zg <| d_r [0,2,3,4,5,6] [] En114 fun _ En116 => ?_
 refine zg <| z7 <| wp_seq <| wp_seq <| d_r [0,2,3,4,5,6,44] [] En116 fun _ En118 => ?_
 refine zg <| c_t En118 ?_
 refine wp_skip <| zg <| wp_seq <| wp_block <| zm <| d_k [0,2,3,4,5,6,47,50] [] 4 En118 fun _ En120 => ?_
 refine f_o <| m_v 1 18 (zn (zd (za al))) En120 Hv112 rfl (zN (n := 1) (j := 17) rfl (zN (n := 8) (j := 9) (Zc (Yb _ _)) (zN (n := 8) (j := 1) (zc (Yc _ _)) rfl))) fun _ En122 => ?_
 refine d_k [0,2,3,4,5,6,47,56] [(5, g_i .u64 (Go.Dbr.u64_mul (x := zd (za al)) (y := (8 : UInt64)) rfl rfl)), (8, g_i .u64 (Go.Dbr.u64_shr (x := (zd (za al)) * (8 : UInt64)) (n := 48) rfl (by decide))), (9, g_i .u8 (Go.Dbr.u64_to_u8 (x := ((zd (za al)) * (8 : UInt64)) >>> zd 48) rfl))] 10 En122 fun _ En124 => ?_
 refine f_o <| Qu (d := some 57) (t := 26) (T := 5) (m := 1) (parts := #[(0, bv (zj (((zd (za al)) * (8 : UInt64)) >>> zd 48)))]) (xs := bys [zj (((zd (za al)) * (8 : UInt64)) >>> zd 48)]) (sz := 1) En124 (by kernel_rfl) (by kernel_rfl) rfl (by decide) Hv112 ?_
 intro _ _ bk125 En128 Hv129
 refine f_o <| ZV (d := some 58) (t := 26) (tx := 26) (ty := 26) (k := 0) (p := za ((el ++ ze 8 0) ++ [zj (((zd (za al)) * (8 : UInt64)) >>> zd 56)])) (m := 1) (x := .slice (some ⟨bk125, 0, none⟩) 1 1) (bytes := 1) En128 (by kernel_rfl) Hv129 rfl (Qm _) (ZR (size := 1) (tx := 26) (e' := 5) (by kernel_rfl) (Hv129.heap.reads (k := 6) rfl) rfl (fun e => by cases e) (ZD _)) (by kernel_rfl) (z := .int .u8 0) (by kernel_rfl) rfl (by decide) (by omega) (by unfold maxLen; omega) ?_
 intro _ _ ao130 cp131 En136 Hv137 hnz _
 clear hnz
 rw [← ZP] at Hv137
 have ehz132 : (za ((el ++ ze 8 0) ++ [zj (((zd (za al)) * (8 : UInt64)) >>> zd 56)])) + 1 = za (((el ++ ze 8 0) ++ [zj (((zd (za al)) * (8 : UInt64)) >>> zd 56)]) ++ [zj (((zd (za al)) * (8 : UInt64)) >>> zd 48)]) := (by first | (simp; done) | (simp; omega) | omega)
 rw [ehz132] at En136
 refine d_e [0,2,3,4,5,6] [] En136 fun _ En139 => ?_
 refine zA <| zg <| d_r [0,2,3,4,5,6] [] En139 fun _ En141 => ?_
 refine zg <| z7 <| wp_seq <| wp_seq <| d_r [0,2,3,4,5,6,44] [] En141 fun _ En143 => ?_
 refine zg <| c_t En143 ?_
 refine wp_skip <| zg <| wp_seq <| wp_block <| zm <| d_k [0,2,3,4,5,6,47,50] [] 4 En143 fun _ En145 => ?_
 refine f_o <| m_v 1 18 (zn (zd (za al))) En145 Hv137 rfl (zN (n := 1) (j := 17) rfl (zN (n := 8) (j := 9) (Zc (Yb _ _)) (zN (n := 8) (j := 1) (zc (Yc _ _)) rfl))) fun _ En147 => ?_
 refine d_k [0,2,3,4,5,6,47,56] [(5, g_i .u64 (Go.Dbr.u64_mul (x := zd (za al)) (y := (8 : UInt64)) rfl rfl)), (8, g_i .u64 (Go.Dbr.u64_shr (x := (zd (za al)) * (8 : UInt64)) (n := 40) rfl (by decide))), (9, g_i .u8 (Go.Dbr.u64_to_u8 (x := ((zd (za al)) * (8 : UInt64)) >>> zd 40) rfl))] 10 En147 fun _ En149 => ?_
 refine f_o <| Qu (d := some 57) (t := 26) (T := 5) (m := 1) (parts := #[(0, bv (zj (((zd (za al)) * (8 : UInt64)) >>> zd 40)))]) (xs := bys [zj (((zd (za al)) * (8 : UInt64)) >>> zd 40)]) (sz := 1) En149 (by kernel_rfl) (by kernel_rfl) rfl (by decide) Hv137 ?_
 intro _ _ bk150 En153 Hv154
 refine f_o <| ZV (d := some 58) (t := 26) (tx := 26) (ty := 26) (k := 0) (p := za (((el ++ ze 8 0) ++ [zj (((zd (za al)) * (8 : UInt64)) >>> zd 56)]) ++ [zj (((zd (za al)) * (8 : UInt64)) >>> zd 48)])) (m := 1) (x := .slice (some ⟨bk150, 0, none⟩) 1 1) (bytes := 1) En153 (by kernel_rfl) Hv154 rfl (Qm _) (ZR (size := 1) (tx := 26) (e' := 5) (by kernel_rfl) (Hv154.heap.reads (k := 7) rfl) rfl (fun e => by cases e) (ZD _)) (by kernel_rfl) (z := .int .u8 0) (by kernel_rfl) rfl (by decide) (by omega) (by unfold maxLen; omega) ?_
 intro _ _ ao155 cp156 En161 Hv162 hnz _
 clear hnz
 rw [← ZP] at Hv162
 have ehz157 : (za (((el ++ ze 8 0) ++ [zj (((zd (za al)) * (8 : UInt64)) >>> zd 56)]) ++ [zj (((zd (za al)) * (8 : UInt64)) >>> zd 48)])) + 1 = za ((((el ++ ze 8 0) ++ [zj (((zd (za al)) * (8 : UInt64)) >>> zd 56)]) ++ [zj (((zd (za al)) * (8 : UInt64)) >>> zd 48)]) ++ [zj (((zd (za al)) * (8 : UInt64)) >>> zd 40)]) := (by first | (simp; done) | (simp; omega) | omega)
 rw [ehz157] at En161
 refine d_e [0,2,3,4,5,6] [] En161 fun _ En164 => ?_
 refine zA <| zg <| d_r [0,2,3,4,5,6] [] En164 fun _ En166 => ?_
 refine zg <| z7 <| wp_seq <| wp_seq <| d_r [0,2,3,4,5,6,44] [] En166 fun _ En168 => ?_
 refine zg <| c_t En168 ?_
 refine wp_skip <| zg <| wp_seq <| wp_block <| zm <| d_k [0,2,3,4,5,6,47,50] [] 4 En168 fun _ En170 => ?_
 refine f_o <| m_v 1 18 (zn (zd (za al))) En170 Hv162 rfl (zN (n := 1) (j := 17) rfl (zN (n := 8) (j := 9) (Zc (Yb _ _)) (zN (n := 8) (j := 1) (zc (Yc _ _)) rfl))) fun _ En172 => ?_
 refine d_k [0,2,3,4,5,6,47,56] [(5, g_i .u64 (Go.Dbr.u64_mul (x := zd (za al)) (y := (8 : UInt64)) rfl rfl)), (8, g_i .u64 (Go.Dbr.u64_shr (x := (zd (za al)) * (8 : UInt64)) (n := 32) rfl (by decide))), (9, g_i .u8 (Go.Dbr.u64_to_u8 (x := ((zd (za al)) * (8 : UInt64)) >>> zd 32) rfl))] 10 En172 fun _ En174 => ?_
 refine f_o <| Qu (d := some 57) (t := 26) (T := 5) (m := 1) (parts := #[(0, bv (zj (((zd (za al)) * (8 : UInt64)) >>> zd 32)))]) (xs := bys [zj (((zd (za al)) * (8 : UInt64)) >>> zd 32)]) (sz := 1) En174 (by kernel_rfl) (by kernel_rfl) rfl (by decide) Hv162 ?_
 intro _ _ bk175 En178 Hv179
 refine f_o <| ZV (d := some 58) (t := 26) (tx := 26) (ty := 26) (k := 0) (p := za ((((el ++ ze 8 0) ++ [zj (((zd (za al)) * (8 : UInt64)) >>> zd 56)]) ++ [zj (((zd (za al)) * (8 : UInt64)) >>> zd 48)]) ++ [zj (((zd (za al)) * (8 : UInt64)) >>> zd 40)])) (m := 1) (x := .slice (some ⟨bk175, 0, none⟩) 1 1) (bytes := 1) En178 (by kernel_rfl) Hv179 rfl (Qm _) (ZR (size := 1) (tx := 26) (e' := 5) (by kernel_rfl) (Hv179.heap.reads (k := 8) rfl) rfl (fun e => by cases e) (ZD _)) (by kernel_rfl) (z := .int .u8 0) (by kernel_rfl) rfl (by decide) (by omega) (by unfold maxLen; omega) ?_
 intro _ _ ao180 cp181 En186 Hv187 hnz _
 clear hnz
 rw [← ZP] at Hv187
 have ehz182 : (za ((((el ++ ze 8 0) ++ [zj (((zd (za al)) * (8 : UInt64)) >>> zd 56)]) ++ [zj (((zd (za al)) * (8 : UInt64)) >>> zd 48)]) ++ [zj (((zd (za al)) * (8 : UInt64)) >>> zd 40)])) + 1 = za (((((el ++ ze 8 0) ++ [zj (((zd (za al)) * (8 : UInt64)) >>> zd 56)]) ++ [zj (((zd (za al)) * (8 : UInt64)) >>> zd 48)]) ++ [zj (((zd (za al)) * (8 : UInt64)) >>> zd 40)]) ++ [zj (((zd (za al)) * (8 : UInt64)) >>> zd 32)]) := (by first | (simp; done) | (simp; omega) | omega)
 rw [ehz182] at En186
 refine d_e [0,2,3,4,5,6] [] En186 fun _ En189 => ?_
 refine zA <| zg <| d_r [0,2,3,4,5,6] [] En189 fun _ En191 => ?_
 refine zg <| z7 <| wp_seq <| wp_seq <| d_r [0,2,3,4,5,6,44] [] En191 fun _ En193 => ?_
 refine zg <| c_t En193 ?_
 refine wp_skip <| zg <| wp_seq <| wp_block <| zm <| d_k [0,2,3,4,5,6,47,50] [] 4 En193 fun _ En195 => ?_
 refine f_o <| m_v 1 18 (zn (zd (za al))) En195 Hv187 rfl (zN (n := 1) (j := 17) rfl (zN (n := 8) (j := 9) (Zc (Yb _ _)) (zN (n := 8) (j := 1) (zc (Yc _ _)) rfl))) fun _ En197 => ?_
 refine d_k [0,2,3,4,5,6,47,56] [(5, g_i .u64 (Go.Dbr.u64_mul (x := zd (za al)) (y := (8 : UInt64)) rfl rfl)), (8, g_i .u64 (Go.Dbr.u64_shr (x := (zd (za al)) * (8 : UInt64)) (n := 24) rfl (by decide))), (9, g_i .u8 (Go.Dbr.u64_to_u8 (x := ((zd (za al)) * (8 : UInt64)) >>> zd 24) rfl))] 10 En197 fun _ En199 => ?_
 refine f_o <| Qu (d := some 57) (t := 26) (T := 5) (m := 1) (parts := #[(0, bv (zj (((zd (za al)) * (8 : UInt64)) >>> zd 24)))]) (xs := bys [zj (((zd (za al)) * (8 : UInt64)) >>> zd 24)]) (sz := 1) En199 (by kernel_rfl) (by kernel_rfl) rfl (by decide) Hv187 ?_
 intro _ _ bk200 En203 Hv204
 refine f_o <| ZV (d := some 58) (t := 26) (tx := 26) (ty := 26) (k := 0) (p := za (((((el ++ ze 8 0) ++ [zj (((zd (za al)) * (8 : UInt64)) >>> zd 56)]) ++ [zj (((zd (za al)) * (8 : UInt64)) >>> zd 48)]) ++ [zj (((zd (za al)) * (8 : UInt64)) >>> zd 40)]) ++ [zj (((zd (za al)) * (8 : UInt64)) >>> zd 32)])) (m := 1) (x := .slice (some ⟨bk200, 0, none⟩) 1 1) (bytes := 1) En203 (by kernel_rfl) Hv204 rfl (Qm _) (ZR (size := 1) (tx := 26) (e' := 5) (by kernel_rfl) (Hv204.heap.reads (k := 9) rfl) rfl (fun e => by cases e) (ZD _)) (by kernel_rfl) (z := .int .u8 0) (by kernel_rfl) rfl (by decide) (by omega) (by unfold maxLen; omega) ?_
 intro _ _ ao205 cp206 En211 Hv212 hnz _
 clear hnz
 rw [← ZP] at Hv212
 have ehz207 : (za (((((el ++ ze 8 0) ++ [zj (((zd (za al)) * (8 : UInt64)) >>> zd 56)]) ++ [zj (((zd (za al)) * (8 : UInt64)) >>> zd 48)]) ++ [zj (((zd (za al)) * (8 : UInt64)) >>> zd 40)]) ++ [zj (((zd (za al)) * (8 : UInt64)) >>> zd 32)])) + 1 = za ((((((el ++ ze 8 0) ++ [zj (((zd (za al)) * (8 : UInt64)) >>> zd 56)]) ++ [zj (((zd (za al)) * (8 : UInt64)) >>> zd 48)]) ++ [zj (((zd (za al)) * (8 : UInt64)) >>> zd 40)]) ++ [zj (((zd (za al)) * (8 : UInt64)) >>> zd 32)]) ++ [zj (((zd (za al)) * (8 : UInt64)) >>> zd 24)]) := (by first | (simp; done) | (simp; omega) | omega)
 rw [ehz207] at En211
 refine d_e [0,2,3,4,5,6] [] En211 fun _ En214 => ?_
 refine zA <| zg <| d_r [0,2,3,4,5,6] [] En214 fun _ En216 => ?_
 refine zg <| z7 <| wp_seq <| wp_seq <| d_r [0,2,3,4,5,6,44] [] En216 fun _ En218 => ?_
 refine zg <| c_t En218 ?_
 refine wp_skip <| zg <| wp_seq <| wp_block <| zm <| d_k [0,2,3,4,5,6,47,50] [] 4 En218 fun _ En220 => ?_
 refine f_o <| m_v 1 18 (zn (zd (za al))) En220 Hv212 rfl (zN (n := 1) (j := 17) rfl (zN (n := 8) (j := 9) (Zc (Yb _ _)) (zN (n := 8) (j := 1) (zc (Yc _ _)) rfl))) fun _ En222 => ?_
 refine d_k [0,2,3,4,5,6,47,56] [(5, g_i .u64 (Go.Dbr.u64_mul (x := zd (za al)) (y := (8 : UInt64)) rfl rfl)), (8, g_i .u64 (Go.Dbr.u64_shr (x := (zd (za al)) * (8 : UInt64)) (n := 16) rfl (by decide))), (9, g_i .u8 (Go.Dbr.u64_to_u8 (x := ((zd (za al)) * (8 : UInt64)) >>> zd 16) rfl))] 10 En222 fun _ En224 => ?_
 refine f_o <| Qu (d := some 57) (t := 26) (T := 5) (m := 1) (parts := #[(0, bv (zj (((zd (za al)) * (8 : UInt64)) >>> zd 16)))]) (xs := bys [zj (((zd (za al)) * (8 : UInt64)) >>> zd 16)]) (sz := 1) En224 (by kernel_rfl) (by kernel_rfl) rfl (by decide) Hv212 ?_
 intro _ _ bk225 En228 Hv229
 refine f_o <| ZV (d := some 58) (t := 26) (tx := 26) (ty := 26) (k := 0) (p := za ((((((el ++ ze 8 0) ++ [zj (((zd (za al)) * (8 : UInt64)) >>> zd 56)]) ++ [zj (((zd (za al)) * (8 : UInt64)) >>> zd 48)]) ++ [zj (((zd (za al)) * (8 : UInt64)) >>> zd 40)]) ++ [zj (((zd (za al)) * (8 : UInt64)) >>> zd 32)]) ++ [zj (((zd (za al)) * (8 : UInt64)) >>> zd 24)])) (m := 1) (x := .slice (some ⟨bk225, 0, none⟩) 1 1) (bytes := 1) En228 (by kernel_rfl) Hv229 rfl (Qm _) (ZR (size := 1) (tx := 26) (e' := 5) (by kernel_rfl) (Hv229.heap.reads (k := 10) rfl) rfl (fun e => by cases e) (ZD _)) (by kernel_rfl) (z := .int .u8 0) (by kernel_rfl) rfl (by decide) (by omega) (by unfold maxLen; omega) ?_
 intro _ _ ao230 cp231 En236 Hv237 hnz _
 clear hnz
 rw [← ZP] at Hv237
 have ehz232 : (za ((((((el ++ ze 8 0) ++ [zj (((zd (za al)) * (8 : UInt64)) >>> zd 56)]) ++ [zj (((zd (za al)) * (8 : UInt64)) >>> zd 48)]) ++ [zj (((zd (za al)) * (8 : UInt64)) >>> zd 40)]) ++ [zj (((zd (za al)) * (8 : UInt64)) >>> zd 32)]) ++ [zj (((zd (za al)) * (8 : UInt64)) >>> zd 24)])) + 1 = za (((((((el ++ ze 8 0) ++ [zj (((zd (za al)) * (8 : UInt64)) >>> zd 56)]) ++ [zj (((zd (za al)) * (8 : UInt64)) >>> zd 48)]) ++ [zj (((zd (za al)) * (8 : UInt64)) >>> zd 40)]) ++ [zj (((zd (za al)) * (8 : UInt64)) >>> zd 32)]) ++ [zj (((zd (za al)) * (8 : UInt64)) >>> zd 24)]) ++ [zj (((zd (za al)) * (8 : UInt64)) >>> zd 16)]) := (by first | (simp; done) | (simp; omega) | omega)
 rw [ehz232] at En236
 refine d_e [0,2,3,4,5,6] [] En236 fun _ En239 => ?_
 refine zA <| zg <| d_r [0,2,3,4,5,6] [] En239 fun _ En241 => ?_
 refine zg <| z7 <| wp_seq <| wp_seq <| d_r [0,2,3,4,5,6,44] [] En241 fun _ En243 => ?_
 refine zg <| c_t En243 ?_
 refine wp_skip <| zg <| wp_seq <| wp_block <| zm <| d_k [0,2,3,4,5,6,47,50] [] 4 En243 fun _ En245 => ?_
 refine f_o <| m_v 1 18 (zn (zd (za al))) En245 Hv237 rfl (zN (n := 1) (j := 17) rfl (zN (n := 8) (j := 9) (Zc (Yb _ _)) (zN (n := 8) (j := 1) (zc (Yc _ _)) rfl))) fun _ En247 => ?_
 refine d_k [0,2,3,4,5,6,47,56] [(5, g_i .u64 (Go.Dbr.u64_mul (x := zd (za al)) (y := (8 : UInt64)) rfl rfl)), (8, g_i .u64 (Go.Dbr.u64_shr (x := (zd (za al)) * (8 : UInt64)) (n := 8) rfl (by decide))), (9, g_i .u8 (Go.Dbr.u64_to_u8 (x := ((zd (za al)) * (8 : UInt64)) >>> zd 8) rfl))] 10 En247 fun _ En249 => ?_
 refine f_o <| Qu (d := some 57) (t := 26) (T := 5) (m := 1) (parts := #[(0, bv (zj (((zd (za al)) * (8 : UInt64)) >>> zd 8)))]) (xs := bys [zj (((zd (za al)) * (8 : UInt64)) >>> zd 8)]) (sz := 1) En249 (by kernel_rfl) (by kernel_rfl) rfl (by decide) Hv237 ?_
 intro _ _ bk250 En253 Hv254
 refine f_o <| ZV (d := some 58) (t := 26) (tx := 26) (ty := 26) (k := 0) (p := za (((((((el ++ ze 8 0) ++ [zj (((zd (za al)) * (8 : UInt64)) >>> zd 56)]) ++ [zj (((zd (za al)) * (8 : UInt64)) >>> zd 48)]) ++ [zj (((zd (za al)) * (8 : UInt64)) >>> zd 40)]) ++ [zj (((zd (za al)) * (8 : UInt64)) >>> zd 32)]) ++ [zj (((zd (za al)) * (8 : UInt64)) >>> zd 24)]) ++ [zj (((zd (za al)) * (8 : UInt64)) >>> zd 16)])) (m := 1) (x := .slice (some ⟨bk250, 0, none⟩) 1 1) (bytes := 1) En253 (by kernel_rfl) Hv254 rfl (Qm _) (ZR (size := 1) (tx := 26) (e' := 5) (by kernel_rfl) (Hv254.heap.reads (k := 11) rfl) rfl (fun e => by cases e) (ZD _)) (by kernel_rfl) (z := .int .u8 0) (by kernel_rfl) rfl (by decide) (by omega) (by unfold maxLen; omega) ?_
 intro _ _ ao255 cp256 En261 Hv262 hnz _
 clear hnz
 rw [← ZP] at Hv262
 have ehz257 : (za (((((((el ++ ze 8 0) ++ [zj (((zd (za al)) * (8 : UInt64)) >>> zd 56)]) ++ [zj (((zd (za al)) * (8 : UInt64)) >>> zd 48)]) ++ [zj (((zd (za al)) * (8 : UInt64)) >>> zd 40)]) ++ [zj (((zd (za al)) * (8 : UInt64)) >>> zd 32)]) ++ [zj (((zd (za al)) * (8 : UInt64)) >>> zd 24)]) ++ [zj (((zd (za al)) * (8 : UInt64)) >>> zd 16)])) + 1 = za ((((((((el ++ ze 8 0) ++ [zj (((zd (za al)) * (8 : UInt64)) >>> zd 56)]) ++ [zj (((zd (za al)) * (8 : UInt64)) >>> zd 48)]) ++ [zj (((zd (za al)) * (8 : UInt64)) >>> zd 40)]) ++ [zj (((zd (za al)) * (8 : UInt64)) >>> zd 32)]) ++ [zj (((zd (za al)) * (8 : UInt64)) >>> zd 24)]) ++ [zj (((zd (za al)) * (8 : UInt64)) >>> zd 16)]) ++ [zj (((zd (za al)) * (8 : UInt64)) >>> zd 8)]) := (by first | (simp; done) | (simp; omega) | omega)
 rw [ehz257] at En261
 refine d_e [0,2,3,4,5,6] [] En261 fun _ En264 => ?_
 refine zA <| zg <| d_r [0,2,3,4,5,6] [] En264 fun _ En266 => ?_
 refine zg <| z7 <| wp_seq <| wp_seq <| d_r [0,2,3,4,5,6,44] [] En266 fun _ En268 => ?_
 refine zg <| c_t En268 ?_
 refine wp_skip <| zg <| wp_seq <| wp_block <| zm <| d_k [0,2,3,4,5,6,47,50] [] 4 En268 fun _ En270 => ?_
 refine f_o <| m_v 1 18 (zn (zd (za al))) En270 Hv262 rfl (zN (n := 1) (j := 17) rfl (zN (n := 8) (j := 9) (Zc (Yb _ _)) (zN (n := 8) (j := 1) (zc (Yc _ _)) rfl))) fun _ En272 => ?_
 refine d_k [0,2,3,4,5,6,47,56] [(5, g_i .u64 (Go.Dbr.u64_mul (x := zd (za al)) (y := (8 : UInt64)) rfl rfl)), (8, g_i .u64 (Go.Dbr.u64_shr (x := (zd (za al)) * (8 : UInt64)) (n := 0) rfl (by decide))), (9, g_i .u8 (Go.Dbr.u64_to_u8 (x := ((zd (za al)) * (8 : UInt64)) >>> zd 0) rfl))] 10 En272 fun _ En274 => ?_
 refine f_o <| Qu (d := some 57) (t := 26) (T := 5) (m := 1) (parts := #[(0, bv (zj (((zd (za al)) * (8 : UInt64)) >>> zd 0)))]) (xs := bys [zj (((zd (za al)) * (8 : UInt64)) >>> zd 0)]) (sz := 1) En274 (by kernel_rfl) (by kernel_rfl) rfl (by decide) Hv262 ?_
 intro _ _ bk275 En278 Hv279
 refine f_o <| ZV (d := some 58) (t := 26) (tx := 26) (ty := 26) (k := 0) (p := za ((((((((el ++ ze 8 0) ++ [zj (((zd (za al)) * (8 : UInt64)) >>> zd 56)]) ++ [zj (((zd (za al)) * (8 : UInt64)) >>> zd 48)]) ++ [zj (((zd (za al)) * (8 : UInt64)) >>> zd 40)]) ++ [zj (((zd (za al)) * (8 : UInt64)) >>> zd 32)]) ++ [zj (((zd (za al)) * (8 : UInt64)) >>> zd 24)]) ++ [zj (((zd (za al)) * (8 : UInt64)) >>> zd 16)]) ++ [zj (((zd (za al)) * (8 : UInt64)) >>> zd 8)])) (m := 1) (x := .slice (some ⟨bk275, 0, none⟩) 1 1) (bytes := 1) En278 (by kernel_rfl) Hv279 rfl (Qm _) (ZR (size := 1) (tx := 26) (e' := 5) (by kernel_rfl) (Hv279.heap.reads (k := 12) rfl) rfl (fun e => by cases e) (ZD _)) (by kernel_rfl) (z := .int .u8 0) (by kernel_rfl) rfl (by decide) (by omega) (by unfold maxLen; omega) ?_
 intro _ _ ao280 cp281 En286 Hv287 hnz _
 clear hnz
 rw [← ZP] at Hv287
 have ehz282 : (za ((((((((el ++ ze 8 0) ++ [zj (((zd (za al)) * (8 : UInt64)) >>> zd 56)]) ++ [zj (((zd (za al)) * (8 : UInt64)) >>> zd 48)]) ++ [zj (((zd (za al)) * (8 : UInt64)) >>> zd 40)]) ++ [zj (((zd (za al)) * (8 : UInt64)) >>> zd 32)]) ++ [zj (((zd (za al)) * (8 : UInt64)) >>> zd 24)]) ++ [zj (((zd (za al)) * (8 : UInt64)) >>> zd 16)]) ++ [zj (((zd (za al)) * (8 : UInt64)) >>> zd 8)])) + 1 = za (((((((((el ++ ze 8 0) ++ [zj (((zd (za al)) * (8 : UInt64)) >>> zd 56)]) ++ [zj (((zd (za al)) * (8 : UInt64)) >>> zd 48)]) ++ [zj (((zd (za al)) * (8 : UInt64)) >>> zd 40)]) ++ [zj (((zd (za al)) * (8 : UInt64)) >>> zd 32)]) ++ [zj (((zd (za al)) * (8 : UInt64)) >>> zd 24)]) ++ [zj (((zd (za al)) * (8 : UInt64)) >>> zd 16)]) ++ [zj (((zd (za al)) * (8 : UInt64)) >>> zd 8)]) ++ [zj (((zd (za al)) * (8 : UInt64)) >>> zd 0)]) := (by first | (simp; done) | (simp; omega) | omega)
 rw [ehz282] at En286
 refine d_e [0,2,3,4,5,6] [] En286 fun _ En289 => ?_
 refine zA <| zg <| d_r [0,2,3,4,5,6] [] En289 fun _ En291 => ?_
 refine zg <| z7 <| wp_seq <| wp_seq <| d_r [0,2,3,4,5,6,44] [] En291 fun _ En293 => ?_
 refine zg <| c_f En293 ?_
 refine wp_exit <| zI <| zI <| z9 <| zg <| wp_seq ?_
 have hpe : ((((((((el ++ ze 8 0) ++ [zj (((zd (za al)) * (8 : UInt64)) >>> zd 56)]) ++ [zj (((zd (za al)) * (8 : UInt64)) >>> zd 48)]) ++ [zj (((zd (za al)) * (8 : UInt64)) >>> zd 40)]) ++ [zj (((zd (za al)) * (8 : UInt64)) >>> zd 32)]) ++ [zj (((zd (za al)) * (8 : UInt64)) >>> zd 24)]) ++ [zj (((zd (za al)) * (8 : UInt64)) >>> zd 16)]) ++ [zj (((zd (za al)) * (8 : UInt64)) >>> zd 8)]) ++ [zj (((zd (za al)) * (8 : UInt64)) >>> zd 0)] = Yl h al := by rw [heel, hjp]; simp [Yl, padB, be8, show ¬ h = 1 by omega]
 rw [hpe] at Hv287
 rw [hpe] at En293
 have hpl := padH_len h al
 have hrt := restH_lt h al
 refine zm <| d_k [0,2,3,4,5,6,59,60] [] 2 En293 fun _ En295 => ?_
 refine f_o <| c_l [3,4] (M := [.box bq5 (([.int .i64 h] : List Value) ++ ((Zh (S32 h al)) ++ ((zh (S64 h al)) ++ ([.slice aoq5 (za (zV h al)) coq5, zn (zd (za al))] : List Value)))) 106, .vec aoq5 coq5 1 (bys (zV h al)) 5]) En295 Hv287 (fun hM297 => write_go _ bq5 h hh2 al aoq5 coq5 ao280 (za (Yl h al)) cp281 (Yl h al) (by first | rfl | (simp; done) | (simp; omega) | omega) (bys_in Hv287.heap (k := 0) rfl [3, 4] (by kernel_rfl) rfl (by first | omega | (simp; done) | (simp; omega))) (by first | omega | (simp only [Zu, J0]; omega)) ((gk32.ev Hv287).pick [3, 4] (by kernel_rfl)) ((gk64.ev Hv287).pick [3, 4] (by kernel_rfl)) hM297) ?_
 rintro _ _ ⟨aoq296, coq296, rfl, he299⟩
 refine ⟨_, _, [.box bq5 (([.int .i64 h] : List Value) ++ ((Zh (S32 h (al ++ (Yl h al)))) ++ ((zh (S64 h (al ++ (Yl h al)))) ++ ([.slice aoq296 (za (zV h (al ++ (Yl h al)))) coq296, zn (zd (za (al ++ (Yl h al))))] : List Value)))) 106, .vec aoq296 coq296 1 (bys (zV h (al ++ (Yl h al)))) 5, .vec ao280 cp281 1 (bys (Yl h al)) 5, .box bd (([.int .i64 h] : List Value) ++ ((Zh (S32 h al)) ++ ((zh (S64 h al)) ++ ([.slice ar (za (zV h al)) cr, zn (zd (za al))] : List Value)))) 106, .vec ar cr 1 (bys (zV h al)) 5, .vec (some ⟨bk100, 0, none⟩) 1 1 (bys [zj (((zd (za al)) * (8 : UInt64)) >>> zd 56)]) 5, .vec (some ⟨bk125, 0, none⟩) 1 1 (bys [zj (((zd (za al)) * (8 : UInt64)) >>> zd 48)]) 5, .vec (some ⟨bk150, 0, none⟩) 1 1 (bys [zj (((zd (za al)) * (8 : UInt64)) >>> zd 40)]) 5, .vec (some ⟨bk175, 0, none⟩) 1 1 (bys [zj (((zd (za al)) * (8 : UInt64)) >>> zd 32)]) 5, .vec (some ⟨bk200, 0, none⟩) 1 1 (bys [zj (((zd (za al)) * (8 : UInt64)) >>> zd 24)]) 5, .vec (some ⟨bk225, 0, none⟩) 1 1 (bys [zj (((zd (za al)) * (8 : UInt64)) >>> zd 16)]) 5, .vec (some ⟨bk250, 0, none⟩) 1 1 (bys [zj (((zd (za al)) * (8 : UInt64)) >>> zd 8)]) 5, .vec (some ⟨bk275, 0, none⟩) 1 1 (bys [zj (((zd (za al)) * (8 : UInt64)) >>> zd 0)]) 5], rfl, he299, by kernel_rfl, fun _ En302 Hv303 => ?_⟩
 refine f_e <| zg <| wp_seq <| d_r [0,2,3,4,5,6,7] [] En302 fun _ En305 => ?_
 refine zg <| wp_seq <| wp_seq <| d_r [0,2,3,4,5,6,7,62] [] En305 fun _ En307 => ?_
 refine zg <| wp_block ?_
 have Hv308 := Ev.nil (sz := 1) (T := 5) Hv303
 refine Qh (fun ms309 ac wo => ∃ (i : Nat) (a7 : Option Addr) (c7 : Nat) (ol : List UInt8), ms309 = (8 - i : Nat) ∧ Env ac 95 [(0, pt bd), (2, .slice none 0 0), (3, pt bq5), (4, .int .i64 128), (5, .slice ao280 (za (Yl h al)) cp281), (6, .int .i64 (-1)), (7, .slice a7 (za ol) c7), (62, ni i)] ∧ Ev w [.box bd (([.int .i64 h] : List Value) ++ ((Zh (S32 h al)) ++ ((zh (S64 h al)) ++ ([.slice ar (za (zV h al)) cr, zn (zd (za al))] : List Value)))) 106, .vec ar cr 1 (bys (zV h al)) 5] wo [.vec a7 c7 1 (bys ol) 5, .box bq5 (([.int .i64 h] : List Value) ++ ((Zh (S32 h (al ++ (Yl h al)))) ++ ((zh (S64 h (al ++ (Yl h al)))) ++ ([.slice aoq296 (za (zV h (al ++ (Yl h al)))) coq296, zn (zd (za (al ++ (Yl h al))))] : List Value)))) 106, .vec aoq296 coq296 1 (bys (zV h (al ++ (Yl h al)))) 5, .vec ao280 cp281 1 (bys (Yl h al)) 5, .box bd (([.int .i64 h] : List Value) ++ ((Zh (S32 h al)) ++ ((zh (S64 h al)) ++ ([.slice ar (za (zV h al)) cr, zn (zd (za al))] : List Value)))) 106, .vec ar cr 1 (bys (zV h al)) 5] ∧ (i ≤ 8) ∧ (ol = out64 (S64 h (al ++ Yl h al)) i)) ⟨_, 0, none, 0, [], rfl, En307.sb, Hv308.pk [13, 0, 1, 2, 3, 4], by omega, rfl⟩ ?_
 rintro mm315 _ _ ⟨i, a7, c7, ol, rfl, En313, Hv314, hi, heo⟩
 refine wp_seq <| d_r [0,2,3,4,5,6,7,62,63] [] En313 fun _ En317 => ?_
 refine zg <| wp_seq <| c_d (((i : Nat) : Int) < (8 : Int)) En317 (fun hc318 => ?_) (fun hc318 => ?_)
 ·
  refine wp_skip <| zg <| wp_seq <| wp_block <| wp_seq <| d_r [0,2,3,4,5,6,7,8,62] [] En317 fun _ En320 => ?_
  refine zg <| wp_seq ?_
  have hol : za ol = 8 * i := by rw [heo, JR]
  refine zm <| d_k [0,2,3,4,5,6,7,8,62,67] [] 3 En320 fun _ En322 => ?_
  refine f_o <| m_v 4 0 (.int .i64 h) En322 Hv314 rfl (YN rfl) fun _ En324 => ?_
  refine d_e [0,2,3,4,5,6,7,8,62,69] [(4, g_b (show (h == (1 : Int)) = false from beq_eq_false_iff_ne.2 (by omega)))] En324 fun _ En326 => ?_
  refine zg <| c_f En326 ?_
  have hol : za ol = 8 * i := by rw [heo, JR]
  refine zm <| d_k [0,2,3,4,5,6,7,8,62,79,81,83] [] 5 En326 fun _ En328 => ?_
  refine f_o <| q_v (x := Instr.indexAt 91 (.pointer (some ⟨bq5, 9, none⟩)) (ni i)) (v := .pointer (some ⟨bq5, 9 + i, none⟩)) En328 (Go.Dbr.run_indexarr (e := 32) (sz := 1) (m := 8) (j := i) (o := 9 + i) (by kernel_rfl) (by kernel_rfl) (by omega) (by omega) (by omega) _) fun _ En330 => ?_
  refine f_o ?_
  have hb331 : i < za (S64 h (al ++ (Yl h al))) := by rw [(Yc _ _)]; omega
  refine m_v 1 (9 + i) (zn (zb (S64 h (al ++ (Yl h al))) i 0)) En330 Hv314 rfl (seg_eq (by omega) (zN (n := 1) (j := 8 + (i)) rfl (zN (n := 8) (j := i) (Zc (Yb _ _)) (YN (u64s_getD hb331))))) fun _ En333 => ?_
  refine f_o <| c_l [0] (M := [.vec a7 c7 1 (bys ol) 5]) En333 Hv314 (fun hM335 => spread8_go _ a7 c7 ol (zb (S64 h (al ++ (Yl h al))) i 0) (by omega) hM335) ?_
  rintro _ _ ⟨aoq334, coq334, rfl, he337⟩
  refine ⟨_, _, [.vec aoq334 coq334 1 (bys (ol ++ be8 (zb (S64 h (al ++ (Yl h al))) i 0))) 5, .box bq5 (([.int .i64 h] : List Value) ++ ((Zh (S32 h (al ++ (Yl h al)))) ++ ((zh (S64 h (al ++ (Yl h al)))) ++ ([.slice aoq296 (za (zV h (al ++ (Yl h al)))) coq296, zn (zd (za (al ++ (Yl h al))))] : List Value)))) 106, .vec aoq296 coq296 1 (bys (zV h (al ++ (Yl h al)))) 5, .vec ao280 cp281 1 (bys (Yl h al)) 5, .box bd (([.int .i64 h] : List Value) ++ ((Zh (S32 h al)) ++ ((zh (S64 h al)) ++ ([.slice ar (za (zV h al)) cr, zn (zd (za al))] : List Value)))) 106, .vec ar cr 1 (bys (zV h al)) 5], rfl, he337, by kernel_rfl, fun _ En340 Hv341 => ?_⟩
  refine d_e [0,2,3,4,5,6,7,8,62] [] En340 fun _ En343 => ?_
  refine zA <| zg <| d_r [0,2,3,4,5,6,7,8,62] [(0, g_n (w_a i 1))] En343 fun _ En345 => ?_
  refine zg <| ⟨_, ⟨i + 1, aoq334, coq334, (ol ++ be8 (zb (S64 h (al ++ (Yl h al))) i 0)), rfl, En345.sb, Hv341.pk [0, 1, 2, 3, 4, 5], by omega, by rw [heo]; rfl⟩, ?_⟩
  omega
 refine wp_exit <| zI <| zI <| z9 <| zg <| wp_seq ?_
 have hol : za ol = 8 * i := by rw [heo, JR]
 have hi8 : i = 8 := by omega
 have hsz := size_le h
 have hsz1 : QJ 1 = 32 := rfl
 refine zm <| d_k [0,2,3,4,5,6,7,62,88,91] [] 4 En317 fun _ En347 => ?_
 refine f_o <| m_v 4 0 (.int .i64 h) En347 Hv314 rfl (YN rfl) fun _ En349 => ?_
 refine f_o <| c_p En349 Hv314 (size_go _ h) fun _ wo351 En355 Hv356 => ?_
 refine f_o ?_
 have hcap357 := YC Hv356.heap (k := 0) rfl
 refine op_slice0 (d := some 94) (t := 26) (e := 5) (sz := 1) (len := za ol) (cap := c7) (hi := QJ h) (ao := a7) (lov := none) (hiv := (some (ni (QJ h)))) En355 (by kernel_rfl) (by kernel_rfl) (by kernel_rfl) (by omega) (.inl ⟨rfl, rfl⟩) (.inr ⟨.i64, rfl⟩) ?_
 intro _ En359
 have Hv360 : Ev w [.box bd (([.int .i64 h] : List Value) ++ ((Zh (S32 h al)) ++ ((zh (S64 h al)) ++ ([.slice ar (za (zV h al)) cr, zn (zd (za al))] : List Value)))) 106, .vec ar cr 1 (bys (zV h al)) 5] wo351 [.vec a7 c7 1 (bys (zk (QJ h) ol)) 5, .box bq5 (([.int .i64 h] : List Value) ++ ((Zh (S32 h (al ++ (Yl h al)))) ++ ((zh (S64 h (al ++ (Yl h al)))) ++ ([.slice aoq296 (za (zV h (al ++ (Yl h al)))) coq296, zn (zd (za (al ++ (Yl h al))))] : List Value)))) 106, .vec aoq296 coq296 1 (bys (zV h (al ++ (Yl h al)))) 5, .vec ao280 cp281 1 (bys (Yl h al)) 5, .box bd (([.int .i64 h] : List Value) ++ ((Zh (S32 h al)) ++ ((zh (S64 h al)) ++ ([.slice ar (za (zV h al)) cr, zn (zd (za al))] : List Value)))) 106, .vec ar cr 1 (bys (zV h al)) 5] := by
  have h := Ev.cut (k := 0) (n := za ol) (sz := 1) Hv356 rfl (Qm _) (by omega) 0 (QJ h) (by omega) (by omega)
  rw [cutAt_zero] at h
  rw [bys_cut0] at h
  exact h
 have el361 : QJ h = za (zk (QJ h) ol) := by first | (simp; done) | (rw [zp]; omega) | (rw [zr]; omega) | (simp; omega)
 rw [el361] at En359
 refine d_e [0,2,3,4,5,6,7,62] [] En359 fun _ En363 => ?_
 refine zg <| wp_ret <| d_ret1 (t := 2) (v := .slice a7 (za (zk (QJ h) ol)) c7) En363 (by kernel_rfl) (by kernel_rfl) ?_
 have hse : zk (QJ h) ol = XC h al := by rw [heo, hi8]; unfold XC; rw [if_neg (by omega)]
 have Hf364 := Hv360.pk [4, 5, 0] (M := [.box bd (([.int .i64 h] : List Value) ++ ((Zh (S32 h al)) ++ ((zh (S64 h al)) ++ ([.slice ar (za (zV h al)) cr, zn (zd (za al))] : List Value)))) 106, .vec ar cr 1 (bys (zV h al)) 5, .vec a7 c7 1 (bys (zk (QJ h) ol)) 5])
 rw [hse] at Hf364
 exact ⟨_, _, by rw [hse], Hf364⟩

end Go.Proofs.YtlnogkmnklfjlaaDoor.Sh

/- Layer 5: the sum of parts. -/

namespace Go.Proofs.YtlnogkmnklfjlaaDoor.Sh
open Go.Dbr
set_option maxRecDepth 100000
set_option maxHeartbeats 2000000
set_option linter.unusedVariables false
set_option linter.unusedSimpArgs false

theorem sum_go (w : World) (bd : Nat) (h : Int) (hh : h = 2 ∨ h = 3) (al : List UInt8) (ar : Option Addr) (cr : Nat) (gk32 : InU32 w [.box bd (([.int .i64 h] : List Value) ++ ((Zh (S32 h al)) ++ ((zh (S64 h al)) ++ ([.slice ar (za (zV h al)) cr, zn (zd (za al))] : List Value)))) 106, .vec ar cr 1 (bys (zV h al)) 5] (some ⟨0, 0, none⟩) 64 K32) (gk64 : InU64 w [.box bd (([.int .i64 h] : List Value) ++ ((Zh (S32 h al)) ++ ((zh (S64 h al)) ++ ([.slice ar (za (zV h al)) cr, zn (zd (za al))] : List Value)))) 106, .vec ar cr 1 (bys (zV h al)) 5] (some ⟨1, 0, none⟩) 80 K64) (hH : Heap w [.box bd (([.int .i64 h] : List Value) ++ ((Zh (S32 h al)) ++ ((zh (S64 h al)) ++ ([.slice ar (za (zV h al)) cr, zn (zd (za al))] : List Value)))) 106, .vec ar cr 1 (bys (zV h al)) 5]) : Calls Tryd.prog 71 #[pt bd] w fun e w' => ∃ ao co, e = .returned (.slice ao (za (XC h al)) co) ∧ Ev w [.box bd (([.int .i64 h] : List Value) ++ ((Zh (S32 h al)) ++ ((zh (S64 h al)) ++ ([.slice ar (za (zV h al)) cr, zn (zd (za al))] : List Value)))) 106, .vec ar cr 1 (bys (zV h al)) 5] w' [.box bd (([.int .i64 h] : List Value) ++ ((Zh (S32 h al)) ++ ((zh (S64 h al)) ++ ([.slice ar (za (zV h al)) cr, zn (zd (za al))] : List Value)))) 106, .vec ar cr 1 (bys (zV h al)) 5, .vec ao co 1 (bys (XC h al)) 5] := by
  exact sum64_go w bd h hh al ar cr gk32 gk64 hH

theorem flat_take_succ {l : List (Sl UInt8)} {k : Nat} {x : Sl UInt8} (h : l[k]? = some x) : (l.take (k + 1)).flatMap (fun s => s.l) = (l.take k).flatMap (fun s => s.l) ++ x.l := by
  rw [List.take_add_one, h, List.flatMap_append]
  simp

theorem of_go (w : World) (h : Int) (hh : h = 2 ∨ h = 3) (ax : Option Addr) (nx cx : Nat) (lx : List (Sl UInt8)) (ex : nx = za lx) (ix : InS (fun s : Sl UInt8 => s.f) 24 (fun x : Sl UInt8 => InB w [] x.a x.c x.l) w [] ax cx lx) (hT : ∀ (k : Nat) (x : Sl UInt8), lx[k]? = some x → za (zV h (ZG (fun s : Sl UInt8 => s.l) (zk k lx))) + za x.l ≤ 140737488355200) (gk32 : InU32 w [] (some ⟨0, 0, none⟩) 64 K32) (gk64 : InU64 w [] (some ⟨1, 0, none⟩) 80 K64) : Calls Tryd.prog 46 #[.int .i64 h, .slice ax nx cx] w fun e w' => ∃ ao co, e = .returned (.slice ao (za (XC h (ZG (fun s : Sl UInt8 => s.l) lx))) co) ∧ Ev w [] w' [.vec ao co 1 (bys (XC h (ZG (fun s : Sl UInt8 => s.l) lx))) 5] := by
 subst ex
 have hs := ix.small
 have hc2 := ix.cap
 refine d_0 [(0, .int .i64 h), (1, .slice ax (za lx) cx)] 24 Go.Proofs.Tryd.func46 Go.Proofs.Tryd.ntmps46 (Heap.nil _) fun act0 En0 Hv0 => ?_
 refine wp_seq <| d_r [0,1,4] [] En0 fun _ En2 => ?_
 refine zg <| wp_seq <| zm <| d_k [1,4,8] [] 1 En2 fun _ En4 => ?_
 refine f_o <| c_0 En4 Hv0 (new_dig _ h hh) ?_
 rintro _ _ ⟨bq5, rfl, he8⟩
 refine ⟨_, _, _, rfl, he8, rfl, fun _ En11 Hv12 => ?_⟩
 refine d_e [1,4,5] [] En11 fun _ En14 => ?_
 refine zg <| wp_seq <| wp_seq <| d_r [1,4,5,11] [] En14 fun _ En16 => ?_
 refine zg <| c_f En16 ?_
 refine wp_skip <| zg <| wp_seq <| wp_seq <| d_r [4,5,12,13,14] [] En16 fun _ En18 => ?_
 refine zg <| wp_block <| Qh (fun ms19 ac wo => ∃ (k : Nat) (al : List UInt8) (ar : Option Addr) (cr : Nat), ms19 = (za lx - k : Nat) ∧ Env ac 24 [(4, .slice none 0 0), (5, pt bq5), (12, .slice ax (za lx) cx), (13, ni (za lx)), (14, ni k)] ∧ Ev w [] wo [.box bq5 (([.int .i64 h] : List Value) ++ ((Zh (S32 h al)) ++ ((zh (S64 h al)) ++ ([.slice ar (za (zV h al)) cr, zn (zd (za al))] : List Value)))) 106, .vec ar cr 1 (bys (zV h al)) 5] ∧ (k ≤ za lx) ∧ (al = (ZG (fun s : Sl UInt8 => s.l) (zk k lx)))) ⟨_, 0, [], none, 0, rfl, En18.sb, Hv12.pk [0, 1], by omega, by rfl⟩ ?_
 rintro mm25 _ _ ⟨k, al, ar, cr, rfl, En23, Hv24, hk, hal⟩
 refine wp_seq <| d_r [4,5,12,13,14,15] [] En23 fun _ En27 => ?_
 refine zg <| wp_seq <| c_d (((k : Nat) : Int) < ((za lx : Nat) : Int)) En27 (fun hc28 => ?_) (fun hc28 => ?_)
 ·
  refine wp_skip <| zg <| wp_seq <| wp_block <| wp_seq ?_
  have hb31 : k < za lx := (by omega)
  obtain ⟨adr29, had30⟩ := some_of ix.nz hb31
  have hb32 : k < za lx := by omega
  obtain ⟨⟨a_x34, c_x34, x34⟩, hx33⟩ : ∃ x, (lx)[k]? = some x := ⟨_, List.getElem?_eq_getElem hb32⟩
  obtain i_x34 := ix.each _ (Q3 hx33)
  replace i_x34 : InB w [] a_x34 c_x34 x34 := i_x34
  refine zm <| f_o <| q_v (x := Instr.indexAt 71 (.slice ax (za lx) cx) (ni k)) (v := .pointer (some (Addr.add adr29 k))) En27 (Go.Dbr.run_indexsl (e := 26) (sz := 1) (j := k) (jo := k) had30 (by kernel_rfl) (by kernel_rfl) (by omega) hb31 (Zo _) _) fun _ En36 => ?_
  refine f_o <| op_loadf (d := some 17) (t := 26) (ad := adr29) (ao := ax) (ys := ZG (fun s : Sl UInt8 => s.f) lx) (o := k) (v := .slice a_x34 (za x34) c_x34) En36 (by kernel_rfl) rfl (ix.ro.ev Hv24).reads had30 ((flat_get1 (fun _ _ => rfl) hx33).trans rfl) (by kernel_rfl) ?_
  intro _ En38
  refine d_e [4,5,7,12,13,14] [] En38 fun _ En40 => ?_
  refine zg ?_
  have hTk := hT k _ hx33
  rw [← hal] at hTk
  simp only at hTk
  refine zm <| d_k [4,5,12,13,14,18,19] [] 2 En40 fun _ En42 => ?_
  refine f_o <| c_l [0,1] (M := [.box bq5 (([.int .i64 h] : List Value) ++ ((Zh (S32 h al)) ++ ((zh (S64 h al)) ++ ([.slice ar (za (zV h al)) cr, zn (zd (za al))] : List Value)))) 106, .vec ar cr 1 (bys (zV h al)) 5]) En42 Hv24 (fun hM44 => write_go _ bq5 h hh al ar cr a_x34 (za x34) c_x34 x34 (by first | rfl | (simp; done) | (simp; omega) | omega) ((i_x34.ev Hv24).pick [0, 1] (by kernel_rfl)) (by first | omega | (simp only [Zu, J0]; omega)) ((gk32.ev Hv24).pick [0, 1] (by kernel_rfl)) ((gk64.ev Hv24).pick [0, 1] (by kernel_rfl)) hM44) ?_
  rintro _ _ ⟨aoq43, coq43, rfl, he46⟩
  refine ⟨_, _, [.box bq5 (([.int .i64 h] : List Value) ++ ((Zh (S32 h (al ++ x34))) ++ ((zh (S64 h (al ++ x34))) ++ ([.slice aoq43 (za (zV h (al ++ x34))) coq43, zn (zd (za (al ++ x34)))] : List Value)))) 106, .vec aoq43 coq43 1 (bys (zV h (al ++ x34))) 5], rfl, he46, by kernel_rfl, fun _ En49 Hv50 => ?_⟩
  refine f_e <| zA <| zg <| d_r [4,5,12,13,14] [(0, g_n (w_a k 1))] En49 fun _ En52 => ?_
  refine zg <| ⟨_, ⟨k + 1, al ++ x34, aoq43, coq43, rfl, En52.sb, Hv50.pk [0, 1], by omega, by rw [flat_take_succ hx33, hal]⟩, ?_⟩
  omega
 refine wp_exit <| zI <| zI <| z9 <| zg <| wp_seq <| zm <| d_k [4,5,12,13,14,22] [] 1 En27 fun _ En54 => ?_
 refine f_o <| c_l [0,1] (M := [.box bq5 (([.int .i64 h] : List Value) ++ ((Zh (S32 h al)) ++ ((zh (S64 h al)) ++ ([.slice ar (za (zV h al)) cr, zn (zd (za al))] : List Value)))) 106, .vec ar cr 1 (bys (zV h al)) 5]) En54 Hv24 (fun hM56 => sum_go _ bq5 h hh al ar cr ((gk32.ev Hv24).pick [0, 1] (by kernel_rfl)) ((gk64.ev Hv24).pick [0, 1] (by kernel_rfl)) hM56) ?_
 rintro _ _ ⟨aoq55, coq55, rfl, he58⟩
 refine ⟨_, _, [.box bq5 (([.int .i64 h] : List Value) ++ ((Zh (S32 h al)) ++ ((zh (S64 h al)) ++ ([.slice ar (za (zV h al)) cr, zn (zd (za al))] : List Value)))) 106, .vec ar cr 1 (bys (zV h al)) 5, .vec aoq55 coq55 1 (bys (XC h al)) 5], rfl, he58, by kernel_rfl, fun _ En61 Hv62 => ?_⟩
 refine d_e [4,5,12,13,14] [] En61 fun _ En64 => ?_
 refine zg <| wp_ret <| d_ret1 (t := 4) (v := .slice aoq55 (za (XC h al)) coq55) En64 (by kernel_rfl) (by kernel_rfl) ?_
 have hkk : k = za lx := by omega
 have hae : al = (ZG (fun s : Sl UInt8 => s.l) lx) := by rw [hal, hkk, List.take_length]
 have Hf65 := Hv62.pk [2] (M := [.vec aoq55 coq55 1 (bys (XC h al)) 5])
 subst hae
 exact ⟨_, _, rfl, Hf65⟩

end Go.Proofs.YtlnogkmnklfjlaaDoor.Sh

/- Layer 4: bytes, the highest first; wide numbers. -/


namespace Go.Proofs.YtlnogkmnklfjlaaDoor
open Go.Dbr
set_option maxRecDepth 100000
set_option maxHeartbeats 2000000
set_option linter.unusedVariables false
set_option linter.unusedSimpArgs false

theorem lv_app : ∀ (a b : List UInt8), lv (a ++ b) = lv a + 256 ^ a.length * lv b
  | [], b => by simp [lv]
  | x :: r, b => by
    rw [List.cons_append, lv, lv, lv_app r b, Zu, Nat.pow_succ, Nat.mul_add, Nat.add_assoc]
    congr 2
    rw [← Nat.mul_assoc, z5 256]
theorem lv_zeros : ∀ n, lv (ze n 0) = 0
  | 0 => rfl
  | n + 1 => by rw [List.replicate_succ, lv, lv_zeros n]; rfl
theorem chunk_val {l : List UInt8} {s e : Nat} (he : e ≤ l.length) (hs : s ≤ e) (h31 : e - s ≤ 32) : lv (zk 0 (ze 32 (0 : UInt8)) ++ zk (e - s) (zo s l) ++ zo (0 + (e - s)) (ze 32 (0 : UInt8))) = lv (zk (e - s) (zo s l)) := by
  rw [List.take_zero, List.nil_append, lv_app, List.drop_replicate, lv_zeros, Nat.mul_zero, Nat.add_zero]
theorem drop_split {l : List UInt8} {s e : Nat} (hs : s ≤ e) (he : e ≤ l.length) : lv (zo s l) = lv (zk (e - s) (zo s l)) + 256 ^ (e - s) * lv (zo e l) := by
  have h := lv_app (zk (e - s) (zo s l)) (zo (e - s) (zo s l))
  rw [List.take_append_drop, zp, zr, Nat.min_eq_left (by omega), List.drop_drop, show s + (e - s) = e by omega] at h
  exact h
theorem wide_chunk {f : Int} (hf : f = 1 ∨ f = 2 ∨ f = 3 ∨ f = 4) {l : List UInt8} {e : Nat} {X : List UInt8} (he : e ≤ l.length) (h0 : 0 < e) (hm : e % 31 = 0 ∨ e = l.length) (hX : lv X = lv (zk (e - (e - 1) / 31 * 31) (zo ((e - 1) / 31 * 31) l))) :
    nd (addM f (nv (nd (zt f (nv (nd (lv (zo e l) % mF f))) (nv [0, 0, 0, 72057594037927936])))) (nv (nd (lv X)))) = nd (lv (zo ((e - 1) / 31 * 31) l) % mF f) := by
  have hs : (e - 1) / 31 * 31 ≤ e := by omega
  have hXl : lv X < W256 := by
    rw [hX]
    refine Nat.lt_of_lt_of_le (lv_lt _) ?_
    rw [zp, zr]
    refine Nat.le_trans (Nat.pow_le_pow_right (by decide) (show _ ≤ 31 by omega)) (by decide)
  rw [nv_nd hXl, hX, nv_nd (mulM_lt hf _ _), nv_nd (mod_lt_w hf), ← add_mM, zt, show nv [0, 0, 0, 72057594037927936] = 256 ^ 31 by decide +kernel, drop_split hs he]
  congr 1
  rcases hm with h | h
  · rw [show e - (e - 1) / 31 * 31 = 31 by omega]
    generalize lv (zk 31 (zo ((e - 1) / 31 * 31) l)) = A
    generalize lv (zo e l) = B
    rw [Nat.mod_mul_mod, Nat.mod_mod, ← Nat.add_mod, Nat.add_comm, z5]
  · rw [show lv (zo e l) = 0 by rw [h, XD]; rfl]
    simp

theorem h4f : (4 : Int) = 1 ∨ (4 : Int) = 2 ∨ (4 : Int) = 3 ∨ (4 : Int) = 4 := .inr (.inr (.inr rfl))
theorem wide4_go (w : World)  (ab : Option Addr) (nb cb : Nat) (lb : List UInt8) (eb : nb = za lb) (ib : InB w [] ab cb lb) : Calls Tryd.prog 45 #[.int .i64 4, .slice ab nb cb] w fun e w' => e = .returned (.agg (zi (zh (nd (lv lb % mF 4))))) ∧ Ev w [] w' [] := by
 subst eb
 have hsm := ib.small
 have hcp := ib.cap
 refine d_0 [(0, .int .i64 4), (1, .slice ab (za lb) cb)] 37 Go.Proofs.Tryd.func45 Go.Proofs.Tryd.ntmps45 (Heap.nil _) fun act0 En0 Hv0 => ?_
 refine wp_seq <| zm <| f_o <| m_z 34 (zh (ze 4 0)) En0 Hv0 fun _ _ bk1 En4 Hv5 => ?_
 refine f_e <| zg <| wp_seq <| zm <| f_o <| m_z 34 (zh (ze 4 0)) En4 Hv5 fun _ _ bk6 En9 Hv10 => ?_
 refine f_e <| zg <| wp_seq <| wp_seq <| d_r [0,1,4,5,6] [] En9 fun _ En12 => ?_
 refine zg <| wp_block <| Qh (fun ms13 ac wo => ∃ (e : Nat) (x : List UInt64), ms13 = (e + 1 : Nat) ∧ Env ac 37 [(0, .int .i64 4), (1, .slice ab (za lb) cb), (4, pt bk1), (5, pt bk6), (6, ni e)] ∧ Ev w [] wo [.box bk6 (zh x) 34, .box bk1 (zh (ze 4 0)) 34] ∧ (e ≤ za lb) ∧ (e % 31 = 0 ∨ e = za lb) ∧ (za x = 4) ∧ (x = nd (lv (zo e lb) % mF 4))) ⟨_, za lb, ze 4 0, rfl, En12.sb, Hv10.pk [1, 0], by omega, by omega, zf, by rw [XD, lv, Nat.zero_mod]; rfl⟩ ?_
 rintro mm19 _ _ ⟨e, x, rfl, En17, Hv18, he, hm, hx, hxe⟩
 refine wp_seq <| wp_seq <| zm <| d_k [0,1,4,5,6,13] [] 3 En17 fun _ En21 => ?_
 rcases Bool.eq_false_or_eq_true (decide (((e : Nat) : Int) > (0 : Int))) with hb22 | hb22
 ·
  have En23 := En21.fx (t := 13) (congrArg Value.bool hb22)
  have hp24 : ((e : Nat) : Int) > (0 : Int) := of_decide_eq_true hb22
  refine d_k [0,1,4,5,6,13,14] [] 4 En23 fun _ En26 => ?_
  refine f_o <| c_p En26 Hv18 (is_go_yes _ 4 h4f) fun _ _ En32 Hv33 => ?_
  refine d_e [0,1,4,5,6,16] [] En32 fun _ En35 => ?_
  refine zg <| c_t En35 ?_
  refine wp_skip <| zg <| wp_block <| wp_seq ?_
  rw [hxe] at Hv33
  refine d_r [0,1,4,5,6,7] [(1, g_n (w_r (e := ((e : Nat) : Int) - (1 : Int)) (x := ((e - 1 : Nat) : Int)) (by omega))), (2, g_i .i64 (show IntKind.wrap .i64 (Int.tdiv ((e - 1 : Nat) : Int) (31 : Int)) = (((e - 1) / 31 : Nat) : Int) from Go.Dbr.i64_quo_nat (a := ((e - 1 : Nat) : Int)) (n := e - 1) (m := 31) rfl (by omega))), (3, g_n (w_m ((e - 1) / 31) 31))] En35 fun _ En37 => ?_
  refine zg <| wp_seq <| zm <| f_o <| m_z 22 (bys (ze 32 0)) En37 Hv33 fun _ _ bk38 En41 Hv42 => ?_
  refine f_e <| zg <| wp_seq <| r_c (fun ac wo => Env ac 37 [(0, .int .i64 4), (1, .slice ab (za lb) cb), (4, pt bk1), (5, pt bk6), (6, ni e), (7, ni (((e - 1) / 31) * 31)), (8, pt bk38)] ∧ Ev w [] wo [.box bk6 (zh (nd (lv (zo e lb) % mF 4))) 34, .box bk1 (zh (ze 4 0)) 34, .box bk38 (bys (zk 0 (ze 32 0) ++ (zk (e - (((e - 1) / 31) * 31)) (zo (((e - 1) / 31) * 31) lb)) ++ zo (0 + (e - (((e - 1) / 31) * 31))) (ze 32 0))) 22]) ?_ ?_
  ·
   refine h_s (fun wv => Ev w [] wv [.box bk38 (bys (ze 32 0)) 22]) [5] 6 ?_
   have wo43 := Hv42.trans (z4 Hv42.heap)
   refine h_name fun G hG => ?_
   have nd88 : ∀ (ac : Act) (wo : World), Env ac 37 [(0, .int .i64 4), (1, .slice ab (za lb) cb), (4, pt bk1), (5, pt bk6), (6, ni e), (7, ni (((e - 1) / 31) * 31)), (8, pt bk38), (21, .slice (some ⟨bk38, 0, none⟩) 32 32), (22, .slice ab (za lb) cb), (23, ni (((e - 1) / 31) * 31)), (24, ni e)] → Ev w [] wo [.box bk6 (zh (nd (lv (zo e lb) % mF 4))) 34, .box bk1 (zh (ze 4 0)) 34, .box bk38 (bys (ze 32 0)) 22] → G 2 #[true, true, true, true, false, false] ac wo := by
    intro _ _ En91 Hv92
    refine Zi hG ?_
    refine q_t 4 ?_
    have hcap93 := ib.cap
    refine Jl (d := some 25) (t := 26) (e := 5) (sz := 1) (len := za lb) (cap := cb) (lo := ((e - 1) / 31) * 31) (hi := e) (ao := ab) (lov := (some (ni (((e - 1) / 31) * 31)))) (hiv := (some (ni e))) En91 (by kernel_rfl) (by kernel_rfl) (by kernel_rfl) (by omega) (by omega) (.inr ⟨.i64, rfl⟩) (.inr ⟨.i64, rfl⟩) ?_
    intro _ En95
    refine ⟨fun _ => Hv92.pk [2], ?_⟩
    refine q_t 5 ?_
    have hcy96 : Nat.min (e - (((e - 1) / 31) * 31)) 32 = e - (((e - 1) / 31) * 31) := by show min _ _ = _; omega
    refine op_copybox (d := some 26) (dT := 26) (sT := 26) (ty := 3) (elem := 5) (b := bk38) (off := 0) (k := 2) (m := e - (((e - 1) / 31) * 31)) (xs := bys (zk (e - (((e - 1) / 31) * 31)) (zo (((e - 1) / 31) * 31) lb))) (ys := bys (zk (e - (((e - 1) / 31) * 31)) (zo (((e - 1) / 31) * 31) lb))) (dLen := 32) (dCap := 32) (so := QO ab cb (((e - 1) / 31) * 31) 1) (sLen := e - (((e - 1) / 31) * 31)) (sCap := cb - (((e - 1) / 31) * 31)) En95 (by kernel_rfl) Hv92 rfl (by kernel_rfl) (by kernel_rfl) (bys_cut_reads (ib.ev Hv92).reads (n := (za lb)) cb (((e - 1) / 31) * 31) e (by simp) (by omega) (by omega) (by omega)) (fun e => cut_nz ib.nz e (by omega)) hcy96 (Zk (by first | (simp [bys]; done) | (simp [bys]; omega))) (zC (by first | (simp; done) | (simp; omega))) (by rw [zC (zf)]; omega) (ZD _) (cs' := bys (zk 0 (ze 32 0) ++ (zk (e - (((e - 1) / 31) * 31)) (zo (((e - 1) / 31) * 31) lb)) ++ zo (0 + (e - (((e - 1) / 31) * 31))) (ze 32 0))) (by simp [bys, ZE, QG, Yt]) (L' := [.box bk6 (zh (nd (lv (zo e lb) % mF 4))) 34, .box bk1 (zh (ze 4 0)) 34, .box bk38 (bys (zk 0 (ze 32 0) ++ (zk (e - (((e - 1) / 31) * 31)) (zo (((e - 1) / 31) * 31) lb)) ++ zo (0 + (e - (((e - 1) / 31) * 31))) (ze 32 0))) 22]) rfl ?_
    intro _ _  En99 Hv100
    refine ⟨q_y, ?_⟩
    exact h_e ⟨En99.sb, Hv100.pk [0, 1, 2]⟩
   have nd101 : ∀ (ac : Act) (wo : World), Env ac 37 [(0, .int .i64 4), (1, .slice ab (za lb) cb), (4, pt bk1), (5, pt bk6), (6, ni e), (7, ni (((e - 1) / 31) * 31)), (8, pt bk38), (25, .slice (QO ab cb (((e - 1) / 31) * 31) 1) (e - (((e - 1) / 31) * 31)) (cb - (((e - 1) / 31) * 31)))] → Ev w [] wo [.box bk6 (zh (nd (lv (zo e lb) % mF 4))) 34, .box bk1 (zh (ze 4 0)) 34, .box bk38 (bys (ze 32 0)) 22] → G 2 #[false, true, true, true, true, false] ac wo := by
    intro _ _ En104 Hv105
    refine Zi hG ?_
    refine q_t 0 ?_
    refine Zp (d := some 21) (t := 22) (e := 5) (sz := 1) (m := 32) (lo := 0) (hi := 32) (b := bk38) (off := 0) (lov := none) (hiv := none) (o := 0) En104 (by kernel_rfl) (by kernel_rfl) (by kernel_rfl) (by omega) (by omega) (by omega) (.inl ⟨rfl, rfl⟩) (.inl ⟨rfl, rfl⟩) (by omega) ?_
    intro _ En107
    refine ⟨fun _ => Hv105.pk [2], ?_⟩
    refine q_t 5 ?_
    have hcy108 : Nat.min (e - (((e - 1) / 31) * 31)) 32 = e - (((e - 1) / 31) * 31) := by show min _ _ = _; omega
    refine op_copybox (d := some 26) (dT := 26) (sT := 26) (ty := 3) (elem := 5) (b := bk38) (off := 0) (k := 2) (m := e - (((e - 1) / 31) * 31)) (xs := bys (zk (e - (((e - 1) / 31) * 31)) (zo (((e - 1) / 31) * 31) lb))) (ys := bys (zk (e - (((e - 1) / 31) * 31)) (zo (((e - 1) / 31) * 31) lb))) (dLen := 32) (dCap := 32) (so := QO ab cb (((e - 1) / 31) * 31) 1) (sLen := e - (((e - 1) / 31) * 31)) (sCap := cb - (((e - 1) / 31) * 31)) En107 (by kernel_rfl) Hv105 rfl (by kernel_rfl) (by kernel_rfl) (bys_cut_reads (ib.ev Hv105).reads (n := (za lb)) cb (((e - 1) / 31) * 31) e (by simp) (by omega) (by omega) (by omega)) (fun e => cut_nz ib.nz e (by omega)) hcy108 (Zk (by first | (simp [bys]; done) | (simp [bys]; omega))) (zC (by first | (simp; done) | (simp; omega))) (by rw [zC (zf)]; omega) (ZD _) (cs' := bys (zk 0 (ze 32 0) ++ (zk (e - (((e - 1) / 31) * 31)) (zo (((e - 1) / 31) * 31) lb)) ++ zo (0 + (e - (((e - 1) / 31) * 31))) (ze 32 0))) (by simp [bys, ZE, QG, Yt]) (L' := [.box bk6 (zh (nd (lv (zo e lb) % mF 4))) 34, .box bk1 (zh (ze 4 0)) 34, .box bk38 (bys (zk 0 (ze 32 0) ++ (zk (e - (((e - 1) / 31) * 31)) (zo (((e - 1) / 31) * 31) lb)) ++ zo (0 + (e - (((e - 1) / 31) * 31))) (ze 32 0))) 22]) rfl ?_
    intro _ _  En111 Hv112
    refine ⟨q_y, ?_⟩
    exact h_e ⟨En111.sb, Hv112.pk [0, 1, 2]⟩
   refine Zi hG ?_
   refine q_s [1,2,3] [] 3 En41 (wo43.pk [2]) fun _ En114 => ?_
   refine h_ways [0, 4] (by kernel_rfl) rfl ?_
   refine ⟨?_, ?_, trivial⟩
   ·
    rintro _ rfl
    refine Zp (d := some 21) (t := 22) (e := 5) (sz := 1) (m := 32) (lo := 0) (hi := 32) (b := bk38) (off := 0) (lov := none) (hiv := none) (o := 0) En114 (by kernel_rfl) (by kernel_rfl) (by kernel_rfl) (by omega) (by omega) (by omega) (.inl ⟨rfl, rfl⟩) (.inl ⟨rfl, rfl⟩) (by omega) ?_
    intro _ En116
    refine ⟨fun _ => wo43.pk [2], ?_⟩
    exact h_to hG (by kernel_rfl) (nd88 _ _ (En116.sb) (wo43.pk [0, 1, 2]))
   rintro _ rfl
   have hcap117 := ib.cap
   refine Jl (d := some 25) (t := 26) (e := 5) (sz := 1) (len := za lb) (cap := cb) (lo := ((e - 1) / 31) * 31) (hi := e) (ao := ab) (lov := (some (ni (((e - 1) / 31) * 31)))) (hiv := (some (ni e))) En114 (by kernel_rfl) (by kernel_rfl) (by kernel_rfl) (by omega) (by omega) (.inr ⟨.i64, rfl⟩) (.inr ⟨.i64, rfl⟩) ?_
   intro _ En119
   refine ⟨fun _ => wo43.pk [2], ?_⟩
   exact h_to hG (by kernel_rfl) (nd101 _ _ (En119.sb) (wo43.pk [0, 1, 2]))
  rintro _ _ ⟨En122, Hv123⟩
  refine zg <| wp_seq <| r_c (fun ac wo => Env ac 37 [(0, .int .i64 4), (1, .slice ab (za lb) cb), (4, pt bk1), (5, pt bk6), (6, ni e), (7, ni (((e - 1) / 31) * 31)), (8, pt bk38)] ∧ Ev w [] wo [.box bk6 (zh (nd (addM 4 (nv (nd (zt 4 (nv (nd (lv (zo e lb) % mF 4))) (nv ([0, 0, 0, 72057594037927936] : List UInt64))))) (nv (nd (lv (zk 0 (ze 32 0) ++ (zk (e - (((e - 1) / 31) * 31)) (zo (((e - 1) / 31) * 31) lb)) ++ zo (0 + (e - (((e - 1) / 31) * 31))) (ze 32 0)))))))) 34, .box bk1 (zh (ze 4 0)) 34, .box bk38 (bys (zk 0 (ze 32 0) ++ (zk (e - (((e - 1) / 31) * 31)) (zo (((e - 1) / 31) * 31) lb)) ++ zo (0 + (e - (((e - 1) / 31) * 31))) (ze 32 0))) 22]) ?_ ?_
  ·
   refine h_s (fun wv => Ev w [] wv [.box bk6 (zh (nd (lv (zo e lb) % mF 4))) 34, .box bk38 (bys (zk 0 (ze 32 0) ++ (zk (e - (((e - 1) / 31) * 31)) (zo (((e - 1) / 31) * 31) lb)) ++ zo (0 + (e - (((e - 1) / 31) * 31))) (ze 32 0))) 22]) [8] 9 ?_
   have wo124 := Hv123.trans (z4 Hv123.heap)
   refine q_s [0,1] [] 7 En122 (wo124.pk [0, 2]) fun _ En246 => ?_
   refine q_r 2 (s := Instr.loadAt 34 (pt bk6)) (v := .agg (zi (zh (nd (lv (zo e lb) % mF 4))))) En246 (fun w hS => zR (m := 4) (cs := zh (nd (lv (zo e lb) % mF 4))) (zc (zl _ _)) (by kernel_rfl) (by kernel_rfl) (hS.heap.cells (k := 0) (off := 0) (m := 4) rfl (zq (zc (zl _ _))))) (wo124.pk [0, 2]) fun _ En248 => ?_
   refine q_s [3] [] 5 En248 (wo124.pk [0, 2]) fun _ En250 => ?_
   refine q_r 5 (s := Instr.loadAt 22 (pt bk38)) (v := .agg (zi (bys (zk 0 (ze 32 0) ++ (zk (e - (((e - 1) / 31) * 31)) (zo (((e - 1) / 31) * 31) lb)) ++ zo (0 + (e - (((e - 1) / 31) * 31))) (ze 32 0))))) En250 (fun w hS => zR (m := 32) (cs := bys (zk 0 (ze 32 0) ++ (zk (e - (((e - 1) / 31) * 31)) (zo (((e - 1) / 31) * 31) lb)) ++ zo (0 + (e - (((e - 1) / 31) * 31))) (ze 32 0))) (zC (XN (zf) (by first | (simp; done) | (simp; omega)) (by omega))) (by kernel_rfl) (by kernel_rfl) (hS.heap.cells (k := 1) (off := 0) (m := 32) rfl (zq (zC (XN (zf) (by first | (simp; done) | (simp; omega)) (by omega)))))) (wo124.pk [0, 2]) fun _ En252 => ?_
   refine q_t 4 ?_
   refine c_p En252 wo124 (hM4 _ (nd (lv (zo e lb) % mF 4)) ([0, 0, 0, 72057594037927936] : List UInt64) (zl _ _) (show za ([0, 0, 0, 72057594037927936] : List UInt64) = 4 from rfl)) fun _ _ En258 Hv259 => ?_
   refine ⟨fun _ => Hv259.pk [0, 2], ?_⟩
   refine q_t 6 ?_
   refine c_p En258 Hv259 (JO _ (zk 0 (ze 32 0) ++ (zk (e - (((e - 1) / 31) * 31)) (zo (((e - 1) / 31) * 31) lb)) ++ zo (0 + (e - (((e - 1) / 31) * 31))) (ze 32 0)) (XN (zf) (by first | (simp; done) | (simp; omega)) (by omega))) fun _ _ En265 Hv266 => ?_
   refine ⟨fun _ => Hv266.pk [0, 2], ?_⟩
   refine q_t 7 ?_
   refine c_p En265 Hv266 (add_go _ 4 h4f (nd (zt 4 (nv (nd (lv (zo e lb) % mF 4))) (nv ([0, 0, 0, 72057594037927936] : List UInt64)))) (nd (lv (zk 0 (ze 32 0) ++ (zk (e - (((e - 1) / 31) * 31)) (zo (((e - 1) / 31) * 31) lb)) ++ zo (0 + (e - (((e - 1) / 31) * 31))) (ze 32 0)))) (zl _ _) (zl _ _)) fun _ _ En272 Hv273 => ?_
   refine ⟨fun _ => Hv273.pk [0, 2], ?_⟩
   refine q_t 8 ?_
   refine m_g 0 0 4 (zh (nd (addM 4 (nv (nd (zt 4 (nv (nd (lv (zo e lb) % mF 4))) (nv ([0, 0, 0, 72057594037927936] : List UInt64))))) (nv (nd (lv (zk 0 (ze 32 0) ++ (zk (e - (((e - 1) / 31) * 31)) (zo (((e - 1) / 31) * 31) lb)) ++ zo (0 + (e - (((e - 1) / 31) * 31))) (ze 32 0)))))))) _ [.box bk6 (zh (nd (addM 4 (nv (nd (zt 4 (nv (nd (lv (zo e lb) % mF 4))) (nv ([0, 0, 0, 72057594037927936] : List UInt64))))) (nv (nd (lv (zk 0 (ze 32 0) ++ (zk (e - (((e - 1) / 31) * 31)) (zo (((e - 1) / 31) * 31) lb)) ++ zo (0 + (e - (((e - 1) / 31) * 31))) (ze 32 0)))))))) 34, .box bk1 (zh (ze 4 0)) 34, .box bk38 (bys (zk 0 (ze 32 0) ++ (zk (e - (((e - 1) / 31) * 31)) (zo (((e - 1) / 31) * 31) lb)) ++ zo (0 + (e - (((e - 1) / 31) * 31))) (ze 32 0))) 22] En272 Hv273 rfl (zc (zl _ _)) (by rw [(zc (zl _ _))]; first | decide | (simp; done)) (zv _) (zs (zc (zl _ _))) rfl fun _ _ En276 Hv277 => ?_
   refine ⟨q_y, ?_⟩
   exact h_e ⟨En276.sb, Hv277.pk [0, 1, 2]⟩
  rintro _ _ ⟨En280, Hv281⟩
  refine zg <| d_r [0,1,4,5,6,7,8] [] En280 fun _ En283 => ?_
  refine zA <| zg <| ⟨_, ⟨(e - 1) / 31 * 31, (nd (addM 4 (nv (nd (zt 4 (nv (nd (lv (zo e lb) % mF 4))) (nv ([0, 0, 0, 72057594037927936] : List UInt64))))) (nv (nd (lv (zk 0 (ze 32 0) ++ (zk (e - (((e - 1) / 31) * 31)) (zo (((e - 1) / 31) * 31) lb)) ++ zo (0 + (e - (((e - 1) / 31) * 31))) (ze 32 0))))))), rfl, En283.sb, Hv281.pk [0, 1], by omega, by omega, (zl _ _), wide_chunk h4f (by omega) (by omega) hm (chunk_val (by omega) (by omega) (by omega))⟩, ?_⟩
  omega
 have En284 := En21.fx (t := 13) (congrArg Value.bool hb22)
 have hp285 : ¬ (((e : Nat) : Int) > (0 : Int)) := of_decide_eq_false hb22
 refine d_e [0,1,4,5,6,16] [] En284 fun _ En287 => ?_
 refine zg <| c_f En287 ?_
 refine wp_exit <| zI <| zI <| z9 <| zg <| wp_seq ?_
 have he0 : e = 0 := by omega
 subst he0
 rw [hxe] at Hv18
 refine zm <| f_o <| m_a 0 0 4 (zh (nd (lv (zo 0 lb) % mF 4))) En287 Hv18 rfl (zq (zc (zl _ _))) (zc (zl _ _)) fun _ En289 => ?_
 refine f_o <| m_g 1 0 4 (zh (nd (lv (zo 0 lb) % mF 4))) _ [.box bk6 (zh (nd (lv (zo 0 lb) % mF 4))) 34, .box bk1 (zh (nd (lv (zo 0 lb) % mF 4))) 34] En289 Hv18 rfl (zc (zl _ _)) (by rw [(zc (zf))]; first | decide | (simp; done)) (zv _) (zs (zc (zf))) rfl fun _ _ En292 Hv293 => ?_
 refine f_e <| zg <| wp_ret <| d_cell1 (v := .agg (zi (zh (nd (lv (zo 0 lb) % mF 4))))) (t := 4) (T := 34) (ad := ⟨bk1, 0, none⟩) En292 (by kernel_rfl) (by kernel_rfl) (zM (t := 34) (k := 1) (off := 0) (m := 4) (xs := zh (nd (lv (zo 0 lb) % mF 4))) Hv293 rfl (zq (zc (zl _ _))) (zc (zl _ _)) (by kernel_rfl) (by kernel_rfl)) ?_
 exact ⟨rfl, Hv293.pk []⟩

end Go.Proofs.YtlnogkmnklfjlaaDoor

/- A slice's bytes as an array: over any program. -/

namespace Go.Dbr
open Go Go.RowKit
section
variable {P : Program}
theorem run_toarr2 {t e : TypeId} {m : Nat} {ao : Option Addr} {ad : Addr} {p c : Nat} (hu : P.underlying t = some (.array m e)) (ha : ao = some ad) (h : m ≤ p) (w : World) : (Instr.arrayAt t (.slice ao p c)).run P w = .ok (.pointer (some ad)) w := by
  subst ha
  exact run_toarr hu h w
theorem add0 (ad : Addr) : ad = ad.add 0 := by
  unfold Addr.add
  rw [if_pos rfl]
theorem bys_pre {l : List UInt8} {m : Nat} : ∀ j, j < m → (bys l)[0 + j]? = (bys (zk m l))[j]? := fun j hj => by
  rw [bys_take, List.getElem?_take, if_pos hj, Z3]
theorem bys_prel {l : List UInt8} {m : Nat} (h : m ≤ l.length) : (bys (zk m l)).length = m := by
  rw [bys_length, zp]
  omega
variable {w : World}
end
end Go.Dbr

/- What is appended to an array that stands in a box, and is full: it goes to a place of its own. -/

namespace Go.Dbr
open Go Go.RowKit
section
variable {P : Program} {ops : Array Oper} {Q : Exit → Act → World → Prop} {n i : Nat} {l : List (Nat × Value)} {a : Act} {w w0 : World} {L L0 : List Ent} {d : Option Tmp} {K : Act → World → Prop}
theorem Heap.readsWhole {k b : Nat} {cs : List Value} {TA : TypeId} (h : Heap w L) (hk : L[k]? = some (.box b cs TA)) : Reads w (some ⟨b, 0, none⟩) cs := by
  have hh := h.holds k _ hk
  intro j u hj
  rw [add_off, Z3]
  have hh2 : w.heap[b]? = some (.cells cs.toArray TA (0, 0)) := hh
  rw [cell_of_row w b j cs.toArray TA (0, 0) hh2]
  simpa using hj
theorem op_appbox (E : Env a n l) {t tx ty T TA : TypeId} {k b : Nat} {sz p m : Nat} {cs ys : List Value} {x : Value} {z : Value} {bytes : Nat}
    (h : opAt ops n i l = some (.run d (appendOf t tx ty (.slice (some ⟨b, 0, none⟩) p p) x))) (H : Ev w0 L0 w L) (hk : L[k]? = some (.box b cs TA)) (hn : cs.length = p * sz) (hs : Src P sz tx x m ys w)
    (ht : P.underlying t = some (.slice T)) (hti : (P.info? T).map (fun i => (i.zero, i.size, i.bytes)) = some (some z, sz, bytes)) (hzs : z.cells.size = sz) (hm : 0 < m)
    (hb : ((p + m) + (p + m) / 4 + 192) * bytes ≤ 281474976710656) (h63 : p + m ≤ maxLen)
    (next : ∀ a' w' ao' cap', Env a' n (putl d (.slice ao' (p + m) cap') l) → Ev w0 L0 w' (L ++ [.vec ao' cap' sz (cs ++ ys) T]) → p + m ≤ cap' → K a' w') : wpOp P ops Q i K a w := by
  obtain ⟨ti, hi, hz, hsz, hby⟩ : ∃ ti, P.info? T = some ti ∧ ti.zero = some z ∧ ti.size = sz ∧ ti.bytes = bytes := by
    cases hi : P.info? T with
    | none => simp [hi] at hti
    | some ti => simp only [hi, Zx, Option.some.injEq, Prod.mk.injEq] at hti; exact ⟨ti, rfl, hti.1, hti.2.1, hti.2.2⟩
  subst hsz
  subst hby
  have hyl := hs.newsLen
  have hlen : (cs ++ ys).length = (p + m) * ti.size := by rw [List.length_append, hn, hyl, Zm]
  have hold : (Builtin.firstCells ti.size p (.slice (some ⟨b, 0, none⟩) p p)).run P w.drew = .ok cs.toArray w.drew := by
    refine run_firstCells_some w.drew ti.size p ⟨b, 0, none⟩ p p cs hn fun j u hj => ?_
    have := H.heap.readsWhole hk j u hj
    simpa using this
  have hrun := run_append_grow_src (P := P) w t tx ty T ti z ht hi hz (some ⟨b, 0, none⟩) p p cs hold x m ys hs (by omega) (by simp only [maxLen] at h63; omega) (growslice_fits_wide (by omega) hb)
  have hge := grownCap_ge w (p + m) p T
  have hcm := grownCap_le_maxLen w (p + m) p T h63
  have hcap : (cs ++ ys).length ≤ grownCap w (p + m) p T * ti.size := by rw [hlen]; exact Nat.mul_le_mul_right _ hge
  refine any_run E h (run_nv hrun) fun a' E' => next a' _ _ _ E' (H.trans (Ev.add H.heap ⟨rfl, rfl, rfl, by simp, fun b hb _ => Below.heap_alloc w.drew _ b hb⟩ ⟨rfl, hcm, hcap, _, (0, 0), heap_alloc_new w.drew _, .inl rfl, ?_, fun j hj => ?_⟩ (fun b hb => ?_))) hge
  · simp only [Z3]
    rw [Array.size_append, List.size_toArray, hlen, size_zeroCells, hzs, ← Zm]
    rw [show p + m + (grownCap w (p + m) p T - (p + m)) = grownCap w (p + m) p T by omega]
    exact Nat.le_refl _
  · rw [Z3, Array.getElem?_append_left (by simpa using hj)]
    simp
  · simp only [Ent.own, Zx, Option.some.injEq] at hb
    have : w.drew.heap.size = w.heap.size := rfl
    omega
end
end Go.Dbr

/- Layer 12: a seed, sums. -/





namespace Go.Proofs.YtlnogkmnklfjlaaDoor
open Go.Dbr
set_option maxRecDepth 100000
set_option maxHeartbeats 2000000
set_option linter.unusedVariables false
set_option linter.unusedSimpArgs false

theorem h3s : (3 : Int) = 1 ∨ (3 : Int) = 2 ∨ (3 : Int) = 3 := .inr (.inr rfl)
theorem parts_ok {h : Int} {lx : List (Sl UInt8)} (hb : ∀ x ∈ lx, x.l.length ≤ 140737488353280) : ∀ (k : Nat) (x : Sl UInt8), lx[k]? = some x → za (Sh.restH h (ZG (fun s : Sl UInt8 => s.l) (zk k lx))) + za x.l ≤ 140737488355200 := fun k x hx => by
  have h1 := Sh.restH_lt h (ZG (fun s : Sl UInt8 => s.l) (zk k lx))
  have h2 := hb x (Q3 hx)
  omega
/-- the number of bytes' sum -/
def nE (b : List UInt8) : Nat := lv (Sh.sumF 3 b) % mF 4
theorem nE_lt (b : List UInt8) : nE b < W256 := mod_lt_w h4f
/-- a seed's number, and what stands ahead of texts -/
def clE (k : List UInt8) : List UInt8 := zy (zy k 0 (zb k 0 0 &&& 248)) 31 (zb (zy k 0 (zb k 0 0 &&& 248)) 31 0 &&& 63 ||| 64)
theorem clE_len {k : List UInt8} (h : k.length = 32) : (clE k).length = 32 := by rw [clE, ZI, ZI, h]
theorem s3_len (b : List UInt8) : (Sh.sumF 3 b).length = 64 := (Sh.sumF_len h3s b).trans rfl
theorem s3_take (b : List UInt8) : (zk 32 (Sh.sumF 3 b)).length = 32 := by rw [zp, s3_len]; rfl
def sE (sd : List UInt8) : Nat := lv (clE (zk 32 (Sh.sumF 3 sd)))
theorem sE_lt (sd : List UInt8) : sE sd < W256 := by
  have := lv_lt (clE (zk 32 (Sh.sumF 3 sd)))
  rw [clE_len (s3_take sd)] at this
  exact this
def ahE (sd : List UInt8) : List UInt8 := zo 32 (Sh.sumF 3 sd)
theorem ahE_len (sd : List UInt8) : (ahE sd).length = 32 := by rw [ahE, zr, s3_len]
theorem sha_go (w : World) (ax : Option Addr) (nx cx : Nat) (lx : List (Sl UInt8)) (ex : nx = za lx) (ix : InS (fun s : Sl UInt8 => s.f) 24 (fun x : Sl UInt8 => InB w [] x.a x.c x.l) w [] ax cx lx) (hT : ∀ x ∈ lx, za x.l ≤ 140737488353280) {b : List UInt8} (hb : (ZG (fun s : Sl UInt8 => s.l) lx) = b) (gk32 : InU32 w [] (some ⟨0, 0, none⟩) 64 Sh.K32) (gk64 : InU64 w [] (some ⟨1, 0, none⟩) 80 Sh.K64) : Calls Tryd.prog 46 #[.int .i64 3, .slice ax nx cx] w fun e w' => ∃ ao co, e = .returned (.slice ao (za (Sh.sumF 3 b)) co) ∧ Ev w [] w' [.vec ao co 1 (bys (Sh.sumF 3 b)) 5] := by
  subst hb
  exact Sh.of_go w 3 (.inr rfl) ax nx cx lx ex ix (parts_ok hT) gk32 gk64

theorem enumber_go (w : World) (ax : Option Addr) (nx cx : Nat) (lx : List (Sl UInt8)) (ex : nx = za lx) (ix : InS (fun s : Sl UInt8 => s.f) 24 (fun x : Sl UInt8 => InB w [] x.a x.c x.l) w [] ax cx lx) (hT : ∀ x ∈ lx, za x.l ≤ 140737488353280) {b : List UInt8} (hb : (ZG (fun s : Sl UInt8 => s.l) lx) = b) (gk32 : InU32 w [] (some ⟨0, 0, none⟩) 64 Sh.K32) (gk64 : InU64 w [] (some ⟨1, 0, none⟩) 80 Sh.K64) : Calls Tryd.prog 21 #[.slice ax nx cx] w fun e w' => e = .returned (.agg (zi (zh (nd (nE b))))) ∧ Ev w [] w' [] := by
 subst ex
 have hs := ix.small
 have hc2 := ix.cap
 refine d_0 [(0, .slice ax (za lx) cx)] 6 Go.Proofs.Tryd.func21 Go.Proofs.Tryd.ntmps21 (Heap.nil _) fun act0 En0 Hv0 => ?_
 refine wp_seq <| zm <| f_o <| m_z 34 (zh (ze 4 0)) En0 Hv0 fun _ _ bk1 En4 Hv5 => ?_
 refine f_e <| zg <| wp_seq ?_
 have hs3l := s3_len (ZG (fun s : Sl UInt8 => s.l) lx)
 refine zm <| d_k [2,3] [] 1 En4 fun _ En7 => ?_
 refine f_o <| c_0 En7 Hv5 (sha_go _ ax (za lx) cx lx (by first | rfl | (simp; done) | (simp; omega) | omega) (ix.go Hv5 [] (by kernel_rfl) (fun _ h => (InB.ev h Hv5).pick [] (by kernel_rfl))) hT (b := (ZG (fun s : Sl UInt8 => s.l) lx)) rfl ((gk32.ev Hv5).pick [] (by kernel_rfl)) ((gk64.ev Hv5).pick [] (by kernel_rfl))) ?_
 rintro _ _ ⟨aoq8, coq8, rfl, he11⟩
 refine ⟨_, _, _, rfl, he11, rfl, fun _ En14 Hv15 => ?_⟩
 refine f_o <| c_p En14 Hv15 (wide4_go _  aoq8 (za (Sh.sumF 3 (ZG (fun s : Sl UInt8 => s.l) lx))) coq8 (Sh.sumF 3 (ZG (fun s : Sl UInt8 => s.l) lx)) (by first | rfl | (simp; done) | (simp; omega) | omega) (bys_in Hv15.heap (k := 0) rfl [] (by kernel_rfl) rfl (by first | omega | (simp; done) | (simp; omega)))) fun _ _ En21 Hv22 => ?_
 refine f_o <| m_g 1 0 4 (zh (nd (lv (Sh.sumF 3 (ZG (fun s : Sl UInt8 => s.l) lx)) % mF 4))) _ [.vec aoq8 coq8 1 (bys (Sh.sumF 3 (ZG (fun s : Sl UInt8 => s.l) lx))) 5, .box bk1 (zh (nd (lv (Sh.sumF 3 (ZG (fun s : Sl UInt8 => s.l) lx)) % mF 4))) 34] En21 Hv22 rfl (zc (zl _ _)) (by rw [(zc (zf))]; first | decide | (simp; done)) (zv _) (zs (zc (zf))) rfl fun _ _ En25 Hv26 => ?_
 refine f_e <| zg <| wp_ret <| d_cell1 (v := .agg (zi (zh (nd (lv (Sh.sumF 3 (ZG (fun s : Sl UInt8 => s.l) lx)) % mF 4))))) (t := 2) (T := 34) (ad := ⟨bk1, 0, none⟩) En25 (by kernel_rfl) (by kernel_rfl) (zM (t := 34) (k := 1) (off := 0) (m := 4) (xs := zh (nd (lv (Sh.sumF 3 (ZG (fun s : Sl UInt8 => s.l) lx)) % mF 4))) Hv26 rfl (zq (zc (zl _ _))) (zc (zl _ _)) (by kernel_rfl) (by kernel_rfl)) ?_
 exact ⟨by rw [← hb]; rfl, Hv26.pk []⟩

theorem secret_go (w : World) (sd : List UInt8) (hsd : za sd = 32) (gk32 : InU32 w [] (some ⟨0, 0, none⟩) 64 Sh.K32) (gk64 : InU64 w [] (some ⟨1, 0, none⟩) 80 Sh.K64) : Calls Tryd.prog 26 #[.agg (zi (bys sd))] w fun e w' => ∃ ao co, e = .returned (.tuple #[.agg (zi (zh (nd (sE sd)))), .slice ao (za (ahE sd)) co]) ∧ Ev w [] w' [.vec ao co 1 (bys (ahE sd)) 5] := by
 refine d_0 [(0, .agg (zi (bys sd)))] 26 Go.Proofs.Tryd.func26 Go.Proofs.Tryd.ntmps26 (Heap.nil _) fun act0 En0 Hv0 => ?_
 refine wp_seq <| zm <| f_o <| m_m 22 (bys sd) En0 Hv0 fun _ _ bk1 En4 Hv5 => ?_
 refine f_o <| m_z 34 (zh (ze 4 0)) En4 Hv5 fun _ _ bk6 En9 Hv10 => ?_
 refine d_e [1,2,3] [] En9 fun _ En12 => ?_
 refine zg <| wp_seq <| zm <| f_o <| Zp (d := some 6) (t := 22) (e := 5) (sz := 1) (m := 32) (lo := 0) (hi := 32) (b := bk1) (off := 0) (lov := none) (hiv := none) (o := 0) En12 (by kernel_rfl) (by kernel_rfl) (by kernel_rfl) (by omega) (by omega) (by omega) (.inl ⟨rfl, rfl⟩) (.inl ⟨rfl, rfl⟩) (by omega) ?_
 intro _ En14
 refine f_o <| Qu (d := some 7) (t := 71) (T := 26) (m := 1) (parts := #[(0, .slice (some ⟨bk1, 0, none⟩) 32 32)]) (xs := [.slice (some ⟨bk1, 0, none⟩) 32 32]) (sz := 1) En14 (by kernel_rfl) (by kernel_rfl) rfl (by decide) Hv10 ?_
 intro _ _ bk15 En18 Hv19
 refine f_o ?_
 rw [show (.slice (some ⟨bk1, 0, none⟩) 32 32 : Value) = .slice (some ⟨bk1, 0, none⟩) (za sd) 32 from by rw [show za sd = 32 from by first | omega | (simp only [zE, ahE_len, s3_len, zp, zr, zG, hsd]; omega) | (simp only [zE, ahE_len, s3_len, zp, zr, zG, hsd])]] at Hv19
 refine c_0 En18 Hv19 (sha_go _ (some ⟨bk15, 0, none⟩) 1 1 ([⟨some ⟨bk1, 0, none⟩, 32, sd⟩] : List (Sl UInt8)) (by first | rfl | (simp; done) | (simp; omega) | omega) ⟨Hv19.heap.ro (k := 2) rfl [] (by kernel_rfl) rfl, (fun e => by cases e), (by simp), (by simp), (zu.2 ⟨(bys_inbox (Hv19.heap.roBox (k := 0) (m := 32) rfl (zq (zC hsd)) [] (by kernel_rfl) rfl) hsd (by first | decide | (dsimp only; decide))), (fun x h => absurd h z3)⟩)⟩ (zu.2 ⟨(show za sd ≤ 140737488353280 from (by first | omega | (simp only [zE, ahE_len, s3_len, zp, zr, zG, hsd]; omega) | (simp only [zE, ahE_len, s3_len, zp, zr, zG, hsd]; decide))), (fun x h => absurd h z3)⟩) (b := sd) (by simp only [List.flatMap_cons, List.flatMap_nil, List.append_nil]) ((gk32.ev Hv19).pick [] (by kernel_rfl)) ((gk64.ev Hv19).pick [] (by kernel_rfl))) ?_
 rintro _ _ ⟨aoq20, coq20, rfl, he23⟩
 refine ⟨_, _, _, rfl, he23, rfl, fun _ En26 Hv27 => ?_⟩
 refine d_e [2,3,4] [] En26 fun _ En29 => ?_
 refine zg <| wp_seq ?_
 have hs3 := s3_len sd
 have hst := s3_take sd
 refine zm <| d_k [2,3,4,9] [] 1 En29 fun _ En31 => ?_
 refine f_o ?_
 have hcap32 := YC Hv27.heap (k := 0) rfl
 refine op_slice0 (d := some 10) (t := 26) (e := 5) (sz := 1) (len := za (Sh.sumF 3 sd)) (cap := coq20) (hi := 32) (ao := aoq20) (lov := none) (hiv := (some (.int .i64 32))) En31 (by kernel_rfl) (by kernel_rfl) (by kernel_rfl) (by omega) (.inl ⟨rfl, rfl⟩) (.inr ⟨.i64, rfl⟩) ?_
 intro _ En34
 have hb37 : 0 < 32 := by omega
 obtain ⟨adr35, had36⟩ := some_of (fun e => by have := (bys_vnz Hv27.heap (k := 0) rfl) e; omega) hb37
 refine f_o <| q_v (x := Instr.arrayAt 22 (.slice aoq20 32 coq20)) (v := .pointer (some adr35)) En34 (Go.Dbr.run_toarr2 (e := 5) (m := 32) (by kernel_rfl) had36 (by omega) _) fun _ En39 => ?_
 refine f_o ?_
 have hb40 : 32 ≤ za (zk 32 (Sh.sumF 3 sd)) := by first | omega | (simp; done) | (simp; omega)
 refine op_loadaggat (d := some 12) (t := 22) (ad := adr35) (ao := aoq20) (ys := bys (zk 32 (Sh.sumF 3 sd))) (o := 0) (m := 32) (xs := bys (zk 32 (zk 32 (Sh.sumF 3 sd)))) En39 (by kernel_rfl) (add0 _) (bys_take_reads (Hv27.heap.reads (k := 0) rfl) 32) had36 bys_pre (bys_prel hb40) (by kernel_rfl) (by kernel_rfl) ?_
 intro _ En42
 refine f_o <| m_z 22 (bys (ze 32 0)) En42 Hv27 fun _ _ bk43 En46 Hv47 => ?_
 refine f_o <| m_g 4 0 32 (bys (zk 32 (zk 32 (Sh.sumF 3 sd)))) _ [.vec aoq20 coq20 1 (bys (Sh.sumF 3 sd)) 5, .box bk1 (bys sd) 22, .box bk6 (zh (ze 4 0)) 34, .vec (some ⟨bk15, 0, none⟩) 1 1 [.slice (some ⟨bk1, 0, none⟩) (za sd) 32] 26, .box bk43 (bys (zk 32 (zk 32 (Sh.sumF 3 sd)))) 22] En46 Hv47 rfl (zC (by first | (simp; done) | (simp; omega) | (rw [zp]; omega))) (by rw [(zC (zf))]; first | decide | (simp; done)) (ZD _) (zs (zC (zf))) rfl fun _ _ En50 Hv51 => ?_
 refine f_e <| zg <| wp_seq ?_
 rw [show (zk 32 (zk 32 (Sh.sumF 3 sd))) = (zk 32 (Sh.sumF 3 sd)) from (by rw [List.take_take]; rfl)] at Hv51
 refine zm <| d_k [2,3,4,5,13] [] 1 En50 fun _ En53 => ?_
 refine f_o ?_
 have hb54 : 0 < za (zk 32 (Sh.sumF 3 sd)) := by rw [hst]; omega
 refine m_v 4 0 (bv (zb (zk 32 (Sh.sumF 3 sd)) 0 0)) En53 Hv51 rfl (Qa hb54) fun _ En56 => ?_
 refine d_k [2,3,4,5,15,16] [(2, g_i .u8 (Go.Dbr.u8_and (x := zb (zk 32 (Sh.sumF 3 sd)) 0 0) (y := (248 : UInt8)) rfl rfl))] 4 En56 fun _ En58 => ?_
 refine f_o ?_
 have hb59 : 0 < za (zk 32 (Sh.sumF 3 sd)) := by rw [hst]; omega
 refine m_t 4 0 (bv ((zb (zk 32 (Sh.sumF 3 sd)) 0 0) &&& (248 : UInt8))) [.vec aoq20 coq20 1 (bys (Sh.sumF 3 sd)) 5, .box bk1 (bys sd) 22, .box bk6 (zh (ze 4 0)) 34, .vec (some ⟨bk15, 0, none⟩) 1 1 [.slice (some ⟨bk1, 0, none⟩) (za sd) 32] 26, .box bk43 (bys (zy (zk 32 (Sh.sumF 3 sd)) 0 ((zb (zk 32 (Sh.sumF 3 sd)) 0 0) &&& (248 : UInt8)))) 22] En58 Hv51 rfl (Qa hb59) (bys_set _ _ _) rfl fun _ _ En62 Hv63 => ?_
 refine f_e <| zg <| wp_seq <| zm <| d_k [2,3,4,5,17] [] 1 En62 fun _ En65 => ?_
 refine f_o ?_
 have hb66 : 31 < za (zy (zk 32 (Sh.sumF 3 sd)) 0 ((zb (zk 32 (Sh.sumF 3 sd)) 0 0) &&& (248 : UInt8))) := by rw [(List.length_set.trans hst)]; omega
 refine m_v 4 31 (bv (zb (zy (zk 32 (Sh.sumF 3 sd)) 0 ((zb (zk 32 (Sh.sumF 3 sd)) 0 0) &&& (248 : UInt8))) 31 0)) En65 Hv63 rfl (Qa hb66) fun _ En68 => ?_
 refine d_k [2,3,4,5,20,21] [(2, g_i .u8 (Go.Dbr.u8_and (x := zb (zy (zk 32 (Sh.sumF 3 sd)) 0 ((zb (zk 32 (Sh.sumF 3 sd)) 0 0) &&& (248 : UInt8))) 31 0) (y := (63 : UInt8)) rfl rfl)), (3, g_i .u8 (Go.Dbr.u8_or (x := (zb (zy (zk 32 (Sh.sumF 3 sd)) 0 ((zb (zk 32 (Sh.sumF 3 sd)) 0 0) &&& (248 : UInt8))) 31 0) &&& (63 : UInt8)) (y := (64 : UInt8)) rfl rfl))] 5 En68 fun _ En70 => ?_
 refine f_o ?_
 have hb71 : 31 < za (zy (zk 32 (Sh.sumF 3 sd)) 0 ((zb (zk 32 (Sh.sumF 3 sd)) 0 0) &&& (248 : UInt8))) := by rw [(List.length_set.trans hst)]; omega
 refine m_t 4 31 (bv (((zb (zy (zk 32 (Sh.sumF 3 sd)) 0 ((zb (zk 32 (Sh.sumF 3 sd)) 0 0) &&& (248 : UInt8))) 31 0) &&& (63 : UInt8)) ||| (64 : UInt8))) [.vec aoq20 coq20 1 (bys (Sh.sumF 3 sd)) 5, .box bk1 (bys sd) 22, .box bk6 (zh (ze 4 0)) 34, .vec (some ⟨bk15, 0, none⟩) 1 1 [.slice (some ⟨bk1, 0, none⟩) (za sd) 32] 26, .box bk43 (bys (zy (zy (zk 32 (Sh.sumF 3 sd)) 0 ((zb (zk 32 (Sh.sumF 3 sd)) 0 0) &&& (248 : UInt8))) 31 (((zb (zy (zk 32 (Sh.sumF 3 sd)) 0 ((zb (zk 32 (Sh.sumF 3 sd)) 0 0) &&& (248 : UInt8))) 31 0) &&& (63 : UInt8)) ||| (64 : UInt8)))) 22] En70 Hv63 rfl (Qa hb71) (bys_set _ _ _) rfl fun _ _ En74 Hv75 => ?_
 refine f_e <| zg <| wp_seq ?_
 rw [show (zy (zy (zk 32 (Sh.sumF 3 sd)) 0 ((zb (zk 32 (Sh.sumF 3 sd)) 0 0) &&& (248 : UInt8))) 31 (((zb (zy (zk 32 (Sh.sumF 3 sd)) 0 ((zb (zk 32 (Sh.sumF 3 sd)) 0 0) &&& (248 : UInt8))) 31 0) &&& (63 : UInt8)) ||| (64 : UInt8))) = (clE (zk 32 (Sh.sumF 3 sd))) from rfl] at Hv75
 refine r_c (fun ac wo => Env ac 26 [(2, pt bk6), (3, .slice (QO aoq20 coq20 32 1) ((za (Sh.sumF 3 sd)) - 32) (coq20 - 32)), (4, .slice aoq20 (za (Sh.sumF 3 sd)) coq20), (5, pt bk43)] ∧ Ev w [] wo [.vec aoq20 coq20 1 (bys (Sh.sumF 3 sd)) 5, .box bk6 (zh (nd (lv (clE (zk 32 (Sh.sumF 3 sd)))))) 34, .box bk43 (bys (clE (zk 32 (Sh.sumF 3 sd)))) 22]) ?_ ?_
 ·
  refine h_s (fun wv => Ev w [] wv [.vec aoq20 coq20 1 (bys (Sh.sumF 3 sd)) 5, .box bk43 (bys (clE (zk 32 (Sh.sumF 3 sd)))) 22]) [] 6 ?_
  have wo76 := Hv75.trans (z4 Hv75.heap)
  refine h_name fun G hG => ?_
  have nd185 : ∀ (ac : Act) (wo : World), Env ac 26 [(2, pt bk6), (3, .slice none 0 0), (4, .slice aoq20 (za (Sh.sumF 3 sd)) coq20), (5, pt bk43), (23, .agg (zi (zh (nd (lv (clE (zk 32 (Sh.sumF 3 sd)))))))), (25, .slice (QO aoq20 coq20 32 1) ((za (Sh.sumF 3 sd)) - 32) (coq20 - 32))] → Ev w [] wo [.vec aoq20 coq20 1 (bys (Sh.sumF 3 sd)) 5, .box bk6 (zh (ze 4 0)) 34, .box bk43 (bys (clE (zk 32 (Sh.sumF 3 sd)))) 22] → G 2 #[true, true, true, true, false, false] ac wo := by
   intro _ _ En188 Hv189
   refine Zi hG ?_
   refine q_t 4 ?_
   refine m_g 1 0 4 (zh (nd (lv (clE (zk 32 (Sh.sumF 3 sd)))))) _ [.vec aoq20 coq20 1 (bys (Sh.sumF 3 sd)) 5, .box bk6 (zh (nd (lv (clE (zk 32 (Sh.sumF 3 sd)))))) 34, .box bk43 (bys (clE (zk 32 (Sh.sumF 3 sd)))) 22] En188 Hv189 rfl (zc (zl _ _)) (by rw [(zc (zf))]; first | decide | (simp; done)) (zv _) (zs (zc (zf))) rfl fun _ _ En192 Hv193 => ?_
   refine ⟨fun _ => Hv193.pk [0, 2], ?_⟩
   refine q_s [5] [] 0 En192 (Hv193.pk [0, 2]) fun _ En195 => ?_
   exact h_e ⟨En195.sb, Hv193.pk [0, 1, 2]⟩
  have nd196 : ∀ (ac : Act) (wo : World), Env ac 26 [(2, pt bk6), (3, .slice none 0 0), (4, .slice aoq20 (za (Sh.sumF 3 sd)) coq20), (5, pt bk43), (24, .slice aoq20 (za (Sh.sumF 3 sd)) coq20)] → Ev w [] wo [.vec aoq20 coq20 1 (bys (Sh.sumF 3 sd)) 5, .box bk6 (zh (nd (lv (clE (zk 32 (Sh.sumF 3 sd)))))) 34, .box bk43 (bys (clE (zk 32 (Sh.sumF 3 sd)))) 22] → G 2 #[true, true, true, false, true, false] ac wo := by
   intro _ _ En199 Hv200
   refine Zi hG ?_
   refine q_t 3 ?_
   have hcap201 := YC Hv200.heap (k := 0) rfl
   refine Jl (d := some 25) (t := 26) (e := 5) (sz := 1) (len := za (Sh.sumF 3 sd)) (cap := coq20) (lo := 32) (hi := za (Sh.sumF 3 sd)) (ao := aoq20) (lov := (some (.int .i64 32))) (hiv := none) En199 (by kernel_rfl) (by kernel_rfl) (by kernel_rfl) (by omega) (by omega) (.inr ⟨.i64, rfl⟩) (.inl ⟨rfl, rfl⟩) ?_
   intro _ En203
   refine ⟨fun _ => Hv200.pk [0, 2], ?_⟩
   refine q_s [5] [] 0 En203 (Hv200.pk [0, 2]) fun _ En205 => ?_
   exact h_e ⟨En205.sb, Hv200.pk [0, 1, 2]⟩
  have nd206 : ∀ (ac : Act) (wo : World), Env ac 26 [(2, pt bk6), (3, .slice none 0 0), (4, .slice aoq20 (za (Sh.sumF 3 sd)) coq20), (5, pt bk43), (23, .agg (zi (zh (nd (lv (clE (zk 32 (Sh.sumF 3 sd)))))))), (24, .slice aoq20 (za (Sh.sumF 3 sd)) coq20)] → Ev w [] wo [.vec aoq20 coq20 1 (bys (Sh.sumF 3 sd)) 5, .box bk6 (zh (ze 4 0)) 34, .box bk43 (bys (clE (zk 32 (Sh.sumF 3 sd)))) 22] → G 3 #[true, true, true, false, false, false] ac wo := by
   intro _ _ En209 Hv210
   refine Zi hG ?_
   refine h_ways [3, 4] (by kernel_rfl) rfl ?_
   refine ⟨?_, ?_, trivial⟩
   ·
    rintro _ rfl
    have hcap211 := YC Hv210.heap (k := 0) rfl
    refine Jl (d := some 25) (t := 26) (e := 5) (sz := 1) (len := za (Sh.sumF 3 sd)) (cap := coq20) (lo := 32) (hi := za (Sh.sumF 3 sd)) (ao := aoq20) (lov := (some (.int .i64 32))) (hiv := none) En209 (by kernel_rfl) (by kernel_rfl) (by kernel_rfl) (by omega) (by omega) (.inr ⟨.i64, rfl⟩) (.inl ⟨rfl, rfl⟩) ?_
    intro _ En213
    refine ⟨fun _ => Hv210.pk [0, 2], ?_⟩
    exact h_to hG (by kernel_rfl) (nd185 _ _ (En213.sb) (Hv210.pk [0, 1, 2]))
   rintro _ rfl
   refine m_g 1 0 4 (zh (nd (lv (clE (zk 32 (Sh.sumF 3 sd)))))) _ [.vec aoq20 coq20 1 (bys (Sh.sumF 3 sd)) 5, .box bk6 (zh (nd (lv (clE (zk 32 (Sh.sumF 3 sd)))))) 34, .box bk43 (bys (clE (zk 32 (Sh.sumF 3 sd)))) 22] En209 Hv210 rfl (zc (zl _ _)) (by rw [(zc (zf))]; first | decide | (simp; done)) (zv _) (zs (zc (zf))) rfl fun _ _ En216 Hv217 => ?_
   refine ⟨fun _ => Hv217.pk [0, 2], ?_⟩
   exact h_to hG (by kernel_rfl) (nd196 _ _ (En216.sb) (Hv217.pk [0, 1, 2]))
  have nd218 : ∀ (ac : Act) (wo : World), Env ac 26 [(2, pt bk6), (3, .slice none 0 0), (4, .slice aoq20 (za (Sh.sumF 3 sd)) coq20), (5, pt bk43), (22, .agg (zi (bys (clE (zk 32 (Sh.sumF 3 sd)))))), (25, .slice (QO aoq20 coq20 32 1) ((za (Sh.sumF 3 sd)) - 32) (coq20 - 32))] → Ev w [] wo [.vec aoq20 coq20 1 (bys (Sh.sumF 3 sd)) 5, .box bk6 (zh (ze 4 0)) 34, .box bk43 (bys (clE (zk 32 (Sh.sumF 3 sd)))) 22] → G 3 #[true, false, true, true, false, false] ac wo := by
   intro _ _ En221 Hv222
   refine Zi hG ?_
   refine q_t 1 ?_
   refine c_p En221 Hv222 (JO _ (clE (zk 32 (Sh.sumF 3 sd))) (clE_len hst)) fun _ _ En228 Hv229 => ?_
   refine ⟨fun _ => Hv229.pk [0, 2], ?_⟩
   refine q_t 4 ?_
   refine m_g 1 0 4 (zh (nd (lv (clE (zk 32 (Sh.sumF 3 sd)))))) _ [.vec aoq20 coq20 1 (bys (Sh.sumF 3 sd)) 5, .box bk6 (zh (nd (lv (clE (zk 32 (Sh.sumF 3 sd)))))) 34, .box bk43 (bys (clE (zk 32 (Sh.sumF 3 sd)))) 22] En228 Hv229 rfl (zc (zl _ _)) (by rw [(zc (zf))]; first | decide | (simp; done)) (zv _) (zs (zc (zf))) rfl fun _ _ En232 Hv233 => ?_
   refine ⟨fun _ => Hv233.pk [0, 2], ?_⟩
   refine q_s [5] [] 0 En232 (Hv233.pk [0, 2]) fun _ En235 => ?_
   exact h_e ⟨En235.sb, Hv233.pk [0, 1, 2]⟩
  refine Zi hG ?_
  refine q_r 0 (s := Instr.loadAt 22 (pt bk43)) (v := .agg (zi (bys (clE (zk 32 (Sh.sumF 3 sd)))))) En74 (fun w hS => zR (m := 32) (cs := bys (clE (zk 32 (Sh.sumF 3 sd)))) (zC (clE_len hst)) (by kernel_rfl) (by kernel_rfl) (hS.heap.cells (k := 1) (off := 0) (m := 32) rfl (zq (zC (clE_len hst))))) (wo76.pk [0, 4]) fun _ En237 => ?_
  refine q_s [2] [] 4 En237 (wo76.pk [0, 4]) fun _ En239 => ?_
  refine h_ways [1, 3] (by kernel_rfl) rfl ?_
  refine ⟨?_, ?_, trivial⟩
  ·
   rintro _ rfl
   refine c_p En239 wo76 (JO _ (clE (zk 32 (Sh.sumF 3 sd))) (clE_len hst)) fun _ _ En245 Hv246 => ?_
   refine ⟨fun _ => Hv246.pk [0, 4], ?_⟩
   exact h_to hG (by kernel_rfl) (nd206 _ _ (En245.sb) (Hv246.pk [0, 2, 4]))
  rintro _ rfl
  have hcap247 := YC wo76.heap (k := 0) rfl
  refine Jl (d := some 25) (t := 26) (e := 5) (sz := 1) (len := za (Sh.sumF 3 sd)) (cap := coq20) (lo := 32) (hi := za (Sh.sumF 3 sd)) (ao := aoq20) (lov := (some (.int .i64 32))) (hiv := none) En239 (by kernel_rfl) (by kernel_rfl) (by kernel_rfl) (by omega) (by omega) (.inr ⟨.i64, rfl⟩) (.inl ⟨rfl, rfl⟩) ?_
  intro _ En249
  refine ⟨fun _ => wo76.pk [0, 4], ?_⟩
  exact h_to hG (by kernel_rfl) (nd218 _ _ (En249.sb) (wo76.pk [0, 2, 4]))
 rintro _ _ ⟨En252, Hv253⟩
 refine zg <| wp_ret <| d_cell_tmp (v := .agg (zi (zh (nd (lv (clE (zk 32 (Sh.sumF 3 sd)))))))) (x := .slice (QO aoq20 coq20 32 1) ((za (Sh.sumF 3 sd)) - 32) (coq20 - 32)) (t := 2) (T := 34) (ad := ⟨bk6, 0, none⟩) (u := 3) En252 (by kernel_rfl) (by kernel_rfl) (zM (t := 34) (k := 1) (off := 0) (m := 4) (xs := zh (nd (lv (clE (zk 32 (Sh.sumF 3 sd)))))) Hv253 rfl (zq (zc (zl _ _))) (zc (zl _ _)) (by kernel_rfl) (by kernel_rfl)) (by kernel_rfl) ?_
 have hcap255 := YC Hv253.heap (k := 0) rfl
 have Hf254 := Ev.cut (k := 0) (n := za (Sh.sumF 3 sd)) (sz := 1) Hv253 rfl (Qm _) (by omega) 32 (za (Sh.sumF 3 sd)) (by omega) (by omega)
 rw [bys_cutw (l := Sh.sumF 3 sd) (lo := 32) (n := za (Sh.sumF 3 sd)) (by simp)] at Hf254
 exact ⟨_, _, by rw [show za (ahE sd) = za (Sh.sumF 3 sd) - 32 from zr]; first | done | rfl, Hf254.pk [0]⟩

end Go.Proofs.YtlnogkmnklfjlaaDoor
