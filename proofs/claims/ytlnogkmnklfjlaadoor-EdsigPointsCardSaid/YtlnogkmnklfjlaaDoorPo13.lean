import Derived.Test.YtlnogkmnklfjlaaDoorPo12
import Derived.Test.YtlnogkmnklfjlaaDoorPo6
import Derived.Test.YtlnogkmnklfjlaaDoorPo9
import Derived.Test.YtlnogkmnklfjlaaDoorPo2
import Derived.Test.YtlnogkmnklfjlaaDoorPo11
import Derived.Test.YtlnogkmnklfjlaaDoorPo1
import Derived.Test.YtlnogkmnklfjlaaDoorRows
import Derived.Deep.DeepHandedRow
import Derived.Lib.LaidTab
import Derived.Stop.LaidErr
open UInt64 renaming ofNat → za, toUInt8 → zj
open Go.Dbr renaming u64s_lenh → zb, then_normal → zg, u64s → zh, uv64 → zl, region_from → zm, load_whole → zn, store_whole → zo, u64s_one → zu, block_normal → zv, then_exit → zy, seg_skip → zD, loop_once → zF, bys_lenh → zU, block_exit → zV, u32s_lenh → z3, u32s → Za, h_from → Zs, bys_append → ZH, op_append → ZN, bys_one → ZR, bys_getD → ZS, d_ret1 → ZW, bys_len → Z8, op_lit → QT, bys_vcap → Yc, seg_in → Yi, bys_set → Jm, op_slice → JA
open List renaming replicate → zc, length_replicate → zd, length → ze, getD → zf, toArray → zi, set → zp, take → zr, length_take → zI, getElem?_eq_getElem → zL, length_drop → zS, getElem?_eq_some_iff → z7, length_cons → Zj, mem_of_getElem? → QI, flatMap → QO, length_set → Q6, not_mem_nil → Yg, length_nil → JS, forall_mem_cons → J7
open Go.Proofs.YtlnogkmnklfjlaaDoor renaming nds_len → zk, lb_len → Yk, baseL → Yr, puE_len → JP
open Go.Proofs.YtlnogkmnklfjlaaDoor.Sh renaming restH → zN, sizeOfH → Qp, S32_len → QR, S64_len → QS, padH → Q4, out64_len → JG, sumF → Xq
open Go.Dbr.Ev renaming drew → zQ
open UInt8 renaming toNat → Zc
open Nat renaming mul_one → Zu, mod_lt → Zw, zero_add → Qo
open Go.Dbr.Reads renaming src → ZM
/- Layer 5: sums: the walk. -/

namespace Go.Proofs.YtlnogkmnklfjlaaDoor.Sh
open Go.Dbr
set_option maxRecDepth 100000
set_option maxHeartbeats 2000000
set_option linter.unusedVariables false
set_option linter.unusedSimpArgs false

theorem sum64_go (w : World) (bd : Nat) (h : Int) (hh2 : h = 2 ∨ h = 3) (al : List UInt8) (ar : Option Addr) (cr : Nat) (gk32 : InU32 w [.box bd (([.int .i64 h] : List Value) ++ ((Za (S32 h al)) ++ ((zh (S64 h al)) ++ ([.slice ar (ze (zN h al)) cr, zl (za (ze al))] : List Value)))) 106, .vec ar cr 1 (bys (zN h al)) 5] (some ⟨0, 0, none⟩) 64 K32) (gk64 : InU64 w [.box bd (([.int .i64 h] : List Value) ++ ((Za (S32 h al)) ++ ((zh (S64 h al)) ++ ([.slice ar (ze (zN h al)) cr, zl (za (ze al))] : List Value)))) 106, .vec ar cr 1 (bys (zN h al)) 5] (some ⟨1, 0, none⟩) 80 K64) (hH : Heap w [.box bd (([.int .i64 h] : List Value) ++ ((Za (S32 h al)) ++ ((zh (S64 h al)) ++ ([.slice ar (ze (zN h al)) cr, zl (za (ze al))] : List Value)))) 106, .vec ar cr 1 (bys (zN h al)) 5]) : Calls Tryd.prog 71 #[pt bd] w fun e w' => ∃ ao co, e = .returned (.slice ao (ze (Xq h al)) co) ∧ Ev w [.box bd (([.int .i64 h] : List Value) ++ ((Za (S32 h al)) ++ ((zh (S64 h al)) ++ ([.slice ar (ze (zN h al)) cr, zl (za (ze al))] : List Value)))) 106, .vec ar cr 1 (bys (zN h al)) 5] w' [.box bd (([.int .i64 h] : List Value) ++ ((Za (S32 h al)) ++ ((zh (S64 h al)) ++ ([.slice ar (ze (zN h al)) cr, zl (za (ze al))] : List Value)))) 106, .vec ar cr 1 (bys (zN h al)) 5, .vec ao co 1 (bys (Xq h al)) 5] := by
 have hrl := restH_lt h al
 have hrl2 := restH_le h al
 refine d_0 [(0, pt bd)] 95 Go.Proofs.Tryd.func71 Go.Proofs.Tryd.ntmps71 (hH) fun act0 En0 Hv0 => ?_
 refine wp_seq <| d_r [0,2] [] En0 fun _ En2 => ?_
 refine zg <| wp_seq <| zm <| d_k [0,2,9] [] 1 En2 fun _ En4 => ?_
 refine f_o <| c_l [0,1] (M := [.box bd (([.int .i64 h] : List Value) ++ ((Za (S32 h al)) ++ ((zh (S64 h al)) ++ ([.slice ar (ze (zN h al)) cr, zl (za (ze al))] : List Value)))) 106, .vec ar cr 1 (bys (zN h al)) 5]) En4 Hv0 (fun hM6 => clone_go _ bd h al ar cr hM6) ?_
 rintro _ _ ⟨bq5, aoq5, coq5, rfl, he8⟩
 refine ⟨_, _, [.box bd (([.int .i64 h] : List Value) ++ ((Za (S32 h al)) ++ ((zh (S64 h al)) ++ ([.slice ar (ze (zN h al)) cr, zl (za (ze al))] : List Value)))) 106, .vec ar cr 1 (bys (zN h al)) 5, .box bq5 (([.int .i64 h] : List Value) ++ ((Za (S32 h al)) ++ ((zh (S64 h al)) ++ ([.slice aoq5 (ze (zN h al)) coq5, zl (za (ze al))] : List Value)))) 106, .vec aoq5 coq5 1 (bys (zN h al)) 5], rfl, he8, by kernel_rfl, fun _ En11 Hv12 => ?_⟩
 refine d_e [0,2,3] [] En11 fun _ En14 => ?_
 refine zg <| wp_seq <| zm <| d_k [0,2,3,13] [] 3 En14 fun _ En16 => ?_
 refine f_o <| m_v 0 0 (.int .i64 h) En16 Hv12 rfl (Yi rfl) fun _ En18 => ?_
 refine f_o <| c_p En18 Hv12 (block_go23 _ h hh2) fun _ _ En24 Hv25 => ?_
 refine d_e [0,2,3,4] [] En24 fun _ En27 => ?_
 refine zg <| wp_seq <| zm <| d_k [0,2,3,4,17] [] 2 En27 fun _ En29 => ?_
 refine f_o <| op_makecap (d := some 18) (t := 26) (T := 5) (q := 1) (m := 256) (kl := .i64) (kc := .i64) (z := .int .u8 0) (bytes := 1) En29 (by kernel_rfl) Hv25 (by kernel_rfl) (by kernel_rfl) (by kernel_rfl) (by omega) (by omega) (by unfold maxLen; omega) ?_
 intro _ _ bk30 En33 Hv34
 rw [show zc 1 (Value.int .u8 0) = bys (zc 1 0) from (bys_replicate _).symm] at Hv34
 refine d_e [0,2,3,4,5] [] En33 fun _ En36 => ?_
 refine zg <| wp_seq ?_
 have hb39 : 0 < 1 := (by omega)
 refine zm <| d_k [0,2,3,4,5,19] [] 1 En36 fun _ En41 => ?_
 refine f_o <| q_v (x := Instr.indexAt 26 (.slice (some ⟨bk30, 0, none⟩) 1 256) (.int .i64 0)) (v := .pointer (some (Addr.add ⟨bk30, 0, none⟩ 0))) En41 (Go.Dbr.run_indexsl (e := 5) (sz := 1) (j := 0) (jo := 0) rfl (by kernel_rfl) (by kernel_rfl) (by omega) hb39 (Zu _) _) fun _ En43 => ?_
 refine f_o <| op_storeel (d := none) (t := 5) (ad := ⟨bk30, 0, none⟩) (ao := some ⟨bk30, 0, none⟩) (k := 4) (cap := 256) (sz := 1) (j := 0) (xs := bys (zc 1 0)) (v := bv (128 : UInt8)) En43 (by kernel_rfl) Hv34 rfl rfl (by rw [bys_length]; first | omega | (simp; done) | (simp; omega)) (by kernel_rfl) rfl ?_
 intro _ wo45  En46 Hv47
 rw [Jm] at Hv47
 refine f_e ?_
 replace Hv47 : Ev w [.box bd (([.int .i64 h] : List Value) ++ ((Za (S32 h al)) ++ ((zh (S64 h al)) ++ ([.slice ar (ze (zN h al)) cr, zl (za (ze al))] : List Value)))) 106, .vec ar cr 1 (bys (zN h al)) 5] wo45 [.box bd (([.int .i64 h] : List Value) ++ ((Za (S32 h al)) ++ ((zh (S64 h al)) ++ ([.slice ar (ze (zN h al)) cr, zl (za (ze al))] : List Value)))) 106, .vec ar cr 1 (bys (zN h al)) 5, .box bq5 (([.int .i64 h] : List Value) ++ ((Za (S32 h al)) ++ ((zh (S64 h al)) ++ ([.slice aoq5 (ze (zN h al)) coq5, zl (za (ze al))] : List Value)))) 106, .vec aoq5 coq5 1 (bys (zN h al)) 5, .vec (some ⟨bk30, 0, none⟩) 256 1 (bys ([128] : List UInt8)) 5] := Hv47
 refine zg <| wp_seq <| wp_block <| loop_m (fun ms48 ac wo => ∃ (j : Nat) (ae : Option Addr) (ce : Nat) (el : List UInt8), ms48 = (pdZ 128 (ze (zN h al)) - j : Nat) ∧ Env ac 95 [(0, pt bd), (2, .slice none 0 0), (3, pt bq5), (4, .int .i64 128), (5, .slice ae (ze el) ce)] ∧ Ev w [.box bd (([.int .i64 h] : List Value) ++ ((Za (S32 h al)) ++ ((zh (S64 h al)) ++ ([.slice ar (ze (zN h al)) cr, zl (za (ze al))] : List Value)))) 106, .vec ar cr 1 (bys (zN h al)) 5] wo [.vec ae ce 1 (bys el) 5, .box bd (([.int .i64 h] : List Value) ++ ((Za (S32 h al)) ++ ((zh (S64 h al)) ++ ([.slice ar (ze (zN h al)) cr, zl (za (ze al))] : List Value)))) 106, .vec ar cr 1 (bys (zN h al)) 5, .box bq5 (([.int .i64 h] : List Value) ++ ((Za (S32 h al)) ++ ((zh (S64 h al)) ++ ([.slice aoq5 (ze (zN h al)) coq5, zl (za (ze al))] : List Value)))) 106, .vec aoq5 coq5 1 (bys (zN h al)) 5] ∧ (j ≤ pdZ 128 (ze (zN h al))) ∧ (el = ([128] : List UInt8) ++ zc j 0)) ⟨_, 0, some ⟨bk30, 0, none⟩, 256, ([128] : List UInt8), rfl, En46.sb, Hv47.pk [4, 0, 1, 2, 3], Nat.zero_le _, rfl⟩ ?_
 rintro mm54 _ _ ⟨j, ae, ce, el, rfl, En52, Hv53, hj, heel⟩
 refine wp_seq <| wp_seq ?_
 have hel : ze el = 1 + j := by rw [heel]; simp; omega
 have hpz : pdZ 128 (ze (zN h al)) < 128 := Zw _ (by decide)
 refine zm <| d_k [0,2,3,4,5,23] [] 3 En52 fun _ En56 => ?_
 refine f_o <| m_v 1 17 (.slice ar (ze (zN h al)) cr) En56 Hv53 rfl (zD (n := 1) (j := 16) rfl (zD (n := 8) (j := 8) (z3 (QR _ _)) (zD (n := 8) (j := 0) (zb (QS _ _)) rfl))) fun _ En58 => ?_
 refine d_e [0,2,3,4,5,34] [(7, g_n (w_a (ze (zN h al)) (ze el))), (10, g_n (w_a ((ze (zN h al)) + (ze el)) 16)), (12, g_i .i64 (show Int.tmod ((((ze (zN h al)) + (ze el)) + 16 : Nat) : Int) (128 : Int) = (((((ze (zN h al)) + (ze el)) + 16) % 128 : Nat) : Int) from Go.Dbr.i64_rem_nat (a := ((((ze (zN h al)) + (ze el)) + 16 : Nat) : Int)) (n := ((ze (zN h al)) + (ze el)) + 16) (m := 128) rfl (by omega)))] En58 fun _ En60 => ?_
 refine zg <| c_n (((((ze (zN h al)) + (ze el)) + 16) % 128 : Nat) : Int) (0 : Int) En60 (fun hc61 => ?_) (fun hc61 => ?_)
 ·
  refine wp_skip <| zg <| wp_block ?_
  have hpz : pdZ 128 (ze (zN h al)) < 128 := Zw _ (by decide)
  refine zm <| d_k [0,2,3,4,5,35] [] 1 En60 fun _ En63 => ?_
  refine f_o <| QT (d := some 36) (t := 26) (T := 5) (m := 1) (parts := #[(0, .int .u8 0)]) (xs := bys [(0 : UInt8)]) (sz := 1) En63 (by kernel_rfl) (by kernel_rfl) rfl (by decide) Hv53 ?_
  intro _ _ bk64 En67 Hv68
  refine f_o <| ZN (d := some 37) (t := 26) (tx := 26) (ty := 26) (k := 0) (p := ze el) (m := 1) (x := .slice (some ⟨bk64, 0, none⟩) 1 1) (bytes := 1) En67 (by kernel_rfl) Hv68 rfl (Z8 _) (ZM (size := 1) (tx := 26) (e' := 5) (by kernel_rfl) (Hv68.heap.reads (k := 5) rfl) rfl (fun e => by cases e) (ZR _)) (by kernel_rfl) (z := .int .u8 0) (by kernel_rfl) rfl (by decide) (by omega) (by unfold maxLen; omega) ?_
  intro _ _ ao69 cp70 En75 Hv76 hnz _
  clear hnz
  rw [← ZH] at Hv76
  have ehz71 : (ze el) + 1 = ze (el ++ [(0 : UInt8)]) := (by first | (simp; done) | (simp; omega) | omega)
  rw [ehz71] at En75
  refine d_e [0,2,3,4,5] [] En75 fun _ En78 => ?_
  refine zv <| zg <| ⟨_, ⟨j + 1, ao69, cp70, (el ++ [(0 : UInt8)]), rfl, En78.sb, Hv76.pk [0, 1, 2, 3, 4], by unfold pdZ at *; omega, by rw [heel]; exact end_step⟩, ?_⟩
  unfold pdZ at *; omega
 refine wp_exit <| zy <| zy <| zV <| zg <| wp_seq ?_
 have hel : ze el = 1 + j := by rw [heel]; simp; omega
 have hjp : j = pdZ 128 (ze (zN h al)) := by unfold pdZ at *; omega
 have hpz : pdZ 128 (ze (zN h al)) < 128 := Zw _ (by decide)
 refine zm <| d_k [0,2,3,4,5,38,41] [] 4 En60 fun _ En80 => ?_
 refine f_o <| op_appzeros (d := some 42) (t := 26) (tn := 3) (tx := 9) (ty := 26) (T := 5) (kn := .i64) (ik := .i64) (k := 0) (p := ze el) (m := 8) (xs := el) En80 (by kernel_rfl) Hv53 rfl rfl (by kernel_rfl) (by kernel_rfl) (by kernel_rfl) (by kernel_rfl) (by omega) ?_
 intro _ _ ao81 cp82 En86 Hv87 hnz _
 clear hnz
 have ehz83 : (ze el) + 8 = ze (el ++ zc 8 0) := (by first | (simp; done) | (simp; omega) | omega)
 rw [ehz83] at En86
 refine d_e [0,2,3,4,5] [] En86 fun _ En89 => ?_
 refine zg <| wp_seq <| wp_seq <| d_r [0,2,3,4,5,6] [] En89 fun _ En91 => ?_
 refine zg <| wp_block <| loop_enter ?_
 refine zF <| wp_seq <| wp_seq <| d_r [0,2,3,4,5,6,44] [] En91 fun _ En93 => ?_
 refine zg <| c_t En93 ?_
 refine wp_skip <| zg <| wp_seq <| wp_block <| zm <| d_k [0,2,3,4,5,6,47,50] [] 4 En93 fun _ En95 => ?_
 refine f_o <| m_v 1 18 (zl (za (ze al))) En95 Hv87 rfl (zD (n := 1) (j := 17) rfl (zD (n := 8) (j := 9) (z3 (QR _ _)) (zD (n := 8) (j := 1) (zb (QS _ _)) rfl))) fun _ En97 => ?_
 refine d_k [0,2,3,4,5,6,47,56] [(5, g_i .u64 (Go.Dbr.u64_mul (x := za (ze al)) (y := (8 : UInt64)) rfl rfl)), (8, g_i .u64 (Go.Dbr.u64_shr (x := (za (ze al)) * (8 : UInt64)) (n := 56) rfl (by decide))), (9, g_i .u8 (Go.Dbr.u64_to_u8 (x := ((za (ze al)) * (8 : UInt64)) >>> za 56) rfl))] 10 En97 fun _ En99 => ?_
 refine f_o <| QT (d := some 57) (t := 26) (T := 5) (m := 1) (parts := #[(0, bv (zj (((za (ze al)) * (8 : UInt64)) >>> za 56)))]) (xs := bys [zj (((za (ze al)) * (8 : UInt64)) >>> za 56)]) (sz := 1) En99 (by kernel_rfl) (by kernel_rfl) rfl (by decide) Hv87 ?_
 intro _ _ bk100 En103 Hv104
 refine f_o <| ZN (d := some 58) (t := 26) (tx := 26) (ty := 26) (k := 0) (p := ze (el ++ zc 8 0)) (m := 1) (x := .slice (some ⟨bk100, 0, none⟩) 1 1) (bytes := 1) En103 (by kernel_rfl) Hv104 rfl (Z8 _) (ZM (size := 1) (tx := 26) (e' := 5) (by kernel_rfl) (Hv104.heap.reads (k := 5) rfl) rfl (fun e => by cases e) (ZR _)) (by kernel_rfl) (z := .int .u8 0) (by kernel_rfl) rfl (by decide) (by omega) (by unfold maxLen; omega) ?_
 intro _ _ ao105 cp106 En111 Hv112 hnz _
 clear hnz
 rw [← ZH] at Hv112
 have ehz107 : (ze (el ++ zc 8 0)) + 1 = ze ((el ++ zc 8 0) ++ [zj (((za (ze al)) * (8 : UInt64)) >>> za 56)]) := (by first | (simp; done) | (simp; omega) | omega)
 rw [ehz107] at En111
 refine d_e [0,2,3,4,5,6] [] En111 fun _ En114 => ?_
 refine zv <| zg <| d_r [0,2,3,4,5,6] [] En114 fun _ En116 => ?_
 refine zg <| zF <| wp_seq <| wp_seq <| d_r [0,2,3,4,5,6,44] [] En116 fun _ En118 => ?_
 refine zg <| c_t En118 ?_
 refine wp_skip <| zg <| wp_seq <| wp_block <| zm <| d_k [0,2,3,4,5,6,47,50] [] 4 En118 fun _ En120 => ?_
 refine f_o <| m_v 1 18 (zl (za (ze al))) En120 Hv112 rfl (zD (n := 1) (j := 17) rfl (zD (n := 8) (j := 9) (z3 (QR _ _)) (zD (n := 8) (j := 1) (zb (QS _ _)) rfl))) fun _ En122 => ?_
 refine d_k [0,2,3,4,5,6,47,56] [(5, g_i .u64 (Go.Dbr.u64_mul (x := za (ze al)) (y := (8 : UInt64)) rfl rfl)), (8, g_i .u64 (Go.Dbr.u64_shr (x := (za (ze al)) * (8 : UInt64)) (n := 48) rfl (by decide))), (9, g_i .u8 (Go.Dbr.u64_to_u8 (x := ((za (ze al)) * (8 : UInt64)) >>> za 48) rfl))] 10 En122 fun _ En124 => ?_
 refine f_o <| QT (d := some 57) (t := 26) (T := 5) (m := 1) (parts := #[(0, bv (zj (((za (ze al)) * (8 : UInt64)) >>> za 48)))]) (xs := bys [zj (((za (ze al)) * (8 : UInt64)) >>> za 48)]) (sz := 1) En124 (by kernel_rfl) (by kernel_rfl) rfl (by decide) Hv112 ?_
 intro _ _ bk125 En128 Hv129
 refine f_o <| ZN (d := some 58) (t := 26) (tx := 26) (ty := 26) (k := 0) (p := ze ((el ++ zc 8 0) ++ [zj (((za (ze al)) * (8 : UInt64)) >>> za 56)])) (m := 1) (x := .slice (some ⟨bk125, 0, none⟩) 1 1) (bytes := 1) En128 (by kernel_rfl) Hv129 rfl (Z8 _) (ZM (size := 1) (tx := 26) (e' := 5) (by kernel_rfl) (Hv129.heap.reads (k := 6) rfl) rfl (fun e => by cases e) (ZR _)) (by kernel_rfl) (z := .int .u8 0) (by kernel_rfl) rfl (by decide) (by omega) (by unfold maxLen; omega) ?_
 intro _ _ ao130 cp131 En136 Hv137 hnz _
 clear hnz
 rw [← ZH] at Hv137
 have ehz132 : (ze ((el ++ zc 8 0) ++ [zj (((za (ze al)) * (8 : UInt64)) >>> za 56)])) + 1 = ze (((el ++ zc 8 0) ++ [zj (((za (ze al)) * (8 : UInt64)) >>> za 56)]) ++ [zj (((za (ze al)) * (8 : UInt64)) >>> za 48)]) := (by first | (simp; done) | (simp; omega) | omega)
 rw [ehz132] at En136
 refine d_e [0,2,3,4,5,6] [] En136 fun _ En139 => ?_
 refine zv <| zg <| d_r [0,2,3,4,5,6] [] En139 fun _ En141 => ?_
 refine zg <| zF <| wp_seq <| wp_seq <| d_r [0,2,3,4,5,6,44] [] En141 fun _ En143 => ?_
 refine zg <| c_t En143 ?_
 refine wp_skip <| zg <| wp_seq <| wp_block <| zm <| d_k [0,2,3,4,5,6,47,50] [] 4 En143 fun _ En145 => ?_
 refine f_o <| m_v 1 18 (zl (za (ze al))) En145 Hv137 rfl (zD (n := 1) (j := 17) rfl (zD (n := 8) (j := 9) (z3 (QR _ _)) (zD (n := 8) (j := 1) (zb (QS _ _)) rfl))) fun _ En147 => ?_
 refine d_k [0,2,3,4,5,6,47,56] [(5, g_i .u64 (Go.Dbr.u64_mul (x := za (ze al)) (y := (8 : UInt64)) rfl rfl)), (8, g_i .u64 (Go.Dbr.u64_shr (x := (za (ze al)) * (8 : UInt64)) (n := 40) rfl (by decide))), (9, g_i .u8 (Go.Dbr.u64_to_u8 (x := ((za (ze al)) * (8 : UInt64)) >>> za 40) rfl))] 10 En147 fun _ En149 => ?_
 refine f_o <| QT (d := some 57) (t := 26) (T := 5) (m := 1) (parts := #[(0, bv (zj (((za (ze al)) * (8 : UInt64)) >>> za 40)))]) (xs := bys [zj (((za (ze al)) * (8 : UInt64)) >>> za 40)]) (sz := 1) En149 (by kernel_rfl) (by kernel_rfl) rfl (by decide) Hv137 ?_
 intro _ _ bk150 En153 Hv154
 refine f_o <| ZN (d := some 58) (t := 26) (tx := 26) (ty := 26) (k := 0) (p := ze (((el ++ zc 8 0) ++ [zj (((za (ze al)) * (8 : UInt64)) >>> za 56)]) ++ [zj (((za (ze al)) * (8 : UInt64)) >>> za 48)])) (m := 1) (x := .slice (some ⟨bk150, 0, none⟩) 1 1) (bytes := 1) En153 (by kernel_rfl) Hv154 rfl (Z8 _) (ZM (size := 1) (tx := 26) (e' := 5) (by kernel_rfl) (Hv154.heap.reads (k := 7) rfl) rfl (fun e => by cases e) (ZR _)) (by kernel_rfl) (z := .int .u8 0) (by kernel_rfl) rfl (by decide) (by omega) (by unfold maxLen; omega) ?_
 intro _ _ ao155 cp156 En161 Hv162 hnz _
 clear hnz
 rw [← ZH] at Hv162
 have ehz157 : (ze (((el ++ zc 8 0) ++ [zj (((za (ze al)) * (8 : UInt64)) >>> za 56)]) ++ [zj (((za (ze al)) * (8 : UInt64)) >>> za 48)])) + 1 = ze ((((el ++ zc 8 0) ++ [zj (((za (ze al)) * (8 : UInt64)) >>> za 56)]) ++ [zj (((za (ze al)) * (8 : UInt64)) >>> za 48)]) ++ [zj (((za (ze al)) * (8 : UInt64)) >>> za 40)]) := (by first | (simp; done) | (simp; omega) | omega)
 rw [ehz157] at En161
 refine d_e [0,2,3,4,5,6] [] En161 fun _ En164 => ?_
 refine zv <| zg <| d_r [0,2,3,4,5,6] [] En164 fun _ En166 => ?_
 refine zg <| zF <| wp_seq <| wp_seq <| d_r [0,2,3,4,5,6,44] [] En166 fun _ En168 => ?_
 refine zg <| c_t En168 ?_
 refine wp_skip <| zg <| wp_seq <| wp_block <| zm <| d_k [0,2,3,4,5,6,47,50] [] 4 En168 fun _ En170 => ?_
 refine f_o <| m_v 1 18 (zl (za (ze al))) En170 Hv162 rfl (zD (n := 1) (j := 17) rfl (zD (n := 8) (j := 9) (z3 (QR _ _)) (zD (n := 8) (j := 1) (zb (QS _ _)) rfl))) fun _ En172 => ?_
 refine d_k [0,2,3,4,5,6,47,56] [(5, g_i .u64 (Go.Dbr.u64_mul (x := za (ze al)) (y := (8 : UInt64)) rfl rfl)), (8, g_i .u64 (Go.Dbr.u64_shr (x := (za (ze al)) * (8 : UInt64)) (n := 32) rfl (by decide))), (9, g_i .u8 (Go.Dbr.u64_to_u8 (x := ((za (ze al)) * (8 : UInt64)) >>> za 32) rfl))] 10 En172 fun _ En174 => ?_
 refine f_o <| QT (d := some 57) (t := 26) (T := 5) (m := 1) (parts := #[(0, bv (zj (((za (ze al)) * (8 : UInt64)) >>> za 32)))]) (xs := bys [zj (((za (ze al)) * (8 : UInt64)) >>> za 32)]) (sz := 1) En174 (by kernel_rfl) (by kernel_rfl) rfl (by decide) Hv162 ?_
 intro _ _ bk175 En178 Hv179
 refine f_o <| ZN (d := some 58) (t := 26) (tx := 26) (ty := 26) (k := 0) (p := ze ((((el ++ zc 8 0) ++ [zj (((za (ze al)) * (8 : UInt64)) >>> za 56)]) ++ [zj (((za (ze al)) * (8 : UInt64)) >>> za 48)]) ++ [zj (((za (ze al)) * (8 : UInt64)) >>> za 40)])) (m := 1) (x := .slice (some ⟨bk175, 0, none⟩) 1 1) (bytes := 1) En178 (by kernel_rfl) Hv179 rfl (Z8 _) (ZM (size := 1) (tx := 26) (e' := 5) (by kernel_rfl) (Hv179.heap.reads (k := 8) rfl) rfl (fun e => by cases e) (ZR _)) (by kernel_rfl) (z := .int .u8 0) (by kernel_rfl) rfl (by decide) (by omega) (by unfold maxLen; omega) ?_
 intro _ _ ao180 cp181 En186 Hv187 hnz _
 clear hnz
 rw [← ZH] at Hv187
 have ehz182 : (ze ((((el ++ zc 8 0) ++ [zj (((za (ze al)) * (8 : UInt64)) >>> za 56)]) ++ [zj (((za (ze al)) * (8 : UInt64)) >>> za 48)]) ++ [zj (((za (ze al)) * (8 : UInt64)) >>> za 40)])) + 1 = ze (((((el ++ zc 8 0) ++ [zj (((za (ze al)) * (8 : UInt64)) >>> za 56)]) ++ [zj (((za (ze al)) * (8 : UInt64)) >>> za 48)]) ++ [zj (((za (ze al)) * (8 : UInt64)) >>> za 40)]) ++ [zj (((za (ze al)) * (8 : UInt64)) >>> za 32)]) := (by first | (simp; done) | (simp; omega) | omega)
 rw [ehz182] at En186
 refine d_e [0,2,3,4,5,6] [] En186 fun _ En189 => ?_
 refine zv <| zg <| d_r [0,2,3,4,5,6] [] En189 fun _ En191 => ?_
 refine zg <| zF <| wp_seq <| wp_seq <| d_r [0,2,3,4,5,6,44] [] En191 fun _ En193 => ?_
 refine zg <| c_t En193 ?_
 refine wp_skip <| zg <| wp_seq <| wp_block <| zm <| d_k [0,2,3,4,5,6,47,50] [] 4 En193 fun _ En195 => ?_
 refine f_o <| m_v 1 18 (zl (za (ze al))) En195 Hv187 rfl (zD (n := 1) (j := 17) rfl (zD (n := 8) (j := 9) (z3 (QR _ _)) (zD (n := 8) (j := 1) (zb (QS _ _)) rfl))) fun _ En197 => ?_
 refine d_k [0,2,3,4,5,6,47,56] [(5, g_i .u64 (Go.Dbr.u64_mul (x := za (ze al)) (y := (8 : UInt64)) rfl rfl)), (8, g_i .u64 (Go.Dbr.u64_shr (x := (za (ze al)) * (8 : UInt64)) (n := 24) rfl (by decide))), (9, g_i .u8 (Go.Dbr.u64_to_u8 (x := ((za (ze al)) * (8 : UInt64)) >>> za 24) rfl))] 10 En197 fun _ En199 => ?_
 refine f_o <| QT (d := some 57) (t := 26) (T := 5) (m := 1) (parts := #[(0, bv (zj (((za (ze al)) * (8 : UInt64)) >>> za 24)))]) (xs := bys [zj (((za (ze al)) * (8 : UInt64)) >>> za 24)]) (sz := 1) En199 (by kernel_rfl) (by kernel_rfl) rfl (by decide) Hv187 ?_
 intro _ _ bk200 En203 Hv204
 refine f_o <| ZN (d := some 58) (t := 26) (tx := 26) (ty := 26) (k := 0) (p := ze (((((el ++ zc 8 0) ++ [zj (((za (ze al)) * (8 : UInt64)) >>> za 56)]) ++ [zj (((za (ze al)) * (8 : UInt64)) >>> za 48)]) ++ [zj (((za (ze al)) * (8 : UInt64)) >>> za 40)]) ++ [zj (((za (ze al)) * (8 : UInt64)) >>> za 32)])) (m := 1) (x := .slice (some ⟨bk200, 0, none⟩) 1 1) (bytes := 1) En203 (by kernel_rfl) Hv204 rfl (Z8 _) (ZM (size := 1) (tx := 26) (e' := 5) (by kernel_rfl) (Hv204.heap.reads (k := 9) rfl) rfl (fun e => by cases e) (ZR _)) (by kernel_rfl) (z := .int .u8 0) (by kernel_rfl) rfl (by decide) (by omega) (by unfold maxLen; omega) ?_
 intro _ _ ao205 cp206 En211 Hv212 hnz _
 clear hnz
 rw [← ZH] at Hv212
 have ehz207 : (ze (((((el ++ zc 8 0) ++ [zj (((za (ze al)) * (8 : UInt64)) >>> za 56)]) ++ [zj (((za (ze al)) * (8 : UInt64)) >>> za 48)]) ++ [zj (((za (ze al)) * (8 : UInt64)) >>> za 40)]) ++ [zj (((za (ze al)) * (8 : UInt64)) >>> za 32)])) + 1 = ze ((((((el ++ zc 8 0) ++ [zj (((za (ze al)) * (8 : UInt64)) >>> za 56)]) ++ [zj (((za (ze al)) * (8 : UInt64)) >>> za 48)]) ++ [zj (((za (ze al)) * (8 : UInt64)) >>> za 40)]) ++ [zj (((za (ze al)) * (8 : UInt64)) >>> za 32)]) ++ [zj (((za (ze al)) * (8 : UInt64)) >>> za 24)]) := (by first | (simp; done) | (simp; omega) | omega)
 rw [ehz207] at En211
 refine d_e [0,2,3,4,5,6] [] En211 fun _ En214 => ?_
 refine zv <| zg <| d_r [0,2,3,4,5,6] [] En214 fun _ En216 => ?_
 refine zg <| zF <| wp_seq <| wp_seq <| d_r [0,2,3,4,5,6,44] [] En216 fun _ En218 => ?_
 refine zg <| c_t En218 ?_
 refine wp_skip <| zg <| wp_seq <| wp_block <| zm <| d_k [0,2,3,4,5,6,47,50] [] 4 En218 fun _ En220 => ?_
 refine f_o <| m_v 1 18 (zl (za (ze al))) En220 Hv212 rfl (zD (n := 1) (j := 17) rfl (zD (n := 8) (j := 9) (z3 (QR _ _)) (zD (n := 8) (j := 1) (zb (QS _ _)) rfl))) fun _ En222 => ?_
 refine d_k [0,2,3,4,5,6,47,56] [(5, g_i .u64 (Go.Dbr.u64_mul (x := za (ze al)) (y := (8 : UInt64)) rfl rfl)), (8, g_i .u64 (Go.Dbr.u64_shr (x := (za (ze al)) * (8 : UInt64)) (n := 16) rfl (by decide))), (9, g_i .u8 (Go.Dbr.u64_to_u8 (x := ((za (ze al)) * (8 : UInt64)) >>> za 16) rfl))] 10 En222 fun _ En224 => ?_
 refine f_o <| QT (d := some 57) (t := 26) (T := 5) (m := 1) (parts := #[(0, bv (zj (((za (ze al)) * (8 : UInt64)) >>> za 16)))]) (xs := bys [zj (((za (ze al)) * (8 : UInt64)) >>> za 16)]) (sz := 1) En224 (by kernel_rfl) (by kernel_rfl) rfl (by decide) Hv212 ?_
 intro _ _ bk225 En228 Hv229
 refine f_o <| ZN (d := some 58) (t := 26) (tx := 26) (ty := 26) (k := 0) (p := ze ((((((el ++ zc 8 0) ++ [zj (((za (ze al)) * (8 : UInt64)) >>> za 56)]) ++ [zj (((za (ze al)) * (8 : UInt64)) >>> za 48)]) ++ [zj (((za (ze al)) * (8 : UInt64)) >>> za 40)]) ++ [zj (((za (ze al)) * (8 : UInt64)) >>> za 32)]) ++ [zj (((za (ze al)) * (8 : UInt64)) >>> za 24)])) (m := 1) (x := .slice (some ⟨bk225, 0, none⟩) 1 1) (bytes := 1) En228 (by kernel_rfl) Hv229 rfl (Z8 _) (ZM (size := 1) (tx := 26) (e' := 5) (by kernel_rfl) (Hv229.heap.reads (k := 10) rfl) rfl (fun e => by cases e) (ZR _)) (by kernel_rfl) (z := .int .u8 0) (by kernel_rfl) rfl (by decide) (by omega) (by unfold maxLen; omega) ?_
 intro _ _ ao230 cp231 En236 Hv237 hnz _
 clear hnz
 rw [← ZH] at Hv237
 have ehz232 : (ze ((((((el ++ zc 8 0) ++ [zj (((za (ze al)) * (8 : UInt64)) >>> za 56)]) ++ [zj (((za (ze al)) * (8 : UInt64)) >>> za 48)]) ++ [zj (((za (ze al)) * (8 : UInt64)) >>> za 40)]) ++ [zj (((za (ze al)) * (8 : UInt64)) >>> za 32)]) ++ [zj (((za (ze al)) * (8 : UInt64)) >>> za 24)])) + 1 = ze (((((((el ++ zc 8 0) ++ [zj (((za (ze al)) * (8 : UInt64)) >>> za 56)]) ++ [zj (((za (ze al)) * (8 : UInt64)) >>> za 48)]) ++ [zj (((za (ze al)) * (8 : UInt64)) >>> za 40)]) ++ [zj (((za (ze al)) * (8 : UInt64)) >>> za 32)]) ++ [zj (((za (ze al)) * (8 : UInt64)) >>> za 24)]) ++ [zj (((za (ze al)) * (8 : UInt64)) >>> za 16)]) := (by first | (simp; done) | (simp; omega) | omega)
 rw [ehz232] at En236
 refine d_e [0,2,3,4,5,6] [] En236 fun _ En239 => ?_
 refine zv <| zg <| d_r [0,2,3,4,5,6] [] En239 fun _ En241 => ?_
 refine zg <| zF <| wp_seq <| wp_seq <| d_r [0,2,3,4,5,6,44] [] En241 fun _ En243 => ?_
 refine zg <| c_t En243 ?_
 refine wp_skip <| zg <| wp_seq <| wp_block <| zm <| d_k [0,2,3,4,5,6,47,50] [] 4 En243 fun _ En245 => ?_
 refine f_o <| m_v 1 18 (zl (za (ze al))) En245 Hv237 rfl (zD (n := 1) (j := 17) rfl (zD (n := 8) (j := 9) (z3 (QR _ _)) (zD (n := 8) (j := 1) (zb (QS _ _)) rfl))) fun _ En247 => ?_
 refine d_k [0,2,3,4,5,6,47,56] [(5, g_i .u64 (Go.Dbr.u64_mul (x := za (ze al)) (y := (8 : UInt64)) rfl rfl)), (8, g_i .u64 (Go.Dbr.u64_shr (x := (za (ze al)) * (8 : UInt64)) (n := 8) rfl (by decide))), (9, g_i .u8 (Go.Dbr.u64_to_u8 (x := ((za (ze al)) * (8 : UInt64)) >>> za 8) rfl))] 10 En247 fun _ En249 => ?_
 refine f_o <| QT (d := some 57) (t := 26) (T := 5) (m := 1) (parts := #[(0, bv (zj (((za (ze al)) * (8 : UInt64)) >>> za 8)))]) (xs := bys [zj (((za (ze al)) * (8 : UInt64)) >>> za 8)]) (sz := 1) En249 (by kernel_rfl) (by kernel_rfl) rfl (by decide) Hv237 ?_
 intro _ _ bk250 En253 Hv254
 refine f_o <| ZN (d := some 58) (t := 26) (tx := 26) (ty := 26) (k := 0) (p := ze (((((((el ++ zc 8 0) ++ [zj (((za (ze al)) * (8 : UInt64)) >>> za 56)]) ++ [zj (((za (ze al)) * (8 : UInt64)) >>> za 48)]) ++ [zj (((za (ze al)) * (8 : UInt64)) >>> za 40)]) ++ [zj (((za (ze al)) * (8 : UInt64)) >>> za 32)]) ++ [zj (((za (ze al)) * (8 : UInt64)) >>> za 24)]) ++ [zj (((za (ze al)) * (8 : UInt64)) >>> za 16)])) (m := 1) (x := .slice (some ⟨bk250, 0, none⟩) 1 1) (bytes := 1) En253 (by kernel_rfl) Hv254 rfl (Z8 _) (ZM (size := 1) (tx := 26) (e' := 5) (by kernel_rfl) (Hv254.heap.reads (k := 11) rfl) rfl (fun e => by cases e) (ZR _)) (by kernel_rfl) (z := .int .u8 0) (by kernel_rfl) rfl (by decide) (by omega) (by unfold maxLen; omega) ?_
 intro _ _ ao255 cp256 En261 Hv262 hnz _
 clear hnz
 rw [← ZH] at Hv262
 have ehz257 : (ze (((((((el ++ zc 8 0) ++ [zj (((za (ze al)) * (8 : UInt64)) >>> za 56)]) ++ [zj (((za (ze al)) * (8 : UInt64)) >>> za 48)]) ++ [zj (((za (ze al)) * (8 : UInt64)) >>> za 40)]) ++ [zj (((za (ze al)) * (8 : UInt64)) >>> za 32)]) ++ [zj (((za (ze al)) * (8 : UInt64)) >>> za 24)]) ++ [zj (((za (ze al)) * (8 : UInt64)) >>> za 16)])) + 1 = ze ((((((((el ++ zc 8 0) ++ [zj (((za (ze al)) * (8 : UInt64)) >>> za 56)]) ++ [zj (((za (ze al)) * (8 : UInt64)) >>> za 48)]) ++ [zj (((za (ze al)) * (8 : UInt64)) >>> za 40)]) ++ [zj (((za (ze al)) * (8 : UInt64)) >>> za 32)]) ++ [zj (((za (ze al)) * (8 : UInt64)) >>> za 24)]) ++ [zj (((za (ze al)) * (8 : UInt64)) >>> za 16)]) ++ [zj (((za (ze al)) * (8 : UInt64)) >>> za 8)]) := (by first | (simp; done) | (simp; omega) | omega)
 rw [ehz257] at En261
 refine d_e [0,2,3,4,5,6] [] En261 fun _ En264 => ?_
 refine zv <| zg <| d_r [0,2,3,4,5,6] [] En264 fun _ En266 => ?_
 refine zg <| zF <| wp_seq <| wp_seq <| d_r [0,2,3,4,5,6,44] [] En266 fun _ En268 => ?_
 refine zg <| c_t En268 ?_
 refine wp_skip <| zg <| wp_seq <| wp_block <| zm <| d_k [0,2,3,4,5,6,47,50] [] 4 En268 fun _ En270 => ?_
 refine f_o <| m_v 1 18 (zl (za (ze al))) En270 Hv262 rfl (zD (n := 1) (j := 17) rfl (zD (n := 8) (j := 9) (z3 (QR _ _)) (zD (n := 8) (j := 1) (zb (QS _ _)) rfl))) fun _ En272 => ?_
 refine d_k [0,2,3,4,5,6,47,56] [(5, g_i .u64 (Go.Dbr.u64_mul (x := za (ze al)) (y := (8 : UInt64)) rfl rfl)), (8, g_i .u64 (Go.Dbr.u64_shr (x := (za (ze al)) * (8 : UInt64)) (n := 0) rfl (by decide))), (9, g_i .u8 (Go.Dbr.u64_to_u8 (x := ((za (ze al)) * (8 : UInt64)) >>> za 0) rfl))] 10 En272 fun _ En274 => ?_
 refine f_o <| QT (d := some 57) (t := 26) (T := 5) (m := 1) (parts := #[(0, bv (zj (((za (ze al)) * (8 : UInt64)) >>> za 0)))]) (xs := bys [zj (((za (ze al)) * (8 : UInt64)) >>> za 0)]) (sz := 1) En274 (by kernel_rfl) (by kernel_rfl) rfl (by decide) Hv262 ?_
 intro _ _ bk275 En278 Hv279
 refine f_o <| ZN (d := some 58) (t := 26) (tx := 26) (ty := 26) (k := 0) (p := ze ((((((((el ++ zc 8 0) ++ [zj (((za (ze al)) * (8 : UInt64)) >>> za 56)]) ++ [zj (((za (ze al)) * (8 : UInt64)) >>> za 48)]) ++ [zj (((za (ze al)) * (8 : UInt64)) >>> za 40)]) ++ [zj (((za (ze al)) * (8 : UInt64)) >>> za 32)]) ++ [zj (((za (ze al)) * (8 : UInt64)) >>> za 24)]) ++ [zj (((za (ze al)) * (8 : UInt64)) >>> za 16)]) ++ [zj (((za (ze al)) * (8 : UInt64)) >>> za 8)])) (m := 1) (x := .slice (some ⟨bk275, 0, none⟩) 1 1) (bytes := 1) En278 (by kernel_rfl) Hv279 rfl (Z8 _) (ZM (size := 1) (tx := 26) (e' := 5) (by kernel_rfl) (Hv279.heap.reads (k := 12) rfl) rfl (fun e => by cases e) (ZR _)) (by kernel_rfl) (z := .int .u8 0) (by kernel_rfl) rfl (by decide) (by omega) (by unfold maxLen; omega) ?_
 intro _ _ ao280 cp281 En286 Hv287 hnz _
 clear hnz
 rw [← ZH] at Hv287
 have ehz282 : (ze ((((((((el ++ zc 8 0) ++ [zj (((za (ze al)) * (8 : UInt64)) >>> za 56)]) ++ [zj (((za (ze al)) * (8 : UInt64)) >>> za 48)]) ++ [zj (((za (ze al)) * (8 : UInt64)) >>> za 40)]) ++ [zj (((za (ze al)) * (8 : UInt64)) >>> za 32)]) ++ [zj (((za (ze al)) * (8 : UInt64)) >>> za 24)]) ++ [zj (((za (ze al)) * (8 : UInt64)) >>> za 16)]) ++ [zj (((za (ze al)) * (8 : UInt64)) >>> za 8)])) + 1 = ze (((((((((el ++ zc 8 0) ++ [zj (((za (ze al)) * (8 : UInt64)) >>> za 56)]) ++ [zj (((za (ze al)) * (8 : UInt64)) >>> za 48)]) ++ [zj (((za (ze al)) * (8 : UInt64)) >>> za 40)]) ++ [zj (((za (ze al)) * (8 : UInt64)) >>> za 32)]) ++ [zj (((za (ze al)) * (8 : UInt64)) >>> za 24)]) ++ [zj (((za (ze al)) * (8 : UInt64)) >>> za 16)]) ++ [zj (((za (ze al)) * (8 : UInt64)) >>> za 8)]) ++ [zj (((za (ze al)) * (8 : UInt64)) >>> za 0)]) := (by first | (simp; done) | (simp; omega) | omega)
 rw [ehz282] at En286
 refine d_e [0,2,3,4,5,6] [] En286 fun _ En289 => ?_
 refine zv <| zg <| d_r [0,2,3,4,5,6] [] En289 fun _ En291 => ?_
 refine zg <| zF <| wp_seq <| wp_seq <| d_r [0,2,3,4,5,6,44] [] En291 fun _ En293 => ?_
 refine zg <| c_f En293 ?_
 refine wp_exit <| zy <| zy <| zV <| zg <| wp_seq ?_
 have hpe : ((((((((el ++ zc 8 0) ++ [zj (((za (ze al)) * (8 : UInt64)) >>> za 56)]) ++ [zj (((za (ze al)) * (8 : UInt64)) >>> za 48)]) ++ [zj (((za (ze al)) * (8 : UInt64)) >>> za 40)]) ++ [zj (((za (ze al)) * (8 : UInt64)) >>> za 32)]) ++ [zj (((za (ze al)) * (8 : UInt64)) >>> za 24)]) ++ [zj (((za (ze al)) * (8 : UInt64)) >>> za 16)]) ++ [zj (((za (ze al)) * (8 : UInt64)) >>> za 8)]) ++ [zj (((za (ze al)) * (8 : UInt64)) >>> za 0)] = Q4 h al := by rw [heel, hjp]; simp [Q4, padB, be8, show ¬ h = 1 by omega]
 rw [hpe] at Hv287
 rw [hpe] at En293
 have hpl := padH_len h al
 have hrt := restH_lt h al
 refine zm <| d_k [0,2,3,4,5,6,59,60] [] 2 En293 fun _ En295 => ?_
 refine f_o <| c_l [3,4] (M := [.box bq5 (([.int .i64 h] : List Value) ++ ((Za (S32 h al)) ++ ((zh (S64 h al)) ++ ([.slice aoq5 (ze (zN h al)) coq5, zl (za (ze al))] : List Value)))) 106, .vec aoq5 coq5 1 (bys (zN h al)) 5]) En295 Hv287 (fun hM297 => write_go _ bq5 h hh2 al aoq5 coq5 ao280 (ze (Q4 h al)) cp281 (Q4 h al) (by first | rfl | (simp; done) | (simp; omega) | omega) (bys_in Hv287.heap (k := 0) rfl [3, 4] (by kernel_rfl) rfl (by first | omega | (simp; done) | (simp; omega))) (by first | omega | (simp only [Zj, JS]; omega)) ((gk32.ev Hv287).pick [3, 4] (by kernel_rfl)) ((gk64.ev Hv287).pick [3, 4] (by kernel_rfl)) hM297) ?_
 rintro _ _ ⟨aoq296, coq296, rfl, he299⟩
 refine ⟨_, _, [.box bq5 (([.int .i64 h] : List Value) ++ ((Za (S32 h (al ++ (Q4 h al)))) ++ ((zh (S64 h (al ++ (Q4 h al)))) ++ ([.slice aoq296 (ze (zN h (al ++ (Q4 h al)))) coq296, zl (za (ze (al ++ (Q4 h al))))] : List Value)))) 106, .vec aoq296 coq296 1 (bys (zN h (al ++ (Q4 h al)))) 5, .vec ao280 cp281 1 (bys (Q4 h al)) 5, .box bd (([.int .i64 h] : List Value) ++ ((Za (S32 h al)) ++ ((zh (S64 h al)) ++ ([.slice ar (ze (zN h al)) cr, zl (za (ze al))] : List Value)))) 106, .vec ar cr 1 (bys (zN h al)) 5, .vec (some ⟨bk100, 0, none⟩) 1 1 (bys [zj (((za (ze al)) * (8 : UInt64)) >>> za 56)]) 5, .vec (some ⟨bk125, 0, none⟩) 1 1 (bys [zj (((za (ze al)) * (8 : UInt64)) >>> za 48)]) 5, .vec (some ⟨bk150, 0, none⟩) 1 1 (bys [zj (((za (ze al)) * (8 : UInt64)) >>> za 40)]) 5, .vec (some ⟨bk175, 0, none⟩) 1 1 (bys [zj (((za (ze al)) * (8 : UInt64)) >>> za 32)]) 5, .vec (some ⟨bk200, 0, none⟩) 1 1 (bys [zj (((za (ze al)) * (8 : UInt64)) >>> za 24)]) 5, .vec (some ⟨bk225, 0, none⟩) 1 1 (bys [zj (((za (ze al)) * (8 : UInt64)) >>> za 16)]) 5, .vec (some ⟨bk250, 0, none⟩) 1 1 (bys [zj (((za (ze al)) * (8 : UInt64)) >>> za 8)]) 5, .vec (some ⟨bk275, 0, none⟩) 1 1 (bys [zj (((za (ze al)) * (8 : UInt64)) >>> za 0)]) 5], rfl, he299, by kernel_rfl, fun _ En302 Hv303 => ?_⟩
 refine f_e <| zg <| wp_seq <| d_r [0,2,3,4,5,6,7] [] En302 fun _ En305 => ?_
 refine zg <| wp_seq <| wp_seq <| d_r [0,2,3,4,5,6,7,62] [] En305 fun _ En307 => ?_
 refine zg <| wp_block ?_
 have Hv308 := Ev.nil (sz := 1) (T := 5) Hv303
 refine loop_m (fun ms309 ac wo => ∃ (i : Nat) (a7 : Option Addr) (c7 : Nat) (ol : List UInt8), ms309 = (8 - i : Nat) ∧ Env ac 95 [(0, pt bd), (2, .slice none 0 0), (3, pt bq5), (4, .int .i64 128), (5, .slice ao280 (ze (Q4 h al)) cp281), (6, .int .i64 (-1)), (7, .slice a7 (ze ol) c7), (62, ni i)] ∧ Ev w [.box bd (([.int .i64 h] : List Value) ++ ((Za (S32 h al)) ++ ((zh (S64 h al)) ++ ([.slice ar (ze (zN h al)) cr, zl (za (ze al))] : List Value)))) 106, .vec ar cr 1 (bys (zN h al)) 5] wo [.vec a7 c7 1 (bys ol) 5, .box bq5 (([.int .i64 h] : List Value) ++ ((Za (S32 h (al ++ (Q4 h al)))) ++ ((zh (S64 h (al ++ (Q4 h al)))) ++ ([.slice aoq296 (ze (zN h (al ++ (Q4 h al)))) coq296, zl (za (ze (al ++ (Q4 h al))))] : List Value)))) 106, .vec aoq296 coq296 1 (bys (zN h (al ++ (Q4 h al)))) 5, .vec ao280 cp281 1 (bys (Q4 h al)) 5, .box bd (([.int .i64 h] : List Value) ++ ((Za (S32 h al)) ++ ((zh (S64 h al)) ++ ([.slice ar (ze (zN h al)) cr, zl (za (ze al))] : List Value)))) 106, .vec ar cr 1 (bys (zN h al)) 5] ∧ (i ≤ 8) ∧ (ol = out64 (S64 h (al ++ Q4 h al)) i)) ⟨_, 0, none, 0, [], rfl, En307.sb, Hv308.pk [13, 0, 1, 2, 3, 4], by omega, rfl⟩ ?_
 rintro mm315 _ _ ⟨i, a7, c7, ol, rfl, En313, Hv314, hi, heo⟩
 refine wp_seq <| d_r [0,2,3,4,5,6,7,62,63] [] En313 fun _ En317 => ?_
 refine zg <| wp_seq <| c_d (((i : Nat) : Int) < (8 : Int)) En317 (fun hc318 => ?_) (fun hc318 => ?_)
 ·
  refine wp_skip <| zg <| wp_seq <| wp_block <| wp_seq <| d_r [0,2,3,4,5,6,7,8,62] [] En317 fun _ En320 => ?_
  refine zg <| wp_seq ?_
  have hol : ze ol = 8 * i := by rw [heo, JG]
  refine zm <| d_k [0,2,3,4,5,6,7,8,62,67] [] 3 En320 fun _ En322 => ?_
  refine f_o <| m_v 4 0 (.int .i64 h) En322 Hv314 rfl (Yi rfl) fun _ En324 => ?_
  refine d_e [0,2,3,4,5,6,7,8,62,69] [(4, g_b (show (h == (1 : Int)) = false from beq_eq_false_iff_ne.2 (by omega)))] En324 fun _ En326 => ?_
  refine zg <| c_f En326 ?_
  have hol : ze ol = 8 * i := by rw [heo, JG]
  refine zm <| d_k [0,2,3,4,5,6,7,8,62,79,81,83] [] 5 En326 fun _ En328 => ?_
  refine f_o <| q_v (x := Instr.indexAt 91 (.pointer (some ⟨bq5, 9, none⟩)) (ni i)) (v := .pointer (some ⟨bq5, 9 + i, none⟩)) En328 (Go.Dbr.run_indexarr (e := 32) (sz := 1) (m := 8) (j := i) (o := 9 + i) (by kernel_rfl) (by kernel_rfl) (by omega) (by omega) (by omega) _) fun _ En330 => ?_
  refine f_o ?_
  have hb331 : i < ze (S64 h (al ++ (Q4 h al))) := by rw [(QS _ _)]; omega
  refine m_v 1 (9 + i) (zl (zf (S64 h (al ++ (Q4 h al))) i 0)) En330 Hv314 rfl (seg_eq (by omega) (zD (n := 1) (j := 8 + (i)) rfl (zD (n := 8) (j := i) (z3 (QR _ _)) (Yi (u64s_getD hb331))))) fun _ En333 => ?_
  refine f_o <| c_l [0] (M := [.vec a7 c7 1 (bys ol) 5]) En333 Hv314 (fun hM335 => spread8_go _ a7 c7 ol (zf (S64 h (al ++ (Q4 h al))) i 0) (by omega) hM335) ?_
  rintro _ _ ⟨aoq334, coq334, rfl, he337⟩
  refine ⟨_, _, [.vec aoq334 coq334 1 (bys (ol ++ be8 (zf (S64 h (al ++ (Q4 h al))) i 0))) 5, .box bq5 (([.int .i64 h] : List Value) ++ ((Za (S32 h (al ++ (Q4 h al)))) ++ ((zh (S64 h (al ++ (Q4 h al)))) ++ ([.slice aoq296 (ze (zN h (al ++ (Q4 h al)))) coq296, zl (za (ze (al ++ (Q4 h al))))] : List Value)))) 106, .vec aoq296 coq296 1 (bys (zN h (al ++ (Q4 h al)))) 5, .vec ao280 cp281 1 (bys (Q4 h al)) 5, .box bd (([.int .i64 h] : List Value) ++ ((Za (S32 h al)) ++ ((zh (S64 h al)) ++ ([.slice ar (ze (zN h al)) cr, zl (za (ze al))] : List Value)))) 106, .vec ar cr 1 (bys (zN h al)) 5], rfl, he337, by kernel_rfl, fun _ En340 Hv341 => ?_⟩
  refine d_e [0,2,3,4,5,6,7,8,62] [] En340 fun _ En343 => ?_
  refine zv <| zg <| d_r [0,2,3,4,5,6,7,8,62] [(0, g_n (w_a i 1))] En343 fun _ En345 => ?_
  refine zg <| ⟨_, ⟨i + 1, aoq334, coq334, (ol ++ be8 (zf (S64 h (al ++ (Q4 h al))) i 0)), rfl, En345.sb, Hv341.pk [0, 1, 2, 3, 4, 5], by omega, by rw [heo]; rfl⟩, ?_⟩
  omega
 refine wp_exit <| zy <| zy <| zV <| zg <| wp_seq ?_
 have hol : ze ol = 8 * i := by rw [heo, JG]
 have hi8 : i = 8 := by omega
 have hsz := size_le h
 have hsz1 : Qp 1 = 32 := rfl
 refine zm <| d_k [0,2,3,4,5,6,7,62,88,91] [] 4 En317 fun _ En347 => ?_
 refine f_o <| m_v 4 0 (.int .i64 h) En347 Hv314 rfl (Yi rfl) fun _ En349 => ?_
 refine f_o <| c_p En349 Hv314 (size_go _ h) fun _ wo351 En355 Hv356 => ?_
 refine f_o ?_
 have hcap357 := Yc Hv356.heap (k := 0) rfl
 refine op_slice0 (d := some 94) (t := 26) (e := 5) (sz := 1) (len := ze ol) (cap := c7) (hi := Qp h) (ao := a7) (lov := none) (hiv := (some (ni (Qp h)))) En355 (by kernel_rfl) (by kernel_rfl) (by kernel_rfl) (by omega) (.inl ⟨rfl, rfl⟩) (.inr ⟨.i64, rfl⟩) ?_
 intro _ En359
 have Hv360 : Ev w [.box bd (([.int .i64 h] : List Value) ++ ((Za (S32 h al)) ++ ((zh (S64 h al)) ++ ([.slice ar (ze (zN h al)) cr, zl (za (ze al))] : List Value)))) 106, .vec ar cr 1 (bys (zN h al)) 5] wo351 [.vec a7 c7 1 (bys (zr (Qp h) ol)) 5, .box bq5 (([.int .i64 h] : List Value) ++ ((Za (S32 h (al ++ (Q4 h al)))) ++ ((zh (S64 h (al ++ (Q4 h al)))) ++ ([.slice aoq296 (ze (zN h (al ++ (Q4 h al)))) coq296, zl (za (ze (al ++ (Q4 h al))))] : List Value)))) 106, .vec aoq296 coq296 1 (bys (zN h (al ++ (Q4 h al)))) 5, .vec ao280 cp281 1 (bys (Q4 h al)) 5, .box bd (([.int .i64 h] : List Value) ++ ((Za (S32 h al)) ++ ((zh (S64 h al)) ++ ([.slice ar (ze (zN h al)) cr, zl (za (ze al))] : List Value)))) 106, .vec ar cr 1 (bys (zN h al)) 5] := by
  have h := Ev.cut (k := 0) (n := ze ol) (sz := 1) Hv356 rfl (Z8 _) (by omega) 0 (Qp h) (by omega) (by omega)
  rw [cutAt_zero] at h
  rw [bys_cut0] at h
  exact h
 have el361 : Qp h = ze (zr (Qp h) ol) := by first | (simp; done) | (rw [zI]; omega) | (rw [zS]; omega) | (simp; omega)
 rw [el361] at En359
 refine d_e [0,2,3,4,5,6,7,62] [] En359 fun _ En363 => ?_
 refine zg <| wp_ret <| ZW (t := 2) (v := .slice a7 (ze (zr (Qp h) ol)) c7) En363 (by kernel_rfl) (by kernel_rfl) ?_
 have hse : zr (Qp h) ol = Xq h al := by rw [heo, hi8]; unfold Xq; rw [if_neg (by omega)]
 have Hf364 := Hv360.pk [4, 5, 0] (M := [.box bd (([.int .i64 h] : List Value) ++ ((Za (S32 h al)) ++ ((zh (S64 h al)) ++ ([.slice ar (ze (zN h al)) cr, zl (za (ze al))] : List Value)))) 106, .vec ar cr 1 (bys (zN h al)) 5, .vec a7 c7 1 (bys (zr (Qp h) ol)) 5])
 rw [hse] at Hf364
 exact ⟨_, _, by rw [hse], Hf364⟩

end Go.Proofs.YtlnogkmnklfjlaaDoor.Sh

/- Layer 5: the sum of parts. -/

namespace Go.Proofs.YtlnogkmnklfjlaaDoor.Sh
open Go.Dbr
set_option maxRecDepth 100000
set_option maxHeartbeats 2000000
set_option linter.unusedVariables false
set_option linter.unusedSimpArgs false

theorem sum_go (w : World) (bd : Nat) (h : Int) (hh : h = 2 ∨ h = 3) (al : List UInt8) (ar : Option Addr) (cr : Nat) (gk32 : InU32 w [.box bd (([.int .i64 h] : List Value) ++ ((Za (S32 h al)) ++ ((zh (S64 h al)) ++ ([.slice ar (ze (zN h al)) cr, zl (za (ze al))] : List Value)))) 106, .vec ar cr 1 (bys (zN h al)) 5] (some ⟨0, 0, none⟩) 64 K32) (gk64 : InU64 w [.box bd (([.int .i64 h] : List Value) ++ ((Za (S32 h al)) ++ ((zh (S64 h al)) ++ ([.slice ar (ze (zN h al)) cr, zl (za (ze al))] : List Value)))) 106, .vec ar cr 1 (bys (zN h al)) 5] (some ⟨1, 0, none⟩) 80 K64) (hH : Heap w [.box bd (([.int .i64 h] : List Value) ++ ((Za (S32 h al)) ++ ((zh (S64 h al)) ++ ([.slice ar (ze (zN h al)) cr, zl (za (ze al))] : List Value)))) 106, .vec ar cr 1 (bys (zN h al)) 5]) : Calls Tryd.prog 71 #[pt bd] w fun e w' => ∃ ao co, e = .returned (.slice ao (ze (Xq h al)) co) ∧ Ev w [.box bd (([.int .i64 h] : List Value) ++ ((Za (S32 h al)) ++ ((zh (S64 h al)) ++ ([.slice ar (ze (zN h al)) cr, zl (za (ze al))] : List Value)))) 106, .vec ar cr 1 (bys (zN h al)) 5] w' [.box bd (([.int .i64 h] : List Value) ++ ((Za (S32 h al)) ++ ((zh (S64 h al)) ++ ([.slice ar (ze (zN h al)) cr, zl (za (ze al))] : List Value)))) 106, .vec ar cr 1 (bys (zN h al)) 5, .vec ao co 1 (bys (Xq h al)) 5] := by
  exact sum64_go w bd h hh al ar cr gk32 gk64 hH

theorem flat_take_succ {l : List (Sl UInt8)} {k : Nat} {x : Sl UInt8} (h : l[k]? = some x) : (l.take (k + 1)).flatMap (fun s => s.l) = (l.take k).flatMap (fun s => s.l) ++ x.l := by
  rw [List.take_add_one, h, List.flatMap_append]
  simp

theorem of_go (w : World) (h : Int) (hh : h = 2 ∨ h = 3) (ax : Option Addr) (nx cx : Nat) (lx : List (Sl UInt8)) (ex : nx = ze lx) (ix : InS (fun s : Sl UInt8 => s.f) 24 (fun x : Sl UInt8 => InB w [] x.a x.c x.l) w [] ax cx lx) (hT : ∀ (k : Nat) (x : Sl UInt8), lx[k]? = some x → ze (zN h (QO (fun s : Sl UInt8 => s.l) (zr k lx))) + ze x.l ≤ 140737488355200) (gk32 : InU32 w [] (some ⟨0, 0, none⟩) 64 K32) (gk64 : InU64 w [] (some ⟨1, 0, none⟩) 80 K64) : Calls Tryd.prog 46 #[.int .i64 h, .slice ax nx cx] w fun e w' => ∃ ao co, e = .returned (.slice ao (ze (Xq h (QO (fun s : Sl UInt8 => s.l) lx))) co) ∧ Ev w [] w' [.vec ao co 1 (bys (Xq h (QO (fun s : Sl UInt8 => s.l) lx))) 5] := by
 subst ex
 have hs := ix.small
 have hc2 := ix.cap
 refine d_0 [(0, .int .i64 h), (1, .slice ax (ze lx) cx)] 24 Go.Proofs.Tryd.func46 Go.Proofs.Tryd.ntmps46 (Heap.nil _) fun act0 En0 Hv0 => ?_
 refine wp_seq <| d_r [0,1,4] [] En0 fun _ En2 => ?_
 refine zg <| wp_seq <| zm <| d_k [1,4,8] [] 1 En2 fun _ En4 => ?_
 refine f_o <| c_0 En4 Hv0 (new_dig _ h hh) ?_
 rintro _ _ ⟨bq5, rfl, he8⟩
 refine ⟨_, _, _, rfl, he8, rfl, fun _ En11 Hv12 => ?_⟩
 refine d_e [1,4,5] [] En11 fun _ En14 => ?_
 refine zg <| wp_seq <| wp_seq <| d_r [1,4,5,11] [] En14 fun _ En16 => ?_
 refine zg <| c_f En16 ?_
 refine wp_skip <| zg <| wp_seq <| wp_seq <| d_r [4,5,12,13,14] [] En16 fun _ En18 => ?_
 refine zg <| wp_block <| loop_m (fun ms19 ac wo => ∃ (k : Nat) (al : List UInt8) (ar : Option Addr) (cr : Nat), ms19 = (ze lx - k : Nat) ∧ Env ac 24 [(4, .slice none 0 0), (5, pt bq5), (12, .slice ax (ze lx) cx), (13, ni (ze lx)), (14, ni k)] ∧ Ev w [] wo [.box bq5 (([.int .i64 h] : List Value) ++ ((Za (S32 h al)) ++ ((zh (S64 h al)) ++ ([.slice ar (ze (zN h al)) cr, zl (za (ze al))] : List Value)))) 106, .vec ar cr 1 (bys (zN h al)) 5] ∧ (k ≤ ze lx) ∧ (al = (QO (fun s : Sl UInt8 => s.l) (zr k lx)))) ⟨_, 0, [], none, 0, rfl, En18.sb, Hv12.pk [0, 1], by omega, by rfl⟩ ?_
 rintro mm25 _ _ ⟨k, al, ar, cr, rfl, En23, Hv24, hk, hal⟩
 refine wp_seq <| d_r [4,5,12,13,14,15] [] En23 fun _ En27 => ?_
 refine zg <| wp_seq <| c_d (((k : Nat) : Int) < ((ze lx : Nat) : Int)) En27 (fun hc28 => ?_) (fun hc28 => ?_)
 ·
  refine wp_skip <| zg <| wp_seq <| wp_block <| wp_seq ?_
  have hb31 : k < ze lx := (by omega)
  obtain ⟨adr29, had30⟩ := some_of ix.nz hb31
  have hb32 : k < ze lx := by omega
  obtain ⟨⟨a_x34, c_x34, x34⟩, hx33⟩ : ∃ x, (lx)[k]? = some x := ⟨_, zL hb32⟩
  obtain i_x34 := ix.each _ (QI hx33)
  replace i_x34 : InB w [] a_x34 c_x34 x34 := i_x34
  refine zm <| f_o <| q_v (x := Instr.indexAt 71 (.slice ax (ze lx) cx) (ni k)) (v := .pointer (some (Addr.add adr29 k))) En27 (Go.Dbr.run_indexsl (e := 26) (sz := 1) (j := k) (jo := k) had30 (by kernel_rfl) (by kernel_rfl) (by omega) hb31 (Zu _) _) fun _ En36 => ?_
  refine f_o <| op_loadf (d := some 17) (t := 26) (ad := adr29) (ao := ax) (ys := QO (fun s : Sl UInt8 => s.f) lx) (o := k) (v := .slice a_x34 (ze x34) c_x34) En36 (by kernel_rfl) rfl (ix.ro.ev Hv24).reads had30 ((flat_get1 (fun _ _ => rfl) hx33).trans rfl) (by kernel_rfl) ?_
  intro _ En38
  refine d_e [4,5,7,12,13,14] [] En38 fun _ En40 => ?_
  refine zg ?_
  have hTk := hT k _ hx33
  rw [← hal] at hTk
  simp only at hTk
  refine zm <| d_k [4,5,12,13,14,18,19] [] 2 En40 fun _ En42 => ?_
  refine f_o <| c_l [0,1] (M := [.box bq5 (([.int .i64 h] : List Value) ++ ((Za (S32 h al)) ++ ((zh (S64 h al)) ++ ([.slice ar (ze (zN h al)) cr, zl (za (ze al))] : List Value)))) 106, .vec ar cr 1 (bys (zN h al)) 5]) En42 Hv24 (fun hM44 => write_go _ bq5 h hh al ar cr a_x34 (ze x34) c_x34 x34 (by first | rfl | (simp; done) | (simp; omega) | omega) ((i_x34.ev Hv24).pick [0, 1] (by kernel_rfl)) (by first | omega | (simp only [Zj, JS]; omega)) ((gk32.ev Hv24).pick [0, 1] (by kernel_rfl)) ((gk64.ev Hv24).pick [0, 1] (by kernel_rfl)) hM44) ?_
  rintro _ _ ⟨aoq43, coq43, rfl, he46⟩
  refine ⟨_, _, [.box bq5 (([.int .i64 h] : List Value) ++ ((Za (S32 h (al ++ x34))) ++ ((zh (S64 h (al ++ x34))) ++ ([.slice aoq43 (ze (zN h (al ++ x34))) coq43, zl (za (ze (al ++ x34)))] : List Value)))) 106, .vec aoq43 coq43 1 (bys (zN h (al ++ x34))) 5], rfl, he46, by kernel_rfl, fun _ En49 Hv50 => ?_⟩
  refine f_e <| zv <| zg <| d_r [4,5,12,13,14] [(0, g_n (w_a k 1))] En49 fun _ En52 => ?_
  refine zg <| ⟨_, ⟨k + 1, al ++ x34, aoq43, coq43, rfl, En52.sb, Hv50.pk [0, 1], by omega, by rw [flat_take_succ hx33, hal]⟩, ?_⟩
  omega
 refine wp_exit <| zy <| zy <| zV <| zg <| wp_seq <| zm <| d_k [4,5,12,13,14,22] [] 1 En27 fun _ En54 => ?_
 refine f_o <| c_l [0,1] (M := [.box bq5 (([.int .i64 h] : List Value) ++ ((Za (S32 h al)) ++ ((zh (S64 h al)) ++ ([.slice ar (ze (zN h al)) cr, zl (za (ze al))] : List Value)))) 106, .vec ar cr 1 (bys (zN h al)) 5]) En54 Hv24 (fun hM56 => sum_go _ bq5 h hh al ar cr ((gk32.ev Hv24).pick [0, 1] (by kernel_rfl)) ((gk64.ev Hv24).pick [0, 1] (by kernel_rfl)) hM56) ?_
 rintro _ _ ⟨aoq55, coq55, rfl, he58⟩
 refine ⟨_, _, [.box bq5 (([.int .i64 h] : List Value) ++ ((Za (S32 h al)) ++ ((zh (S64 h al)) ++ ([.slice ar (ze (zN h al)) cr, zl (za (ze al))] : List Value)))) 106, .vec ar cr 1 (bys (zN h al)) 5, .vec aoq55 coq55 1 (bys (Xq h al)) 5], rfl, he58, by kernel_rfl, fun _ En61 Hv62 => ?_⟩
 refine d_e [4,5,12,13,14] [] En61 fun _ En64 => ?_
 refine zg <| wp_ret <| ZW (t := 4) (v := .slice aoq55 (ze (Xq h al)) coq55) En64 (by kernel_rfl) (by kernel_rfl) ?_
 have hkk : k = ze lx := by omega
 have hae : al = (QO (fun s : Sl UInt8 => s.l) lx) := by rw [hal, hkk, List.take_length]
 have Hf65 := Hv62.pk [2] (M := [.vec aoq55 coq55 1 (bys (Xq h al)) 5])
 subst hae
 exact ⟨_, _, rfl, Hf65⟩

end Go.Proofs.YtlnogkmnklfjlaaDoor.Sh

/- Layer 4: bytes, the highest first; wide numbers. -/


namespace Go.Proofs.YtlnogkmnklfjlaaDoor
open Go.Dbr
set_option maxRecDepth 100000
set_option maxHeartbeats 2000000
set_option linter.unusedVariables false
set_option linter.unusedSimpArgs false

end Go.Proofs.YtlnogkmnklfjlaaDoor

/- A slice's bytes as an array: over any program. -/

namespace Go.Dbr
open Go Go.RowKit
section
variable {P : Program}
theorem run_toarr2 {t e : TypeId} {m : Nat} {ao : Option Addr} {ad : Addr} {p c : Nat} (hu : P.underlying t = some (.array m e)) (ha : ao = some ad) (h : m ≤ p) (w : World) : (Instr.arrayAt t (.slice ao p c)).run P w = .ok (.pointer (some ad)) w := by
  subst ha
  exact run_toarr hu h w
theorem add0 (ad : Addr) : ad = ad.add 0 := by
  unfold Addr.add
  rw [if_pos rfl]
theorem bys_pre {l : List UInt8} {m : Nat} : ∀ j, j < m → (bys l)[0 + j]? = (bys (zr m l))[j]? := fun j hj => by
  rw [bys_take, List.getElem?_take, if_pos hj, Qo]
theorem bys_prel {l : List UInt8} {m : Nat} (h : m ≤ l.length) : (bys (zr m l)).length = m := by
  rw [bys_length, zI]
  omega
variable {w : World}
end
end Go.Dbr

/- What is appended to an array that stands in a box, and is full: it goes to a place of its own. -/

namespace Go.Dbr
open Go Go.RowKit
section
variable {P : Program} {ops : Array Oper} {Q : Exit → Act → World → Prop} {n i : Nat} {l : List (Nat × Value)} {a : Act} {w w0 : World} {L L0 : List Ent} {d : Option Tmp} {K : Act → World → Prop}
end
end Go.Dbr

/- Layer 12: a seed, sums. -/





namespace Go.Proofs.YtlnogkmnklfjlaaDoor
open Go.Dbr
set_option maxRecDepth 100000
set_option maxHeartbeats 2000000
set_option linter.unusedVariables false
set_option linter.unusedSimpArgs false

theorem h3s : (3 : Int) = 1 ∨ (3 : Int) = 2 ∨ (3 : Int) = 3 := .inr (.inr rfl)
theorem parts_ok {h : Int} {lx : List (Sl UInt8)} (hb : ∀ x ∈ lx, x.l.length ≤ 140737488353280) : ∀ (k : Nat) (x : Sl UInt8), lx[k]? = some x → ze (Sh.restH h (QO (fun s : Sl UInt8 => s.l) (zr k lx))) + ze x.l ≤ 140737488355200 := fun k x hx => by
  have h1 := Sh.restH_lt h (QO (fun s : Sl UInt8 => s.l) (zr k lx))
  have h2 := hb x (QI hx)
  omega
/-- a seed's number, and what stands ahead of texts -/
def clE (k : List UInt8) : List UInt8 := zp (zp k 0 (zf k 0 0 &&& 248)) 31 (zf (zp k 0 (zf k 0 0 &&& 248)) 31 0 &&& 63 ||| 64)
theorem clE_len {k : List UInt8} (h : k.length = 32) : (clE k).length = 32 := by rw [clE, Q6, Q6, h]
theorem s3_len (b : List UInt8) : (Sh.sumF 3 b).length = 64 := (Sh.sumF_len h3s b).trans rfl
theorem s3_take (b : List UInt8) : (zr 32 (Sh.sumF 3 b)).length = 32 := by rw [zI, s3_len]; rfl
def sE (sd : List UInt8) : Nat := lv (clE (zr 32 (Sh.sumF 3 sd)))
theorem sE_lt (sd : List UInt8) : sE sd < W256 := by
  have := lv_lt (clE (zr 32 (Sh.sumF 3 sd)))
  rw [clE_len (s3_take sd)] at this
  exact this
def ahE (sd : List UInt8) : List UInt8 := List.drop 32 (Sh.sumF 3 sd)
theorem sha_go (w : World) (ax : Option Addr) (nx cx : Nat) (lx : List (Sl UInt8)) (ex : nx = ze lx) (ix : InS (fun s : Sl UInt8 => s.f) 24 (fun x : Sl UInt8 => InB w [] x.a x.c x.l) w [] ax cx lx) (hT : ∀ x ∈ lx, ze x.l ≤ 140737488353280) {b : List UInt8} (hb : (QO (fun s : Sl UInt8 => s.l) lx) = b) (gk32 : InU32 w [] (some ⟨0, 0, none⟩) 64 Sh.K32) (gk64 : InU64 w [] (some ⟨1, 0, none⟩) 80 Sh.K64) : Calls Tryd.prog 46 #[.int .i64 3, .slice ax nx cx] w fun e w' => ∃ ao co, e = .returned (.slice ao (ze (Sh.sumF 3 b)) co) ∧ Ev w [] w' [.vec ao co 1 (bys (Sh.sumF 3 b)) 5] := by
  subst hb
  exact Sh.of_go w 3 (.inr rfl) ax nx cx lx ex ix (parts_ok hT) gk32 gk64

theorem secret_go (w : World) (sd : List UInt8) (hsd : ze sd = 32) (gk32 : InU32 w [] (some ⟨0, 0, none⟩) 64 Sh.K32) (gk64 : InU64 w [] (some ⟨1, 0, none⟩) 80 Sh.K64) : Calls Tryd.prog 26 #[.agg (zi (bys sd))] w fun e w' => ∃ ao co, e = .returned (.tuple #[.agg (zi (zh (nd (sE sd)))), .slice ao (ze (ahE sd)) co]) ∧ Ev w [] w' [.vec ao co 1 (bys (ahE sd)) 5] := by
 refine d_0 [(0, .agg (zi (bys sd)))] 26 Go.Proofs.Tryd.func26 Go.Proofs.Tryd.ntmps26 (Heap.nil _) fun act0 En0 Hv0 => ?_
 refine wp_seq <| zm <| f_o <| m_m 22 (bys sd) En0 Hv0 fun _ _ bk1 En4 Hv5 => ?_
 refine f_o <| m_z 34 (zh (zc 4 0)) En4 Hv5 fun _ _ bk6 En9 Hv10 => ?_
 refine d_e [1,2,3] [] En9 fun _ En12 => ?_
 refine zg <| wp_seq <| zm <| f_o <| op_slicearr (d := some 6) (t := 22) (e := 5) (sz := 1) (m := 32) (lo := 0) (hi := 32) (b := bk1) (off := 0) (lov := none) (hiv := none) (o := 0) En12 (by kernel_rfl) (by kernel_rfl) (by kernel_rfl) (by omega) (by omega) (by omega) (.inl ⟨rfl, rfl⟩) (.inl ⟨rfl, rfl⟩) (by omega) ?_
 intro _ En14
 refine f_o <| QT (d := some 7) (t := 71) (T := 26) (m := 1) (parts := #[(0, .slice (some ⟨bk1, 0, none⟩) 32 32)]) (xs := [.slice (some ⟨bk1, 0, none⟩) 32 32]) (sz := 1) En14 (by kernel_rfl) (by kernel_rfl) rfl (by decide) Hv10 ?_
 intro _ _ bk15 En18 Hv19
 refine f_o ?_
 rw [show (.slice (some ⟨bk1, 0, none⟩) 32 32 : Value) = .slice (some ⟨bk1, 0, none⟩) (ze sd) 32 from by rw [show ze sd = 32 from by first | omega | (simp only [JP, ahE_len, s3_len, zI, zS, Yk, hsd]; omega) | (simp only [JP, ahE_len, s3_len, zI, zS, Yk, hsd])]] at Hv19
 refine c_0 En18 Hv19 (sha_go _ (some ⟨bk15, 0, none⟩) 1 1 ([⟨some ⟨bk1, 0, none⟩, 32, sd⟩] : List (Sl UInt8)) (by first | rfl | (simp; done) | (simp; omega) | omega) ⟨Hv19.heap.ro (k := 2) rfl [] (by kernel_rfl) rfl, (fun e => by cases e), (by simp), (by simp), (J7.2 ⟨(bys_inbox (Hv19.heap.roBox (k := 0) (m := 32) rfl (zn (zU hsd)) [] (by kernel_rfl) rfl) hsd (by first | decide | (dsimp only; decide))), (fun x h => absurd h Yg)⟩)⟩ (J7.2 ⟨(show ze sd ≤ 140737488353280 from (by first | omega | (simp only [JP, ahE_len, s3_len, zI, zS, Yk, hsd]; omega) | (simp only [JP, ahE_len, s3_len, zI, zS, Yk, hsd]; decide))), (fun x h => absurd h Yg)⟩) (b := sd) (by simp only [List.flatMap_cons, List.flatMap_nil, List.append_nil]) ((gk32.ev Hv19).pick [] (by kernel_rfl)) ((gk64.ev Hv19).pick [] (by kernel_rfl))) ?_
 rintro _ _ ⟨aoq20, coq20, rfl, he23⟩
 refine ⟨_, _, _, rfl, he23, rfl, fun _ En26 Hv27 => ?_⟩
 refine d_e [2,3,4] [] En26 fun _ En29 => ?_
 refine zg <| wp_seq ?_
 have hs3 := s3_len sd
 have hst := s3_take sd
 refine zm <| d_k [2,3,4,9] [] 1 En29 fun _ En31 => ?_
 refine f_o ?_
 have hcap32 := Yc Hv27.heap (k := 0) rfl
 refine op_slice0 (d := some 10) (t := 26) (e := 5) (sz := 1) (len := ze (Sh.sumF 3 sd)) (cap := coq20) (hi := 32) (ao := aoq20) (lov := none) (hiv := (some (.int .i64 32))) En31 (by kernel_rfl) (by kernel_rfl) (by kernel_rfl) (by omega) (.inl ⟨rfl, rfl⟩) (.inr ⟨.i64, rfl⟩) ?_
 intro _ En34
 have hb37 : 0 < 32 := by omega
 obtain ⟨adr35, had36⟩ := some_of (fun e => by have := (bys_vnz Hv27.heap (k := 0) rfl) e; omega) hb37
 refine f_o <| q_v (x := Instr.arrayAt 22 (.slice aoq20 32 coq20)) (v := .pointer (some adr35)) En34 (Go.Dbr.run_toarr2 (e := 5) (m := 32) (by kernel_rfl) had36 (by omega) _) fun _ En39 => ?_
 refine f_o ?_
 have hb40 : 32 ≤ ze (zr 32 (Sh.sumF 3 sd)) := by first | omega | (simp; done) | (simp; omega)
 refine op_loadaggat (d := some 12) (t := 22) (ad := adr35) (ao := aoq20) (ys := bys (zr 32 (Sh.sumF 3 sd))) (o := 0) (m := 32) (xs := bys (zr 32 (zr 32 (Sh.sumF 3 sd)))) En39 (by kernel_rfl) (add0 _) (bys_take_reads (Hv27.heap.reads (k := 0) rfl) 32) had36 bys_pre (bys_prel hb40) (by kernel_rfl) (by kernel_rfl) ?_
 intro _ En42
 refine f_o <| m_z 22 (bys (zc 32 0)) En42 Hv27 fun _ _ bk43 En46 Hv47 => ?_
 refine f_o <| m_g 4 0 32 (bys (zr 32 (zr 32 (Sh.sumF 3 sd)))) _ [.vec aoq20 coq20 1 (bys (Sh.sumF 3 sd)) 5, .box bk1 (bys sd) 22, .box bk6 (zh (zc 4 0)) 34, .vec (some ⟨bk15, 0, none⟩) 1 1 [.slice (some ⟨bk1, 0, none⟩) (ze sd) 32] 26, .box bk43 (bys (zr 32 (zr 32 (Sh.sumF 3 sd)))) 22] En46 Hv47 rfl (zU (by first | (simp; done) | (simp; omega) | (rw [zI]; omega))) (by rw [(zU (zd))]; first | decide | (simp; done)) (ZR _) (zo (zU (zd))) rfl fun _ _ En50 Hv51 => ?_
 refine f_e <| zg <| wp_seq ?_
 rw [show (zr 32 (zr 32 (Sh.sumF 3 sd))) = (zr 32 (Sh.sumF 3 sd)) from (by rw [List.take_take]; rfl)] at Hv51
 refine zm <| d_k [2,3,4,5,13] [] 1 En50 fun _ En53 => ?_
 refine f_o ?_
 have hb54 : 0 < ze (zr 32 (Sh.sumF 3 sd)) := by rw [hst]; omega
 refine m_v 4 0 (bv (zf (zr 32 (Sh.sumF 3 sd)) 0 0)) En53 Hv51 rfl (ZS hb54) fun _ En56 => ?_
 refine d_k [2,3,4,5,15,16] [(2, g_i .u8 (Go.Dbr.u8_and (x := zf (zr 32 (Sh.sumF 3 sd)) 0 0) (y := (248 : UInt8)) rfl rfl))] 4 En56 fun _ En58 => ?_
 refine f_o ?_
 have hb59 : 0 < ze (zr 32 (Sh.sumF 3 sd)) := by rw [hst]; omega
 refine m_t 4 0 (bv ((zf (zr 32 (Sh.sumF 3 sd)) 0 0) &&& (248 : UInt8))) [.vec aoq20 coq20 1 (bys (Sh.sumF 3 sd)) 5, .box bk1 (bys sd) 22, .box bk6 (zh (zc 4 0)) 34, .vec (some ⟨bk15, 0, none⟩) 1 1 [.slice (some ⟨bk1, 0, none⟩) (ze sd) 32] 26, .box bk43 (bys (zp (zr 32 (Sh.sumF 3 sd)) 0 ((zf (zr 32 (Sh.sumF 3 sd)) 0 0) &&& (248 : UInt8)))) 22] En58 Hv51 rfl (ZS hb59) (Jm _ _ _) rfl fun _ _ En62 Hv63 => ?_
 refine f_e <| zg <| wp_seq <| zm <| d_k [2,3,4,5,17] [] 1 En62 fun _ En65 => ?_
 refine f_o ?_
 have hb66 : 31 < ze (zp (zr 32 (Sh.sumF 3 sd)) 0 ((zf (zr 32 (Sh.sumF 3 sd)) 0 0) &&& (248 : UInt8))) := by rw [(List.length_set.trans hst)]; omega
 refine m_v 4 31 (bv (zf (zp (zr 32 (Sh.sumF 3 sd)) 0 ((zf (zr 32 (Sh.sumF 3 sd)) 0 0) &&& (248 : UInt8))) 31 0)) En65 Hv63 rfl (ZS hb66) fun _ En68 => ?_
 refine d_k [2,3,4,5,20,21] [(2, g_i .u8 (Go.Dbr.u8_and (x := zf (zp (zr 32 (Sh.sumF 3 sd)) 0 ((zf (zr 32 (Sh.sumF 3 sd)) 0 0) &&& (248 : UInt8))) 31 0) (y := (63 : UInt8)) rfl rfl)), (3, g_i .u8 (Go.Dbr.u8_or (x := (zf (zp (zr 32 (Sh.sumF 3 sd)) 0 ((zf (zr 32 (Sh.sumF 3 sd)) 0 0) &&& (248 : UInt8))) 31 0) &&& (63 : UInt8)) (y := (64 : UInt8)) rfl rfl))] 5 En68 fun _ En70 => ?_
 refine f_o ?_
 have hb71 : 31 < ze (zp (zr 32 (Sh.sumF 3 sd)) 0 ((zf (zr 32 (Sh.sumF 3 sd)) 0 0) &&& (248 : UInt8))) := by rw [(List.length_set.trans hst)]; omega
 refine m_t 4 31 (bv (((zf (zp (zr 32 (Sh.sumF 3 sd)) 0 ((zf (zr 32 (Sh.sumF 3 sd)) 0 0) &&& (248 : UInt8))) 31 0) &&& (63 : UInt8)) ||| (64 : UInt8))) [.vec aoq20 coq20 1 (bys (Sh.sumF 3 sd)) 5, .box bk1 (bys sd) 22, .box bk6 (zh (zc 4 0)) 34, .vec (some ⟨bk15, 0, none⟩) 1 1 [.slice (some ⟨bk1, 0, none⟩) (ze sd) 32] 26, .box bk43 (bys (zp (zp (zr 32 (Sh.sumF 3 sd)) 0 ((zf (zr 32 (Sh.sumF 3 sd)) 0 0) &&& (248 : UInt8))) 31 (((zf (zp (zr 32 (Sh.sumF 3 sd)) 0 ((zf (zr 32 (Sh.sumF 3 sd)) 0 0) &&& (248 : UInt8))) 31 0) &&& (63 : UInt8)) ||| (64 : UInt8)))) 22] En70 Hv63 rfl (ZS hb71) (Jm _ _ _) rfl fun _ _ En74 Hv75 => ?_
 refine f_e <| zg <| wp_seq ?_
 rw [show (zp (zp (zr 32 (Sh.sumF 3 sd)) 0 ((zf (zr 32 (Sh.sumF 3 sd)) 0 0) &&& (248 : UInt8))) 31 (((zf (zp (zr 32 (Sh.sumF 3 sd)) 0 ((zf (zr 32 (Sh.sumF 3 sd)) 0 0) &&& (248 : UInt8))) 31 0) &&& (63 : UInt8)) ||| (64 : UInt8))) = (clE (zr 32 (Sh.sumF 3 sd))) from rfl] at Hv75
 refine r_c (fun ac wo => Env ac 26 [(2, pt bk6), (3, .slice (cutAt aoq20 coq20 32 1) ((ze (Sh.sumF 3 sd)) - 32) (coq20 - 32)), (4, .slice aoq20 (ze (Sh.sumF 3 sd)) coq20), (5, pt bk43)] ∧ Ev w [] wo [.vec aoq20 coq20 1 (bys (Sh.sumF 3 sd)) 5, .box bk6 (zh (nd (lv (clE (zr 32 (Sh.sumF 3 sd)))))) 34, .box bk43 (bys (clE (zr 32 (Sh.sumF 3 sd)))) 22]) ?_ ?_
 ·
  refine h_s (fun wv => Ev w [] wv [.vec aoq20 coq20 1 (bys (Sh.sumF 3 sd)) 5, .box bk43 (bys (clE (zr 32 (Sh.sumF 3 sd)))) 22]) [] 6 ?_
  have wo76 := Hv75.trans (zQ Hv75.heap)
  refine h_name fun G hG => ?_
  have nd185 : ∀ (ac : Act) (wo : World), Env ac 26 [(2, pt bk6), (3, .slice none 0 0), (4, .slice aoq20 (ze (Sh.sumF 3 sd)) coq20), (5, pt bk43), (23, .agg (zi (zh (nd (lv (clE (zr 32 (Sh.sumF 3 sd)))))))), (25, .slice (cutAt aoq20 coq20 32 1) ((ze (Sh.sumF 3 sd)) - 32) (coq20 - 32))] → Ev w [] wo [.vec aoq20 coq20 1 (bys (Sh.sumF 3 sd)) 5, .box bk6 (zh (zc 4 0)) 34, .box bk43 (bys (clE (zr 32 (Sh.sumF 3 sd)))) 22] → G 2 #[true, true, true, true, false, false] ac wo := by
   intro _ _ En188 Hv189
   refine Zs hG ?_
   refine q_t 4 ?_
   refine m_g 1 0 4 (zh (nd (lv (clE (zr 32 (Sh.sumF 3 sd)))))) _ [.vec aoq20 coq20 1 (bys (Sh.sumF 3 sd)) 5, .box bk6 (zh (nd (lv (clE (zr 32 (Sh.sumF 3 sd)))))) 34, .box bk43 (bys (clE (zr 32 (Sh.sumF 3 sd)))) 22] En188 Hv189 rfl (zb (zk _ _)) (by rw [(zb (zd))]; first | decide | (simp; done)) (zu _) (zo (zb (zd))) rfl fun _ _ En192 Hv193 => ?_
   refine ⟨fun _ => Hv193.pk [0, 2], ?_⟩
   refine q_s [5] [] 0 En192 (Hv193.pk [0, 2]) fun _ En195 => ?_
   exact h_e ⟨En195.sb, Hv193.pk [0, 1, 2]⟩
  have nd196 : ∀ (ac : Act) (wo : World), Env ac 26 [(2, pt bk6), (3, .slice none 0 0), (4, .slice aoq20 (ze (Sh.sumF 3 sd)) coq20), (5, pt bk43), (24, .slice aoq20 (ze (Sh.sumF 3 sd)) coq20)] → Ev w [] wo [.vec aoq20 coq20 1 (bys (Sh.sumF 3 sd)) 5, .box bk6 (zh (nd (lv (clE (zr 32 (Sh.sumF 3 sd)))))) 34, .box bk43 (bys (clE (zr 32 (Sh.sumF 3 sd)))) 22] → G 2 #[true, true, true, false, true, false] ac wo := by
   intro _ _ En199 Hv200
   refine Zs hG ?_
   refine q_t 3 ?_
   have hcap201 := Yc Hv200.heap (k := 0) rfl
   refine JA (d := some 25) (t := 26) (e := 5) (sz := 1) (len := ze (Sh.sumF 3 sd)) (cap := coq20) (lo := 32) (hi := ze (Sh.sumF 3 sd)) (ao := aoq20) (lov := (some (.int .i64 32))) (hiv := none) En199 (by kernel_rfl) (by kernel_rfl) (by kernel_rfl) (by omega) (by omega) (.inr ⟨.i64, rfl⟩) (.inl ⟨rfl, rfl⟩) ?_
   intro _ En203
   refine ⟨fun _ => Hv200.pk [0, 2], ?_⟩
   refine q_s [5] [] 0 En203 (Hv200.pk [0, 2]) fun _ En205 => ?_
   exact h_e ⟨En205.sb, Hv200.pk [0, 1, 2]⟩
  have nd206 : ∀ (ac : Act) (wo : World), Env ac 26 [(2, pt bk6), (3, .slice none 0 0), (4, .slice aoq20 (ze (Sh.sumF 3 sd)) coq20), (5, pt bk43), (23, .agg (zi (zh (nd (lv (clE (zr 32 (Sh.sumF 3 sd)))))))), (24, .slice aoq20 (ze (Sh.sumF 3 sd)) coq20)] → Ev w [] wo [.vec aoq20 coq20 1 (bys (Sh.sumF 3 sd)) 5, .box bk6 (zh (zc 4 0)) 34, .box bk43 (bys (clE (zr 32 (Sh.sumF 3 sd)))) 22] → G 3 #[true, true, true, false, false, false] ac wo := by
   intro _ _ En209 Hv210
   refine Zs hG ?_
   refine h_ways [3, 4] (by kernel_rfl) rfl ?_
   refine ⟨?_, ?_, trivial⟩
   ·
    rintro _ rfl
    have hcap211 := Yc Hv210.heap (k := 0) rfl
    refine JA (d := some 25) (t := 26) (e := 5) (sz := 1) (len := ze (Sh.sumF 3 sd)) (cap := coq20) (lo := 32) (hi := ze (Sh.sumF 3 sd)) (ao := aoq20) (lov := (some (.int .i64 32))) (hiv := none) En209 (by kernel_rfl) (by kernel_rfl) (by kernel_rfl) (by omega) (by omega) (.inr ⟨.i64, rfl⟩) (.inl ⟨rfl, rfl⟩) ?_
    intro _ En213
    refine ⟨fun _ => Hv210.pk [0, 2], ?_⟩
    exact h_to hG (by kernel_rfl) (nd185 _ _ (En213.sb) (Hv210.pk [0, 1, 2]))
   rintro _ rfl
   refine m_g 1 0 4 (zh (nd (lv (clE (zr 32 (Sh.sumF 3 sd)))))) _ [.vec aoq20 coq20 1 (bys (Sh.sumF 3 sd)) 5, .box bk6 (zh (nd (lv (clE (zr 32 (Sh.sumF 3 sd)))))) 34, .box bk43 (bys (clE (zr 32 (Sh.sumF 3 sd)))) 22] En209 Hv210 rfl (zb (zk _ _)) (by rw [(zb (zd))]; first | decide | (simp; done)) (zu _) (zo (zb (zd))) rfl fun _ _ En216 Hv217 => ?_
   refine ⟨fun _ => Hv217.pk [0, 2], ?_⟩
   exact h_to hG (by kernel_rfl) (nd196 _ _ (En216.sb) (Hv217.pk [0, 1, 2]))
  have nd218 : ∀ (ac : Act) (wo : World), Env ac 26 [(2, pt bk6), (3, .slice none 0 0), (4, .slice aoq20 (ze (Sh.sumF 3 sd)) coq20), (5, pt bk43), (22, .agg (zi (bys (clE (zr 32 (Sh.sumF 3 sd)))))), (25, .slice (cutAt aoq20 coq20 32 1) ((ze (Sh.sumF 3 sd)) - 32) (coq20 - 32))] → Ev w [] wo [.vec aoq20 coq20 1 (bys (Sh.sumF 3 sd)) 5, .box bk6 (zh (zc 4 0)) 34, .box bk43 (bys (clE (zr 32 (Sh.sumF 3 sd)))) 22] → G 3 #[true, false, true, true, false, false] ac wo := by
   intro _ _ En221 Hv222
   refine Zs hG ?_
   refine q_t 1 ?_
   refine c_p En221 Hv222 (fromle_go _ (clE (zr 32 (Sh.sumF 3 sd))) (clE_len hst)) fun _ _ En228 Hv229 => ?_
   refine ⟨fun _ => Hv229.pk [0, 2], ?_⟩
   refine q_t 4 ?_
   refine m_g 1 0 4 (zh (nd (lv (clE (zr 32 (Sh.sumF 3 sd)))))) _ [.vec aoq20 coq20 1 (bys (Sh.sumF 3 sd)) 5, .box bk6 (zh (nd (lv (clE (zr 32 (Sh.sumF 3 sd)))))) 34, .box bk43 (bys (clE (zr 32 (Sh.sumF 3 sd)))) 22] En228 Hv229 rfl (zb (zk _ _)) (by rw [(zb (zd))]; first | decide | (simp; done)) (zu _) (zo (zb (zd))) rfl fun _ _ En232 Hv233 => ?_
   refine ⟨fun _ => Hv233.pk [0, 2], ?_⟩
   refine q_s [5] [] 0 En232 (Hv233.pk [0, 2]) fun _ En235 => ?_
   exact h_e ⟨En235.sb, Hv233.pk [0, 1, 2]⟩
  refine Zs hG ?_
  refine q_r 0 (s := Instr.loadAt 22 (pt bk43)) (v := .agg (zi (bys (clE (zr 32 (Sh.sumF 3 sd)))))) En74 (fun w hS => run_loadAgg2 (m := 32) (cs := bys (clE (zr 32 (Sh.sumF 3 sd)))) (zU (clE_len hst)) (by kernel_rfl) (by kernel_rfl) (hS.heap.cells (k := 1) (off := 0) (m := 32) rfl (zn (zU (clE_len hst))))) (wo76.pk [0, 4]) fun _ En237 => ?_
  refine q_s [2] [] 4 En237 (wo76.pk [0, 4]) fun _ En239 => ?_
  refine h_ways [1, 3] (by kernel_rfl) rfl ?_
  refine ⟨?_, ?_, trivial⟩
  ·
   rintro _ rfl
   refine c_p En239 wo76 (fromle_go _ (clE (zr 32 (Sh.sumF 3 sd))) (clE_len hst)) fun _ _ En245 Hv246 => ?_
   refine ⟨fun _ => Hv246.pk [0, 4], ?_⟩
   exact h_to hG (by kernel_rfl) (nd206 _ _ (En245.sb) (Hv246.pk [0, 2, 4]))
  rintro _ rfl
  have hcap247 := Yc wo76.heap (k := 0) rfl
  refine JA (d := some 25) (t := 26) (e := 5) (sz := 1) (len := ze (Sh.sumF 3 sd)) (cap := coq20) (lo := 32) (hi := ze (Sh.sumF 3 sd)) (ao := aoq20) (lov := (some (.int .i64 32))) (hiv := none) En239 (by kernel_rfl) (by kernel_rfl) (by kernel_rfl) (by omega) (by omega) (.inr ⟨.i64, rfl⟩) (.inl ⟨rfl, rfl⟩) ?_
  intro _ En249
  refine ⟨fun _ => wo76.pk [0, 4], ?_⟩
  exact h_to hG (by kernel_rfl) (nd218 _ _ (En249.sb) (wo76.pk [0, 2, 4]))
 rintro _ _ ⟨En252, Hv253⟩
 refine zg <| wp_ret <| d_cell_tmp (v := .agg (zi (zh (nd (lv (clE (zr 32 (Sh.sumF 3 sd)))))))) (x := .slice (cutAt aoq20 coq20 32 1) ((ze (Sh.sumF 3 sd)) - 32) (coq20 - 32)) (t := 2) (T := 34) (ad := ⟨bk6, 0, none⟩) (u := 3) En252 (by kernel_rfl) (by kernel_rfl) (Ev.cellAgg (t := 34) (k := 1) (off := 0) (m := 4) (xs := zh (nd (lv (clE (zr 32 (Sh.sumF 3 sd)))))) Hv253 rfl (zn (zb (zk _ _))) (zb (zk _ _)) (by kernel_rfl) (by kernel_rfl)) (by kernel_rfl) ?_
 have hcap255 := Yc Hv253.heap (k := 0) rfl
 have Hf254 := Ev.cut (k := 0) (n := ze (Sh.sumF 3 sd)) (sz := 1) Hv253 rfl (Z8 _) (by omega) 32 (ze (Sh.sumF 3 sd)) (by omega) (by omega)
 rw [bys_cutw (l := Sh.sumF 3 sd) (lo := 32) (n := ze (Sh.sumF 3 sd)) (by simp)] at Hf254
 exact ⟨_, _, by rw [show ze (ahE sd) = ze (Sh.sumF 3 sd) - 32 from zS]; first | done | rfl, Hf254.pk [0]⟩

end Go.Proofs.YtlnogkmnklfjlaaDoor

/- Layer 12: public keys, signatures. -/

namespace Go.Proofs.YtlnogkmnklfjlaaDoor
open Go.Dbr
set_option maxRecDepth 100000
set_option maxHeartbeats 2000000
set_option linter.unusedVariables false
set_option linter.unusedSimpArgs false

theorem bytesB_go (w : World) (k : Nat) (hk : k < W256) : Calls Tryd.prog 27 #[.agg (zi (zh (tmF Yr (nv (nd k)) 64)))] w fun e w' => e = .returned (.agg (zi (bys (puE k)))) ∧ Ev w [] w' [] := by
  have h := bytes16_go w (tmF Yr (nv (nd k)) 64) (tmF_len _ _ _)
  rw [nv_nd hk, pu_L hk] at h
  rw [nv_nd hk]
  exact h
theorem public_go (w : World) (sd : List UInt8) (hsd : ze sd = 32) (gk32 : InU32 w [] (some ⟨0, 0, none⟩) 64 Sh.K32) (gk64 : InU64 w [] (some ⟨1, 0, none⟩) 80 Sh.K64) : Calls Tryd.prog 10 #[.agg (zi (bys sd))] w fun e w' => e = .returned (.agg (zi (bys (puE (sE sd))))) ∧ Ev w [] w' [] := by
 refine d_0 [(0, .agg (zi (bys sd)))] 14 Go.Proofs.Tryd.func10 Go.Proofs.Tryd.ntmps10 (Heap.nil _) fun act0 En0 Hv0 => ?_
 refine wp_seq <| zm <| f_o <| m_m 22 (bys sd) En0 Hv0 fun _ _ bk1 En4 Hv5 => ?_
 refine f_o <| m_z 22 (bys (zc 32 0)) En4 Hv5 fun _ _ bk6 En9 Hv10 => ?_
 refine f_e <| zg <| wp_seq <| zm <| f_o <| m_a 0 0 32 (bys sd) En9 Hv10 rfl (zn (zU hsd)) (zU hsd) fun _ En12 => ?_
 refine f_o <| c_0 En12 Hv10 (secret_go _ sd hsd ((gk32.ev Hv10).pick [] (by kernel_rfl)) ((gk64.ev Hv10).pick [] (by kernel_rfl))) ?_
 rintro _ _ ⟨aoq13, coq13, rfl, he16⟩
 refine ⟨_, _, _, rfl, he16, rfl, fun _ En19 Hv20 => ?_⟩
 refine d_k [2,8,9] [] 5 En19 fun _ En22 => ?_
 refine f_o <| m_z 34 (zh (zc 4 0)) En22 Hv20 fun _ _ bk23 En26 Hv27 => ?_
 refine f_o <| m_g 3 0 4 (zh (nd (sE sd))) _ [.vec aoq13 coq13 1 (bys (ahE sd)) 5, .box bk1 (bys sd) 22, .box bk6 (bys (zc 32 0)) 22, .box bk23 (zh (nd (sE sd))) 34] En26 Hv27 rfl (zb (zk _ _)) (by rw [(zb (zd))]; first | decide | (simp; done)) (zu _) (zo (zb (zd))) rfl fun _ _ En30 Hv31 => ?_
 refine d_e [2,3] [] En30 fun _ En33 => ?_
 refine zg <| wp_seq <| r_c (fun ac wo => Env ac 14 [(2, pt bk6), (3, pt bk23)] ∧ Ev w [] wo [.box bk6 (bys (puE (sE sd))) 22, .box bk23 (zh (nd (sE sd))) 34]) ?_ ?_
 ·
  refine s_g0 [(2, pt bk6), (3, pt bk23)] [0,1,2,3] [(10, .agg (zi (zh Yr))), (11, .agg (zi (zh (nd (sE sd))))), (12, .agg (zi (zh (tmF Yr (nv (nd (sE sd))) 64)))), (13, .agg (zi (bys (puE (sE sd)))))] 1 [(2, pt bk6), (3, pt bk23), (13, .agg (zi (bys (puE (sE sd)))))] (En33.sb) (Hv31.trans (zQ Hv31.heap)) ?_ fun _ _ En68 Hv69 => ?_
  ·
   refine s_f (fun _ => base_go _) ?_
   refine s_a 3 0 4 (zh (nd (sE sd))) rfl (zn (zb (zk _ _))) (zb (zk _ _)) ?_
   refine s_f (fun _ => times16_go _ Yr (nd (sE sd)) (ptL_len _ _) (zk _ _)) ?_
   refine s_f (fun _ => bytesB_go _ (sE sd) (sE_lt _)) ?_
   exact s_n
  refine q_u 4 ?_
  refine m_g 2 0 32 (bys (puE (sE sd))) _ [.vec aoq13 coq13 1 (bys (ahE sd)) 5, .box bk1 (bys sd) 22, .box bk6 (bys (puE (sE sd))) 22, .box bk23 (zh (nd (sE sd))) 34] En68 Hv69 rfl (zU (JP _)) (by rw [(zU (zd))]; first | decide | (simp; done)) (ZR _) (zo (zU (zd))) rfl fun _ _ En76 Hv77 => ?_
  exact a_e ⟨En76.sb, Hv77.pk [2, 3]⟩
 rintro _ _ ⟨En80, Hv81⟩
 refine zg <| wp_ret <| d_cell1 (v := .agg (zi (bys (puE (sE sd))))) (t := 2) (T := 22) (ad := ⟨bk6, 0, none⟩) En80 (by kernel_rfl) (by kernel_rfl) (Ev.cellAgg (t := 22) (k := 0) (off := 0) (m := 32) (xs := bys (puE (sE sd))) Hv81 rfl (zn (zU (JP _))) (zU (JP _)) (by kernel_rfl) (by kernel_rfl)) ?_
 exact ⟨rfl, Hv81.pk []⟩

end Go.Proofs.YtlnogkmnklfjlaaDoor

/- Layer 12: a live question. -/

namespace Go.Proofs.YtlnogkmnklfjlaaDoor
open Go.Dbr
set_option maxRecDepth 100000
set_option maxHeartbeats 2000000
set_option linter.unusedVariables false
set_option linter.unusedSimpArgs false

def seedH : List UInt8 := [157, 97, 177, 157, 239, 253, 90, 96, 186, 132, 74, 244, 146, 236, 44, 196, 68, 73, 197, 105, 123, 50, 105, 25, 112, 59, 172, 3, 28, 174, 127, 96]
def pubH : List UInt8 := [215, 90, 152, 1, 130, 177, 10, 183, 213, 75, 254, 211, 201, 100, 7, 58, 14, 225, 114, 243, 218, 166, 35, 37, 175, 2, 26, 104, 247, 7, 81, 26]
theorem sE_head : sE seedH = 36144925721603087658594284515452164870581325872720374094707712194495455132720 := by decide +kernel
theorem puN {n f : Nat} (h : n < 2 ^ f) : outN (mulM 1 (mulG f n (BX, BY_, 1, mulM 1 BX BY_)).1 (ivE (mulG f n (BX, BY_, 1, mulM 1 BX BY_)).2.2.1)) (mulM 1 (mulG f n (BX, BY_, 1, mulM 1 BX BY_)).2.1 (ivE (mulG f n (BX, BY_, 1, mulM 1 BX BY_)).2.2.1)) = puE n := by
  have r := repN_mul f n _ gB h repB
  rw [puE, outE, aff_x r.1 r.2.1, aff_x r.1 r.2.2.1]
theorem pu_head : puE (sE seedH) = pubH := by
  rw [sE_head, ← puN (n := 36144925721603087658594284515452164870581325872720374094707712194495455132720) (f := 255) (by decide), ivE_pw]
  decide +kernel

theorem public_head (w : World) (gk32 : InU32 w [] (some ⟨0, 0, none⟩) 64 Sh.K32) (gk64 : InU64 w [] (some ⟨1, 0, none⟩) 80 Sh.K64) : Calls Tryd.prog 10 #[.agg #[.int .u8 157, .int .u8 97, .int .u8 177, .int .u8 157, .int .u8 239, .int .u8 253, .int .u8 90, .int .u8 96, .int .u8 186, .int .u8 132, .int .u8 74, .int .u8 244, .int .u8 146, .int .u8 236, .int .u8 44, .int .u8 196, .int .u8 68, .int .u8 73, .int .u8 197, .int .u8 105, .int .u8 123, .int .u8 50, .int .u8 105, .int .u8 25, .int .u8 112, .int .u8 59, .int .u8 172, .int .u8 3, .int .u8 28, .int .u8 174, .int .u8 127, .int .u8 96]] w fun e w' => e = .returned (.agg (zi (bys pubH))) ∧ Ev w [] w' [] := by
  have h := public_go w seedH rfl gk32 gk64
  rw [pu_head] at h
  exact h

theorem head_ok (w : World) (gk32 : InU32 w [] (some ⟨0, 0, none⟩) 64 Sh.K32) (gk64 : InU64 w [] (some ⟨1, 0, none⟩) 80 Sh.K64) : Calls Tryd.prog 6 #[] w fun e w' => e = .returned (.bool true) ∧ Ev w [] w' [] := by
 have hpH : ze pubH = 32 := rfl
 refine d_0 [] 24 Go.Proofs.Tryd.func6 Go.Proofs.Tryd.ntmps6 (Heap.nil _) fun act0 En0 Hv0 => ?_
 refine d_s [0] [] En0 fun _ En2 => ?_
 refine wp_seq <| zm <| d_k [0,3] [] 1 En2 fun _ En4 => ?_
 refine f_o <| m_z 22 (bys (zc 32 0)) En4 Hv0 fun _ _ bk5 En8 Hv9 => ?_
 refine f_o <| m_g 0 0 32 (bys ([157, 97, 177, 157, 239, 253, 90, 96, 186, 132, 74, 244, 146, 236, 44, 196, 68, 73, 197, 105, 123, 50, 105, 25, 112, 59, 172, 3, 28, 174, 127, 96] : List UInt8)) _ [.box bk5 (bys ([157, 97, 177, 157, 239, 253, 90, 96, 186, 132, 74, 244, 146, 236, 44, 196, 68, 73, 197, 105, 123, 50, 105, 25, 112, 59, 172, 3, 28, 174, 127, 96] : List UInt8)) 22] En8 Hv9 rfl (zU (show ze ([157, 97, 177, 157, 239, 253, 90, 96, 186, 132, 74, 244, 146, 236, 44, 196, 68, 73, 197, 105, 123, 50, 105, 25, 112, 59, 172, 3, 28, 174, 127, 96] : List UInt8) = 32 from rfl)) (by rw [(zU (zd))]; first | decide | (simp; done)) (ZR _) (zo (zU (zd))) rfl fun _ _ En12 Hv13 => ?_
 refine f_e <| zg <| wp_seq <| zm <| f_o <| m_a 0 0 32 (bys ([157, 97, 177, 157, 239, 253, 90, 96, 186, 132, 74, 244, 146, 236, 44, 196, 68, 73, 197, 105, 123, 50, 105, 25, 112, 59, 172, 3, 28, 174, 127, 96] : List UInt8)) En12 Hv13 rfl (zn (zU (show ze ([157, 97, 177, 157, 239, 253, 90, 96, 186, 132, 74, 244, 146, 236, 44, 196, 68, 73, 197, 105, 123, 50, 105, 25, 112, 59, 172, 3, 28, 174, 127, 96] : List UInt8) = 32 from rfl))) (zU (show ze ([157, 97, 177, 157, 239, 253, 90, 96, 186, 132, 74, 244, 146, 236, 44, 196, 68, 73, 197, 105, 123, 50, 105, 25, 112, 59, 172, 3, 28, 174, 127, 96] : List UInt8) = 32 from rfl)) fun _ En15 => ?_
 refine f_o <| c_p En15 Hv13 (public_head _ ((gk32.ev Hv13).pick [] (by kernel_rfl)) ((gk64.ev Hv13).pick [] (by kernel_rfl))) fun _ _ En21 Hv22 => ?_
 refine f_o <| m_z 22 (bys (zc 32 0)) En21 Hv22 fun _ _ bk23 En26 Hv27 => ?_
 refine f_o <| m_g 1 0 32 (bys pubH) _ [.box bk5 (bys ([157, 97, 177, 157, 239, 253, 90, 96, 186, 132, 74, 244, 146, 236, 44, 196, 68, 73, 197, 105, 123, 50, 105, 25, 112, 59, 172, 3, 28, 174, 127, 96] : List UInt8)) 22, .box bk23 (bys pubH) 22] En26 Hv27 rfl (zU hpH) (by rw [(zU (zd))]; first | decide | (simp; done)) (ZR _) (zo (zU (zd))) rfl fun _ _ En30 Hv31 => ?_
 refine f_e <| zg <| wp_seq <| zm <| d_k [0,1,2,6] [] 1 En30 fun _ En33 => ?_
 refine f_o ?_
 have hb34 : 0 < ze pubH := by rw [hpH]; omega
 refine m_v 1 0 (bv (zf pubH 0 0)) En33 Hv31 rfl (ZS hb34) fun _ En36 => ?_
 refine d_k [0,1,2,9,10] [(2, g_b (show (((Zc (zf pubH 0 0) : Nat) : Int) == (215 : Int)) = true from (by decide)))] 5 En36 fun _ En38 => ?_
 refine f_o ?_
 have hb39 : 1 < ze pubH := by rw [hpH]; omega
 refine m_v 1 1 (bv (zf pubH 1 0)) En38 Hv31 rfl (ZS hb39) fun _ En41 => ?_
 refine d_k [0,1,2,14,15] [(6, g_b (show (((Zc (zf pubH 1 0) : Nat) : Int) == (90 : Int)) = true from (by decide)))] 10 En41 fun _ En43 => ?_
 refine f_o ?_
 have hb44 : 30 < ze pubH := by rw [hpH]; omega
 refine m_v 1 30 (bv (zf pubH 30 0)) En43 Hv31 rfl (ZS hb44) fun _ En46 => ?_
 refine d_k [0,1,2,19,20] [(11, g_b (show (((Zc (zf pubH 30 0) : Nat) : Int) == (81 : Int)) = true from (by decide)))] 15 En46 fun _ En48 => ?_
 refine f_o ?_
 have hb49 : 31 < ze pubH := by rw [hpH]; omega
 refine m_v 1 31 (bv (zf pubH 31 0)) En48 Hv31 rfl (ZS hb49) fun _ En51 => ?_
 refine d_e [0,1,2] [(16, g_b (show (((Zc (zf pubH 31 0) : Nat) : Int) == (26 : Int)) = true from (by decide)))] En51 fun _ En53 => ?_
 refine zg <| wp_ret <| ZW (t := 0) (v := .bool true) En53 (by kernel_rfl) (by kernel_rfl) ?_
 exact ⟨rfl, Hv31.pk []⟩

end Go.Proofs.YtlnogkmnklfjlaaDoor

/- Layer 12: what the statements ask, walked: points, own. -/


namespace Go.Proofs.YtlnogkmnklfjlaaDoor
open Go.Dbr
set_option maxRecDepth 100000
set_option maxHeartbeats 2000000
set_option linter.unusedVariables false
set_option linter.unusedSimpArgs false

theorem points_walk (b : List UInt8) (h : UInt8) (w : World) (n_b : (ze b = 32)) (gk32 : InU32 w [] (some ⟨0, 0, none⟩) 64 Sh.K32) (gk64 : InU64 w [] (some ⟨1, 0, none⟩) 80 Sh.K64) : Calls Tryd.prog 3 #[.agg (zi (bys b)), bv h] w fun e w' => e = .returned (.bool true) ∧ Ev w [] w' [] := by
 refine d_0 [(0, .agg (zi (bys b))), (1, bv h)] 30 Go.Proofs.Tryd.func3 Go.Proofs.Tryd.ntmps3 (Heap.nil _) fun act0 En0 Hv0 => ?_
 refine wp_seq <| zm <| f_o <| m_m 22 (bys b) En0 Hv0 fun _ _ bk1 En4 Hv5 => ?_
 refine d_e [1,2,4] [] En4 fun _ En7 => ?_
 refine zg <| wp_seq <| zm <| f_o <| c_p En7 Hv5 (head_ok _ ((gk32.ev Hv5).pick [] (by kernel_rfl)) ((gk64.ev Hv5).pick [] (by kernel_rfl))) fun _ _ En13 Hv14 => ?_
 refine d_e [1,2,4,5] [] En13 fun _ En16 => ?_
 refine zg <| wp_seq <| zm <| f_o <| m_a 0 0 32 (bys b) En16 Hv14 rfl (zn (zU n_b)) (zU n_b) fun _ En18 => ?_
 refine f_o <| m_z 22 (bys (zc 32 0)) En18 Hv14 fun _ _ bk19 En22 Hv23 => ?_
 refine f_o <| m_g 1 0 32 (bys b) _ [.box bk1 (bys b) 22, .box bk19 (bys b) 22] En22 Hv23 rfl (zU n_b) (by rw [(zU (zd))]; first | decide | (simp; done)) (ZR _) (zo (zU (zd))) rfl fun _ _ En26 Hv27 => ?_
 refine f_e <| zg <| wp_seq <| zm <| d_k [1,2,4,5,6,9] [] 1 En26 fun _ En29 => ?_
 refine f_o ?_
 have hb30 : 31 < ze b := by rw [n_b]; omega
 refine m_v 1 31 (bv (zf b 31 0)) En29 Hv27 rfl (ZS hb30) fun _ En32 => ?_
 refine d_k [2,4,5,6,13,14] [(3, g_i .u8 (Go.Dbr.u8_and (x := h) (y := (128 : UInt8)) rfl rfl)), (4, g_i .u8 (Go.Dbr.u8_xor (x := zf b 31 0) (y := h &&& (128 : UInt8)) rfl rfl))] 6 En32 fun _ En34 => ?_
 refine f_o ?_
 have hb35 : 31 < ze b := by rw [n_b]; omega
 refine m_t 1 31 (bv ((zf b 31 0) ^^^ (h &&& (128 : UInt8)))) [.box bk1 (bys b) 22, .box bk19 (bys (zp b 31 ((zf b 31 0) ^^^ (h &&& (128 : UInt8))))) 22] En34 Hv27 rfl (ZS hb35) (Jm _ _ _) rfl fun _ _ En38 Hv39 => ?_
 refine f_e <| zg <| wp_seq <| r_c (fun ac wo => Env ac 30 [(2, pt bk1), (4, .bool true), (6, pt bk19)] ∧ Ev w [] wo [.box bk1 (bys b) 22, .box bk19 (bys (zp b 31 ((zf b 31 0) ^^^ (h &&& (128 : UInt8))))) 22]) ?_ ?_
 ·
  refine s_g0 [(2, pt bk1), (5, .bool true), (6, pt bk19)] [0,1,2,3,4,5,6,7,8,9,10,11,12,13,14,15] [(4, .bool true), (15, .bool true), (16, .bool true), (17, .agg (zi (bys b))), (18, .bool (isE b)), (19, .agg (zi (bys b))), (20, .bool (isE b)), (21, .bool true), (22, .bool true), (23, .bool true), (24, .agg (zi (bys (zp b 31 ((zf b 31 0) ^^^ (h &&& (128 : UInt8))))))), (25, .bool (isE (zp b 31 ((zf b 31 0) ^^^ (h &&& (128 : UInt8)))))), (26, .agg (zi (bys (zp b 31 ((zf b 31 0) ^^^ (h &&& (128 : UInt8))))))), (27, .bool (isE (zp b 31 ((zf b 31 0) ^^^ (h &&& (128 : UInt8)))))), (28, .bool true), (29, .bool true)] 0 [(2, pt bk1), (4, .bool true), (6, pt bk19)] (En38.sb) (Hv39.trans (zQ Hv39.heap)) ?_ fun _ _ En98 Hv99 => ?_
  ·
   refine s_p [] ?_
   refine s_p [] ?_
   refine s_a 0 0 32 (bys b) rfl (zn (zU n_b)) (zU n_b) ?_
   refine s_f (fun _ => point_go _ b n_b) ?_
   refine s_a 0 0 32 (bys b) rfl (zn (zU n_b)) (zU n_b) ?_
   refine s_f (fun _ => dispoint_go _ b n_b) ?_
   refine s_p [(6, g_b (show ((isE b) == (isE b)) = true from (beq_self_eq_true _)))] ?_
   refine s_p [] ?_
   refine s_p [] ?_
   refine s_a 1 0 32 (bys (zp b 31 ((zf b 31 0) ^^^ (h &&& (128 : UInt8))))) rfl (zn (zU (List.length_set.trans n_b))) (zU (List.length_set.trans n_b)) ?_
   refine s_f (fun _ => point_go _ (zp b 31 ((zf b 31 0) ^^^ (h &&& (128 : UInt8)))) (List.length_set.trans n_b)) ?_
   refine s_a 1 0 32 (bys (zp b 31 ((zf b 31 0) ^^^ (h &&& (128 : UInt8))))) rfl (zn (zU (List.length_set.trans n_b))) (zU (List.length_set.trans n_b)) ?_
   refine s_f (fun _ => dispoint_go _ (zp b 31 ((zf b 31 0) ^^^ (h &&& (128 : UInt8)))) (List.length_set.trans n_b)) ?_
   refine s_p [(13, g_b (show ((isE (zp b 31 ((zf b 31 0) ^^^ (h &&& (128 : UInt8))))) == (isE (zp b 31 ((zf b 31 0) ^^^ (h &&& (128 : UInt8)))))) = true from (beq_self_eq_true _)))] ?_
   refine s_p [] ?_
   refine s_p [] ?_
   exact s_n
  exact a_e ⟨En98.sb, Hv99.pk [0, 1]⟩
 rintro _ _ ⟨En102, Hv103⟩
 refine zg <| wp_ret <| ZW (t := 4) (v := .bool true) En102 (by kernel_rfl) (by kernel_rfl) ?_
 exact ⟨rfl, Hv103.pk []⟩

end Go.Proofs.YtlnogkmnklfjlaaDoor

/- The package variables k32, k64: what the rows' lists give. -/





namespace Go.Proofs.YtlnogkmnklfjlaaDoor
open Go Go.Dbr
set_option maxRecDepth 100000
theorem g32 : Tryd.prog.globalNamed "drawbridge/sha.k32" = some 0 := by kernel_rfl
theorem g64 : Tryd.prog.globalNamed "drawbridge/sha.k64" = some 1 := by kernel_rfl
theorem ty32 : (Tryd.prog.globals[0]?).map (·.type) = some 112 := by kernel_rfl
theorem ty64 : (Tryd.prog.globals[1]?).map (·.type) = some 120 := by kernel_rfl
def zs32 : List Int := Sh.K32.map fun x => ((UInt32.toNat x : Nat) : Int)
def zs64 : List Int := Sh.K64.map fun x => ((UInt64.toNat x : Nat) : Int)
theorem tab32 {W : World} (h : laidMetH Tryd.prog Rows.edsigPointsRow.laid W) : Lib.TabIs Tryd.prog W "drawbridge/sha.k32" .u32 zs32 :=
  Lib.tabIs_of_head (rest := [("drawbridge/sha.k64", Rows.laid_drawbridge_sha_k64)]) (n := 64) (e := 103) g32 ty32 (by kernel_rfl) (by kernel_rfl) (by kernel_rfl) (by kernel_rfl) h
theorem tab64 {W : World} (h : laidMetH Tryd.prog Rows.edsigPointsRow.laid W) : Lib.TabIs Tryd.prog W "drawbridge/sha.k64" .u64 zs64 :=
  Lib.tabIs_of_head (rest := []) (n := 80) (e := 32) g64 ty64 (by kernel_rfl) (by kernel_rfl) (by kernel_rfl) (by kernel_rfl) (laidMet.tail (x := ("drawbridge/sha.k32", Rows.laid_drawbridge_sha_k32)) h)
theorem in32_laid {W : World} (h : laidMetH Tryd.prog Rows.edsigPointsRow.laid W) : InU32 W [] (some ⟨0, 0, none⟩) 64 Sh.K32 := by
  refine ⟨⟨fun j u hj => ?_, fun _ _ _ => Owns.nil⟩, fun e => (by cases e), (by decide), (by decide)⟩
  have hl : j < zs32.length := by
    have := (z7.1 hj).1
    rw [u32s_length] at this
    exact this
  have hc := (tab32 h).cell g32 j hl
  rw [add_off, Qo, hc, ← hj]
  have hk : j < Sh.K32.length := by simpa [zs32] using hl
  rw [u32s_getD hk]
  simp [zs32, zL hk]
  first | done | rfl
theorem in64_laid {W : World} (h : laidMetH Tryd.prog Rows.edsigPointsRow.laid W) : InU64 W [] (some ⟨1, 0, none⟩) 80 Sh.K64 := by
  refine ⟨⟨fun j u hj => ?_, fun _ _ _ => Owns.nil⟩, fun e => (by cases e), (by decide), (by decide)⟩
  have hl : j < zs64.length := by
    have := (z7.1 hj).1
    rw [u64s_length] at this
    exact this
  have hc := (tab64 h).cell g64 j hl
  rw [add_off, Qo, hc, ← hj]
  have hk : j < Sh.K64.length := by simpa [zs64] using hl
  rw [u64s_getD hk]
  simp [zs64, zL hk]
  first | done | rfl
end Go.Proofs.YtlnogkmnklfjlaaDoor
