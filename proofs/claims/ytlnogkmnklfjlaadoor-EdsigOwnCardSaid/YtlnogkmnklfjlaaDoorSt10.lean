import Derived.Test.YtlnogkmnklfjlaaDoorSt9
import Derived.Test.YtlnogkmnklfjlaaDoorSt2
open List renaming length → za, getD → zb, replicate → ze, length_replicate → zf, toArray → zi, take → zk, drop → zo, length_take → zp, length_drop → zr, drop_append → zw, take_append → zx, set → zy, length_append → zU, drop_drop → Qw, drop_append_of_le_length → Yg
open Go.Dbr renaming u64s_lenh → zc, then_normal → zg, u64s → zh, region_from → zm, uv64 → zn, u64s_one → zv, block_normal → zA, len_app → zD, then_exit → zI, seg_skip → zN, run_loadAgg2 → zR, u64s_getD → zY, loop_once → z7, block_exit → z9, u32s_lenh → Zc, u32s → Zh, h_from → Zi, op_slicearr → Zp, bys_one → ZD, run_load1 → ZO, bys_append → ZP, op_append → ZV, then_ret → Z0, d_ret1 → Qb, loop_m → Qh, bys_len → Qm, op_lit → Qu, block_ret → QC, cutAt → QO, set_skip → Q4, bys_vcap → YC, seg_in → YN, run_loadel → Jg, some_of → Jt, u64s_vnz → J6, bys_in_take → J9
open UInt64 renaming ofNat → zd, toUInt8 → zj
open Go.Dbr.Ev renaming drew → z4
open Nat renaming mul_one → Zo
open Go.Dbr.Reads renaming src → ZR
open Go.Proofs.YtlnogkmnklfjlaaDoor.Sh renaming mix64 → QB, wB64 → Jc, blk64 → JP, blk64_len → JQ, wB64_len → Xf, kL64 → Xg
/- Layer 5: a block is taken into a state: the walk. -/

namespace Go.Proofs.YtlnogkmnklfjlaaDoor.Sh
open Go.Dbr
set_option maxRecDepth 100000
set_option maxHeartbeats 2000000
set_option linter.unusedVariables false
set_option linter.unusedSimpArgs false

theorem blocked64_go (w : World) (bd : Nat) (hh : Int) (s : List UInt32) (hls : za s = 8) (s2 : List UInt64) (hls2 : za s2 = 8) (ar : Option Addr) (nr cr : Nat) (dn : UInt64) (aw : Option Addr) (cw : Nat) (w0 : List UInt64) (hw0 : za w0 = 16) (gk64 : InU64 w [.box bd (([.int .i64 hh] : List Value) ++ ((Zh s) ++ ((zh s2) ++ ([.slice ar nr cr, zn dn] : List Value)))) 106, .vec aw cw 1 (zh w0) 32] (some ⟨1, 0, none⟩) 80 K64) (hH : Heap w [.box bd (([.int .i64 hh] : List Value) ++ ((Zh s) ++ ((zh s2) ++ ([.slice ar nr cr, zn dn] : List Value)))) 106, .vec aw cw 1 (zh w0) 32]) : Calls Tryd.prog 89 #[.pointer (some ⟨bd, 9, none⟩), .slice aw 16 cw, .slice (some ⟨1, 0, none⟩) 80 80, .agg (zi Xg)] w fun e w' => e = .returned (.tuple #[]) ∧ Ev w [.box bd (([.int .i64 hh] : List Value) ++ ((Zh s) ++ ((zh s2) ++ ([.slice ar nr cr, zn dn] : List Value)))) 106, .vec aw cw 1 (zh w0) 32] w' [.box bd (([.int .i64 hh] : List Value) ++ ((Zh s) ++ ((zh (JP s2 w0)) ++ ([.slice ar nr cr, zn dn] : List Value)))) 106] := by
 rw [show (16 : Nat) = za w0 from hw0.symm]
 have hKl : za K64 = 80 := rfl
 refine d_0 [(0, .pointer (some ⟨bd, 9, none⟩)), (1, .slice aw (za w0) cw), (2, .slice (some ⟨1, 0, none⟩) 80 80), (3, .agg (zi Xg))] 179 Go.Proofs.Tryd.func89 Go.Proofs.Tryd.ntmps89 (hH) fun act0 En0 Hv0 => ?_
 refine wp_seq <| zm <| f_o <| m_m 115 Xg En0 Hv0 fun _ _ bk1 En4 Hv5 => ?_
 refine f_e <| zg <| wp_seq <| wp_seq <| d_r [0,1,2,7,8] [] En4 fun _ En7 => ?_
 refine zg <| wp_block <| Qh (fun ms8 ac wo => ∃ (q : Nat) (av : Option Addr) (cv : Nat) (wl : List UInt64), ms8 = (64 - q : Nat) ∧ Env ac 179 [(0, .pointer (some ⟨bd, 9, none⟩)), (1, .slice av (za wl) cv), (2, .slice (some ⟨1, 0, none⟩) 80 80), (7, pt bk1), (8, ni (16 + q))] ∧ Ev w [.box bd (([.int .i64 hh] : List Value) ++ ((Zh s) ++ ((zh s2) ++ ([.slice ar nr cr, zn dn] : List Value)))) 106, .vec aw cw 1 (zh w0) 32] wo [.vec av cv 1 (zh wl) 32, .box bd (([.int .i64 hh] : List Value) ++ ((Zh s) ++ ((zh s2) ++ ([.slice ar nr cr, zn dn] : List Value)))) 106, .box bk1 Xg 115] ∧ (q ≤ 64) ∧ (wl = sch64 w0 q)) ⟨_, 0, aw, cw, w0, rfl, En7.sb, Hv5.pk [1, 0, 2], by omega, rfl⟩ ?_
 rintro mm14 _ _ ⟨q, av, cv, wl, rfl, En12, Hv13, hq, hew⟩
 refine wp_seq <| wp_seq <| d_r [0,1,2,7,8,25] [] En12 fun _ En16 => ?_
 refine zg <| c_d (((16 + q : Nat) : Int) < (80 : Int)) En16 (fun hc17 => ?_) (fun hc17 => ?_)
 ·
  refine wp_skip <| zg <| wp_seq <| wp_block ?_
  have hwl : za wl = 16 + q := by rw [hew, sch64_len, hw0]
  refine r_c (fun ac wo => ∃ (ao3635 : Option Addr) (cp3636 : Nat), Env ac 179 [(0, .pointer (some ⟨bd, 9, none⟩)), (1, .slice ao3635 (za (wl ++ [(((QB (zb wl (14 + q) 0) 19 61 6 true) + (zb wl (9 + q) 0)) + (QB (zb wl (1 + q) 0) 1 8 7 true)) + (zb wl q 0)])) cp3636), (2, .slice (some ⟨1, 0, none⟩) 80 80), (7, pt bk1), (8, ni (16 + q))] ∧ Ev w [.box bd (([.int .i64 hh] : List Value) ++ ((Zh s) ++ ((zh s2) ++ ([.slice ar nr cr, zn dn] : List Value)))) 106, .vec aw cw 1 (zh w0) 32] wo [.vec ao3635 cp3636 1 (zh (wl ++ [(((QB (zb wl (14 + q) 0) 19 61 6 true) + (zb wl (9 + q) 0)) + (QB (zb wl (1 + q) 0) 1 8 7 true)) + (zb wl q 0)])) 32, .box bd (([.int .i64 hh] : List Value) ++ ((Zh s) ++ ((zh s2) ++ ([.slice ar nr cr, zn dn] : List Value)))) 106, .box bk1 Xg 115]) ?_ ?_
  ·
   refine h_s (fun wv => Ev w [.box bd (([.int .i64 hh] : List Value) ++ ((Zh s) ++ ((zh s2) ++ ([.slice ar nr cr, zn dn] : List Value)))) 106, .vec aw cw 1 (zh w0) 32] wv [.vec av cv 1 (zh wl) 32, .box bk1 Xg 115]) [35] 37 ?_
   have wo18 := Hv13.trans (z4 Hv13.heap)
   have hb3647 : 14 + q < za wl := (by omega)
   obtain ⟨adr3645, had3646⟩ := Jt (J6 wo18.heap (k := 0) rfl) hb3647
   refine q_s [0,1,2,3] [(3, g_n (w_r (e := ((16 + q : Nat) : Int) - (2 : Int)) (x := ((14 + q : Nat) : Int)) (by omega)))] 33 En16 (wo18.pk [0, 2]) fun _ En3649 => ?_
   refine q_f 4 (s := Instr.indexAt 118 (.slice av (za wl) cv) (ni (14 + q))) (v := .pointer (some (Addr.add adr3645 (14 + q)))) En3649 (fun _ => Go.Dbr.run_indexsl (e := 32) (sz := 1) (j := 14 + q) (jo := 14 + q) had3646 (by kernel_rfl) (by kernel_rfl) (by omega) hb3647 (Zo _) _) (fun _ => wo18.pk [0, 2]) fun _ En3651 => ?_
   have hb3652 : 14 + q < za wl := by omega
   refine q_r 5 (s := Instr.loadAt 32 (.pointer (some (Addr.add adr3645 (14 + q))))) (v := zn (zb wl (14 + q) 0)) En3651 (fun w hS => Jg (ad := adr3645) (o := 14 + q) rfl (hS.heap.reads (k := 0) rfl) had3646 (zY hb3652) (by kernel_rfl)) (wo18.pk [0, 2]) fun _ En3654 => ?_
   refine q_s [6] [] 30 En3654 (wo18.pk [0, 2]) fun _ En3656 => ?_
   refine q_l 1 7 En3656 (wo18.pk [0, 2]) fun _ En3658 => ?_
   refine q_s [8] [] 28 En3658 (wo18.pk [0, 2]) fun _ En3660 => ?_
   refine q_r 9 (s := Instr.loadAt 113 (.pointer (some ⟨bk1, 4, none⟩))) (v := .agg #[.int .i64 19, .int .i64 61, .int .i64 6]) En3660 (fun w hS => zR (m := 3) (cs := [.int .i64 19, .int .i64 61, .int .i64 6]) rfl (by kernel_rfl) (by kernel_rfl) (hS.heap.cells (k := 1) (off := 4) (m := 3) rfl rfl)) (wo18.pk [0, 2]) fun _ En3662 => ?_
   have hb3665 : 9 + q < za wl := (by omega)
   obtain ⟨adr3663, had3664⟩ := Jt (J6 wo18.heap (k := 0) rfl) hb3665
   refine q_s [11,12,13] [(13, g_n (w_r (e := ((16 + q : Nat) : Int) - (7 : Int)) (x := ((9 + q : Nat) : Int)) (by omega)))] 24 En3662 (wo18.pk [0, 2]) fun _ En3667 => ?_
   refine q_f 14 (s := Instr.indexAt 118 (.slice av (za wl) cv) (ni (9 + q))) (v := .pointer (some (Addr.add adr3663 (9 + q)))) En3667 (fun _ => Go.Dbr.run_indexsl (e := 32) (sz := 1) (j := 9 + q) (jo := 9 + q) had3664 (by kernel_rfl) (by kernel_rfl) (by omega) hb3665 (Zo _) _) (fun _ => wo18.pk [0, 2]) fun _ En3669 => ?_
   have hb3670 : 9 + q < za wl := by omega
   refine q_r 15 (s := Instr.loadAt 32 (.pointer (some (Addr.add adr3663 (9 + q))))) (v := zn (zb wl (9 + q) 0)) En3669 (fun w hS => Jg (ad := adr3663) (o := 9 + q) rfl (hS.heap.reads (k := 0) rfl) had3664 (zY hb3670) (by kernel_rfl)) (wo18.pk [0, 2]) fun _ En3672 => ?_
   have hb3675 : 1 + q < za wl := (by omega)
   obtain ⟨adr3673, had3674⟩ := Jt (J6 wo18.heap (k := 0) rfl) hb3675
   refine q_s [17,18,19] [(19, g_n (w_r (e := ((16 + q : Nat) : Int) - (15 : Int)) (x := ((1 + q : Nat) : Int)) (by omega)))] 19 En3672 (wo18.pk [0, 2]) fun _ En3677 => ?_
   refine q_f 20 (s := Instr.indexAt 118 (.slice av (za wl) cv) (ni (1 + q))) (v := .pointer (some (Addr.add adr3673 (1 + q)))) En3677 (fun _ => Go.Dbr.run_indexsl (e := 32) (sz := 1) (j := 1 + q) (jo := 1 + q) had3674 (by kernel_rfl) (by kernel_rfl) (by omega) hb3675 (Zo _) _) (fun _ => wo18.pk [0, 2]) fun _ En3679 => ?_
   have hb3680 : 1 + q < za wl := by omega
   refine q_r 21 (s := Instr.loadAt 32 (.pointer (some (Addr.add adr3673 (1 + q))))) (v := zn (zb wl (1 + q) 0)) En3679 (fun w hS => Jg (ad := adr3673) (o := 1 + q) rfl (hS.heap.reads (k := 0) rfl) had3674 (zY hb3680) (by kernel_rfl)) (wo18.pk [0, 2]) fun _ En3682 => ?_
   refine q_s [22] [] 16 En3682 (wo18.pk [0, 2]) fun _ En3684 => ?_
   refine q_l 1 23 En3684 (wo18.pk [0, 2]) fun _ En3686 => ?_
   refine q_s [24] [] 14 En3686 (wo18.pk [0, 2]) fun _ En3688 => ?_
   refine q_r 25 (s := Instr.loadAt 113 (.pointer (some ⟨bk1, 1, none⟩))) (v := .agg #[.int .i64 1, .int .i64 8, .int .i64 7]) En3688 (fun w hS => zR (m := 3) (cs := [.int .i64 1, .int .i64 8, .int .i64 7]) rfl (by kernel_rfl) (by kernel_rfl) (hS.heap.cells (k := 1) (off := 1) (m := 3) rfl rfl)) (wo18.pk [0, 2]) fun _ En3690 => ?_
   have hb3693 : q < za wl := (by omega)
   obtain ⟨adr3691, had3692⟩ := Jt (J6 wo18.heap (k := 0) rfl) hb3693
   refine q_s [28,29,30] [(30, g_n (w_r (e := ((16 + q : Nat) : Int) - (16 : Int)) (x := ((q : Nat) : Int)) (by omega)))] 10 En3690 (wo18.pk [0, 2]) fun _ En3695 => ?_
   refine q_f 31 (s := Instr.indexAt 118 (.slice av (za wl) cv) (ni q)) (v := .pointer (some (Addr.add adr3691 q))) En3695 (fun _ => Go.Dbr.run_indexsl (e := 32) (sz := 1) (j := q) (jo := q) had3692 (by kernel_rfl) (by kernel_rfl) (by omega) hb3693 (Zo _) _) (fun _ => wo18.pk [0, 2]) fun _ En3697 => ?_
   have hb3698 : q < za wl := by omega
   refine q_r 32 (s := Instr.loadAt 32 (.pointer (some (Addr.add adr3691 q)))) (v := zn (zb wl q 0)) En3697 (fun w hS => Jg (ad := adr3691) (o := q) rfl (hS.heap.reads (k := 0) rfl) had3692 (zY hb3698) (by kernel_rfl)) (wo18.pk [0, 2]) fun _ En3700 => ?_
   refine q_t 10 ?_
   refine c_p En3700 wo18 (mixed64_true _ (zb wl (14 + q) 0) 19 61 6 (by decide) (by decide) (by decide)) fun _ _ En3706 Hv3707 => ?_
   refine ⟨fun _ => Hv3707.pk [0, 2], ?_⟩
   refine q_s [16] [(16, g_i .u64 (Go.Dbr.u64_add (x := QB (zb wl (14 + q) 0) 19 61 6 true) (y := zb wl (9 + q) 0) rfl rfl))] 6 En3706 (Hv3707.pk [0, 2]) fun _ En3709 => ?_
   refine q_t 26 ?_
   refine c_p En3709 Hv3707 (mixed64_true _ (zb wl (1 + q) 0) 1 8 7 (by decide) (by decide) (by decide)) fun _ _ En3715 Hv3716 => ?_
   refine ⟨fun _ => Hv3716.pk [0, 2], ?_⟩
   refine q_s [27,33] [(27, g_i .u64 (Go.Dbr.u64_add (x := (QB (zb wl (14 + q) 0) 19 61 6 true) + (zb wl (9 + q) 0)) (y := QB (zb wl (1 + q) 0) 1 8 7 true) rfl rfl)), (33, g_i .u64 (Go.Dbr.u64_add (x := ((QB (zb wl (14 + q) 0) 19 61 6 true) + (zb wl (9 + q) 0)) + (QB (zb wl (1 + q) 0) 1 8 7 true)) (y := zb wl q 0) rfl rfl))] 3 En3715 (Hv3716.pk [0, 2]) fun _ En3718 => ?_
   refine q_t 34 ?_
   refine Qu (d := some 62) (t := 118) (T := 32) (m := 1) (parts := #[(0, zn ((((QB (zb wl (14 + q) 0) 19 61 6 true) + (zb wl (9 + q) 0)) + (QB (zb wl (1 + q) 0) 1 8 7 true)) + (zb wl q 0)))]) (xs := zh [(((QB (zb wl (14 + q) 0) 19 61 6 true) + (zb wl (9 + q) 0)) + (QB (zb wl (1 + q) 0) 1 8 7 true)) + (zb wl q 0)]) (sz := 1) En3718 (by kernel_rfl) (by kernel_rfl) rfl (by decide) Hv3716 ?_
   intro _ _ bk3719 En3722 Hv3723
   refine ⟨fun _ => Hv3723.pk [0, 2], ?_⟩
   refine q_t 35 ?_
   refine ZV (d := some 63) (t := 118) (tx := 118) (ty := 118) (k := 0) (p := za wl) (m := 1) (x := .slice (some ⟨bk3719, 0, none⟩) 1 1) (bytes := 8) En3722 (by kernel_rfl) Hv3723 rfl (u64s_len _) (ZR (size := 1) (tx := 118) (e' := 32) (by kernel_rfl) (Hv3723.heap.reads (k := 3) rfl) rfl (fun e => by cases e) (zv _)) (by kernel_rfl) (z := .int .u64 0) (by kernel_rfl) rfl (by decide) (by omega) (by unfold maxLen; omega) ?_
   intro _ _ ao3724 cp3725 En3730 Hv3731 hnz _
   clear hnz
   rw [← u64s_append] at Hv3731
   have ehz3726 : (za wl) + 1 = za (wl ++ [(((QB (zb wl (14 + q) 0) 19 61 6 true) + (zb wl (9 + q) 0)) + (QB (zb wl (1 + q) 0) 1 8 7 true)) + (zb wl q 0)]) := (by first | (simp; done) | (simp; omega) | omega)
   rw [ehz3726] at En3730
   refine ⟨q_y, ?_⟩
   refine q_n [36] [] 0 En3730 fun _ En3733 => ?_
   exact h_e ⟨ao3724, cp3725, En3733.sb, Hv3731.pk [0, 1, 2]⟩
  rintro _ _ ⟨ao3635, cp3636, En3736, Hv3737⟩
  refine zA <| zg <| d_r [0,1,2,7,8] [(1, g_n (w_a (16 + q) 1))] En3736 fun _ En3739 => ?_
  refine zg <| ⟨_, ⟨q + 1, ao3635, cp3636, (wl ++ [(((QB (zb wl (14 + q) 0) 19 61 6 true) + (zb wl (9 + q) 0)) + (QB (zb wl (1 + q) 0) 1 8 7 true)) + (zb wl q 0)]), rfl, En3739.sb, Hv3737.pk [0, 1, 2], by omega, by rw [hew]; rfl⟩, ?_⟩
  omega
 refine wp_exit <| zI <| zI <| z9 <| zg <| wp_seq ?_
 have hq64 : q = 64 := by omega
 have hwl : za wl = 80 := by rw [hew, sch64_len, hw0, hq64]
 refine r_c (fun ac wo => Env ac 179 [(0, .pointer (some ⟨bd, 9, none⟩)), (1, .slice av (za wl) cv), (2, .slice (some ⟨1, 0, none⟩) 80 80), (7, pt bk1), (8, ni (16 + q)), (9, zn (zb s2 0 0)), (10, zn (zb s2 1 0)), (11, zn (zb s2 2 0)), (12, zn (zb s2 3 0)), (13, zn (zb s2 4 0)), (14, zn (zb s2 5 0)), (15, zn (zb s2 6 0)), (16, zn (zb s2 7 0))] ∧ Ev w [.box bd (([.int .i64 hh] : List Value) ++ ((Zh s) ++ ((zh s2) ++ ([.slice ar nr cr, zn dn] : List Value)))) 106, .vec aw cw 1 (zh w0) 32] wo [.vec av cv 1 (zh wl) 32, .box bd (([.int .i64 hh] : List Value) ++ ((Zh s) ++ ((zh s2) ++ ([.slice ar nr cr, zn dn] : List Value)))) 106, .box bk1 Xg 115]) ?_ ?_
 ·
  refine h_s (fun wv => Ev w [.box bd (([.int .i64 hh] : List Value) ++ ((Zh s) ++ ((zh s2) ++ ([.slice ar nr cr, zn dn] : List Value)))) 106, .vec aw cw 1 (zh w0) 32] wv [.box bd (([.int .i64 hh] : List Value) ++ ((Zh s) ++ ((zh s2) ++ ([.slice ar nr cr, zn dn] : List Value)))) 106]) [] 40 ?_
  have wo3740 := Hv13.trans (z4 Hv13.heap)
  have hb9644 : 0 < za s2 := by rw [hls2]; omega
  refine q_s [0,1,2] [] 37 En16 (wo3740.pk [1]) fun _ En9646 => ?_
  refine q_r 3 (s := Instr.loadAt 32 (.pointer (some ⟨bd, 9, none⟩))) (v := zn (zb s2 0 0)) En9646 (fun w hS => ZO (by kernel_rfl) (hS.heap.cell (k := 0) rfl (zN (n := 1) (j := 8) rfl (zN (n := 8) (j := 0) (Zc hls) (YN (zY hb9644)))))) (wo3740.pk [1]) fun _ En9648 => ?_
  have hb9649 : 1 < za s2 := by rw [hls2]; omega
  refine q_s [4,5,6] [] 33 En9648 (wo3740.pk [1]) fun _ En9651 => ?_
  refine q_r 7 (s := Instr.loadAt 32 (.pointer (some ⟨bd, 10, none⟩))) (v := zn (zb s2 1 0)) En9651 (fun w hS => ZO (by kernel_rfl) (hS.heap.cell (k := 0) rfl (zN (n := 1) (j := 9) rfl (zN (n := 8) (j := 1) (Zc hls) (YN (zY hb9649)))))) (wo3740.pk [1]) fun _ En9653 => ?_
  have hb9654 : 2 < za s2 := by rw [hls2]; omega
  refine q_s [8,9,10] [] 29 En9653 (wo3740.pk [1]) fun _ En9656 => ?_
  refine q_r 11 (s := Instr.loadAt 32 (.pointer (some ⟨bd, 11, none⟩))) (v := zn (zb s2 2 0)) En9656 (fun w hS => ZO (by kernel_rfl) (hS.heap.cell (k := 0) rfl (zN (n := 1) (j := 10) rfl (zN (n := 8) (j := 2) (Zc hls) (YN (zY hb9654)))))) (wo3740.pk [1]) fun _ En9658 => ?_
  have hb9659 : 3 < za s2 := by rw [hls2]; omega
  refine q_s [12,13,14] [] 25 En9658 (wo3740.pk [1]) fun _ En9661 => ?_
  refine q_r 15 (s := Instr.loadAt 32 (.pointer (some ⟨bd, 12, none⟩))) (v := zn (zb s2 3 0)) En9661 (fun w hS => ZO (by kernel_rfl) (hS.heap.cell (k := 0) rfl (zN (n := 1) (j := 11) rfl (zN (n := 8) (j := 3) (Zc hls) (YN (zY hb9659)))))) (wo3740.pk [1]) fun _ En9663 => ?_
  have hb9664 : 4 < za s2 := by rw [hls2]; omega
  refine q_s [16,17,18] [] 21 En9663 (wo3740.pk [1]) fun _ En9666 => ?_
  refine q_r 19 (s := Instr.loadAt 32 (.pointer (some ⟨bd, 13, none⟩))) (v := zn (zb s2 4 0)) En9666 (fun w hS => ZO (by kernel_rfl) (hS.heap.cell (k := 0) rfl (zN (n := 1) (j := 12) rfl (zN (n := 8) (j := 4) (Zc hls) (YN (zY hb9664)))))) (wo3740.pk [1]) fun _ En9668 => ?_
  have hb9669 : 5 < za s2 := by rw [hls2]; omega
  refine q_s [20,21,22] [] 17 En9668 (wo3740.pk [1]) fun _ En9671 => ?_
  refine q_r 23 (s := Instr.loadAt 32 (.pointer (some ⟨bd, 14, none⟩))) (v := zn (zb s2 5 0)) En9671 (fun w hS => ZO (by kernel_rfl) (hS.heap.cell (k := 0) rfl (zN (n := 1) (j := 13) rfl (zN (n := 8) (j := 5) (Zc hls) (YN (zY hb9669)))))) (wo3740.pk [1]) fun _ En9673 => ?_
  have hb9674 : 6 < za s2 := by rw [hls2]; omega
  refine q_s [24,25,26] [] 13 En9673 (wo3740.pk [1]) fun _ En9676 => ?_
  refine q_r 27 (s := Instr.loadAt 32 (.pointer (some ⟨bd, 15, none⟩))) (v := zn (zb s2 6 0)) En9676 (fun w hS => ZO (by kernel_rfl) (hS.heap.cell (k := 0) rfl (zN (n := 1) (j := 14) rfl (zN (n := 8) (j := 6) (Zc hls) (YN (zY hb9674)))))) (wo3740.pk [1]) fun _ En9678 => ?_
  have hb9679 : 7 < za s2 := by rw [hls2]; omega
  refine q_s [28,29,30] [] 9 En9678 (wo3740.pk [1]) fun _ En9681 => ?_
  refine q_r 31 (s := Instr.loadAt 32 (.pointer (some ⟨bd, 16, none⟩))) (v := zn (zb s2 7 0)) En9681 (fun w hS => ZO (by kernel_rfl) (hS.heap.cell (k := 0) rfl (zN (n := 1) (j := 15) rfl (zN (n := 8) (j := 7) (Zc hls) (YN (zY hb9679)))))) (wo3740.pk [1]) fun _ En9683 => ?_
  refine q_s [32,33,34,35,36,37,38,39] [] 0 En9683 (wo3740.pk [1]) fun _ En9685 => ?_
  exact h_e ⟨En9685.sb, wo3740.pk [0, 1, 2]⟩
 rintro _ _ ⟨En9688, Hv9689⟩
 refine zg <| wp_seq <| wp_seq <| d_r [0,1,2,7,8,9,10,11,12,13,14,15,16,97,98] [] En9688 fun _ En9691 => ?_
 refine zg <| wp_block <| Qh (fun ms9692 ac wo => ∃ (j : Nat) (v : List UInt64), ms9692 = (80 - j : Nat) ∧ Env ac 179 [(0, .pointer (some ⟨bd, 9, none⟩)), (1, .slice av (za wl) cv), (2, .slice (some ⟨1, 0, none⟩) 80 80), (7, pt bk1), (8, ni (16 + q)), (9, zn (zb v 0 0)), (10, zn (zb v 1 0)), (11, zn (zb v 2 0)), (12, zn (zb v 3 0)), (13, zn (zb v 4 0)), (14, zn (zb v 5 0)), (15, zn (zb v 6 0)), (16, zn (zb v 7 0)), (97, .int .i64 80), (98, ni j)] ∧ Ev w [.box bd (([.int .i64 hh] : List Value) ++ ((Zh s) ++ ((zh s2) ++ ([.slice ar nr cr, zn dn] : List Value)))) 106, .vec aw cw 1 (zh w0) 32] wo [.vec av cv 1 (zh wl) 32, .box bd (([.int .i64 hh] : List Value) ++ ((Zh s) ++ ((zh s2) ++ ([.slice ar nr cr, zn dn] : List Value)))) 106, .box bk1 Xg 115] ∧ (j ≤ 80) ∧ (v = rnd64 wl s2 j)) ⟨_, 0, s2, rfl, En9691.sb, Hv9689.pk [0, 1, 2], by omega, rfl⟩ ?_
 rintro mm9698 _ _ ⟨j, v, rfl, En9696, Hv9697, hj, hev⟩
 refine wp_seq <| d_r [0,1,2,7,8,9,10,11,12,13,14,15,16,97,98,99] [] En9696 fun _ En9700 => ?_
 refine zg <| wp_seq <| c_d (((j : Nat) : Int) < (80 : Int)) En9700 (fun hc9701 => ?_) (fun hc9701 => ?_)
 ·
  refine wp_skip <| zg <| wp_seq <| wp_block <| wp_seq <| d_r [0,1,2,7,8,9,10,11,12,13,14,15,16,17,97,98] [] En9700 fun _ En9703 => ?_
  refine zg <| wp_seq <| r_c (fun ac wo => Env ac 179 [(0, .pointer (some ⟨bd, 9, none⟩)), (1, .slice av (za wl) cv), (2, .slice (some ⟨1, 0, none⟩) 80 80), (7, pt bk1), (8, ni (16 + q)), (9, zn (zb v 0 0)), (10, zn (zb v 1 0)), (11, zn (zb v 2 0)), (12, zn (zb v 3 0)), (13, zn (zb v 4 0)), (14, zn (zb v 5 0)), (15, zn (zb v 6 0)), (16, zn (zb v 7 0)), (18, zn (((((zb v 7 0) + (QB (zb v 4 0) 14 18 41 false)) + ((zb v 6 0) ^^^ ((zb v 4 0) &&& ((zb v 5 0) ^^^ (zb v 6 0))))) + (zb K64 j 0)) + (zb wl j 0))), (97, .int .i64 80), (98, ni j)] ∧ Ev w [.box bd (([.int .i64 hh] : List Value) ++ ((Zh s) ++ ((zh s2) ++ ([.slice ar nr cr, zn dn] : List Value)))) 106, .vec aw cw 1 (zh w0) 32] wo [.vec av cv 1 (zh wl) 32, .box bd (([.int .i64 hh] : List Value) ++ ((Zh s) ++ ((zh s2) ++ ([.slice ar nr cr, zn dn] : List Value)))) 106, .box bk1 Xg 115]) ?_ ?_
  ·
   refine h_s (fun wv => Ev w [.box bd (([.int .i64 hh] : List Value) ++ ((Zh s) ++ ((zh s2) ++ ([.slice ar nr cr, zn dn] : List Value)))) 106, .vec aw cw 1 (zh w0) 32] wv [.vec av cv 1 (zh wl) 32, .box bk1 Xg 115]) [] 27 ?_
   have wo9704 := Hv9697.trans (z4 Hv9697.heap)
   refine q_s [0,1,2] [] 24 En9703 (wo9704.pk [0, 2]) fun _ En9919 => ?_
   refine q_l 1 3 En9919 (wo9704.pk [0, 2]) fun _ En9921 => ?_
   refine q_s [4] [] 22 En9921 (wo9704.pk [0, 2]) fun _ En9923 => ?_
   refine q_r 5 (s := Instr.loadAt 113 (.pointer (some ⟨bk1, 10, none⟩))) (v := .agg #[.int .i64 14, .int .i64 18, .int .i64 41]) En9923 (fun w hS => zR (m := 3) (cs := [.int .i64 14, .int .i64 18, .int .i64 41]) rfl (by kernel_rfl) (by kernel_rfl) (hS.heap.cells (k := 1) (off := 10) (m := 3) rfl rfl)) (wo9704.pk [0, 2]) fun _ En9925 => ?_
   have hb9928 : j < 80 := (by omega)
   refine q_s [8,9,10,11,12,13,14,16,17] [(12, g_i .u64 (Go.Dbr.u64_xor (x := zb v 5 0) (y := zb v 6 0) rfl rfl)), (13, g_i .u64 (Go.Dbr.u64_and (x := zb v 4 0) (y := (zb v 5 0) ^^^ (zb v 6 0)) rfl rfl)), (14, g_i .u64 (Go.Dbr.u64_xor (x := zb v 6 0) (y := (zb v 4 0) &&& ((zb v 5 0) ^^^ (zb v 6 0))) rfl rfl))] 12 En9925 (wo9704.pk [0, 2]) fun _ En9930 => ?_
   refine q_f 18 (s := Instr.indexAt 118 (.slice (some ⟨1, 0, none⟩) 80 80) (ni j)) (v := .pointer (some (Addr.add ⟨1, 0, none⟩ j))) En9930 (fun _ => Go.Dbr.run_indexsl (e := 32) (sz := 1) (j := j) (jo := j) rfl (by kernel_rfl) (by kernel_rfl) (by omega) hb9928 (Zo _) _) (fun _ => wo9704.pk [0, 2]) fun _ En9932 => ?_
   have hb9933 : j < za K64 := by omega
   refine q_r 19 (s := Instr.loadAt 32 (.pointer (some (Addr.add ⟨1, 0, none⟩ j)))) (v := zn (zb K64 j 0)) En9932 (fun w hS => Jg (ad := ⟨1, 0, none⟩) (o := j) rfl (gk64.ev hS).reads rfl (zY hb9933) (by kernel_rfl)) (wo9704.pk [0, 2]) fun _ En9935 => ?_
   have hb9938 : j < za wl := (by omega)
   obtain ⟨adr9936, had9937⟩ := Jt (J6 wo9704.heap (k := 0) rfl) hb9938
   refine q_s [21,22] [] 8 En9935 (wo9704.pk [0, 2]) fun _ En9940 => ?_
   refine q_f 23 (s := Instr.indexAt 118 (.slice av (za wl) cv) (ni j)) (v := .pointer (some (Addr.add adr9936 j))) En9940 (fun _ => Go.Dbr.run_indexsl (e := 32) (sz := 1) (j := j) (jo := j) had9937 (by kernel_rfl) (by kernel_rfl) (by omega) hb9938 (Zo _) _) (fun _ => wo9704.pk [0, 2]) fun _ En9942 => ?_
   have hb9943 : j < za wl := by omega
   refine q_r 24 (s := Instr.loadAt 32 (.pointer (some (Addr.add adr9936 j)))) (v := zn (zb wl j 0)) En9942 (fun w hS => Jg (ad := adr9936) (o := j) rfl (hS.heap.reads (k := 0) rfl) had9937 (zY hb9943) (by kernel_rfl)) (wo9704.pk [0, 2]) fun _ En9945 => ?_
   refine q_t 6 ?_
   refine c_p En9945 wo9704 (mixed64_false _ (zb v 4 0) 14 18 41 (by decide) (by decide) (by decide)) fun _ _ En9951 Hv9952 => ?_
   refine ⟨fun _ => Hv9952.pk [0, 2], ?_⟩
   refine q_s [7,15,20,25,26] [(7, g_i .u64 (Go.Dbr.u64_add (x := zb v 7 0) (y := QB (zb v 4 0) 14 18 41 false) rfl rfl)), (15, g_i .u64 (Go.Dbr.u64_add (x := (zb v 7 0) + (QB (zb v 4 0) 14 18 41 false)) (y := (zb v 6 0) ^^^ ((zb v 4 0) &&& ((zb v 5 0) ^^^ (zb v 6 0)))) rfl rfl)), (20, g_i .u64 (Go.Dbr.u64_add (x := ((zb v 7 0) + (QB (zb v 4 0) 14 18 41 false)) + ((zb v 6 0) ^^^ ((zb v 4 0) &&& ((zb v 5 0) ^^^ (zb v 6 0))))) (y := zb K64 j 0) rfl rfl)), (25, g_i .u64 (Go.Dbr.u64_add (x := (((zb v 7 0) + (QB (zb v 4 0) 14 18 41 false)) + ((zb v 6 0) ^^^ ((zb v 4 0) &&& ((zb v 5 0) ^^^ (zb v 6 0))))) + (zb K64 j 0)) (y := zb wl j 0) rfl rfl))] 0 En9951 (Hv9952.pk [0, 2]) fun _ En9954 => ?_
   exact h_e ⟨En9954.sb, Hv9952.pk [0, 1, 2]⟩
  rintro _ _ ⟨En9957, Hv9958⟩
  refine zg <| wp_seq <| zm <| d_k [0,1,2,7,8,9,10,11,12,13,14,15,16,18,97,98,127,128] [] 2 En9957 fun _ En9960 => ?_
  refine f_o <| m_l 2 En9960 Hv9958 fun _ En9962 => ?_
  refine d_k [0,1,2,7,8,9,10,11,12,13,14,15,16,18,97,98,127,129,130] [] 4 En9962 fun _ En9964 => ?_
  refine f_o <| m_a 2 7 3 [.int .i64 28, .int .i64 34, .int .i64 39] En9964 Hv9958 rfl rfl rfl fun _ En9966 => ?_
  refine f_o <| c_p En9966 Hv9958 (mixed64_false _ (zb v 0 0) 28 34 39 (by decide) (by decide) (by decide)) fun _ _ En9972 Hv9973 => ?_
  refine d_e [0,1,2,7,8,9,10,11,12,13,14,15,16,18,19,97,98] [(8, g_i .u64 (Go.Dbr.u64_and (x := zb v 0 0) (y := zb v 1 0) rfl rfl)), (12, g_i .u64 (Go.Dbr.u64_or (x := zb v 0 0) (y := zb v 1 0) rfl rfl)), (13, g_i .u64 (Go.Dbr.u64_and (x := zb v 2 0) (y := (zb v 0 0) ||| (zb v 1 0)) rfl rfl)), (14, g_i .u64 (Go.Dbr.u64_or (x := (zb v 0 0) &&& (zb v 1 0)) (y := (zb v 2 0) &&& ((zb v 0 0) ||| (zb v 1 0))) rfl rfl)), (15, g_i .u64 (Go.Dbr.u64_add (x := QB (zb v 0 0) 28 34 39 false) (y := ((zb v 0 0) &&& (zb v 1 0)) ||| ((zb v 2 0) &&& ((zb v 0 0) ||| (zb v 1 0)))) rfl rfl))] En9972 fun _ En9975 => ?_
  refine zg <| d_r [0,1,2,7,8,9,10,11,12,13,14,15,16,97,98] [(2, g_i .u64 (Go.Dbr.u64_add (x := ((((zb v 7 0) + (QB (zb v 4 0) 14 18 41 false)) + ((zb v 6 0) ^^^ ((zb v 4 0) &&& ((zb v 5 0) ^^^ (zb v 6 0))))) + (zb K64 j 0)) + (zb wl j 0)) (y := (QB (zb v 0 0) 28 34 39 false) + (((zb v 0 0) &&& (zb v 1 0)) ||| ((zb v 2 0) &&& ((zb v 0 0) ||| (zb v 1 0))))) rfl rfl)), (8, g_i .u64 (Go.Dbr.u64_add (x := zb v 3 0) (y := ((((zb v 7 0) + (QB (zb v 4 0) 14 18 41 false)) + ((zb v 6 0) ^^^ ((zb v 4 0) &&& ((zb v 5 0) ^^^ (zb v 6 0))))) + (zb K64 j 0)) + (zb wl j 0)) rfl rfl))] En9975 fun _ En9977 => ?_
  refine zA <| zg <| d_r [0,1,2,7,8,9,10,11,12,13,14,15,16,97,98] [(0, g_n (w_a j 1))] En9977 fun _ En9979 => ?_
  refine zg ?_
  have hv2 : step64 v (zb K64 j 0) (zb wl j 0) = [(((((zb v 7 0) + (QB (zb v 4 0) 14 18 41 false)) + ((zb v 6 0) ^^^ ((zb v 4 0) &&& ((zb v 5 0) ^^^ (zb v 6 0))))) + (zb K64 j 0)) + (zb wl j 0)) + ((QB (zb v 0 0) 28 34 39 false) + (((zb v 0 0) &&& (zb v 1 0)) ||| ((zb v 2 0) &&& ((zb v 0 0) ||| (zb v 1 0))))), zb v 0 0, zb v 1 0, zb v 2 0, (zb v 3 0) + (((((zb v 7 0) + (QB (zb v 4 0) 14 18 41 false)) + ((zb v 6 0) ^^^ ((zb v 4 0) &&& ((zb v 5 0) ^^^ (zb v 6 0))))) + (zb K64 j 0)) + (zb wl j 0)), zb v 4 0, zb v 5 0, zb v 6 0] := rfl
  refine ⟨_, ⟨j + 1, [(((((zb v 7 0) + (QB (zb v 4 0) 14 18 41 false)) + ((zb v 6 0) ^^^ ((zb v 4 0) &&& ((zb v 5 0) ^^^ (zb v 6 0))))) + (zb K64 j 0)) + (zb wl j 0)) + ((QB (zb v 0 0) 28 34 39 false) + (((zb v 0 0) &&& (zb v 1 0)) ||| ((zb v 2 0) &&& ((zb v 0 0) ||| (zb v 1 0))))), zb v 0 0, zb v 1 0, zb v 2 0, (zb v 3 0) + (((((zb v 7 0) + (QB (zb v 4 0) 14 18 41 false)) + ((zb v 6 0) ^^^ ((zb v 4 0) &&& ((zb v 5 0) ^^^ (zb v 6 0))))) + (zb K64 j 0)) + (zb wl j 0)), zb v 4 0, zb v 5 0, zb v 6 0], rfl, En9979.sb, Hv9973.pk [0, 1, 2], by omega, by rw [← hv2, hev]; rfl⟩, ?_⟩
  omega
 refine wp_exit <| zI <| zI <| z9 <| zg <| wp_seq ?_
 have hjn : j = 80 := by omega
 have hvl : za v = 8 := by rw [hev, hjn]; rfl
 refine d_r [0,1,2,7,8,9,10,11,12,13,14,15,16,97,98,164,165] [] En9700 fun _ En9981 => ?_
 refine zg <| wp_block ?_
 have hlv : ([zb v 0 0, zb v 1 0, zb v 2 0, zb v 3 0, zb v 4 0, zb v 5 0, zb v 6 0, zb v 7 0] : List UInt64) = v := by rcases v8 hvl with ⟨a0, a1, a2, a3, a4, a5, a6, a7, rfl⟩; rfl
 refine Qh (fun ms9982 ac wo => ∃ (i : Nat) (sx : List UInt64), ms9982 = (8 - i : Nat) ∧ Env ac 179 [(0, .pointer (some ⟨bd, 9, none⟩)), (1, .slice av (za wl) cv), (2, .slice (some ⟨1, 0, none⟩) 80 80), (7, pt bk1), (8, ni (16 + q)), (9, zn (zb v 0 0)), (10, zn (zb v 1 0)), (11, zn (zb v 2 0)), (12, zn (zb v 3 0)), (13, zn (zb v 4 0)), (14, zn (zb v 5 0)), (15, zn (zb v 6 0)), (16, zn (zb v 7 0)), (97, .int .i64 80), (98, ni j), (164, .agg (zi (zh ([zb v 0 0, zb v 1 0, zb v 2 0, zb v 3 0, zb v 4 0, zb v 5 0, zb v 6 0, zb v 7 0] : List UInt64)))), (165, ni i)] ∧ Ev w [.box bd (([.int .i64 hh] : List Value) ++ ((Zh s) ++ ((zh s2) ++ ([.slice ar nr cr, zn dn] : List Value)))) 106, .vec aw cw 1 (zh w0) 32] wo [.box bd (([.int .i64 hh] : List Value) ++ ((Zh s) ++ ((zh sx) ++ ([.slice ar nr cr, zn dn] : List Value)))) 106, .vec av cv 1 (zh wl) 32, .box bk1 Xg 115] ∧ (i ≤ 8) ∧ (za sx = 8) ∧ (sx = add64 s2 v i)) ⟨_, 0, s2, rfl, En9981.sb, Hv9697.pk [1, 0, 2], by omega, hls2, rfl⟩ ?_
 rintro mm9988 _ _ ⟨i, sx, rfl, En9986, Hv9987, hi, hlx, hes⟩
 refine wp_seq <| d_r [0,1,2,7,8,9,10,11,12,13,14,15,16,97,98,164,165,166] [] En9986 fun _ En9990 => ?_
 refine zg <| wp_seq <| c_d (((i : Nat) : Int) < (8 : Int)) En9990 (fun hc9991 => ?_) (fun hc9991 => ?_)
 ·
  refine wp_skip <| zg <| wp_seq <| wp_block <| wp_seq ?_
  have hb9992 : i < za ([zb v 0 0, zb v 1 0, zb v 2 0, zb v 3 0, zb v 4 0, zb v 5 0, zb v 6 0, zb v 7 0] : List UInt64) := by rw [(show za ([zb v 0 0, zb v 1 0, zb v 2 0, zb v 3 0, zb v 4 0, zb v 5 0, zb v 6 0, zb v 7 0] : List UInt64) = 8 from rfl)]; omega
  refine zm <| d_k [0,1,2,7,8,9,10,11,12,13,14,15,16,97,98,164,165,167] [] 1 En9990 fun _ En9994 => ?_
  refine f_o <| q_v (x := Instr.index 91 (.agg (zi (zh ([zb v 0 0, zb v 1 0, zb v 2 0, zb v 3 0, zb v 4 0, zb v 5 0, zb v 6 0, zb v 7 0] : List UInt64)))) (ni i)) (v := zn (zb ([zb v 0 0, zb v 1 0, zb v 2 0, zb v 3 0, zb v 4 0, zb v 5 0, zb v 6 0, zb v 7 0] : List UInt64) i 0)) En9994 (Go.Dbr.run_indexval (e := 32) (m := 8) (cs := zh ([zb v 0 0, zb v 1 0, zb v 2 0, zb v 3 0, zb v 4 0, zb v 5 0, zb v 6 0, zb v 7 0] : List UInt64)) (j := i) (v := zn (zb ([zb v 0 0, zb v 1 0, zb v 2 0, zb v 3 0, zb v 4 0, zb v 5 0, zb v 6 0, zb v 7 0] : List UInt64) i 0)) (by kernel_rfl) (by kernel_rfl) (by kernel_rfl) (by omega) (by omega) (zY hb9992) _) fun _ En9996 => ?_
  refine d_e [0,1,2,7,8,9,10,11,12,13,14,15,16,20,21,97,98,164,165] [] En9996 fun _ En9998 => ?_
  refine zg <| r_c (fun ac wo => Env ac 179 [(0, .pointer (some ⟨bd, 9, none⟩)), (1, .slice av (za wl) cv), (2, .slice (some ⟨1, 0, none⟩) 80 80), (7, pt bk1), (8, ni (16 + q)), (9, zn (zb v 0 0)), (10, zn (zb v 1 0)), (11, zn (zb v 2 0)), (12, zn (zb v 3 0)), (13, zn (zb v 4 0)), (14, zn (zb v 5 0)), (15, zn (zb v 6 0)), (16, zn (zb v 7 0)), (97, .int .i64 80), (98, ni j), (164, .agg (zi (zh ([zb v 0 0, zb v 1 0, zb v 2 0, zb v 3 0, zb v 4 0, zb v 5 0, zb v 6 0, zb v 7 0] : List UInt64)))), (165, ni i)] ∧ Ev w [.box bd (([.int .i64 hh] : List Value) ++ ((Zh s) ++ ((zh s2) ++ ([.slice ar nr cr, zn dn] : List Value)))) 106, .vec aw cw 1 (zh w0) 32] wo [.box bd (([.int .i64 hh] : List Value) ++ ((Zh s) ++ ((zh (zy sx i ((zb sx i 0) + (zb ([zb v 0 0, zb v 1 0, zb v 2 0, zb v 3 0, zb v 4 0, zb v 5 0, zb v 6 0, zb v 7 0] : List UInt64) i 0)))) ++ ([.slice ar nr cr, zn dn] : List Value)))) 106, .vec av cv 1 (zh wl) 32, .box bk1 Xg 115]) ?_ ?_
  ·
   refine draw_any (by kernel_rfl) 10 (by kernel_rfl) ?_
   have wo9999 := Hv9987.trans (z4 Hv9987.heap)
   refine q_a [0,1,2] [] 7 En9998 fun _ En10019 => ?_
   refine q_g 3 (s := Instr.indexAt 91 (.pointer (some ⟨bd, 9, none⟩)) (ni i)) (v := .pointer (some ⟨bd, 9 + i, none⟩)) En10019 (fun _ => Go.Dbr.run_indexarr (e := 32) (sz := 1) (m := 8) (j := i) (o := 9 + i) (by kernel_rfl) (by kernel_rfl) (by omega) (by omega) (by omega) _) fun _ En10021 => ?_
   refine q_a [5,7] [] 4 En10021 fun _ En10023 => ?_
   refine q_u 4 ?_
   have hb10024 : i < za sx := by rw [hlx]; omega
   refine m_v 0 (9 + i) (zn (zb sx i 0)) En10023 wo9999 rfl (seg_eq (by omega) (zN (n := 1) (j := 8 + (i)) rfl (zN (n := 8) (j := i) (Zc hls) (YN (zY hb10024))))) fun _ En10026 => ?_
   refine q_a [6] [(6, g_i .u64 (Go.Dbr.u64_add (x := zb sx i 0) (y := zb ([zb v 0 0, zb v 1 0, zb v 2 0, zb v 3 0, zb v 4 0, zb v 5 0, zb v 6 0, zb v 7 0] : List UInt64) i 0) rfl rfl))] 2 En10026 fun _ En10028 => ?_
   refine q_g 8 (s := Instr.indexAt 91 (.pointer (some ⟨bd, 9, none⟩)) (ni i)) (v := .pointer (some ⟨bd, 9 + i, none⟩)) En10028 (fun _ => Go.Dbr.run_indexarr (e := 32) (sz := 1) (m := 8) (j := i) (o := 9 + i) (by kernel_rfl) (by kernel_rfl) (by omega) (by omega) (by omega) _) fun _ En10030 => ?_
   refine q_u 9 ?_
   have hb10031 : i < za sx := by rw [hlx]; omega
   refine m_t 0 (9 + i) (zn ((zb sx i 0) + (zb ([zb v 0 0, zb v 1 0, zb v 2 0, zb v 3 0, zb v 4 0, zb v 5 0, zb v 6 0, zb v 7 0] : List UInt64) i 0))) [.box bd (([.int .i64 hh] : List Value) ++ ((Zh s) ++ ((zh (zy sx i ((zb sx i 0) + (zb ([zb v 0 0, zb v 1 0, zb v 2 0, zb v 3 0, zb v 4 0, zb v 5 0, zb v 6 0, zb v 7 0] : List UInt64) i 0)))) ++ ([.slice ar nr cr, zn dn] : List Value)))) 106, .vec av cv 1 (zh wl) 32, .box bk1 Xg 115] En10030 wo9999 rfl (seg_eq (by omega) (zN (n := 1) (j := 8 + (i)) rfl (zN (n := 8) (j := i) (Zc hls) (YN (zY hb10031))))) (set_eq (j := 1 + (8 + (i))) (by omega) ((Q4 (n := 1) (j := 8 + (i)) rfl).trans (congrArg (([.int .i64 hh] : List Value) ++ ·) ((Q4 (n := 8) (j := i) (Zc hls)).trans (congrArg ((Zh s) ++ ·) ((set_in (by rw [(zc hlx)]; omega)).trans (congrArg (· ++ [.slice ar nr cr, zn dn]) (u64s_set _ _ _)))))))) rfl fun _ _ En10034 Hv10035 => ?_
   exact a_e ⟨En10034.sb, Hv10035.pk [0, 1, 2]⟩
  rintro _ _ ⟨En10038, Hv10039⟩
  refine zA <| zg <| d_r [0,1,2,7,8,9,10,11,12,13,14,15,16,97,98,164,165] [(0, g_n (w_a i 1))] En10038 fun _ En10041 => ?_
  refine zg <| ⟨_, ⟨i + 1, (zy sx i ((zb sx i 0) + (zb ([zb v 0 0, zb v 1 0, zb v 2 0, zb v 3 0, zb v 4 0, zb v 5 0, zb v 6 0, zb v 7 0] : List UInt64) i 0))), rfl, En10041.sb, Hv10039.pk [0, 1, 2], by omega, (List.length_set.trans hlx), by rw [hes, hlv]; rfl⟩, ?_⟩
  omega
 refine wp_exit <| zI <| zI <| z9 <| d_end0 En9990 (by kernel_rfl) ?_
 have hi8 : i = 8 := by omega
 have hres : sx = JP s2 w0 := by rw [hes, hi8, hev, hjn, hew, hq64]; rfl
 rw [show sx = (JP s2 w0) from hres] at Hv9987
 exact ⟨rfl, Hv9987.pk [0]⟩

end Go.Proofs.YtlnogkmnklfjlaaDoor.Sh

/- Layer 5: Block, Size, New. -/

namespace Go.Proofs.YtlnogkmnklfjlaaDoor.Sh
open Go.Dbr
set_option maxRecDepth 100000
set_option maxHeartbeats 2000000
set_option linter.unusedVariables false
set_option linter.unusedSimpArgs false

def blockOf (h : Int) : Nat := if h = 1 then 64 else if h = 2 then 128 else if h = 3 then 128 else 0
def sizeOfH (h : Int) : Nat := if h = 1 then 32 else if h = 2 then 48 else if h = 3 then 64 else 0
def init32 : List UInt32 := [1779033703, 3144134277, 1013904242, 2773480762, 1359893119, 2600822924, 528734635, 1541459225]
def zero32 : List UInt32 := ze 8 0
def init64 (h : Int) : List UInt64 := if h = 2 then [14680500436340154072, 7105036623409894663, 10473403895298186519, 1526699215303891257, 7436329637833083697, 10282925794625328401, 15784041429090275239, 5167115440072839076] else if h = 3 then [7640891576956012808, 13503953896175478587, 4354685564936845355, 11912009170470909681, 5840696475078001361, 11170449401992604703, 2270897969802886507, 6620516959819538809] else ze 8 0
def in32 (h : Int) : List UInt32 := if h = 1 then init32 else zero32
theorem init64_len (h : Int) : (init64 h).length = 8 := by unfold init64; split; rfl; split <;> rfl

theorem block_go2 (w : World) : Calls Tryd.prog 86 #[.int .i64 2] w fun e w' => e = .returned (ni (blockOf 2)) ∧ Ev w [] w' [] := by
 refine d_0 [(0, .int .i64 2)] 9 Go.Proofs.Tryd.func86 Go.Proofs.Tryd.ntmps86 (Heap.nil _) fun act0 En0 Hv0 => ?_
 refine d_s [0,2] [] En0 fun _ En2 => ?_
 refine wp_seq <| d_s [2,3] [] En2 fun _ En4 => ?_
 refine wp_block <| d_s [2,3,4] [] En4 fun _ En6 => ?_
 refine c_f En6 ?_
 refine wp_seq <| d_s [2,3,6] [] En6 fun _ En8 => ?_
 refine c_t En8 ?_
 refine wp_skip <| zg <| c_t En8 ?_
 refine d_s [2,3,6] [] En8 fun _ En10 => ?_
 refine wp_ret <| QC <| Z0 <| Qb (t := 2) (v := .int .i64 128) En10 (by kernel_rfl) (by kernel_rfl) ?_
 exact ⟨rfl, Hv0.pk []⟩

theorem block_go3 (w : World) : Calls Tryd.prog 86 #[.int .i64 3] w fun e w' => e = .returned (ni (blockOf 3)) ∧ Ev w [] w' [] := by
 refine d_0 [(0, .int .i64 3)] 9 Go.Proofs.Tryd.func86 Go.Proofs.Tryd.ntmps86 (Heap.nil _) fun act0 En0 Hv0 => ?_
 refine d_s [0,2] [] En0 fun _ En2 => ?_
 refine wp_seq <| d_s [2,3] [] En2 fun _ En4 => ?_
 refine wp_block <| d_s [2,3,4] [] En4 fun _ En6 => ?_
 refine c_f En6 ?_
 refine wp_seq <| d_s [2,3,6] [] En6 fun _ En8 => ?_
 refine c_f En8 ?_
 refine d_r [2,3,6] [] En8 fun _ En10 => ?_
 refine zg <| c_t En10 ?_
 refine d_s [2,3,6] [] En10 fun _ En12 => ?_
 refine wp_ret <| QC <| Z0 <| Qb (t := 2) (v := .int .i64 128) En12 (by kernel_rfl) (by kernel_rfl) ?_
 exact ⟨rfl, Hv0.pk []⟩

theorem size_go1 (w : World) : Calls Tryd.prog 93 #[.int .i64 1] w fun e w' => e = .returned (ni (sizeOfH 1)) ∧ Ev w [] w' [] := by
 refine d_0 [(0, .int .i64 1)] 11 Go.Proofs.Tryd.func93 Go.Proofs.Tryd.ntmps93 (Heap.nil _) fun act0 En0 Hv0 => ?_
 refine d_s [0,2] [] En0 fun _ En2 => ?_
 refine wp_seq <| d_s [0,2,3] [] En2 fun _ En4 => ?_
 refine wp_block <| wp_seq <| d_s [0,2,3,4] [] En4 fun _ En6 => ?_
 refine c_t En6 ?_
 refine wp_skip <| zg <| c_t En6 ?_
 refine d_s [0,2,3,4] [] En6 fun _ En8 => ?_
 refine wp_ret <| QC <| Z0 <| Qb (t := 2) (v := .int .i64 32) En8 (by kernel_rfl) (by kernel_rfl) ?_
 exact ⟨rfl, Hv0.pk []⟩

theorem size_go2 (w : World) : Calls Tryd.prog 93 #[.int .i64 2] w fun e w' => e = .returned (ni (sizeOfH 2)) ∧ Ev w [] w' [] := by
 refine d_0 [(0, .int .i64 2)] 11 Go.Proofs.Tryd.func93 Go.Proofs.Tryd.ntmps93 (Heap.nil _) fun act0 En0 Hv0 => ?_
 refine d_s [0,2] [] En0 fun _ En2 => ?_
 refine wp_seq <| d_s [0,2,3] [] En2 fun _ En4 => ?_
 refine wp_block <| wp_seq <| d_s [0,2,3,4] [] En4 fun _ En6 => ?_
 refine c_f En6 ?_
 refine d_s [0,2,3,4] [] En6 fun _ En8 => ?_
 refine c_t En8 ?_
 refine wp_skip <| zg <| c_t En8 ?_
 refine d_s [0,2,3,4] [] En8 fun _ En10 => ?_
 refine wp_ret <| QC <| Z0 <| Qb (t := 2) (v := .int .i64 48) En10 (by kernel_rfl) (by kernel_rfl) ?_
 exact ⟨rfl, Hv0.pk []⟩

theorem size_go3 (w : World) : Calls Tryd.prog 93 #[.int .i64 3] w fun e w' => e = .returned (ni (sizeOfH 3)) ∧ Ev w [] w' [] := by
 refine d_0 [(0, .int .i64 3)] 11 Go.Proofs.Tryd.func93 Go.Proofs.Tryd.ntmps93 (Heap.nil _) fun act0 En0 Hv0 => ?_
 refine d_s [0,2] [] En0 fun _ En2 => ?_
 refine wp_seq <| d_s [0,2,3] [] En2 fun _ En4 => ?_
 refine wp_block <| wp_seq <| d_s [0,2,3,4] [] En4 fun _ En6 => ?_
 refine c_f En6 ?_
 refine d_s [0,2,3,4] [] En6 fun _ En8 => ?_
 refine c_f En8 ?_
 refine d_r [0,2,3,4] [] En8 fun _ En10 => ?_
 refine zg <| c_t En10 ?_
 refine d_s [0,2,3,4] [] En10 fun _ En12 => ?_
 refine wp_ret <| QC <| Z0 <| Qb (t := 2) (v := .int .i64 64) En12 (by kernel_rfl) (by kernel_rfl) ?_
 exact ⟨rfl, Hv0.pk []⟩

theorem size_go0 (w : World) (h : Int) (h1 : ¬ (h = 1 ∨ h = 2 ∨ h = 3)) : Calls Tryd.prog 93 #[.int .i64 h] w fun e w' => e = .returned (ni (sizeOfH h)) ∧ Ev w [] w' [] := by
 refine d_0 [(0, .int .i64 h)] 11 Go.Proofs.Tryd.func93 Go.Proofs.Tryd.ntmps93 (Heap.nil _) fun act0 En0 Hv0 => ?_
 refine d_s [0,2] [] En0 fun _ En2 => ?_
 refine wp_seq <| d_s [0,2,3] [] En2 fun _ En4 => ?_
 refine wp_block <| wp_seq <| d_s [0,2,3,4] [] En4 fun _ En6 => ?_
 refine c_e h (1 : Int) En6 (fun hc7 => ?_) (fun hc7 => ?_)
 ·
  exact absurd hc7 (by omega)
 refine d_s [0,2,3,4] [] En6 fun _ En9 => ?_
 refine c_e h (2 : Int) En9 (fun hc10 => ?_) (fun hc10 => ?_)
 ·
  exact absurd hc10 (by omega)
 refine d_r [0,2,3,4] [] En9 fun _ En12 => ?_
 refine zg <| c_e h (3 : Int) En12 (fun hc13 => ?_) (fun hc13 => ?_)
 ·
  exact absurd hc13 (by omega)
 refine wp_skip <| zA <| zg <| d_s [0,2,3,4] [] En12 fun _ En15 => ?_
 refine wp_ret <| Qb (t := 2) (v := .int .i64 0) En15 (by kernel_rfl) (by kernel_rfl) ?_
 exact ⟨by rw [show sizeOfH h = 0 from by unfold sizeOfH; rw [if_neg (by omega), if_neg (by omega), if_neg (by omega)]]; rfl, Hv0.pk []⟩

theorem size_go (w : World) (h : Int) : Calls Tryd.prog 93 #[.int .i64 h] w fun e w' => e = .returned (ni (sizeOfH h)) ∧ Ev w [] w' [] := by
  by_cases h1 : h = 1 ∨ h = 2 ∨ h = 3
  · rcases h1 with rfl | rfl | rfl
    · exact size_go1 w
    · exact size_go2 w
    · exact size_go3 w
  · exact size_go0 w h h1

theorem new1 (w : World) : Calls Tryd.prog 69 #[.int .i64 1] w fun e w' => ∃ bd, e = .returned (pt bd) ∧ Ev w [] w' [.box bd (([.int .i64 1] : List Value) ++ ((Zh (in32 1)) ++ ((zh (init64 1)) ++ ([.slice none 0 0, zn 0] : List Value)))) 106] := by
 refine d_0 [(0, .int .i64 1)] 27 Go.Proofs.Tryd.func69 Go.Proofs.Tryd.ntmps69 (Heap.nil _) fun act0 En0 Hv0 => ?_
 refine d_s [0,2] [] En0 fun _ En2 => ?_
 refine wp_seq <| zm <| d_k [0,2,5] [] 2 En2 fun _ En4 => ?_
 refine f_o <| m_m 106 [.int .i64 1, .int .u32 0, .int .u32 0, .int .u32 0, .int .u32 0, .int .u32 0, .int .u32 0, .int .u32 0, .int .u32 0, .int .u64 0, .int .u64 0, .int .u64 0, .int .u64 0, .int .u64 0, .int .u64 0, .int .u64 0, .int .u64 0, .slice none 0 0, .int .u64 0] En4 Hv0 fun _ _ bk5 En8 Hv9 => ?_
 refine d_e [0,2,3] [] En8 fun _ En11 => ?_
 refine zg <| wp_seq <| d_s [0,2,3,7] [] En11 fun _ En13 => ?_
 refine wp_block <| d_s [0,2,3,7,8] [] En13 fun _ En15 => ?_
 refine c_t En15 ?_
 refine zm <| d_k [0,2,3,7,11,13] [] 4 En15 fun _ En17 => ?_
 refine f_o <| m_g 0 1 8 (Zh ([1779033703, 3144134277, 1013904242, 2773480762, 1359893119, 2600822924, 528734635, 1541459225] : List UInt32)) (([.int .i64 1] : List Value) ++ ((Zh ([1779033703, 3144134277, 1013904242, 2773480762, 1359893119, 2600822924, 528734635, 1541459225] : List UInt32)) ++ ([.int .u64 0, .int .u64 0, .int .u64 0, .int .u64 0, .int .u64 0, .int .u64 0, .int .u64 0, .int .u64 0, .slice none 0 0, .int .u64 0] : List Value))) [.box bk5 (([.int .i64 1] : List Value) ++ ((Zh ([1779033703, 3144134277, 1013904242, 2773480762, 1359893119, 2600822924, 528734635, 1541459225] : List UInt32)) ++ ([.int .u64 0, .int .u64 0, .int .u64 0, .int .u64 0, .int .u64 0, .int .u64 0, .int .u64 0, .int .u64 0, .slice none 0 0, .int .u64 0] : List Value))) 106] En17 Hv9 rfl (Zc (show za ([1779033703, 3144134277, 1013904242, 2773480762, 1359893119, 2600822924, 528734635, 1541459225] : List UInt32) = 8 from rfl)) (by simp) (u32s_one _) (by simp [zw, zx]) rfl fun _ wo19 En20 Hv21 => ?_
 refine f_e <| zA <| zg <| d_s [0,2,3,7] [] En20 fun _ En23 => ?_
 refine wp_ret <| Qb (t := 2) (v := pt bk5) En23 (by kernel_rfl) (by kernel_rfl) ?_
 have Hf24 : Ev w [] wo19 [.box bk5 (([.int .i64 1] : List Value) ++ ((Zh (in32 1)) ++ ((zh (init64 1)) ++ ([.slice none 0 0, zn 0] : List Value)))) 106] := Hv21.pk [0]
 exact ⟨_, rfl, Hf24⟩

theorem new2 (w : World) : Calls Tryd.prog 69 #[.int .i64 2] w fun e w' => ∃ bd, e = .returned (pt bd) ∧ Ev w [] w' [.box bd (([.int .i64 2] : List Value) ++ ((Zh (in32 2)) ++ ((zh (init64 2)) ++ ([.slice none 0 0, zn 0] : List Value)))) 106] := by
 refine d_0 [(0, .int .i64 2)] 27 Go.Proofs.Tryd.func69 Go.Proofs.Tryd.ntmps69 (Heap.nil _) fun act0 En0 Hv0 => ?_
 refine d_s [0,2] [] En0 fun _ En2 => ?_
 refine wp_seq <| zm <| d_k [0,2,5] [] 2 En2 fun _ En4 => ?_
 refine f_o <| m_m 106 [.int .i64 2, .int .u32 0, .int .u32 0, .int .u32 0, .int .u32 0, .int .u32 0, .int .u32 0, .int .u32 0, .int .u32 0, .int .u64 0, .int .u64 0, .int .u64 0, .int .u64 0, .int .u64 0, .int .u64 0, .int .u64 0, .int .u64 0, .slice none 0 0, .int .u64 0] En4 Hv0 fun _ _ bk5 En8 Hv9 => ?_
 refine d_e [0,2,3] [] En8 fun _ En11 => ?_
 refine zg <| wp_seq <| d_s [0,2,3,7] [] En11 fun _ En13 => ?_
 refine wp_block <| d_s [0,2,3,7,8] [] En13 fun _ En15 => ?_
 refine c_f En15 ?_
 refine d_s [0,2,3,7,14] [] En15 fun _ En17 => ?_
 refine c_t En17 ?_
 refine zm <| d_k [0,2,3,7,17,19] [] 4 En17 fun _ En19 => ?_
 refine f_o <| m_g 0 9 8 (zh ([14680500436340154072, 7105036623409894663, 10473403895298186519, 1526699215303891257, 7436329637833083697, 10282925794625328401, 15784041429090275239, 5167115440072839076] : List UInt64)) (([.int .i64 2, .int .u32 0, .int .u32 0, .int .u32 0, .int .u32 0, .int .u32 0, .int .u32 0, .int .u32 0, .int .u32 0] : List Value) ++ ((zh ([14680500436340154072, 7105036623409894663, 10473403895298186519, 1526699215303891257, 7436329637833083697, 10282925794625328401, 15784041429090275239, 5167115440072839076] : List UInt64)) ++ ([.slice none 0 0, .int .u64 0] : List Value))) [.box bk5 (([.int .i64 2, .int .u32 0, .int .u32 0, .int .u32 0, .int .u32 0, .int .u32 0, .int .u32 0, .int .u32 0, .int .u32 0] : List Value) ++ ((zh ([14680500436340154072, 7105036623409894663, 10473403895298186519, 1526699215303891257, 7436329637833083697, 10282925794625328401, 15784041429090275239, 5167115440072839076] : List UInt64)) ++ ([.slice none 0 0, .int .u64 0] : List Value))) 106] En19 Hv9 rfl (zc (show za ([14680500436340154072, 7105036623409894663, 10473403895298186519, 1526699215303891257, 7436329637833083697, 10282925794625328401, 15784041429090275239, 5167115440072839076] : List UInt64) = 8 from rfl)) (by simp) (zv _) (by simp [zw, zx]) rfl fun _ wo21 En22 Hv23 => ?_
 refine f_e <| zA <| zg <| d_s [0,2,3,7] [] En22 fun _ En25 => ?_
 refine wp_ret <| Qb (t := 2) (v := pt bk5) En25 (by kernel_rfl) (by kernel_rfl) ?_
 have Hf26 : Ev w [] wo21 [.box bk5 (([.int .i64 2] : List Value) ++ ((Zh (in32 2)) ++ ((zh (init64 2)) ++ ([.slice none 0 0, zn 0] : List Value)))) 106] := Hv23.pk [0]
 exact ⟨_, rfl, Hf26⟩

theorem new3 (w : World) : Calls Tryd.prog 69 #[.int .i64 3] w fun e w' => ∃ bd, e = .returned (pt bd) ∧ Ev w [] w' [.box bd (([.int .i64 3] : List Value) ++ ((Zh (in32 3)) ++ ((zh (init64 3)) ++ ([.slice none 0 0, zn 0] : List Value)))) 106] := by
 refine d_0 [(0, .int .i64 3)] 27 Go.Proofs.Tryd.func69 Go.Proofs.Tryd.ntmps69 (Heap.nil _) fun act0 En0 Hv0 => ?_
 refine d_s [0,2] [] En0 fun _ En2 => ?_
 refine wp_seq <| zm <| d_k [0,2,5] [] 2 En2 fun _ En4 => ?_
 refine f_o <| m_m 106 [.int .i64 3, .int .u32 0, .int .u32 0, .int .u32 0, .int .u32 0, .int .u32 0, .int .u32 0, .int .u32 0, .int .u32 0, .int .u64 0, .int .u64 0, .int .u64 0, .int .u64 0, .int .u64 0, .int .u64 0, .int .u64 0, .int .u64 0, .slice none 0 0, .int .u64 0] En4 Hv0 fun _ _ bk5 En8 Hv9 => ?_
 refine d_e [0,2,3] [] En8 fun _ En11 => ?_
 refine zg <| wp_seq <| d_s [0,2,3,7] [] En11 fun _ En13 => ?_
 refine wp_block <| d_s [0,2,3,7,8] [] En13 fun _ En15 => ?_
 refine c_f En15 ?_
 refine d_s [0,2,3,7,14] [] En15 fun _ En17 => ?_
 refine c_f En17 ?_
 refine d_s [0,2,3,7,20] [] En17 fun _ En19 => ?_
 refine c_t En19 ?_
 refine zm <| d_k [0,2,3,7,23,25] [] 4 En19 fun _ En21 => ?_
 refine f_o <| m_g 0 9 8 (zh ([7640891576956012808, 13503953896175478587, 4354685564936845355, 11912009170470909681, 5840696475078001361, 11170449401992604703, 2270897969802886507, 6620516959819538809] : List UInt64)) (([.int .i64 3, .int .u32 0, .int .u32 0, .int .u32 0, .int .u32 0, .int .u32 0, .int .u32 0, .int .u32 0, .int .u32 0] : List Value) ++ ((zh ([7640891576956012808, 13503953896175478587, 4354685564936845355, 11912009170470909681, 5840696475078001361, 11170449401992604703, 2270897969802886507, 6620516959819538809] : List UInt64)) ++ ([.slice none 0 0, .int .u64 0] : List Value))) [.box bk5 (([.int .i64 3, .int .u32 0, .int .u32 0, .int .u32 0, .int .u32 0, .int .u32 0, .int .u32 0, .int .u32 0, .int .u32 0] : List Value) ++ ((zh ([7640891576956012808, 13503953896175478587, 4354685564936845355, 11912009170470909681, 5840696475078001361, 11170449401992604703, 2270897969802886507, 6620516959819538809] : List UInt64)) ++ ([.slice none 0 0, .int .u64 0] : List Value))) 106] En21 Hv9 rfl (zc (show za ([7640891576956012808, 13503953896175478587, 4354685564936845355, 11912009170470909681, 5840696475078001361, 11170449401992604703, 2270897969802886507, 6620516959819538809] : List UInt64) = 8 from rfl)) (by simp) (zv _) (by simp [zw, zx]) rfl fun _ wo23 En24 Hv25 => ?_
 refine f_e <| zA <| zg <| d_s [0,2,3,7] [] En24 fun _ En27 => ?_
 refine wp_ret <| Qb (t := 2) (v := pt bk5) En27 (by kernel_rfl) (by kernel_rfl) ?_
 have Hf28 : Ev w [] wo23 [.box bk5 (([.int .i64 3] : List Value) ++ ((Zh (in32 3)) ++ ((zh (init64 3)) ++ ([.slice none 0 0, zn 0] : List Value)))) 106] := Hv25.pk [0]
 exact ⟨_, rfl, Hf28⟩

theorem new_go (w : World) (h : Int) (h1 : h = 1 ∨ h = 2 ∨ h = 3) : Calls Tryd.prog 69 #[.int .i64 h] w fun e w' => ∃ bd, e = .returned (pt bd) ∧ Ev w [] w' [.box bd (([.int .i64 h] : List Value) ++ ((Zh (in32 h)) ++ ((zh (init64 h)) ++ ([.slice none 0 0, zn 0] : List Value)))) 106] := by
  rcases h1 with rfl | rfl | rfl
  · exact new1 w
  · exact new2 w
  · exact new3 w

end Go.Proofs.YtlnogkmnklfjlaaDoor.Sh

/- Layer 5: bytes that are put behind. -/


namespace Go.Proofs.YtlnogkmnklfjlaaDoor.Sh
open Go.Dbr
set_option maxRecDepth 100000
set_option maxHeartbeats 2000000
set_option linter.unusedVariables false
set_option linter.unusedSimpArgs false

def feed32 (s : List UInt32) (l : List UInt8) : Nat → List UInt32
  | 0 => s
  | q + 1 => blk32 (feed32 s l q) (wB32 (zk 64 (zo (64 * q) l)) 16)
theorem feed32_len {s : List UInt32} {m : Nat} (h : s.length = m) (l : List UInt8) (q : Nat) : (feed32 s l q).length = m := by
  induction q with
  | zero => exact h
  | succ q ih => exact blk32_len ih _
def feed64 (s : List UInt64) (l : List UInt8) : Nat → List UInt64
  | 0 => s
  | q + 1 => JP (feed64 s l q) (Jc (zk 128 (zo (128 * q) l)) 16)
theorem feed64_len {s : List UInt64} {m : Nat} (h : s.length = m) (l : List UInt8) (q : Nat) : (feed64 s l q).length = m := by
  induction q with
  | zero => exact h
  | succ q ih => exact JQ ih _
theorem words64_16 (w : World) (ax : Option Addr) (nx cx : Nat) (lx : List UInt8) (ex : nx = za lx) (ix : InB w [] ax cx lx) (h : za lx = 128) : Calls Tryd.prog 90 #[.slice ax nx cx, .int .i64 8, .int .i64 80] w fun e w' => ∃ ao co, e = .returned (.slice ao 16 co) ∧ Ev w [] w' [.vec ao co 1 (zh (Jc lx 16)) 32] := by
  have h1 := words64_go w ax nx cx lx ex ix
  rw [show za lx / 8 = 16 by omega] at h1
  simp only [Xf] at h1
  exact h1

theorem block_go23 (w : World) (h : Int) (hh : h = 2 ∨ h = 3) : Calls Tryd.prog 86 #[.int .i64 h] w fun e w' => e = .returned (.int .i64 128) ∧ Ev w [] w' [] := by
  rcases hh with rfl | rfl
  · exact block_go2 w
  · exact block_go3 w

end Go.Proofs.YtlnogkmnklfjlaaDoor.Sh

/- Layer 5: bytes that are put behind: the walk. -/


namespace Go.Proofs.YtlnogkmnklfjlaaDoor.Sh
open Go.Dbr
set_option maxRecDepth 100000
set_option maxHeartbeats 2000000
set_option linter.unusedVariables false
set_option linter.unusedSimpArgs false

theorem write64_go (w : World) (bd : Nat) (h : Int) (hh : h = 2 ∨ h = 3) (s : List UInt32) (hls : za s = 8) (s2 : List UInt64) (hls2 : za s2 = 8) (ar : Option Addr) (cr : Nat) (rs : List UInt8) (hrs : za rs < 128) (dn : UInt64) (ax : Option Addr) (nx cx : Nat) (lx : List UInt8) (ex : nx = za lx) (ix : InB w [.box bd (([.int .i64 h] : List Value) ++ ((Zh s) ++ ((zh s2) ++ ([.slice ar (za rs) cr, zn dn] : List Value)))) 106, .vec ar cr 1 (bys rs) 5] ax cx lx)  (hB : za rs + za lx ≤ 140737488355200) (gk64 : InU64 w [.box bd (([.int .i64 h] : List Value) ++ ((Zh s) ++ ((zh s2) ++ ([.slice ar (za rs) cr, zn dn] : List Value)))) 106, .vec ar cr 1 (bys rs) 5] (some ⟨1, 0, none⟩) 80 K64) (hH : Heap w [.box bd (([.int .i64 h] : List Value) ++ ((Zh s) ++ ((zh s2) ++ ([.slice ar (za rs) cr, zn dn] : List Value)))) 106, .vec ar cr 1 (bys rs) 5]) : Calls Tryd.prog 70 #[pt bd, .slice ax nx cx] w fun e w' => ∃ ao co, e = .returned (.tuple #[]) ∧ Ev w [.box bd (([.int .i64 h] : List Value) ++ ((Zh s) ++ ((zh s2) ++ ([.slice ar (za rs) cr, zn dn] : List Value)))) 106, .vec ar cr 1 (bys rs) 5] w' [.box bd (([.int .i64 h] : List Value) ++ ((Zh s) ++ ((zh (feed64 s2 (rs ++ lx) (za (rs ++ lx) / 128))) ++ ([.slice ao (za (zo (128 * (za (rs ++ lx) / 128)) (rs ++ lx))) co, zn (dn + zd (za lx))] : List Value)))) 106, .vec ao co 1 (bys (zo (128 * (za (rs ++ lx) / 128)) (rs ++ lx))) 5] := by
 subst ex
 have hs := ix.small
 have hcx := ix.cap
 refine d_0 [(0, pt bd), (1, .slice ax (za lx) cx)] 93 Go.Proofs.Tryd.func70 Go.Proofs.Tryd.ntmps70 (hH) fun act0 En0 Hv0 => ?_
 refine wp_seq <| zm <| d_k [0,1,5,7] [] 3 En0 fun _ En2 => ?_
 refine f_o <| m_v 0 18 (zn dn) En2 Hv0 rfl (zN (n := 1) (j := 17) rfl (zN (n := 8) (j := 9) (Zc hls) (zN (n := 8) (j := 1) (zc hls2) rfl))) fun _ En4 => ?_
 refine d_k [0,1,12,14] [(6, g_i .u64 (Go.Dbr.nat_to_u64 (a := ((za lx : Nat) : Int)) (n := za lx) rfl)), (7, g_i .u64 (Go.Dbr.u64_add (x := dn) (y := zd (za lx)) rfl rfl))] 10 En4 fun _ En6 => ?_
 refine f_o <| m_t 0 18 (zn (dn + (zd (za lx)))) [.box bd (([.int .i64 h] : List Value) ++ ((Zh s) ++ ((zh s2) ++ ([.slice ar (za rs) cr, zn (dn + (zd (za lx)))] : List Value)))) 106, .vec ar cr 1 (bys rs) 5] En6 Hv0 rfl (zN (n := 1) (j := 17) rfl (zN (n := 8) (j := 9) (Zc hls) (zN (n := 8) (j := 1) (zc hls2) rfl))) ((Q4 (n := 1) (j := 17) rfl).trans (congrArg (([.int .i64 h] : List Value) ++ ·) ((Q4 (n := 8) (j := 9) (Zc hls)).trans (congrArg ((Zh s) ++ ·) ((Q4 (n := 8) (j := 1) (zc hls2)).trans (congrArg ((zh s2) ++ ·) rfl)))))) rfl fun _ _ En9 Hv10 => ?_
 refine f_e <| zg <| wp_seq <| zm <| d_k [0,1,17] [] 3 En9 fun _ En12 => ?_
 refine f_o <| m_v 0 0 (.int .i64 h) En12 Hv10 rfl (YN rfl) fun _ En14 => ?_
 refine f_o <| c_p En14 Hv10 (block_go23 _ h hh) fun _ _ En20 Hv21 => ?_
 refine d_e [0,1,4] [] En20 fun _ En23 => ?_
 refine zg <| wp_seq <| r_c (fun ac wo => ∃ (ao210 : Option Addr) (cp211 : Nat), Env ac 93 [(0, pt bd), (1, .slice ax (za lx) cx), (4, .int .i64 128)] ∧ Ev w [.box bd (([.int .i64 h] : List Value) ++ ((Zh s) ++ ((zh s2) ++ ([.slice ar (za rs) cr, zn dn] : List Value)))) 106, .vec ar cr 1 (bys rs) 5] wo [.box bd (([.int .i64 h] : List Value) ++ ((Zh s) ++ ((zh s2) ++ ([.slice ao210 (za (rs ++ lx)) cp211, zn (dn + (zd (za lx)))] : List Value)))) 106, .vec ao210 cp211 1 (bys (rs ++ lx)) 5]) ?_ ?_
 ·
  refine h_s (fun wv => Ev w [.box bd (([.int .i64 h] : List Value) ++ ((Zh s) ++ ((zh s2) ++ ([.slice ar (za rs) cr, zn dn] : List Value)))) 106, .vec ar cr 1 (bys rs) 5] wv [.box bd (([.int .i64 h] : List Value) ++ ((Zh s) ++ ((zh s2) ++ ([.slice ar (za rs) cr, zn (dn + (zd (za lx)))] : List Value)))) 106, .vec ar cr 1 (bys rs) 5]) [15, 20] 21 ?_
  have wo24 := Hv21.trans (z4 Hv21.heap)
  refine q_s [0,1,2,3] [] 17 En23 (wo24.pk [0, 1]) fun _ En225 => ?_
  refine q_r 4 (s := Instr.loadAt 26 (.pointer (some ⟨bd, 17, none⟩))) (v := .slice ar (za rs) cr) En225 (fun w hS => ZO (by kernel_rfl) (hS.heap.cell (k := 0) rfl (zN (n := 1) (j := 16) rfl (zN (n := 8) (j := 8) (Zc hls) (zN (n := 8) (j := 0) (zc hls2) rfl))))) (wo24.pk [0, 1]) fun _ En227 => ?_
  refine q_s [5,6,7] [] 13 En227 (wo24.pk [0, 1]) fun _ En229 => ?_
  refine q_r 8 (s := Instr.loadAt 26 (.pointer (some ⟨bd, 17, none⟩))) (v := .slice ar (za rs) cr) En229 (fun w hS => ZO (by kernel_rfl) (hS.heap.cell (k := 0) rfl (zN (n := 1) (j := 16) rfl (zN (n := 8) (j := 8) (Zc hls) (zN (n := 8) (j := 0) (zc hls2) rfl))))) (wo24.pk [0, 1]) fun _ En231 => ?_
  refine q_s [9,10,11,12] [] 8 En231 (wo24.pk [0, 1]) fun _ En233 => ?_
  refine q_r 13 (s := Instr.loadAt 26 (.pointer (some ⟨bd, 17, none⟩))) (v := .slice ar (za rs) cr) En233 (fun w hS => ZO (by kernel_rfl) (hS.heap.cell (k := 0) rfl (zN (n := 1) (j := 16) rfl (zN (n := 8) (j := 8) (Zc hls) (zN (n := 8) (j := 0) (zc hls2) rfl))))) (wo24.pk [0, 1]) fun _ En235 => ?_
  refine q_s [14,16] [] 5 En235 (wo24.pk [0, 1]) fun _ En237 => ?_
  refine q_t 15 ?_
  have hcap238 := YC wo24.heap (k := 1) rfl
  refine op_slicefull (d := some 35) (t := 26) (e := 5) (k := 1) (p := za rs) (cap := cr) (ao := ar) (xs := bys rs) (kk := .i64) (kl := .i64) En237 (by kernel_rfl) (by kernel_rfl) (by kernel_rfl) wo24 rfl ((Qm _).trans (Zo _)) (by omega) ?_
  intro _ En240 Hv241
  refine ⟨q_y, ?_⟩
  refine q_t 17 ?_
  have hsm242 := ix.small
  refine ZV (d := some 37) (t := 26) (tx := 26) (ty := 26) (k := 1) (p := za rs) (m := za lx) (x := .slice ax (za lx) cx) (bytes := 1) En240 (by kernel_rfl) Hv241 rfl (Qm _) (ZR (size := 1) (tx := 26) (e' := 5) (by kernel_rfl) (ix.ev Hv241).reads (Qm _) ix.nz (ZD _)) (by kernel_rfl) (z := .int .u8 0) (by kernel_rfl) rfl (by decide) (by omega) (by unfold maxLen; omega) ?_
  intro _ _ ao243 cp244 En249 Hv250 hnz _
  clear hnz
  rw [← ZP] at Hv250
  have ehz245 : (za rs) + (za lx) = za (rs ++ lx) := (by first | (simp; done) | (simp; omega) | omega)
  rw [ehz245] at En249
  refine ⟨q_y, ?_⟩
  refine q_n [18,19] [] 1 En249 fun _ En252 => ?_
  refine q_t 20 ?_
  refine m_t 0 17 (.slice ao243 (za (rs ++ lx)) cp244) [.box bd (([.int .i64 h] : List Value) ++ ((Zh s) ++ ((zh s2) ++ ([.slice ao243 (za (rs ++ lx)) cp244, zn (dn + (zd (za lx)))] : List Value)))) 106, .vec ao243 cp244 1 (bys (rs ++ lx)) 5] En252 Hv250 rfl (zN (n := 1) (j := 16) rfl (zN (n := 8) (j := 8) (Zc hls) (zN (n := 8) (j := 0) (zc hls2) rfl))) ((Q4 (n := 1) (j := 16) rfl).trans (congrArg (([.int .i64 h] : List Value) ++ ·) ((Q4 (n := 8) (j := 8) (Zc hls)).trans (congrArg ((Zh s) ++ ·) ((Q4 (n := 8) (j := 0) (zc hls2)).trans (congrArg ((zh s2) ++ ·) rfl)))))) rfl fun _ _ En255 Hv256 => ?_
  refine ⟨q_y, ?_⟩
  exact h_e ⟨ao243, cp244, En255.sb, Hv256.pk [0, 1]⟩
 rintro _ _ ⟨ao210, cp211, En259, Hv260⟩
 refine zg <| wp_block ?_
 have hR : za (rs ++ lx) ≤ 140737488355200 := by rw [zU]; omega
 have hz : rs ++ lx = zo (128 * 0) (rs ++ lx) := rfl
 refine Qh (fun ms261 ac wo => ∃ (q : Nat) (at1 : Option Addr) (ct : Nat) (sx : List UInt64), ms261 = (za (rs ++ lx) - 128 * q : Nat) ∧ Env ac 93 [(0, pt bd), (1, .slice ax (za lx) cx), (4, .int .i64 128)] ∧ Ev w [.box bd (([.int .i64 h] : List Value) ++ ((Zh s) ++ ((zh s2) ++ ([.slice ar (za rs) cr, zn dn] : List Value)))) 106, .vec ar cr 1 (bys rs) 5] wo [.box bd (([.int .i64 h] : List Value) ++ ((Zh s) ++ ((zh sx) ++ ([.slice at1 (za (zo (128 * q) (rs ++ lx))) ct, zn (dn + (zd (za lx)))] : List Value)))) 106, .vec at1 ct 1 (bys (zo (128 * q) (rs ++ lx))) 5] ∧ (128 * q ≤ za (rs ++ lx)) ∧ (za sx = 8) ∧ (sx = feed64 s2 (rs ++ lx) q)) ⟨_, 0, ao210, cp211, s2, rfl, En259.sb, Hv260.pk [0, 1], by omega, hls2, rfl⟩ ?_
 rintro mm267 _ _ ⟨q, at1, ct, sx, rfl, En265, Hv266, hq, hlx, hes⟩
 refine wp_seq <| wp_seq ?_
 have hDl : za (zo (128 * q) (rs ++ lx)) = za (rs ++ lx) - 128 * q := zr
 refine zm <| d_k [0,1,4,42] [] 3 En265 fun _ En269 => ?_
 refine f_o <| m_v 0 17 (.slice at1 (za (zo (128 * q) (rs ++ lx))) ct) En269 Hv266 rfl (zN (n := 1) (j := 16) rfl (zN (n := 8) (j := 8) (Zc hls) (zN (n := 8) (j := 0) (zc hlx) rfl))) fun _ En271 => ?_
 refine d_e [0,1,4,46] [] En271 fun _ En273 => ?_
 refine zg <| c_d (((za (zo (128 * q) (rs ++ lx)) : Nat) : Int) ≥ (128 : Int)) En273 (fun hc274 => ?_) (fun hc274 => ?_)
 ·
  refine wp_skip <| zg <| wp_seq <| wp_block <| wp_seq <| wp_seq <| zm <| d_k [0,1,4,58] [] 3 En273 fun _ En276 => ?_
  refine f_o <| m_v 0 0 (.int .i64 h) En276 Hv266 rfl (YN rfl) fun _ En278 => ?_
  refine d_e [0,1,4,60] [(4, g_b (show (h == (1 : Int)) = false from beq_eq_false_iff_ne.2 (by omega)))] En278 fun _ En280 => ?_
  refine zg <| c_f En280 ?_
  refine wp_skip <| zg ?_
  have hD64 : za (zk 128 (zo (128 * q) (rs ++ lx))) = 128 := by rw [zp]; omega
  refine r_c (fun ac wo => Env ac 93 [(0, pt bd), (1, .slice ax (za lx) cx), (4, .int .i64 128)] ∧ Ev w [.box bd (([.int .i64 h] : List Value) ++ ((Zh s) ++ ((zh s2) ++ ([.slice ar (za rs) cr, zn dn] : List Value)))) 106, .vec ar cr 1 (bys rs) 5] wo [.box bd (([.int .i64 h] : List Value) ++ ((Zh s) ++ ((zh (JP sx (Jc (zk 128 (zo (128 * q) (rs ++ lx))) 16))) ++ ([.slice at1 (za (zo (128 * q) (rs ++ lx))) ct, zn (dn + (zd (za lx)))] : List Value)))) 106, .vec at1 ct 1 (bys (zo (128 * q) (rs ++ lx))) 5]) ?_ ?_
  ·
   refine h_s (fun wv => Ev w [.box bd (([.int .i64 h] : List Value) ++ ((Zh s) ++ ((zh s2) ++ ([.slice ar (za rs) cr, zn dn] : List Value)))) 106, .vec ar cr 1 (bys rs) 5] wv [.box bd (([.int .i64 h] : List Value) ++ ((Zh s) ++ ((zh sx) ++ ([.slice at1 (za (zo (128 * q) (rs ++ lx))) ct, zn (dn + (zd (za lx)))] : List Value)))) 106, .vec at1 ct 1 (bys (zo (128 * q) (rs ++ lx))) 5]) [15] 16 ?_
   have wo281 := Hv266.trans (z4 Hv266.heap)
   refine h_name fun G hG => ?_
   have nd428 : ∀ (ac : Act) (wo : World) (aoq374 : _) (coq374 : _), Env ac 93 [(0, pt bd), (1, .slice ax (za lx) cx), (4, .int .i64 128), (79, .pointer (some ⟨bd, 9, none⟩)), (85, .slice aoq374 16 coq374), (91, .agg (zi Xg))] → Ev w [.box bd (([.int .i64 h] : List Value) ++ ((Zh s) ++ ((zh s2) ++ ([.slice ar (za rs) cr, zn dn] : List Value)))) 106, .vec ar cr 1 (bys rs) 5] wo [.vec aoq374 coq374 1 (zh (Jc (zk 128 (zo (128 * q) (rs ++ lx))) 16)) 32, .box bd (([.int .i64 h] : List Value) ++ ((Zh s) ++ ((zh sx) ++ ([.slice at1 (za (zo (128 * q) (rs ++ lx))) ct, zn (dn + (zd (za lx)))] : List Value)))) 106, .vec at1 ct 1 (bys (zo (128 * q) (rs ++ lx))) 5] → G 2 #[true, true, true, true, true, true, true, true, true, false, true, true, true, true, true, false] ac wo := by
    intro _ _ aoq374 coq374 En431 Hv432
    refine Zi hG ?_
    refine q_t 9 ?_
    refine Zp (d := some 86) (t := 120) (e := 32) (sz := 1) (m := 80) (lo := 0) (hi := 80) (b := 1) (off := 0) (lov := none) (hiv := none) (o := 0) En431 (by kernel_rfl) (by kernel_rfl) (by kernel_rfl) (by omega) (by omega) (by omega) (.inl ⟨rfl, rfl⟩) (.inl ⟨rfl, rfl⟩) (by omega) ?_
    intro _ En434
    refine ⟨fun _ => Hv432.pk [1, 2], ?_⟩
    refine q_t 15 ?_
    refine c_l [1,0] (M := [.box bd (([.int .i64 h] : List Value) ++ ((Zh s) ++ ((zh sx) ++ ([.slice at1 (za (zo (128 * q) (rs ++ lx))) ct, zn (dn + (zd (za lx)))] : List Value)))) 106, .vec aoq374 coq374 1 (zh (Jc (zk 128 (zo (128 * q) (rs ++ lx))) 16)) 32]) En434 Hv432 (fun hM435 => blocked64_go _ bd h s hls sx hlx at1 (za (zo (128 * q) (rs ++ lx))) ct (dn + (zd (za lx))) aoq374 coq374 (Jc (zk 128 (zo (128 * q) (rs ++ lx))) 16) (Xf _ 16) ((gk64.ev Hv432).pick [1, 0] (by kernel_rfl)) hM435) ?_
    rintro _ _ ⟨rfl, he437⟩
    refine ⟨_, _, [.box bd (([.int .i64 h] : List Value) ++ ((Zh s) ++ ((zh (JP sx (Jc (zk 128 (zo (128 * q) (rs ++ lx))) 16))) ++ ([.slice at1 (za (zo (128 * q) (rs ++ lx))) ct, zn (dn + (zd (za lx)))] : List Value)))) 106, .vec at1 ct 1 (bys (zo (128 * q) (rs ++ lx))) 5], rfl, he437, by kernel_rfl, fun _ En440 Hv441 => ?_⟩
    refine ⟨q_y, ?_⟩
    exact h_e ⟨En440.sb, Hv441.pk [0, 1]⟩
   have nd442 : ∀ (ac : Act) (wo : World), Env ac 93 [(0, pt bd), (1, .slice ax (za lx) cx), (4, .int .i64 128), (79, .pointer (some ⟨bd, 9, none⟩)), (84, .slice at1 128 ct), (86, .slice (some ⟨1, 0, none⟩) 80 80), (91, .agg (zi Xg))] → Ev w [.box bd (([.int .i64 h] : List Value) ++ ((Zh s) ++ ((zh s2) ++ ([.slice ar (za rs) cr, zn dn] : List Value)))) 106, .vec ar cr 1 (bys rs) 5] wo [.box bd (([.int .i64 h] : List Value) ++ ((Zh s) ++ ((zh sx) ++ ([.slice at1 (za (zo (128 * q) (rs ++ lx))) ct, zn (dn + (zd (za lx)))] : List Value)))) 106, .vec at1 ct 1 (bys (zo (128 * q) (rs ++ lx))) 5] → G 2 #[true, true, true, true, true, true, true, true, false, true, true, true, true, true, true, false] ac wo := by
    intro _ _ En445 Hv446
    refine Zi hG ?_
    refine q_t 8 ?_
    refine c_0 En445 Hv446 (words64_16 _ at1 128 ct (zk 128 (zo (128 * q) (rs ++ lx))) (by first | rfl | (simp; done) | (simp; omega) | omega) (J9 Hv446.heap (k := 1) rfl [] (by kernel_rfl) rfl 128 (by first | decide | omega)) hD64) ?_
    rintro _ _ ⟨aoq447, coq447, rfl, he450⟩
    refine ⟨_, _, _, rfl, he450, rfl, fun _ En453 Hv454 => ?_⟩
    refine ⟨fun _ => Hv454.pk [1, 2], ?_⟩
    refine q_t 15 ?_
    refine c_l [1,0] (M := [.box bd (([.int .i64 h] : List Value) ++ ((Zh s) ++ ((zh sx) ++ ([.slice at1 (za (zo (128 * q) (rs ++ lx))) ct, zn (dn + (zd (za lx)))] : List Value)))) 106, .vec aoq447 coq447 1 (zh (Jc (zk 128 (zo (128 * q) (rs ++ lx))) 16)) 32]) En453 Hv454 (fun hM455 => blocked64_go _ bd h s hls sx hlx at1 (za (zo (128 * q) (rs ++ lx))) ct (dn + (zd (za lx))) aoq447 coq447 (Jc (zk 128 (zo (128 * q) (rs ++ lx))) 16) (Xf _ 16) ((gk64.ev Hv454).pick [1, 0] (by kernel_rfl)) hM455) ?_
    rintro _ _ ⟨rfl, he457⟩
    refine ⟨_, _, [.box bd (([.int .i64 h] : List Value) ++ ((Zh s) ++ ((zh (JP sx (Jc (zk 128 (zo (128 * q) (rs ++ lx))) 16))) ++ ([.slice at1 (za (zo (128 * q) (rs ++ lx))) ct, zn (dn + (zd (za lx)))] : List Value)))) 106, .vec at1 ct 1 (bys (zo (128 * q) (rs ++ lx))) 5], rfl, he457, by kernel_rfl, fun _ En460 Hv461 => ?_⟩
    refine ⟨q_y, ?_⟩
    exact h_e ⟨En460.sb, Hv461.pk [0, 1]⟩
   have nd462 : ∀ (ac : Act) (wo : World), Env ac 93 [(0, pt bd), (1, .slice ax (za lx) cx), (4, .int .i64 128), (79, .pointer (some ⟨bd, 9, none⟩)), (84, .slice at1 128 ct), (91, .agg (zi Xg))] → Ev w [.box bd (([.int .i64 h] : List Value) ++ ((Zh s) ++ ((zh s2) ++ ([.slice ar (za rs) cr, zn dn] : List Value)))) 106, .vec ar cr 1 (bys rs) 5] wo [.box bd (([.int .i64 h] : List Value) ++ ((Zh s) ++ ((zh sx) ++ ([.slice at1 (za (zo (128 * q) (rs ++ lx))) ct, zn (dn + (zd (za lx)))] : List Value)))) 106, .vec at1 ct 1 (bys (zo (128 * q) (rs ++ lx))) 5] → G 3 #[true, true, true, true, true, true, true, true, false, false, true, true, true, true, true, false] ac wo := by
    intro _ _ En465 Hv466
    refine Zi hG ?_
    refine h_ways [8, 9] (by kernel_rfl) rfl ?_
    refine ⟨?_, ?_, trivial⟩
    ·
     rintro _ rfl
     refine c_0 En465 Hv466 (words64_16 _ at1 128 ct (zk 128 (zo (128 * q) (rs ++ lx))) (by first | rfl | (simp; done) | (simp; omega) | omega) (J9 Hv466.heap (k := 1) rfl [] (by kernel_rfl) rfl 128 (by first | decide | omega)) hD64) ?_
     rintro _ _ ⟨aoq467, coq467, rfl, he470⟩
     refine ⟨_, _, _, rfl, he470, rfl, fun _ En473 Hv474 => ?_⟩
     refine ⟨fun _ => Hv474.pk [1, 2], ?_⟩
     exact h_to hG (by kernel_rfl) (nd428 _ _ aoq467 coq467 (En473.sb) (Hv474.pk [0, 1, 2]))
    rintro _ rfl
    refine Zp (d := some 86) (t := 120) (e := 32) (sz := 1) (m := 80) (lo := 0) (hi := 80) (b := 1) (off := 0) (lov := none) (hiv := none) (o := 0) En465 (by kernel_rfl) (by kernel_rfl) (by kernel_rfl) (by omega) (by omega) (by omega) (.inl ⟨rfl, rfl⟩) (.inl ⟨rfl, rfl⟩) (by omega) ?_
    intro _ En476
    refine ⟨fun _ => Hv466.pk [0, 1], ?_⟩
    exact h_to hG (by kernel_rfl) (nd442 _ _ (En476.sb) (Hv466.pk [0, 1]))
   have nd477 : ∀ (ac : Act) (wo : World), Env ac 93 [(0, pt bd), (1, .slice ax (za lx) cx), (4, .int .i64 128), (79, .pointer (some ⟨bd, 9, none⟩)), (83, .slice at1 (za (zo (128 * q) (rs ++ lx))) ct), (86, .slice (some ⟨1, 0, none⟩) 80 80), (91, .agg (zi Xg))] → Ev w [.box bd (([.int .i64 h] : List Value) ++ ((Zh s) ++ ((zh s2) ++ ([.slice ar (za rs) cr, zn dn] : List Value)))) 106, .vec ar cr 1 (bys rs) 5] wo [.box bd (([.int .i64 h] : List Value) ++ ((Zh s) ++ ((zh sx) ++ ([.slice at1 (za (zo (128 * q) (rs ++ lx))) ct, zn (dn + (zd (za lx)))] : List Value)))) 106, .vec at1 ct 1 (bys (zo (128 * q) (rs ++ lx))) 5] → G 3 #[true, true, true, true, true, true, true, false, false, true, true, true, true, true, true, false] ac wo := by
    intro _ _ En480 Hv481
    refine Zi hG ?_
    refine q_t 7 ?_
    have hcap482 := YC Hv481.heap (k := 1) rfl
    refine op_slice0 (d := some 84) (t := 26) (e := 5) (sz := 1) (len := za (zo (128 * q) (rs ++ lx))) (cap := ct) (hi := 128) (ao := at1) (lov := none) (hiv := (some (.int .i64 128))) En480 (by kernel_rfl) (by kernel_rfl) (by kernel_rfl) (by omega) (.inl ⟨rfl, rfl⟩) (.inr ⟨.i64, rfl⟩) ?_
    intro _ En484
    refine ⟨fun _ => Hv481.pk [0, 1], ?_⟩
    refine q_t 8 ?_
    refine c_0 En484 Hv481 (words64_16 _ at1 128 ct (zk 128 (zo (128 * q) (rs ++ lx))) (by first | rfl | (simp; done) | (simp; omega) | omega) (J9 Hv481.heap (k := 1) rfl [] (by kernel_rfl) rfl 128 (by first | decide | omega)) hD64) ?_
    rintro _ _ ⟨aoq485, coq485, rfl, he488⟩
    refine ⟨_, _, _, rfl, he488, rfl, fun _ En491 Hv492 => ?_⟩
    refine ⟨fun _ => Hv492.pk [1, 2], ?_⟩
    refine q_t 15 ?_
    refine c_l [1,0] (M := [.box bd (([.int .i64 h] : List Value) ++ ((Zh s) ++ ((zh sx) ++ ([.slice at1 (za (zo (128 * q) (rs ++ lx))) ct, zn (dn + (zd (za lx)))] : List Value)))) 106, .vec aoq485 coq485 1 (zh (Jc (zk 128 (zo (128 * q) (rs ++ lx))) 16)) 32]) En491 Hv492 (fun hM493 => blocked64_go _ bd h s hls sx hlx at1 (za (zo (128 * q) (rs ++ lx))) ct (dn + (zd (za lx))) aoq485 coq485 (Jc (zk 128 (zo (128 * q) (rs ++ lx))) 16) (Xf _ 16) ((gk64.ev Hv492).pick [1, 0] (by kernel_rfl)) hM493) ?_
    rintro _ _ ⟨rfl, he495⟩
    refine ⟨_, _, [.box bd (([.int .i64 h] : List Value) ++ ((Zh s) ++ ((zh (JP sx (Jc (zk 128 (zo (128 * q) (rs ++ lx))) 16))) ++ ([.slice at1 (za (zo (128 * q) (rs ++ lx))) ct, zn (dn + (zd (za lx)))] : List Value)))) 106, .vec at1 ct 1 (bys (zo (128 * q) (rs ++ lx))) 5], rfl, he495, by kernel_rfl, fun _ En498 Hv499 => ?_⟩
    refine ⟨q_y, ?_⟩
    exact h_e ⟨En498.sb, Hv499.pk [0, 1]⟩
   refine Zi hG ?_
   refine q_s [0,1,2,3,4,5] [] 10 En280 (wo281.pk [0, 1]) fun _ En501 => ?_
   refine q_r 6 (s := Instr.loadAt 26 (.pointer (some ⟨bd, 17, none⟩))) (v := .slice at1 (za (zo (128 * q) (rs ++ lx))) ct) En501 (fun w hS => ZO (by kernel_rfl) (hS.heap.cell (k := 0) rfl (zN (n := 1) (j := 16) rfl (zN (n := 8) (j := 8) (Zc hls) (zN (n := 8) (j := 0) (zc hlx) rfl))))) (wo281.pk [0, 1]) fun _ En503 => ?_
   refine q_s [10,11,12,13,14] [] 4 En503 (wo281.pk [0, 1]) fun _ En505 => ?_
   refine h_ways [7, 9] (by kernel_rfl) rfl ?_
   refine ⟨?_, ?_, trivial⟩
   ·
    rintro _ rfl
    have hcap506 := YC wo281.heap (k := 1) rfl
    refine op_slice0 (d := some 84) (t := 26) (e := 5) (sz := 1) (len := za (zo (128 * q) (rs ++ lx))) (cap := ct) (hi := 128) (ao := at1) (lov := none) (hiv := (some (.int .i64 128))) En505 (by kernel_rfl) (by kernel_rfl) (by kernel_rfl) (by omega) (.inl ⟨rfl, rfl⟩) (.inr ⟨.i64, rfl⟩) ?_
    intro _ En508
    refine ⟨fun _ => wo281.pk [0, 1], ?_⟩
    exact h_to hG (by kernel_rfl) (nd462 _ _ (En508.sb) (wo281.pk [0, 1]))
   rintro _ rfl
   refine Zp (d := some 86) (t := 120) (e := 32) (sz := 1) (m := 80) (lo := 0) (hi := 80) (b := 1) (off := 0) (lov := none) (hiv := none) (o := 0) En505 (by kernel_rfl) (by kernel_rfl) (by kernel_rfl) (by omega) (by omega) (by omega) (.inl ⟨rfl, rfl⟩) (.inl ⟨rfl, rfl⟩) (by omega) ?_
   intro _ En510
   refine ⟨fun _ => wo281.pk [0, 1], ?_⟩
   exact h_to hG (by kernel_rfl) (nd477 _ _ (En510.sb) (wo281.pk [0, 1]))
  rintro _ wo512 ⟨En513, Hv514⟩
  refine zA <| zg ?_
  have hDl : za (zo (128 * q) (rs ++ lx)) = za (rs ++ lx) - 128 * q := zr
  refine zm <| d_k [0,1,4,47,50] [] 4 En513 fun _ En516 => ?_
  refine f_o <| m_v 0 17 (.slice at1 (za (zo (128 * q) (rs ++ lx))) ct) En516 Hv514 rfl (zN (n := 1) (j := 16) rfl (zN (n := 8) (j := 8) (Zc hls) (zN (n := 8) (j := 0) (zc (JQ hlx (Jc (zk 128 (zo (128 * q) (rs ++ lx))) 16))) rfl))) fun _ En518 => ?_
  refine d_k [0,1,4,47,51,52] [] 6 En518 fun _ En520 => ?_
  refine f_o ?_
  have hcap521 := YC Hv514.heap (k := 1) rfl
  refine op_slice (d := some 53) (t := 26) (e := 5) (sz := 1) (len := za (zo (128 * q) (rs ++ lx))) (cap := ct) (lo := 128) (hi := za (zo (128 * q) (rs ++ lx))) (ao := at1) (lov := (some (.int .i64 128))) (hiv := none) En520 (by kernel_rfl) (by kernel_rfl) (by kernel_rfl) (by omega) (by omega) (.inr ⟨.i64, rfl⟩) (.inl ⟨rfl, rfl⟩) ?_
  intro _ En523
  have Hv524 : Ev w [.box bd (([.int .i64 h] : List Value) ++ ((Zh s) ++ ((zh s2) ++ ([.slice ar (za rs) cr, zn dn] : List Value)))) 106, .vec ar cr 1 (bys rs) 5] wo512 [.box bd (([.int .i64 h] : List Value) ++ ((Zh s) ++ ((zh (JP sx (Jc (zk 128 (zo (128 * q) (rs ++ lx))) 16))) ++ ([.slice at1 (za (zo (128 * q) (rs ++ lx))) ct, zn (dn + (zd (za lx)))] : List Value)))) 106, .vec (QO at1 ct 128 1) (ct - 128) 1 (bys (zo 128 (zo (128 * q) (rs ++ lx)))) 5] := by
   have h := Ev.cut (k := 1) (n := za (zo (128 * q) (rs ++ lx))) (sz := 1) Hv514 rfl (Qm _) (by omega) 128 (za (zo (128 * q) (rs ++ lx))) (by omega) (by omega)
   rw [bys_cutw (l := zo (128 * q) (rs ++ lx)) (lo := 128) (n := za (zo (128 * q) (rs ++ lx))) (by simp)] at h
   exact h
  have el525 : (za (zo (128 * q) (rs ++ lx))) - 128 = za (zo 128 (zo (128 * q) (rs ++ lx))) := by first | (simp; done) | (rw [zp]; omega) | (rw [zr]; omega) | (simp; omega)
  rw [el525] at En523
  refine d_k [0,1,4,53,55] [] 9 En523 fun _ En527 => ?_
  refine f_o <| m_t 0 17 (.slice (QO at1 ct 128 1) (za (zo 128 (zo (128 * q) (rs ++ lx)))) (ct - 128)) [.box bd (([.int .i64 h] : List Value) ++ ((Zh s) ++ ((zh (JP sx (Jc (zk 128 (zo (128 * q) (rs ++ lx))) 16))) ++ ([.slice (QO at1 ct 128 1) (za (zo 128 (zo (128 * q) (rs ++ lx)))) (ct - 128), zn (dn + (zd (za lx)))] : List Value)))) 106, .vec (QO at1 ct 128 1) (ct - 128) 1 (bys (zo 128 (zo (128 * q) (rs ++ lx)))) 5] En527 Hv524 rfl (zN (n := 1) (j := 16) rfl (zN (n := 8) (j := 8) (Zc hls) (zN (n := 8) (j := 0) (zc (JQ hlx (Jc (zk 128 (zo (128 * q) (rs ++ lx))) 16))) rfl))) ((Q4 (n := 1) (j := 16) rfl).trans (congrArg (([.int .i64 h] : List Value) ++ ·) ((Q4 (n := 8) (j := 8) (Zc hls)).trans (congrArg ((Zh s) ++ ·) ((Q4 (n := 8) (j := 0) (zc (JQ hlx (Jc (zk 128 (zo (128 * q) (rs ++ lx))) 16)))).trans (congrArg ((zh (JP sx (Jc (zk 128 (zo (128 * q) (rs ++ lx))) 16))) ++ ·) rfl)))))) rfl fun _ _ En530 Hv531 => ?_
  refine f_e ?_
  rw [show (zo 128 (zo (128 * q) (rs ++ lx))) = (zo (128 * (q + 1)) (rs ++ lx)) from by rw [Qw]; rfl] at Hv531
  refine zg <| ⟨_, ⟨q + 1, (QO at1 ct 128 1), (ct - 128), (JP sx (Jc (zk 128 (zo (128 * q) (rs ++ lx))) 16)), rfl, En530.sb, Hv531.pk [0, 1], by omega, (JQ hlx (Jc (zk 128 (zo (128 * q) (rs ++ lx))) 16)), by rw [hes]; rfl⟩, ?_⟩
  omega
 refine wp_exit <| zI <| zI <| z9 <| d_end0 En273 (by kernel_rfl) ?_
 have hqe : q = za (rs ++ lx) / 128 := by omega
 rw [hqe] at hes
 subst hes
 subst hqe
 exact ⟨at1, ct, rfl, Hv266.pk [0, 1]⟩

end Go.Proofs.YtlnogkmnklfjlaaDoor.Sh

/- Layer 5: what a digest holds. -/

namespace Go.Proofs.YtlnogkmnklfjlaaDoor.Sh
open Go.Dbr
set_option maxRecDepth 100000
set_option maxHeartbeats 2000000
set_option linter.unusedVariables false
set_option linter.unusedSimpArgs false

/-- the state behind all bytes so far -/
def st32 (s : List UInt32) (all : List UInt8) : List UInt32 := feed32 s all (all.length / 64)
def rest32 (all : List UInt8) : List UInt8 := zo (64 * (all.length / 64)) all
theorem rest32_len (all : List UInt8) : (rest32 all).length < 64 := by unfold rest32; rw [zr]; omega
theorem st32_len {s : List UInt32} (h : s.length = 8) (all : List UInt8) : (st32 s all).length = 8 := feed32_len h _ _
theorem feed64_more {s : List UInt64} {l m : List UInt8} : ∀ {q : Nat}, 128 * q ≤ l.length → feed64 s (l ++ m) q = feed64 s l q
  | 0, _ => rfl
  | q + 1, h => by
    rw [feed64, feed64, feed64_more (by omega)]
    congr 2
    rw [Yg (by omega), List.take_append_of_le_length (by rw [zr]; omega)]
theorem feed64_on {s : List UInt64} {l : List UInt8} {q : Nat} : ∀ (p : Nat), feed64 (feed64 s l q) (zo (128 * q) l) p = feed64 s l (q + p)
  | 0 => rfl
  | p + 1 => by
    rw [feed64, feed64_on p, ← Nat.add_assoc, feed64, Qw, show 128 * q + 128 * p = 128 * (q + p) by omega]
/-- the state behind all bytes so far -/
def st64 (s : List UInt64) (all : List UInt8) : List UInt64 := feed64 s all (all.length / 128)
def rest64 (all : List UInt8) : List UInt8 := zo (128 * (all.length / 128)) all
theorem rest64_len (all : List UInt8) : (rest64 all).length < 128 := by unfold rest64; rw [zr]; omega
theorem st64_len {s : List UInt64} (h : s.length = 8) (all : List UInt8) : (st64 s all).length = 8 := feed64_len h _ _
theorem rest64_app (all m : List UInt8) : rest64 all ++ m = zo (128 * (all.length / 128)) (all ++ m) := by
  unfold rest64
  rw [Yg (by omega)]
theorem st64_next (s : List UInt64) (all m : List UInt8) : feed64 (st64 s all) (rest64 all ++ m) ((rest64 all ++ m).length / 128) = st64 s (all ++ m) := by
  unfold st64
  rw [rest64_app, ← feed64_more (m := m) (q := all.length / 128) (by omega), feed64_on]
  congr 1
  rw [zr]
  simp only [zU]
  omega
theorem rest64_next (all m : List UInt8) : zo (128 * ((rest64 all ++ m).length / 128)) (rest64 all ++ m) = rest64 (all ++ m) := by
  rw [rest64_app]
  unfold rest64
  rw [Qw, zr]
  congr 1
  simp only [zU]
  omega

theorem n_next (all m : List UInt8) : zd all.length + zd m.length = zd (all ++ m).length := by rw [zU, UInt64.ofNat_add]

end Go.Proofs.YtlnogkmnklfjlaaDoor.Sh

/- Layer 5: digests. -/


namespace Go.Proofs.YtlnogkmnklfjlaaDoor.Sh
open Go.Dbr
set_option maxRecDepth 100000
set_option maxHeartbeats 2000000
set_option linter.unusedVariables false
set_option linter.unusedSimpArgs false

def S32 (h : Int) (all : List UInt8) : List UInt32 := if h = 1 then st32 init32 all else zero32
def S64 (h : Int) (all : List UInt8) : List UInt64 := if h = 1 then init64 1 else st64 (init64 h) all
def restH (h : Int) (all : List UInt8) : List UInt8 := if h = 1 then rest32 all else rest64 all
theorem S32_len (h : Int) (all : List UInt8) : (S32 h all).length = 8 := by unfold S32; split; exact st32_len rfl all; rfl
theorem S64_len (h : Int) (all : List UInt8) : (S64 h all).length = 8 := by unfold S64; split; rfl; exact st64_len (init64_len h) all
theorem restH_lt (h : Int) (all : List UInt8) : (restH h all).length < 128 := by
  unfold restH
  split
  · exact Nat.lt_trans (rest32_len all) (by decide)
  · exact rest64_len all
theorem restH_le (h : Int) (all : List UInt8) : (restH h all).length ≤ all.length := by
  unfold restH rest32 rest64
  split <;> simp

theorem new_dig (w : World) (h : Int) (hh : h = 2 ∨ h = 3) : Calls Tryd.prog 69 #[.int .i64 h] w fun e w' => ∃ bd, e = .returned (pt bd) ∧ Ev w [] w' [.box bd (([.int .i64 h] : List Value) ++ ((Zh (S32 h ([] : List UInt8))) ++ ((zh (S64 h ([] : List UInt8))) ++ ([.slice none (za (restH h ([] : List UInt8))) 0, zn (zd (za ([] : List UInt8)))] : List Value)))) 106, .vec none 0 1 (bys (restH h ([] : List UInt8))) 5] := by
  refine (new_go w h (.inr hh)).mono fun e w' h1 => ?_
  obtain ⟨bd, he, hv⟩ := h1
  refine ⟨bd, he, ?_⟩
  have h2 := Ev.nil (sz := 1) (T := 5) hv
  rcases hh with rfl | rfl
  · exact h2
  · exact h2

theorem write_go (w : World) (bd : Nat) (h : Int) (hh : h = 2 ∨ h = 3) (al : List UInt8) (ar : Option Addr) (cr : Nat) (ax : Option Addr) (nx cx : Nat) (lx : List UInt8) (ex : nx = za lx) (ix : InB w [.box bd (([.int .i64 h] : List Value) ++ ((Zh (S32 h al)) ++ ((zh (S64 h al)) ++ ([.slice ar (za (restH h al)) cr, zn (zd (za al))] : List Value)))) 106, .vec ar cr 1 (bys (restH h al)) 5] ax cx lx) (hB : za (restH h al) + za lx ≤ 140737488355200) (gk32 : InU32 w [.box bd (([.int .i64 h] : List Value) ++ ((Zh (S32 h al)) ++ ((zh (S64 h al)) ++ ([.slice ar (za (restH h al)) cr, zn (zd (za al))] : List Value)))) 106, .vec ar cr 1 (bys (restH h al)) 5] (some ⟨0, 0, none⟩) 64 K32) (gk64 : InU64 w [.box bd (([.int .i64 h] : List Value) ++ ((Zh (S32 h al)) ++ ((zh (S64 h al)) ++ ([.slice ar (za (restH h al)) cr, zn (zd (za al))] : List Value)))) 106, .vec ar cr 1 (bys (restH h al)) 5] (some ⟨1, 0, none⟩) 80 K64) (hH : Heap w [.box bd (([.int .i64 h] : List Value) ++ ((Zh (S32 h al)) ++ ((zh (S64 h al)) ++ ([.slice ar (za (restH h al)) cr, zn (zd (za al))] : List Value)))) 106, .vec ar cr 1 (bys (restH h al)) 5]) : Calls Tryd.prog 70 #[pt bd, .slice ax nx cx] w fun e w' => ∃ ao co, e = .returned (.tuple #[]) ∧ Ev w [.box bd (([.int .i64 h] : List Value) ++ ((Zh (S32 h al)) ++ ((zh (S64 h al)) ++ ([.slice ar (za (restH h al)) cr, zn (zd (za al))] : List Value)))) 106, .vec ar cr 1 (bys (restH h al)) 5] w' [.box bd (([.int .i64 h] : List Value) ++ ((Zh (S32 h (al ++ lx))) ++ ((zh (S64 h (al ++ lx))) ++ ([.slice ao (za (restH h (al ++ lx))) co, zn (zd (za (al ++ lx)))] : List Value)))) 106, .vec ao co 1 (bys (restH h (al ++ lx))) 5] := by
  rcases hh with rfl | rfl
  · have h1 := write64_go w bd 2 (.inl rfl) (zero32) rfl (st64 (init64 2) al) (st64_len (init64_len 2) al) ar cr (rest64 al) (rest64_len al) (zd (za al)) ax nx cx lx ex ix hB gk64 hH
    simp only [st64_next, rest64_next, n_next] at h1
    exact h1
  · have h1 := write64_go w bd 3 (.inr rfl) (zero32) rfl (st64 (init64 3) al) (st64_len (init64_len 3) al) ar cr (rest64 al) (rest64_len al) (zd (za al)) ax nx cx lx ex ix hB gk64 hH
    simp only [st64_next, rest64_next, n_next] at h1
    exact h1
end Go.Proofs.YtlnogkmnklfjlaaDoor.Sh

/- Layer 5: copies, bytes of words. -/

namespace Go.Proofs.YtlnogkmnklfjlaaDoor.Sh
open Go.Dbr
set_option maxRecDepth 100000
set_option maxHeartbeats 2000000
set_option linter.unusedVariables false
set_option linter.unusedSimpArgs false

theorem clone_go (w : World) (bd : Nat) (h : Int) (al : List UInt8) (ar : Option Addr) (cr : Nat) (hH : Heap w [.box bd (([.int .i64 h] : List Value) ++ ((Zh (S32 h al)) ++ ((zh (S64 h al)) ++ ([.slice ar (za (restH h al)) cr, zn (zd (za al))] : List Value)))) 106, .vec ar cr 1 (bys (restH h al)) 5]) : Calls Tryd.prog 91 #[pt bd] w fun e w' => ∃ b2 ao co, e = .returned (pt b2) ∧ Ev w [.box bd (([.int .i64 h] : List Value) ++ ((Zh (S32 h al)) ++ ((zh (S64 h al)) ++ ([.slice ar (za (restH h al)) cr, zn (zd (za al))] : List Value)))) 106, .vec ar cr 1 (bys (restH h al)) 5] w' [.box bd (([.int .i64 h] : List Value) ++ ((Zh (S32 h al)) ++ ((zh (S64 h al)) ++ ([.slice ar (za (restH h al)) cr, zn (zd (za al))] : List Value)))) 106, .vec ar cr 1 (bys (restH h al)) 5, .box b2 (([.int .i64 h] : List Value) ++ ((Zh (S32 h al)) ++ ((zh (S64 h al)) ++ ([.slice ao (za (restH h al)) co, zn (zd (za al))] : List Value)))) 106, .vec ao co 1 (bys (restH h al)) 5] := by
 have hrl := restH_lt h al
 refine d_0 [(0, pt bd)] 13 Go.Proofs.Tryd.func91 Go.Proofs.Tryd.ntmps91 (hH) fun act0 En0 Hv0 => ?_
 refine d_s [0,2] [] En0 fun _ En2 => ?_
 refine wp_seq <| zm <| d_k [0,2,5] [] 2 En2 fun _ En4 => ?_
 refine f_o <| m_a 0 0 19 (([.int .i64 h] : List Value) ++ ((Zh (S32 h al)) ++ ((zh (S64 h al)) ++ ([.slice ar (za (restH h al)) cr, zn (zd (za al))] : List Value)))) En4 Hv0 rfl (load_whole (zD rfl (zD (Zc (S32_len _ _)) (zD (zc (S64_len _ _)) rfl)))) (zD rfl (zD (Zc (S32_len _ _)) (zD (zc (S64_len _ _)) rfl))) fun _ En6 => ?_
 refine f_o <| m_z 106 (([.int .i64 0] : List Value) ++ ((Zh (ze 8 0)) ++ ((zh (ze 8 0)) ++ ([.slice none 0 0, .int .u64 0] : List Value)))) En6 Hv0 fun _ _ bk7 En10 Hv11 => ?_
 refine f_o <| m_g 2 0 19 (([.int .i64 h] : List Value) ++ ((Zh (S32 h al)) ++ ((zh (S64 h al)) ++ ([.slice ar (za (restH h al)) cr, zn (zd (za al))] : List Value)))) _ [.box bd (([.int .i64 h] : List Value) ++ ((Zh (S32 h al)) ++ ((zh (S64 h al)) ++ ([.slice ar (za (restH h al)) cr, zn (zd (za al))] : List Value)))) 106, .vec ar cr 1 (bys (restH h al)) 5, .box bk7 (([.int .i64 h] : List Value) ++ ((Zh (S32 h al)) ++ ((zh (S64 h al)) ++ ([.slice ar (za (restH h al)) cr, zn (zd (za al))] : List Value)))) 106] En10 Hv11 rfl (zD rfl (zD (Zc (S32_len _ _)) (zD (zc (S64_len _ _)) rfl))) (by rw [(zD rfl (zD (Zc (zf)) (zD (zc (zf)) rfl)))]; first | decide | (simp; done)) (one_app (one_all (by kernel_rfl)) (one_app (u32s_one _) (one_app (zv _) (one_all (by kernel_rfl))))) (store_whole (zD rfl (zD (Zc (zf)) (zD (zc (zf)) rfl)))) rfl fun _ wo13 En14 Hv15 => ?_
 refine f_e <| zg <| wp_seq <| zm <| d_k [0,2,3,9] [] 3 En14 fun _ En17 => ?_
 refine f_o <| m_v 0 17 (.slice ar (za (restH h al)) cr) En17 Hv15 rfl (zN (n := 1) (j := 16) rfl (zN (n := 8) (j := 8) (Zc (S32_len _ _)) (zN (n := 8) (j := 0) (zc (S64_len _ _)) rfl))) fun _ En19 => ?_
 refine f_o ?_
 have Hv20 : Ev w [.box bd (([.int .i64 h] : List Value) ++ ((Zh (S32 h al)) ++ ((zh (S64 h al)) ++ ([.slice ar (za (restH h al)) cr, zn (zd (za al))] : List Value)))) 106, .vec ar cr 1 (bys (restH h al)) 5] wo13 [.box bd (([.int .i64 h] : List Value) ++ ((Zh (S32 h al)) ++ ((zh (S64 h al)) ++ ([.slice ar (za (restH h al)) cr, zn (zd (za al))] : List Value)))) 106, .vec ar cr 1 (bys (restH h al)) 5, .box bk7 (([.int .i64 h] : List Value) ++ ((Zh (S32 h al)) ++ ((zh (S64 h al)) ++ ([.slice ar (za (restH h al)) cr, zn (zd (za al))] : List Value)))) 106, .vec none 0 1 (bys []) 5] := Ev.nil (sz := 1) (T := 5) Hv15
 refine ZV (d := some 11) (t := 26) (tx := 26) (ty := 26) (k := 3) (p := 0) (m := za (restH h al)) (x := .slice ar (za (restH h al)) cr) (bytes := 1) En19 (by kernel_rfl) Hv20 rfl (bys_lenn (by simp)) (ZR (size := 1) (tx := 26) (e' := 5) (by kernel_rfl) (Hv20.heap.reads (k := 1) rfl) (Qm _) (bys_vnz Hv20.heap (k := 1) rfl) (ZD _)) (by kernel_rfl) (z := .int .u8 0) (by kernel_rfl) rfl (by decide) (by omega) (by unfold maxLen; omega) ?_
 intro _ _ ao21 cp22 En27 Hv28 hnz _
 clear hnz
 rw [bys_nil_append] at Hv28
 have ehz23 : 0 + (za (restH h al)) = za (restH h al) := (by first | (simp; done) | (simp; omega) | omega)
 rw [ehz23] at En27
 refine d_k [0,2,3,11,12] [] 6 En27 fun _ En30 => ?_
 refine f_o <| m_t 2 17 (.slice ao21 (za (restH h al)) cp22) [.box bd (([.int .i64 h] : List Value) ++ ((Zh (S32 h al)) ++ ((zh (S64 h al)) ++ ([.slice ar (za (restH h al)) cr, zn (zd (za al))] : List Value)))) 106, .vec ar cr 1 (bys (restH h al)) 5, .box bk7 (([.int .i64 h] : List Value) ++ ((Zh (S32 h al)) ++ ((zh (S64 h al)) ++ ([.slice ao21 (za (restH h al)) cp22, zn (zd (za al))] : List Value)))) 106, .vec ao21 cp22 1 (bys (restH h al)) 5] En30 Hv28 rfl (zN (n := 1) (j := 16) rfl (zN (n := 8) (j := 8) (Zc (S32_len _ _)) (zN (n := 8) (j := 0) (zc (S64_len _ _)) rfl))) ((Q4 (n := 1) (j := 16) rfl).trans (congrArg (([.int .i64 h] : List Value) ++ ·) ((Q4 (n := 8) (j := 8) (Zc (S32_len _ _))).trans (congrArg ((Zh (S32 h al)) ++ ·) ((Q4 (n := 8) (j := 0) (zc (S64_len _ _))).trans (congrArg ((zh (S64 h al)) ++ ·) rfl)))))) rfl fun _ _ En33 Hv34 => ?_
 refine f_e <| zg <| d_s [0,2,3] [] En33 fun _ En36 => ?_
 refine wp_ret <| Qb (t := 2) (v := pt bk7) En36 (by kernel_rfl) (by kernel_rfl) ?_
 exact ⟨bk7, ao21, cp22, rfl, Hv34.pk [0, 1, 2, 3]⟩

def be4 (x : UInt64) : List UInt8 := [zj (x >>> zd 24), zj (x >>> zd 16), zj (x >>> zd 8), zj (x >>> zd 0)]
def be8 (x : UInt64) : List UInt8 := [zj (x >>> zd 56), zj (x >>> zd 48), zj (x >>> zd 40), zj (x >>> zd 32), zj (x >>> zd 24), zj (x >>> zd 16), zj (x >>> zd 8), zj (x >>> zd 0)]

theorem spread8_go (w : World) (ab : Option Addr) (cb : Nat) (lb : List UInt8) (x : UInt64) (hB : za lb ≤ 1000) (hH : Heap w [.vec ab cb 1 (bys lb) 5]) : Calls Tryd.prog 92 #[.slice ab (za lb) cb, zn x, .int .i64 8] w fun e w' => ∃ ao co, e = .returned (.slice ao (za (lb ++ be8 x)) co) ∧ Ev w [.vec ab cb 1 (bys lb) 5] w' [.vec ao co 1 (bys (lb ++ be8 x)) 5] := by
 refine d_0 [(0, .slice ab (za lb) cb), (1, zn x), (2, .int .i64 8)] 23 Go.Proofs.Tryd.func92 Go.Proofs.Tryd.ntmps92 (hH) fun act0 En0 Hv0 => ?_
 refine d_s [0,1,2,6] [] En0 fun _ En2 => ?_
 refine wp_seq <| d_s [0,1,6,7] [] En2 fun _ En4 => ?_
 refine wp_block <| loop_enter ?_
 refine z7 <| wp_seq <| d_s [0,1,6,7,11] [] En4 fun _ En6 => ?_
 refine c_t En6 ?_
 refine wp_skip <| zg <| wp_seq <| wp_block <| zm <| d_k [0,1,6,7,14,19] [(4, g_i .u64 (Go.Dbr.u64_shr (x := x) (n := 56) rfl (by decide))), (5, g_i .u8 (Go.Dbr.u64_to_u8 (x := x >>> zd 56) rfl))] 6 En6 fun _ En8 => ?_
 refine f_o <| Qu (d := some 20) (t := 26) (T := 5) (m := 1) (parts := #[(0, bv (zj (x >>> zd 56)))]) (xs := bys [zj (x >>> zd 56)]) (sz := 1) En8 (by kernel_rfl) (by kernel_rfl) rfl (by decide) Hv0 ?_
 intro _ _ bk9 En12 Hv13
 refine f_o <| ZV (d := some 21) (t := 26) (tx := 26) (ty := 26) (k := 0) (p := za lb) (m := 1) (x := .slice (some ⟨bk9, 0, none⟩) 1 1) (bytes := 1) En12 (by kernel_rfl) Hv13 rfl (Qm _) (ZR (size := 1) (tx := 26) (e' := 5) (by kernel_rfl) (Hv13.heap.reads (k := 1) rfl) rfl (fun e => by cases e) (ZD _)) (by kernel_rfl) (z := .int .u8 0) (by kernel_rfl) rfl (by decide) (by omega) (by unfold maxLen; omega) ?_
 intro _ _ ao14 cp15 En20 Hv21 hnz _
 clear hnz
 rw [← ZP] at Hv21
 have ehz16 : (za lb) + 1 = za (lb ++ [zj (x >>> zd 56)]) := (by first | (simp; done) | (simp; omega) | omega)
 rw [ehz16] at En20
 refine d_e [0,1,6,7] [] En20 fun _ En23 => ?_
 refine zA <| zg <| d_r [0,1,6,7] [] En23 fun _ En25 => ?_
 refine zg <| z7 <| wp_seq <| d_s [0,1,6,7,11] [] En25 fun _ En27 => ?_
 refine c_t En27 ?_
 refine wp_skip <| zg <| wp_seq <| wp_block <| zm <| d_k [0,1,6,7,14,19] [(4, g_i .u64 (Go.Dbr.u64_shr (x := x) (n := 48) rfl (by decide))), (5, g_i .u8 (Go.Dbr.u64_to_u8 (x := x >>> zd 48) rfl))] 6 En27 fun _ En29 => ?_
 refine f_o <| Qu (d := some 20) (t := 26) (T := 5) (m := 1) (parts := #[(0, bv (zj (x >>> zd 48)))]) (xs := bys [zj (x >>> zd 48)]) (sz := 1) En29 (by kernel_rfl) (by kernel_rfl) rfl (by decide) Hv21 ?_
 intro _ _ bk30 En33 Hv34
 refine f_o <| ZV (d := some 21) (t := 26) (tx := 26) (ty := 26) (k := 0) (p := za (lb ++ [zj (x >>> zd 56)])) (m := 1) (x := .slice (some ⟨bk30, 0, none⟩) 1 1) (bytes := 1) En33 (by kernel_rfl) Hv34 rfl (Qm _) (ZR (size := 1) (tx := 26) (e' := 5) (by kernel_rfl) (Hv34.heap.reads (k := 2) rfl) rfl (fun e => by cases e) (ZD _)) (by kernel_rfl) (z := .int .u8 0) (by kernel_rfl) rfl (by decide) (by omega) (by unfold maxLen; omega) ?_
 intro _ _ ao35 cp36 En41 Hv42 hnz _
 clear hnz
 rw [← ZP] at Hv42
 have ehz37 : (za (lb ++ [zj (x >>> zd 56)])) + 1 = za ((lb ++ [zj (x >>> zd 56)]) ++ [zj (x >>> zd 48)]) := (by first | (simp; done) | (simp; omega) | omega)
 rw [ehz37] at En41
 refine d_e [0,1,6,7] [] En41 fun _ En44 => ?_
 refine zA <| zg <| d_r [0,1,6,7] [] En44 fun _ En46 => ?_
 refine zg <| z7 <| wp_seq <| d_s [0,1,6,7,11] [] En46 fun _ En48 => ?_
 refine c_t En48 ?_
 refine wp_skip <| zg <| wp_seq <| wp_block <| zm <| d_k [0,1,6,7,14,19] [(4, g_i .u64 (Go.Dbr.u64_shr (x := x) (n := 40) rfl (by decide))), (5, g_i .u8 (Go.Dbr.u64_to_u8 (x := x >>> zd 40) rfl))] 6 En48 fun _ En50 => ?_
 refine f_o <| Qu (d := some 20) (t := 26) (T := 5) (m := 1) (parts := #[(0, bv (zj (x >>> zd 40)))]) (xs := bys [zj (x >>> zd 40)]) (sz := 1) En50 (by kernel_rfl) (by kernel_rfl) rfl (by decide) Hv42 ?_
 intro _ _ bk51 En54 Hv55
 refine f_o <| ZV (d := some 21) (t := 26) (tx := 26) (ty := 26) (k := 0) (p := za ((lb ++ [zj (x >>> zd 56)]) ++ [zj (x >>> zd 48)])) (m := 1) (x := .slice (some ⟨bk51, 0, none⟩) 1 1) (bytes := 1) En54 (by kernel_rfl) Hv55 rfl (Qm _) (ZR (size := 1) (tx := 26) (e' := 5) (by kernel_rfl) (Hv55.heap.reads (k := 3) rfl) rfl (fun e => by cases e) (ZD _)) (by kernel_rfl) (z := .int .u8 0) (by kernel_rfl) rfl (by decide) (by omega) (by unfold maxLen; omega) ?_
 intro _ _ ao56 cp57 En62 Hv63 hnz _
 clear hnz
 rw [← ZP] at Hv63
 have ehz58 : (za ((lb ++ [zj (x >>> zd 56)]) ++ [zj (x >>> zd 48)])) + 1 = za (((lb ++ [zj (x >>> zd 56)]) ++ [zj (x >>> zd 48)]) ++ [zj (x >>> zd 40)]) := (by first | (simp; done) | (simp; omega) | omega)
 rw [ehz58] at En62
 refine d_e [0,1,6,7] [] En62 fun _ En65 => ?_
 refine zA <| zg <| d_r [0,1,6,7] [] En65 fun _ En67 => ?_
 refine zg <| z7 <| wp_seq <| d_s [0,1,6,7,11] [] En67 fun _ En69 => ?_
 refine c_t En69 ?_
 refine wp_skip <| zg <| wp_seq <| wp_block <| zm <| d_k [0,1,6,7,14,19] [(4, g_i .u64 (Go.Dbr.u64_shr (x := x) (n := 32) rfl (by decide))), (5, g_i .u8 (Go.Dbr.u64_to_u8 (x := x >>> zd 32) rfl))] 6 En69 fun _ En71 => ?_
 refine f_o <| Qu (d := some 20) (t := 26) (T := 5) (m := 1) (parts := #[(0, bv (zj (x >>> zd 32)))]) (xs := bys [zj (x >>> zd 32)]) (sz := 1) En71 (by kernel_rfl) (by kernel_rfl) rfl (by decide) Hv63 ?_
 intro _ _ bk72 En75 Hv76
 refine f_o <| ZV (d := some 21) (t := 26) (tx := 26) (ty := 26) (k := 0) (p := za (((lb ++ [zj (x >>> zd 56)]) ++ [zj (x >>> zd 48)]) ++ [zj (x >>> zd 40)])) (m := 1) (x := .slice (some ⟨bk72, 0, none⟩) 1 1) (bytes := 1) En75 (by kernel_rfl) Hv76 rfl (Qm _) (ZR (size := 1) (tx := 26) (e' := 5) (by kernel_rfl) (Hv76.heap.reads (k := 4) rfl) rfl (fun e => by cases e) (ZD _)) (by kernel_rfl) (z := .int .u8 0) (by kernel_rfl) rfl (by decide) (by omega) (by unfold maxLen; omega) ?_
 intro _ _ ao77 cp78 En83 Hv84 hnz _
 clear hnz
 rw [← ZP] at Hv84
 have ehz79 : (za (((lb ++ [zj (x >>> zd 56)]) ++ [zj (x >>> zd 48)]) ++ [zj (x >>> zd 40)])) + 1 = za ((((lb ++ [zj (x >>> zd 56)]) ++ [zj (x >>> zd 48)]) ++ [zj (x >>> zd 40)]) ++ [zj (x >>> zd 32)]) := (by first | (simp; done) | (simp; omega) | omega)
 rw [ehz79] at En83
 refine d_e [0,1,6,7] [] En83 fun _ En86 => ?_
 refine zA <| zg <| d_r [0,1,6,7] [] En86 fun _ En88 => ?_
 refine zg <| z7 <| wp_seq <| d_s [0,1,6,7,11] [] En88 fun _ En90 => ?_
 refine c_t En90 ?_
 refine wp_skip <| zg <| wp_seq <| wp_block <| zm <| d_k [0,1,6,7,14,19] [(4, g_i .u64 (Go.Dbr.u64_shr (x := x) (n := 24) rfl (by decide))), (5, g_i .u8 (Go.Dbr.u64_to_u8 (x := x >>> zd 24) rfl))] 6 En90 fun _ En92 => ?_
 refine f_o <| Qu (d := some 20) (t := 26) (T := 5) (m := 1) (parts := #[(0, bv (zj (x >>> zd 24)))]) (xs := bys [zj (x >>> zd 24)]) (sz := 1) En92 (by kernel_rfl) (by kernel_rfl) rfl (by decide) Hv84 ?_
 intro _ _ bk93 En96 Hv97
 refine f_o <| ZV (d := some 21) (t := 26) (tx := 26) (ty := 26) (k := 0) (p := za ((((lb ++ [zj (x >>> zd 56)]) ++ [zj (x >>> zd 48)]) ++ [zj (x >>> zd 40)]) ++ [zj (x >>> zd 32)])) (m := 1) (x := .slice (some ⟨bk93, 0, none⟩) 1 1) (bytes := 1) En96 (by kernel_rfl) Hv97 rfl (Qm _) (ZR (size := 1) (tx := 26) (e' := 5) (by kernel_rfl) (Hv97.heap.reads (k := 5) rfl) rfl (fun e => by cases e) (ZD _)) (by kernel_rfl) (z := .int .u8 0) (by kernel_rfl) rfl (by decide) (by omega) (by unfold maxLen; omega) ?_
 intro _ _ ao98 cp99 En104 Hv105 hnz _
 clear hnz
 rw [← ZP] at Hv105
 have ehz100 : (za ((((lb ++ [zj (x >>> zd 56)]) ++ [zj (x >>> zd 48)]) ++ [zj (x >>> zd 40)]) ++ [zj (x >>> zd 32)])) + 1 = za (((((lb ++ [zj (x >>> zd 56)]) ++ [zj (x >>> zd 48)]) ++ [zj (x >>> zd 40)]) ++ [zj (x >>> zd 32)]) ++ [zj (x >>> zd 24)]) := (by first | (simp; done) | (simp; omega) | omega)
 rw [ehz100] at En104
 refine d_e [0,1,6,7] [] En104 fun _ En107 => ?_
 refine zA <| zg <| d_r [0,1,6,7] [] En107 fun _ En109 => ?_
 refine zg <| z7 <| wp_seq <| d_s [0,1,6,7,11] [] En109 fun _ En111 => ?_
 refine c_t En111 ?_
 refine wp_skip <| zg <| wp_seq <| wp_block <| zm <| d_k [0,1,6,7,14,19] [(4, g_i .u64 (Go.Dbr.u64_shr (x := x) (n := 16) rfl (by decide))), (5, g_i .u8 (Go.Dbr.u64_to_u8 (x := x >>> zd 16) rfl))] 6 En111 fun _ En113 => ?_
 refine f_o <| Qu (d := some 20) (t := 26) (T := 5) (m := 1) (parts := #[(0, bv (zj (x >>> zd 16)))]) (xs := bys [zj (x >>> zd 16)]) (sz := 1) En113 (by kernel_rfl) (by kernel_rfl) rfl (by decide) Hv105 ?_
 intro _ _ bk114 En117 Hv118
 refine f_o <| ZV (d := some 21) (t := 26) (tx := 26) (ty := 26) (k := 0) (p := za (((((lb ++ [zj (x >>> zd 56)]) ++ [zj (x >>> zd 48)]) ++ [zj (x >>> zd 40)]) ++ [zj (x >>> zd 32)]) ++ [zj (x >>> zd 24)])) (m := 1) (x := .slice (some ⟨bk114, 0, none⟩) 1 1) (bytes := 1) En117 (by kernel_rfl) Hv118 rfl (Qm _) (ZR (size := 1) (tx := 26) (e' := 5) (by kernel_rfl) (Hv118.heap.reads (k := 6) rfl) rfl (fun e => by cases e) (ZD _)) (by kernel_rfl) (z := .int .u8 0) (by kernel_rfl) rfl (by decide) (by omega) (by unfold maxLen; omega) ?_
 intro _ _ ao119 cp120 En125 Hv126 hnz _
 clear hnz
 rw [← ZP] at Hv126
 have ehz121 : (za (((((lb ++ [zj (x >>> zd 56)]) ++ [zj (x >>> zd 48)]) ++ [zj (x >>> zd 40)]) ++ [zj (x >>> zd 32)]) ++ [zj (x >>> zd 24)])) + 1 = za ((((((lb ++ [zj (x >>> zd 56)]) ++ [zj (x >>> zd 48)]) ++ [zj (x >>> zd 40)]) ++ [zj (x >>> zd 32)]) ++ [zj (x >>> zd 24)]) ++ [zj (x >>> zd 16)]) := (by first | (simp; done) | (simp; omega) | omega)
 rw [ehz121] at En125
 refine d_e [0,1,6,7] [] En125 fun _ En128 => ?_
 refine zA <| zg <| d_r [0,1,6,7] [] En128 fun _ En130 => ?_
 refine zg <| z7 <| wp_seq <| d_s [0,1,6,7,11] [] En130 fun _ En132 => ?_
 refine c_t En132 ?_
 refine wp_skip <| zg <| wp_seq <| wp_block <| zm <| d_k [0,1,6,7,14,19] [(4, g_i .u64 (Go.Dbr.u64_shr (x := x) (n := 8) rfl (by decide))), (5, g_i .u8 (Go.Dbr.u64_to_u8 (x := x >>> zd 8) rfl))] 6 En132 fun _ En134 => ?_
 refine f_o <| Qu (d := some 20) (t := 26) (T := 5) (m := 1) (parts := #[(0, bv (zj (x >>> zd 8)))]) (xs := bys [zj (x >>> zd 8)]) (sz := 1) En134 (by kernel_rfl) (by kernel_rfl) rfl (by decide) Hv126 ?_
 intro _ _ bk135 En138 Hv139
 refine f_o <| ZV (d := some 21) (t := 26) (tx := 26) (ty := 26) (k := 0) (p := za ((((((lb ++ [zj (x >>> zd 56)]) ++ [zj (x >>> zd 48)]) ++ [zj (x >>> zd 40)]) ++ [zj (x >>> zd 32)]) ++ [zj (x >>> zd 24)]) ++ [zj (x >>> zd 16)])) (m := 1) (x := .slice (some ⟨bk135, 0, none⟩) 1 1) (bytes := 1) En138 (by kernel_rfl) Hv139 rfl (Qm _) (ZR (size := 1) (tx := 26) (e' := 5) (by kernel_rfl) (Hv139.heap.reads (k := 7) rfl) rfl (fun e => by cases e) (ZD _)) (by kernel_rfl) (z := .int .u8 0) (by kernel_rfl) rfl (by decide) (by omega) (by unfold maxLen; omega) ?_
 intro _ _ ao140 cp141 En146 Hv147 hnz _
 clear hnz
 rw [← ZP] at Hv147
 have ehz142 : (za ((((((lb ++ [zj (x >>> zd 56)]) ++ [zj (x >>> zd 48)]) ++ [zj (x >>> zd 40)]) ++ [zj (x >>> zd 32)]) ++ [zj (x >>> zd 24)]) ++ [zj (x >>> zd 16)])) + 1 = za (((((((lb ++ [zj (x >>> zd 56)]) ++ [zj (x >>> zd 48)]) ++ [zj (x >>> zd 40)]) ++ [zj (x >>> zd 32)]) ++ [zj (x >>> zd 24)]) ++ [zj (x >>> zd 16)]) ++ [zj (x >>> zd 8)]) := (by first | (simp; done) | (simp; omega) | omega)
 rw [ehz142] at En146
 refine d_e [0,1,6,7] [] En146 fun _ En149 => ?_
 refine zA <| zg <| d_r [0,1,6,7] [] En149 fun _ En151 => ?_
 refine zg <| z7 <| wp_seq <| d_s [0,1,6,7,11] [] En151 fun _ En153 => ?_
 refine c_t En153 ?_
 refine wp_skip <| zg <| wp_seq <| wp_block <| zm <| d_k [0,1,6,7,14,19] [(4, g_i .u64 (Go.Dbr.u64_shr (x := x) (n := 0) rfl (by decide))), (5, g_i .u8 (Go.Dbr.u64_to_u8 (x := x >>> zd 0) rfl))] 6 En153 fun _ En155 => ?_
 refine f_o <| Qu (d := some 20) (t := 26) (T := 5) (m := 1) (parts := #[(0, bv (zj (x >>> zd 0)))]) (xs := bys [zj (x >>> zd 0)]) (sz := 1) En155 (by kernel_rfl) (by kernel_rfl) rfl (by decide) Hv147 ?_
 intro _ _ bk156 En159 Hv160
 refine f_o <| ZV (d := some 21) (t := 26) (tx := 26) (ty := 26) (k := 0) (p := za (((((((lb ++ [zj (x >>> zd 56)]) ++ [zj (x >>> zd 48)]) ++ [zj (x >>> zd 40)]) ++ [zj (x >>> zd 32)]) ++ [zj (x >>> zd 24)]) ++ [zj (x >>> zd 16)]) ++ [zj (x >>> zd 8)])) (m := 1) (x := .slice (some ⟨bk156, 0, none⟩) 1 1) (bytes := 1) En159 (by kernel_rfl) Hv160 rfl (Qm _) (ZR (size := 1) (tx := 26) (e' := 5) (by kernel_rfl) (Hv160.heap.reads (k := 8) rfl) rfl (fun e => by cases e) (ZD _)) (by kernel_rfl) (z := .int .u8 0) (by kernel_rfl) rfl (by decide) (by omega) (by unfold maxLen; omega) ?_
 intro _ _ ao161 cp162 En167 Hv168 hnz _
 clear hnz
 rw [← ZP] at Hv168
 have ehz163 : (za (((((((lb ++ [zj (x >>> zd 56)]) ++ [zj (x >>> zd 48)]) ++ [zj (x >>> zd 40)]) ++ [zj (x >>> zd 32)]) ++ [zj (x >>> zd 24)]) ++ [zj (x >>> zd 16)]) ++ [zj (x >>> zd 8)])) + 1 = za ((((((((lb ++ [zj (x >>> zd 56)]) ++ [zj (x >>> zd 48)]) ++ [zj (x >>> zd 40)]) ++ [zj (x >>> zd 32)]) ++ [zj (x >>> zd 24)]) ++ [zj (x >>> zd 16)]) ++ [zj (x >>> zd 8)]) ++ [zj (x >>> zd 0)]) := (by first | (simp; done) | (simp; omega) | omega)
 rw [ehz163] at En167
 refine d_e [0,1,6,7] [] En167 fun _ En170 => ?_
 refine zA <| zg <| d_r [0,1,6,7] [] En170 fun _ En172 => ?_
 refine zg <| z7 <| wp_seq <| d_s [0,1,6,7,11] [] En172 fun _ En174 => ?_
 refine c_f En174 ?_
 refine wp_exit <| zI <| zI <| z9 <| zg <| d_s [0,1,6,7] [] En174 fun _ En176 => ?_
 refine wp_ret <| Qb (t := 6) (v := .slice ao161 (za ((((((((lb ++ [zj (x >>> zd 56)]) ++ [zj (x >>> zd 48)]) ++ [zj (x >>> zd 40)]) ++ [zj (x >>> zd 32)]) ++ [zj (x >>> zd 24)]) ++ [zj (x >>> zd 16)]) ++ [zj (x >>> zd 8)]) ++ [zj (x >>> zd 0)])) cp162) En176 (by kernel_rfl) (by kernel_rfl) ?_
 have hl : (((((((lb ++ [zj (x >>> zd 56)]) ++ [zj (x >>> zd 48)]) ++ [zj (x >>> zd 40)]) ++ [zj (x >>> zd 32)]) ++ [zj (x >>> zd 24)]) ++ [zj (x >>> zd 16)]) ++ [zj (x >>> zd 8)]) ++ [zj (x >>> zd 0)] = lb ++ be8 x := by simp [be8]
 have Hf177 := Hv168.pk [0] (M := [.vec ao161 cp162 1 (bys ((((((((lb ++ [zj (x >>> zd 56)]) ++ [zj (x >>> zd 48)]) ++ [zj (x >>> zd 40)]) ++ [zj (x >>> zd 32)]) ++ [zj (x >>> zd 24)]) ++ [zj (x >>> zd 16)]) ++ [zj (x >>> zd 8)]) ++ [zj (x >>> zd 0)])) 5])
 rw [hl] at Hf177
 exact ⟨_, _, by rw [hl], Hf177⟩

end Go.Proofs.YtlnogkmnklfjlaaDoor.Sh

/- Layer 5: sums. -/

namespace Go.Proofs.YtlnogkmnklfjlaaDoor.Sh
open Go.Dbr
set_option maxRecDepth 100000
set_option maxHeartbeats 2000000
set_option linter.unusedVariables false
set_option linter.unusedSimpArgs false

def pdZ (sz r : Nat) : Nat := (sz - (r + 1 + sz / 8) % sz) % sz
def padB (sz : Nat) (r n : Nat) : List UInt8 := ((([128] : List UInt8) ++ ze (pdZ sz r) 0) ++ ze (sz / 8 - 8) 0) ++ be8 (zd n * 8)
theorem padB_len (sz r n : Nat) (h : 0 < sz) (h2 : sz ≤ 128) : (padB sz r n).length ≤ 153 := by
  have : pdZ sz r < sz := Nat.mod_lt _ h
  simp [padB, be8]
  omega
def padH (h : Int) (al : List UInt8) : List UInt8 := if h = 1 then padB 64 (restH h al).length al.length else padB 128 (restH h al).length al.length
theorem padH_len (h : Int) (al : List UInt8) : (padH h al).length ≤ 153 := by
  unfold padH
  split
  · exact padB_len _ _ _ (by decide) (by decide)
  · exact padB_len _ _ _ (by decide) (by decide)
def out32 (s : List UInt32) : Nat → List UInt8
  | 0 => []
  | i + 1 => out32 s i ++ be4 (UInt32.toUInt64 (zb s i 0))
def out64 (s : List UInt64) : Nat → List UInt8
  | 0 => []
  | i + 1 => out64 s i ++ be8 (zb s i 0)
theorem out32_len (s : List UInt32) (i : Nat) : (out32 s i).length = 4 * i := by
  induction i with
  | zero => rfl
  | succ i ih => rw [out32, zU, ih]; rfl
theorem out64_len (s : List UInt64) (i : Nat) : (out64 s i).length = 8 * i := by
  induction i with
  | zero => rfl
  | succ i ih => rw [out64, zU, ih]; rfl
/-- the sum of bytes -/
def sumF (h : Int) (al : List UInt8) : List UInt8 := zk (sizeOfH h) (if h = 1 then out32 (S32 h (al ++ padH h al)) 8 else out64 (S64 h (al ++ padH h al)) 8)
theorem sumF_len {h : Int} (hh : h = 1 ∨ h = 2 ∨ h = 3) (al : List UInt8) : (sumF h al).length = sizeOfH h := by
  unfold sumF
  rw [zp]
  rcases hh with rfl | rfl | rfl
  · rw [if_pos rfl, out32_len]; rfl
  · rw [if_neg (by decide), out64_len]; rfl
  · rw [if_neg (by decide), out64_len]; rfl
theorem end_step {B : List UInt8} {j : Nat} : (B ++ ze j 0) ++ [0] = B ++ ze (j + 1) 0 := by rw [List.append_assoc, List.replicate_succ']
theorem size_le (h : Int) : sizeOfH h ≤ 64 := by
  unfold sizeOfH
  split
  · decide
  · split
    · decide
    · split <;> decide

end Go.Proofs.YtlnogkmnklfjlaaDoor.Sh
