/- Layer 5: a block is taken into a state: the walk. -/
import Derived.Test.YtbpihljkkkeijaaDoorS3
namespace Go.Proofs.YtbpihljkkkeijaaDoor
open Go.Dbr
set_option maxRecDepth 100000
set_option maxHeartbeats 2000000
set_option linter.unusedVariables false
set_option linter.unusedSimpArgs false

theorem blocked64_go (w : World) (bd : Nat) (hh : Int) (s : List UInt32) (hls : List.length s = 8) (s2 : List UInt64) (hls2 : List.length s2 = 8) (ar : Option Addr) (nr cr : Nat) (dn : UInt64) (aw : Option Addr) (cw : Nat) (w0 : List UInt64) (hw0 : List.length w0 = 16) (gk64 : InU64 w [dB bd hh s s2 ar nr cr dn, .vec aw cw 1 (u64s w0) 53] (some ⟨1, 0, none⟩) 80 K64) (hH : Heap w [dB bd hh s s2 ar nr cr dn, .vec aw cw 1 (u64s w0) 53]) : Calls Tryd.prog 37 #[.pointer (some ⟨bd, 9, none⟩), .slice aw 16 cw, .slice (some ⟨1, 0, none⟩) 80 80, .agg (List.toArray kL64)] w fun e w' => e = .returned (.tuple #[]) ∧ Ev w [dB bd hh s s2 ar nr cr dn, .vec aw cw 1 (u64s w0) 53] w' [dB bd hh s (blk64 s2 w0) ar nr cr dn] := by
 rw [show (16 : Nat) = List.length w0 from hw0.symm]
 have hKl : List.length K64 = 80 := rfl
 refine d_0 [(0, .pointer (some ⟨bd, 9, none⟩)), (1, .slice aw (List.length w0) cw), (2, .slice (some ⟨1, 0, none⟩) 80 80), (3, .agg (List.toArray kL64))] 179 Go.Proofs.Tryd.func37 Go.Proofs.Tryd.ntmps37 (hH) fun act0 En0 Hv0 => ?_
 refine wp_seq ?_
 refine region_from ?_
 refine f_o ?_
 refine m_m 66 kL64 En0 Hv0 fun ac2 wo3 bk1 En4 Hv5 => ?_
 refine f_e ?_
 refine then_normal ?_
 refine wp_seq ?_
 refine wp_seq ?_
 refine d_r [0,1,2,7,8] [] En4 fun ac6 En7 => ?_
 refine then_normal ?_
 refine wp_block ?_
 refine loop_m (fun ms8 ac wo => ∃ (q : Nat) (av : Option Addr) (cv : Nat) (wl : List UInt64), ms8 = (64 - q : Nat) ∧ Env ac 179 [(0, .pointer (some ⟨bd, 9, none⟩)), (1, .slice av (List.length wl) cv), (2, .slice (some ⟨1, 0, none⟩) 80 80), (7, pt bk1), (8, ni (16 + q))] ∧ Ev w [dB bd hh s s2 ar nr cr dn, .vec aw cw 1 (u64s w0) 53] wo [.vec av cv 1 (u64s wl) 53, dB bd hh s s2 ar nr cr dn, .box bk1 kL64 66] ∧ (q ≤ 64) ∧ (wl = sch64 w0 q)) ⟨_, 0, aw, cw, w0, rfl, En7.sb, Hv5.pk [1, 0, 2], by omega, rfl⟩ ?_
 rintro mm14 ac10 wo11 ⟨q, av, cv, wl, rfl, En12, Hv13, hq, hew⟩
 refine wp_seq ?_
 refine wp_seq ?_
 refine d_r [0,1,2,7,8,25] [] En12 fun ac15 En16 => ?_
 refine then_normal ?_
 refine c_d (((16 + q : Nat) : Int) < (80 : Int)) En16 (fun hc17 => ?_) (fun hc17 => ?_)
 ·
  refine wp_skip ?_
  refine then_normal ?_
  refine wp_seq ?_
  refine wp_block ?_
  have hwl : List.length wl = 16 + q := by rw [hew, sch64_len, hw0]
  refine r_c (fun ac wo => ∃ (ao3635 : Option Addr) (cp3636 : Nat), Env ac 179 [(0, .pointer (some ⟨bd, 9, none⟩)), (1, .slice ao3635 (List.length (wl ++ [(((mix64 (List.getD wl (14 + q) 0) 19 61 6 true) + (List.getD wl (9 + q) 0)) + (mix64 (List.getD wl (1 + q) 0) 1 8 7 true)) + (List.getD wl q 0)])) cp3636), (2, .slice (some ⟨1, 0, none⟩) 80 80), (7, pt bk1), (8, ni (16 + q))] ∧ Ev w [dB bd hh s s2 ar nr cr dn, .vec aw cw 1 (u64s w0) 53] wo [.vec ao3635 cp3636 1 (u64s (wl ++ [(((mix64 (List.getD wl (14 + q) 0) 19 61 6 true) + (List.getD wl (9 + q) 0)) + (mix64 (List.getD wl (1 + q) 0) 1 8 7 true)) + (List.getD wl q 0)])) 53, dB bd hh s s2 ar nr cr dn, .box bk1 kL64 66]) ?_ ?_
  ·
   refine h_s (fun wv => Ev w [dB bd hh s s2 ar nr cr dn, .vec aw cw 1 (u64s w0) 53] wv [.vec av cv 1 (u64s wl) 53, .box bk1 kL64 66]) [35] 37 ?_
   have wo18 := Hv13.trans (Ev.drew Hv13.heap)
   have hb3647 : 14 + q < List.length wl := (by omega)
   obtain ⟨adr3645, had3646⟩ := some_of (u64s_vnz wo18.heap (k := 0) rfl) hb3647
   refine q_s [0,1,2,3] [(3, g_n (w_r (e := ((16 + q : Nat) : Int) - (2 : Int)) (x := ((14 + q : Nat) : Int)) (by omega)))] 33 En16 (wo18.pk [0, 2]) fun ac3648 En3649 => ?_
   refine q_f 4 (s := Instr.indexAt 69 (.slice av (List.length wl) cv) (ni (14 + q))) (v := .pointer (some (Addr.add adr3645 (14 + q)))) En3649 (fun _ => Go.Dbr.run_indexsl (e := 53) (sz := 1) (j := 14 + q) (jo := 14 + q) had3646 (by kernel_rfl) (by kernel_rfl) (by omega) hb3647 (Nat.mul_one _) _) (fun _ => wo18.pk [0, 2]) fun ac3650 En3651 => ?_
   have hb3652 : 14 + q < List.length wl := by omega
   refine q_r 5 (s := Instr.loadAt 53 (.pointer (some (Addr.add adr3645 (14 + q))))) (v := uv64 (List.getD wl (14 + q) 0)) En3651 (fun w hS => run_loadel (ad := adr3645) (o := 14 + q) rfl (hS.heap.reads (k := 0) rfl) had3646 (u64s_getD hb3652) (by kernel_rfl)) (wo18.pk [0, 2]) fun ac3653 En3654 => ?_
   refine q_s [6] [] 30 En3654 (wo18.pk [0, 2]) fun ac3655 En3656 => ?_
   refine q_l 1 7 En3656 (wo18.pk [0, 2]) fun ac3657 En3658 => ?_
   refine q_s [8] [] 28 En3658 (wo18.pk [0, 2]) fun ac3659 En3660 => ?_
   refine q_r 9 (s := Instr.loadAt 64 (.pointer (some ⟨bk1, 4, none⟩))) (v := .agg #[.int .i64 19, .int .i64 61, .int .i64 6]) En3660 (fun w hS => run_loadAgg2 (m := 3) (cs := [.int .i64 19, .int .i64 61, .int .i64 6]) rfl (by kernel_rfl) (by kernel_rfl) (hS.heap.cells (k := 1) (off := 4) (m := 3) rfl rfl)) (wo18.pk [0, 2]) fun ac3661 En3662 => ?_
   have hb3665 : 9 + q < List.length wl := (by omega)
   obtain ⟨adr3663, had3664⟩ := some_of (u64s_vnz wo18.heap (k := 0) rfl) hb3665
   refine q_s [11,12,13] [(13, g_n (w_r (e := ((16 + q : Nat) : Int) - (7 : Int)) (x := ((9 + q : Nat) : Int)) (by omega)))] 24 En3662 (wo18.pk [0, 2]) fun ac3666 En3667 => ?_
   refine q_f 14 (s := Instr.indexAt 69 (.slice av (List.length wl) cv) (ni (9 + q))) (v := .pointer (some (Addr.add adr3663 (9 + q)))) En3667 (fun _ => Go.Dbr.run_indexsl (e := 53) (sz := 1) (j := 9 + q) (jo := 9 + q) had3664 (by kernel_rfl) (by kernel_rfl) (by omega) hb3665 (Nat.mul_one _) _) (fun _ => wo18.pk [0, 2]) fun ac3668 En3669 => ?_
   have hb3670 : 9 + q < List.length wl := by omega
   refine q_r 15 (s := Instr.loadAt 53 (.pointer (some (Addr.add adr3663 (9 + q))))) (v := uv64 (List.getD wl (9 + q) 0)) En3669 (fun w hS => run_loadel (ad := adr3663) (o := 9 + q) rfl (hS.heap.reads (k := 0) rfl) had3664 (u64s_getD hb3670) (by kernel_rfl)) (wo18.pk [0, 2]) fun ac3671 En3672 => ?_
   have hb3675 : 1 + q < List.length wl := (by omega)
   obtain ⟨adr3673, had3674⟩ := some_of (u64s_vnz wo18.heap (k := 0) rfl) hb3675
   refine q_s [17,18,19] [(19, g_n (w_r (e := ((16 + q : Nat) : Int) - (15 : Int)) (x := ((1 + q : Nat) : Int)) (by omega)))] 19 En3672 (wo18.pk [0, 2]) fun ac3676 En3677 => ?_
   refine q_f 20 (s := Instr.indexAt 69 (.slice av (List.length wl) cv) (ni (1 + q))) (v := .pointer (some (Addr.add adr3673 (1 + q)))) En3677 (fun _ => Go.Dbr.run_indexsl (e := 53) (sz := 1) (j := 1 + q) (jo := 1 + q) had3674 (by kernel_rfl) (by kernel_rfl) (by omega) hb3675 (Nat.mul_one _) _) (fun _ => wo18.pk [0, 2]) fun ac3678 En3679 => ?_
   have hb3680 : 1 + q < List.length wl := by omega
   refine q_r 21 (s := Instr.loadAt 53 (.pointer (some (Addr.add adr3673 (1 + q))))) (v := uv64 (List.getD wl (1 + q) 0)) En3679 (fun w hS => run_loadel (ad := adr3673) (o := 1 + q) rfl (hS.heap.reads (k := 0) rfl) had3674 (u64s_getD hb3680) (by kernel_rfl)) (wo18.pk [0, 2]) fun ac3681 En3682 => ?_
   refine q_s [22] [] 16 En3682 (wo18.pk [0, 2]) fun ac3683 En3684 => ?_
   refine q_l 1 23 En3684 (wo18.pk [0, 2]) fun ac3685 En3686 => ?_
   refine q_s [24] [] 14 En3686 (wo18.pk [0, 2]) fun ac3687 En3688 => ?_
   refine q_r 25 (s := Instr.loadAt 64 (.pointer (some ⟨bk1, 1, none⟩))) (v := .agg #[.int .i64 1, .int .i64 8, .int .i64 7]) En3688 (fun w hS => run_loadAgg2 (m := 3) (cs := [.int .i64 1, .int .i64 8, .int .i64 7]) rfl (by kernel_rfl) (by kernel_rfl) (hS.heap.cells (k := 1) (off := 1) (m := 3) rfl rfl)) (wo18.pk [0, 2]) fun ac3689 En3690 => ?_
   have hb3693 : q < List.length wl := (by omega)
   obtain ⟨adr3691, had3692⟩ := some_of (u64s_vnz wo18.heap (k := 0) rfl) hb3693
   refine q_s [28,29,30] [(30, g_n (w_r (e := ((16 + q : Nat) : Int) - (16 : Int)) (x := ((q : Nat) : Int)) (by omega)))] 10 En3690 (wo18.pk [0, 2]) fun ac3694 En3695 => ?_
   refine q_f 31 (s := Instr.indexAt 69 (.slice av (List.length wl) cv) (ni q)) (v := .pointer (some (Addr.add adr3691 q))) En3695 (fun _ => Go.Dbr.run_indexsl (e := 53) (sz := 1) (j := q) (jo := q) had3692 (by kernel_rfl) (by kernel_rfl) (by omega) hb3693 (Nat.mul_one _) _) (fun _ => wo18.pk [0, 2]) fun ac3696 En3697 => ?_
   have hb3698 : q < List.length wl := by omega
   refine q_r 32 (s := Instr.loadAt 53 (.pointer (some (Addr.add adr3691 q)))) (v := uv64 (List.getD wl q 0)) En3697 (fun w hS => run_loadel (ad := adr3691) (o := q) rfl (hS.heap.reads (k := 0) rfl) had3692 (u64s_getD hb3698) (by kernel_rfl)) (wo18.pk [0, 2]) fun ac3699 En3700 => ?_
   refine q_t 10 ?_
   refine c_p En3700 wo18 (mixed64_true _ (List.getD wl (14 + q) 0) 19 61 6 (by decide) (by decide) (by decide)) fun ac3705 wo3702 En3706 Hv3707 => ?_
   refine ⟨fun _ => Hv3707.pk [0, 2], ?_⟩
   refine q_s [16] [(16, g_i .u64 (Go.Dbr.u64_add (x := mix64 (List.getD wl (14 + q) 0) 19 61 6 true) (y := List.getD wl (9 + q) 0) rfl rfl))] 6 En3706 (Hv3707.pk [0, 2]) fun ac3708 En3709 => ?_
   refine q_t 26 ?_
   refine c_p En3709 Hv3707 (mixed64_true _ (List.getD wl (1 + q) 0) 1 8 7 (by decide) (by decide) (by decide)) fun ac3714 wo3711 En3715 Hv3716 => ?_
   refine ⟨fun _ => Hv3716.pk [0, 2], ?_⟩
   refine q_s [27,33] [(27, g_i .u64 (Go.Dbr.u64_add (x := (mix64 (List.getD wl (14 + q) 0) 19 61 6 true) + (List.getD wl (9 + q) 0)) (y := mix64 (List.getD wl (1 + q) 0) 1 8 7 true) rfl rfl)), (33, g_i .u64 (Go.Dbr.u64_add (x := ((mix64 (List.getD wl (14 + q) 0) 19 61 6 true) + (List.getD wl (9 + q) 0)) + (mix64 (List.getD wl (1 + q) 0) 1 8 7 true)) (y := List.getD wl q 0) rfl rfl))] 3 En3715 (Hv3716.pk [0, 2]) fun ac3717 En3718 => ?_
   refine q_t 34 ?_
   refine op_lit (d := some 62) (t := 69) (T := 53) (m := 1) (parts := #[(0, uv64 ((((mix64 (List.getD wl (14 + q) 0) 19 61 6 true) + (List.getD wl (9 + q) 0)) + (mix64 (List.getD wl (1 + q) 0) 1 8 7 true)) + (List.getD wl q 0)))]) (xs := u64s [(((mix64 (List.getD wl (14 + q) 0) 19 61 6 true) + (List.getD wl (9 + q) 0)) + (mix64 (List.getD wl (1 + q) 0) 1 8 7 true)) + (List.getD wl q 0)]) (sz := 1) En3718 (by kernel_rfl) (by kernel_rfl) rfl (by decide) Hv3716 ?_
   intro ac3720 wo3721 bk3719 En3722 Hv3723
   refine ⟨fun _ => Hv3723.pk [0, 2], ?_⟩
   refine q_t 35 ?_
   refine op_append (d := some 63) (t := 69) (tx := 69) (ty := 69) (k := 0) (p := List.length wl) (m := 1) (x := .slice (some ⟨bk3719, 0, none⟩) 1 1) (bytes := 8) En3722 (by kernel_rfl) Hv3723 rfl (u64s_len _) (Reads.src (size := 1) (tx := 69) (e' := 53) (by kernel_rfl) (Hv3723.heap.reads (k := 3) rfl) rfl (fun e => by cases e) (u64s_one _)) (by kernel_rfl) (z := .int .u64 0) (by kernel_rfl) rfl (by decide) (by omega) (by unfold maxLen; omega) ?_
   intro ac3728 wo3729 ao3724 cp3725 En3730 Hv3731 hnz _
   clear hnz
   rw [← u64s_append] at Hv3731
   have ehz3726 : (List.length wl) + 1 = List.length (wl ++ [(((mix64 (List.getD wl (14 + q) 0) 19 61 6 true) + (List.getD wl (9 + q) 0)) + (mix64 (List.getD wl (1 + q) 0) 1 8 7 true)) + (List.getD wl q 0)]) := (by first | (simp; done) | (simp; omega) | omega)
   rw [ehz3726] at En3730
   refine ⟨q_y, ?_⟩
   refine q_n [36] [] 0 En3730 fun ac3732 En3733 => ?_
   exact h_e ⟨ao3724, cp3725, En3733.sb, Hv3731.pk [0, 1, 2]⟩
  rintro ac3734 wo3735 ⟨ao3635, cp3636, En3736, Hv3737⟩
  refine block_normal ?_
  refine then_normal ?_
  refine d_r [0,1,2,7,8] [(1, g_n (w_a (16 + q) 1))] En3736 fun ac3738 En3739 => ?_
  refine then_normal ?_
  refine ⟨_, ⟨q + 1, ao3635, cp3636, (wl ++ [(((mix64 (List.getD wl (14 + q) 0) 19 61 6 true) + (List.getD wl (9 + q) 0)) + (mix64 (List.getD wl (1 + q) 0) 1 8 7 true)) + (List.getD wl q 0)]), rfl, En3739.sb, Hv3737.pk [0, 1, 2], by omega, by rw [hew]; rfl⟩, ?_⟩
  omega
 ·
  refine wp_exit ?_
  refine then_exit ?_
  refine then_exit ?_
  refine block_exit ?_
  refine then_normal ?_
  refine wp_seq ?_
  have hq64 : q = 64 := by omega
  have hwl : List.length wl = 80 := by rw [hew, sch64_len, hw0, hq64]
  refine r_c (fun ac wo => Env ac 179 [(0, .pointer (some ⟨bd, 9, none⟩)), (1, .slice av (List.length wl) cv), (2, .slice (some ⟨1, 0, none⟩) 80 80), (7, pt bk1), (8, ni (16 + q)), (9, uv64 (List.getD s2 0 0)), (10, uv64 (List.getD s2 1 0)), (11, uv64 (List.getD s2 2 0)), (12, uv64 (List.getD s2 3 0)), (13, uv64 (List.getD s2 4 0)), (14, uv64 (List.getD s2 5 0)), (15, uv64 (List.getD s2 6 0)), (16, uv64 (List.getD s2 7 0))] ∧ Ev w [dB bd hh s s2 ar nr cr dn, .vec aw cw 1 (u64s w0) 53] wo [.vec av cv 1 (u64s wl) 53, dB bd hh s s2 ar nr cr dn, .box bk1 kL64 66]) ?_ ?_
  ·
   refine h_s (fun wv => Ev w [dB bd hh s s2 ar nr cr dn, .vec aw cw 1 (u64s w0) 53] wv [dB bd hh s s2 ar nr cr dn]) [] 40 ?_
   have wo3740 := Hv13.trans (Ev.drew Hv13.heap)
   have hb9644 : 0 < List.length s2 := by rw [hls2]; omega
   refine q_s [0,1,2] [] 37 En16 (wo3740.pk [1]) fun ac9645 En9646 => ?_
   refine q_r 3 (s := Instr.loadAt 53 (.pointer (some ⟨bd, 9, none⟩))) (v := uv64 (List.getD s2 0 0)) En9646 (fun w hS => run_load1 (by kernel_rfl) (hS.heap.cell (k := 0) rfl (seg_skip (n := 1) (j := 8) rfl (seg_skip (n := 8) (j := 0) (u32s_lenh hls) (seg_in (u64s_getD hb9644)))))) (wo3740.pk [1]) fun ac9647 En9648 => ?_
   have hb9649 : 1 < List.length s2 := by rw [hls2]; omega
   refine q_s [4,5,6] [] 33 En9648 (wo3740.pk [1]) fun ac9650 En9651 => ?_
   refine q_r 7 (s := Instr.loadAt 53 (.pointer (some ⟨bd, 10, none⟩))) (v := uv64 (List.getD s2 1 0)) En9651 (fun w hS => run_load1 (by kernel_rfl) (hS.heap.cell (k := 0) rfl (seg_skip (n := 1) (j := 9) rfl (seg_skip (n := 8) (j := 1) (u32s_lenh hls) (seg_in (u64s_getD hb9649)))))) (wo3740.pk [1]) fun ac9652 En9653 => ?_
   have hb9654 : 2 < List.length s2 := by rw [hls2]; omega
   refine q_s [8,9,10] [] 29 En9653 (wo3740.pk [1]) fun ac9655 En9656 => ?_
   refine q_r 11 (s := Instr.loadAt 53 (.pointer (some ⟨bd, 11, none⟩))) (v := uv64 (List.getD s2 2 0)) En9656 (fun w hS => run_load1 (by kernel_rfl) (hS.heap.cell (k := 0) rfl (seg_skip (n := 1) (j := 10) rfl (seg_skip (n := 8) (j := 2) (u32s_lenh hls) (seg_in (u64s_getD hb9654)))))) (wo3740.pk [1]) fun ac9657 En9658 => ?_
   have hb9659 : 3 < List.length s2 := by rw [hls2]; omega
   refine q_s [12,13,14] [] 25 En9658 (wo3740.pk [1]) fun ac9660 En9661 => ?_
   refine q_r 15 (s := Instr.loadAt 53 (.pointer (some ⟨bd, 12, none⟩))) (v := uv64 (List.getD s2 3 0)) En9661 (fun w hS => run_load1 (by kernel_rfl) (hS.heap.cell (k := 0) rfl (seg_skip (n := 1) (j := 11) rfl (seg_skip (n := 8) (j := 3) (u32s_lenh hls) (seg_in (u64s_getD hb9659)))))) (wo3740.pk [1]) fun ac9662 En9663 => ?_
   have hb9664 : 4 < List.length s2 := by rw [hls2]; omega
   refine q_s [16,17,18] [] 21 En9663 (wo3740.pk [1]) fun ac9665 En9666 => ?_
   refine q_r 19 (s := Instr.loadAt 53 (.pointer (some ⟨bd, 13, none⟩))) (v := uv64 (List.getD s2 4 0)) En9666 (fun w hS => run_load1 (by kernel_rfl) (hS.heap.cell (k := 0) rfl (seg_skip (n := 1) (j := 12) rfl (seg_skip (n := 8) (j := 4) (u32s_lenh hls) (seg_in (u64s_getD hb9664)))))) (wo3740.pk [1]) fun ac9667 En9668 => ?_
   have hb9669 : 5 < List.length s2 := by rw [hls2]; omega
   refine q_s [20,21,22] [] 17 En9668 (wo3740.pk [1]) fun ac9670 En9671 => ?_
   refine q_r 23 (s := Instr.loadAt 53 (.pointer (some ⟨bd, 14, none⟩))) (v := uv64 (List.getD s2 5 0)) En9671 (fun w hS => run_load1 (by kernel_rfl) (hS.heap.cell (k := 0) rfl (seg_skip (n := 1) (j := 13) rfl (seg_skip (n := 8) (j := 5) (u32s_lenh hls) (seg_in (u64s_getD hb9669)))))) (wo3740.pk [1]) fun ac9672 En9673 => ?_
   have hb9674 : 6 < List.length s2 := by rw [hls2]; omega
   refine q_s [24,25,26] [] 13 En9673 (wo3740.pk [1]) fun ac9675 En9676 => ?_
   refine q_r 27 (s := Instr.loadAt 53 (.pointer (some ⟨bd, 15, none⟩))) (v := uv64 (List.getD s2 6 0)) En9676 (fun w hS => run_load1 (by kernel_rfl) (hS.heap.cell (k := 0) rfl (seg_skip (n := 1) (j := 14) rfl (seg_skip (n := 8) (j := 6) (u32s_lenh hls) (seg_in (u64s_getD hb9674)))))) (wo3740.pk [1]) fun ac9677 En9678 => ?_
   have hb9679 : 7 < List.length s2 := by rw [hls2]; omega
   refine q_s [28,29,30] [] 9 En9678 (wo3740.pk [1]) fun ac9680 En9681 => ?_
   refine q_r 31 (s := Instr.loadAt 53 (.pointer (some ⟨bd, 16, none⟩))) (v := uv64 (List.getD s2 7 0)) En9681 (fun w hS => run_load1 (by kernel_rfl) (hS.heap.cell (k := 0) rfl (seg_skip (n := 1) (j := 15) rfl (seg_skip (n := 8) (j := 7) (u32s_lenh hls) (seg_in (u64s_getD hb9679)))))) (wo3740.pk [1]) fun ac9682 En9683 => ?_
   refine q_s [32,33,34,35,36,37,38,39] [] 0 En9683 (wo3740.pk [1]) fun ac9684 En9685 => ?_
   exact h_e ⟨En9685.sb, wo3740.pk [0, 1, 2]⟩
  rintro ac9686 wo9687 ⟨En9688, Hv9689⟩
  refine then_normal ?_
  refine wp_seq ?_
  refine wp_seq ?_
  refine d_r [0,1,2,7,8,9,10,11,12,13,14,15,16,97,98] [] En9688 fun ac9690 En9691 => ?_
  refine then_normal ?_
  refine wp_block ?_
  refine loop_m (fun ms9692 ac wo => ∃ (j : Nat) (v : List UInt64), ms9692 = (80 - j : Nat) ∧ Env ac 179 [(0, .pointer (some ⟨bd, 9, none⟩)), (1, .slice av (List.length wl) cv), (2, .slice (some ⟨1, 0, none⟩) 80 80), (7, pt bk1), (8, ni (16 + q)), (9, uv64 (List.getD v 0 0)), (10, uv64 (List.getD v 1 0)), (11, uv64 (List.getD v 2 0)), (12, uv64 (List.getD v 3 0)), (13, uv64 (List.getD v 4 0)), (14, uv64 (List.getD v 5 0)), (15, uv64 (List.getD v 6 0)), (16, uv64 (List.getD v 7 0)), (97, .int .i64 80), (98, ni j)] ∧ Ev w [dB bd hh s s2 ar nr cr dn, .vec aw cw 1 (u64s w0) 53] wo [.vec av cv 1 (u64s wl) 53, dB bd hh s s2 ar nr cr dn, .box bk1 kL64 66] ∧ (j ≤ 80) ∧ (v = rnd64 wl s2 j)) ⟨_, 0, s2, rfl, En9691.sb, Hv9689.pk [0, 1, 2], by omega, rfl⟩ ?_
  rintro mm9698 ac9694 wo9695 ⟨j, v, rfl, En9696, Hv9697, hj, hev⟩
  refine wp_seq ?_
  refine d_r [0,1,2,7,8,9,10,11,12,13,14,15,16,97,98,99] [] En9696 fun ac9699 En9700 => ?_
  refine then_normal ?_
  refine wp_seq ?_
  refine c_d (((j : Nat) : Int) < (80 : Int)) En9700 (fun hc9701 => ?_) (fun hc9701 => ?_)
  ·
   refine wp_skip ?_
   refine then_normal ?_
   refine wp_seq ?_
   refine wp_block ?_
   refine wp_seq ?_
   refine d_r [0,1,2,7,8,9,10,11,12,13,14,15,16,17,97,98] [] En9700 fun ac9702 En9703 => ?_
   refine then_normal ?_
   refine wp_seq ?_
   refine r_c (fun ac wo => Env ac 179 [(0, .pointer (some ⟨bd, 9, none⟩)), (1, .slice av (List.length wl) cv), (2, .slice (some ⟨1, 0, none⟩) 80 80), (7, pt bk1), (8, ni (16 + q)), (9, uv64 (List.getD v 0 0)), (10, uv64 (List.getD v 1 0)), (11, uv64 (List.getD v 2 0)), (12, uv64 (List.getD v 3 0)), (13, uv64 (List.getD v 4 0)), (14, uv64 (List.getD v 5 0)), (15, uv64 (List.getD v 6 0)), (16, uv64 (List.getD v 7 0)), (18, uv64 (((((List.getD v 7 0) + (mix64 (List.getD v 4 0) 14 18 41 false)) + ((List.getD v 6 0) ^^^ ((List.getD v 4 0) &&& ((List.getD v 5 0) ^^^ (List.getD v 6 0))))) + (List.getD K64 j 0)) + (List.getD wl j 0))), (97, .int .i64 80), (98, ni j)] ∧ Ev w [dB bd hh s s2 ar nr cr dn, .vec aw cw 1 (u64s w0) 53] wo [.vec av cv 1 (u64s wl) 53, dB bd hh s s2 ar nr cr dn, .box bk1 kL64 66]) ?_ ?_
   ·
    refine h_s (fun wv => Ev w [dB bd hh s s2 ar nr cr dn, .vec aw cw 1 (u64s w0) 53] wv [.vec av cv 1 (u64s wl) 53, .box bk1 kL64 66]) [] 27 ?_
    have wo9704 := Hv9697.trans (Ev.drew Hv9697.heap)
    refine q_s [0,1,2] [] 24 En9703 (wo9704.pk [0, 2]) fun ac9918 En9919 => ?_
    refine q_l 1 3 En9919 (wo9704.pk [0, 2]) fun ac9920 En9921 => ?_
    refine q_s [4] [] 22 En9921 (wo9704.pk [0, 2]) fun ac9922 En9923 => ?_
    refine q_r 5 (s := Instr.loadAt 64 (.pointer (some ⟨bk1, 10, none⟩))) (v := .agg #[.int .i64 14, .int .i64 18, .int .i64 41]) En9923 (fun w hS => run_loadAgg2 (m := 3) (cs := [.int .i64 14, .int .i64 18, .int .i64 41]) rfl (by kernel_rfl) (by kernel_rfl) (hS.heap.cells (k := 1) (off := 10) (m := 3) rfl rfl)) (wo9704.pk [0, 2]) fun ac9924 En9925 => ?_
    have hb9928 : j < 80 := (by omega)
    refine q_s [8,9,10,11,12,13,14,16,17] [(12, g_i .u64 (Go.Dbr.u64_xor (x := List.getD v 5 0) (y := List.getD v 6 0) rfl rfl)), (13, g_i .u64 (Go.Dbr.u64_and (x := List.getD v 4 0) (y := (List.getD v 5 0) ^^^ (List.getD v 6 0)) rfl rfl)), (14, g_i .u64 (Go.Dbr.u64_xor (x := List.getD v 6 0) (y := (List.getD v 4 0) &&& ((List.getD v 5 0) ^^^ (List.getD v 6 0))) rfl rfl))] 12 En9925 (wo9704.pk [0, 2]) fun ac9929 En9930 => ?_
    refine q_f 18 (s := Instr.indexAt 69 (.slice (some ⟨1, 0, none⟩) 80 80) (ni j)) (v := .pointer (some (Addr.add ⟨1, 0, none⟩ j))) En9930 (fun _ => Go.Dbr.run_indexsl (e := 53) (sz := 1) (j := j) (jo := j) rfl (by kernel_rfl) (by kernel_rfl) (by omega) hb9928 (Nat.mul_one _) _) (fun _ => wo9704.pk [0, 2]) fun ac9931 En9932 => ?_
    have hb9933 : j < List.length K64 := by omega
    refine q_r 19 (s := Instr.loadAt 53 (.pointer (some (Addr.add ⟨1, 0, none⟩ j)))) (v := uv64 (List.getD K64 j 0)) En9932 (fun w hS => run_loadel (ad := ⟨1, 0, none⟩) (o := j) rfl (gk64.ev hS).reads rfl (u64s_getD hb9933) (by kernel_rfl)) (wo9704.pk [0, 2]) fun ac9934 En9935 => ?_
    have hb9938 : j < List.length wl := (by omega)
    obtain ⟨adr9936, had9937⟩ := some_of (u64s_vnz wo9704.heap (k := 0) rfl) hb9938
    refine q_s [21,22] [] 8 En9935 (wo9704.pk [0, 2]) fun ac9939 En9940 => ?_
    refine q_f 23 (s := Instr.indexAt 69 (.slice av (List.length wl) cv) (ni j)) (v := .pointer (some (Addr.add adr9936 j))) En9940 (fun _ => Go.Dbr.run_indexsl (e := 53) (sz := 1) (j := j) (jo := j) had9937 (by kernel_rfl) (by kernel_rfl) (by omega) hb9938 (Nat.mul_one _) _) (fun _ => wo9704.pk [0, 2]) fun ac9941 En9942 => ?_
    have hb9943 : j < List.length wl := by omega
    refine q_r 24 (s := Instr.loadAt 53 (.pointer (some (Addr.add adr9936 j)))) (v := uv64 (List.getD wl j 0)) En9942 (fun w hS => run_loadel (ad := adr9936) (o := j) rfl (hS.heap.reads (k := 0) rfl) had9937 (u64s_getD hb9943) (by kernel_rfl)) (wo9704.pk [0, 2]) fun ac9944 En9945 => ?_
    refine q_t 6 ?_
    refine c_p En9945 wo9704 (mixed64_false _ (List.getD v 4 0) 14 18 41 (by decide) (by decide) (by decide)) fun ac9950 wo9947 En9951 Hv9952 => ?_
    refine ⟨fun _ => Hv9952.pk [0, 2], ?_⟩
    refine q_s [7,15,20,25,26] [(7, g_i .u64 (Go.Dbr.u64_add (x := List.getD v 7 0) (y := mix64 (List.getD v 4 0) 14 18 41 false) rfl rfl)), (15, g_i .u64 (Go.Dbr.u64_add (x := (List.getD v 7 0) + (mix64 (List.getD v 4 0) 14 18 41 false)) (y := (List.getD v 6 0) ^^^ ((List.getD v 4 0) &&& ((List.getD v 5 0) ^^^ (List.getD v 6 0)))) rfl rfl)), (20, g_i .u64 (Go.Dbr.u64_add (x := ((List.getD v 7 0) + (mix64 (List.getD v 4 0) 14 18 41 false)) + ((List.getD v 6 0) ^^^ ((List.getD v 4 0) &&& ((List.getD v 5 0) ^^^ (List.getD v 6 0))))) (y := List.getD K64 j 0) rfl rfl)), (25, g_i .u64 (Go.Dbr.u64_add (x := (((List.getD v 7 0) + (mix64 (List.getD v 4 0) 14 18 41 false)) + ((List.getD v 6 0) ^^^ ((List.getD v 4 0) &&& ((List.getD v 5 0) ^^^ (List.getD v 6 0))))) + (List.getD K64 j 0)) (y := List.getD wl j 0) rfl rfl))] 0 En9951 (Hv9952.pk [0, 2]) fun ac9953 En9954 => ?_
    exact h_e ⟨En9954.sb, Hv9952.pk [0, 1, 2]⟩
   rintro ac9955 wo9956 ⟨En9957, Hv9958⟩
   refine then_normal ?_
   refine wp_seq ?_
   refine region_from ?_
   refine d_k [0,1,2,7,8,9,10,11,12,13,14,15,16,18,97,98,127,128] [] 2 En9957 fun ac9959 En9960 => ?_
   refine f_o ?_
   refine m_l 2 En9960 Hv9958 fun ac9961 En9962 => ?_
   refine d_k [0,1,2,7,8,9,10,11,12,13,14,15,16,18,97,98,127,129,130] [] 4 En9962 fun ac9963 En9964 => ?_
   refine f_o ?_
   refine m_a 2 7 3 [.int .i64 28, .int .i64 34, .int .i64 39] En9964 Hv9958 rfl rfl rfl fun ac9965 En9966 => ?_
   refine f_o ?_
   refine c_p En9966 Hv9958 (mixed64_false _ (List.getD v 0 0) 28 34 39 (by decide) (by decide) (by decide)) fun ac9971 wo9968 En9972 Hv9973 => ?_
   refine d_e [0,1,2,7,8,9,10,11,12,13,14,15,16,18,19,97,98] [(8, g_i .u64 (Go.Dbr.u64_and (x := List.getD v 0 0) (y := List.getD v 1 0) rfl rfl)), (12, g_i .u64 (Go.Dbr.u64_or (x := List.getD v 0 0) (y := List.getD v 1 0) rfl rfl)), (13, g_i .u64 (Go.Dbr.u64_and (x := List.getD v 2 0) (y := (List.getD v 0 0) ||| (List.getD v 1 0)) rfl rfl)), (14, g_i .u64 (Go.Dbr.u64_or (x := (List.getD v 0 0) &&& (List.getD v 1 0)) (y := (List.getD v 2 0) &&& ((List.getD v 0 0) ||| (List.getD v 1 0))) rfl rfl)), (15, g_i .u64 (Go.Dbr.u64_add (x := mix64 (List.getD v 0 0) 28 34 39 false) (y := ((List.getD v 0 0) &&& (List.getD v 1 0)) ||| ((List.getD v 2 0) &&& ((List.getD v 0 0) ||| (List.getD v 1 0)))) rfl rfl))] En9972 fun ac9974 En9975 => ?_
   refine then_normal ?_
   refine d_r [0,1,2,7,8,9,10,11,12,13,14,15,16,97,98] [(2, g_i .u64 (Go.Dbr.u64_add (x := ((((List.getD v 7 0) + (mix64 (List.getD v 4 0) 14 18 41 false)) + ((List.getD v 6 0) ^^^ ((List.getD v 4 0) &&& ((List.getD v 5 0) ^^^ (List.getD v 6 0))))) + (List.getD K64 j 0)) + (List.getD wl j 0)) (y := (mix64 (List.getD v 0 0) 28 34 39 false) + (((List.getD v 0 0) &&& (List.getD v 1 0)) ||| ((List.getD v 2 0) &&& ((List.getD v 0 0) ||| (List.getD v 1 0))))) rfl rfl)), (8, g_i .u64 (Go.Dbr.u64_add (x := List.getD v 3 0) (y := ((((List.getD v 7 0) + (mix64 (List.getD v 4 0) 14 18 41 false)) + ((List.getD v 6 0) ^^^ ((List.getD v 4 0) &&& ((List.getD v 5 0) ^^^ (List.getD v 6 0))))) + (List.getD K64 j 0)) + (List.getD wl j 0)) rfl rfl))] En9975 fun ac9976 En9977 => ?_
   refine block_normal ?_
   refine then_normal ?_
   refine d_r [0,1,2,7,8,9,10,11,12,13,14,15,16,97,98] [(0, g_n (w_a j 1))] En9977 fun ac9978 En9979 => ?_
   refine then_normal ?_
   have hv2 : step64 v (List.getD K64 j 0) (List.getD wl j 0) = [(((((List.getD v 7 0) + (mix64 (List.getD v 4 0) 14 18 41 false)) + ((List.getD v 6 0) ^^^ ((List.getD v 4 0) &&& ((List.getD v 5 0) ^^^ (List.getD v 6 0))))) + (List.getD K64 j 0)) + (List.getD wl j 0)) + ((mix64 (List.getD v 0 0) 28 34 39 false) + (((List.getD v 0 0) &&& (List.getD v 1 0)) ||| ((List.getD v 2 0) &&& ((List.getD v 0 0) ||| (List.getD v 1 0))))), List.getD v 0 0, List.getD v 1 0, List.getD v 2 0, (List.getD v 3 0) + (((((List.getD v 7 0) + (mix64 (List.getD v 4 0) 14 18 41 false)) + ((List.getD v 6 0) ^^^ ((List.getD v 4 0) &&& ((List.getD v 5 0) ^^^ (List.getD v 6 0))))) + (List.getD K64 j 0)) + (List.getD wl j 0)), List.getD v 4 0, List.getD v 5 0, List.getD v 6 0] := rfl
   refine ⟨_, ⟨j + 1, [(((((List.getD v 7 0) + (mix64 (List.getD v 4 0) 14 18 41 false)) + ((List.getD v 6 0) ^^^ ((List.getD v 4 0) &&& ((List.getD v 5 0) ^^^ (List.getD v 6 0))))) + (List.getD K64 j 0)) + (List.getD wl j 0)) + ((mix64 (List.getD v 0 0) 28 34 39 false) + (((List.getD v 0 0) &&& (List.getD v 1 0)) ||| ((List.getD v 2 0) &&& ((List.getD v 0 0) ||| (List.getD v 1 0))))), List.getD v 0 0, List.getD v 1 0, List.getD v 2 0, (List.getD v 3 0) + (((((List.getD v 7 0) + (mix64 (List.getD v 4 0) 14 18 41 false)) + ((List.getD v 6 0) ^^^ ((List.getD v 4 0) &&& ((List.getD v 5 0) ^^^ (List.getD v 6 0))))) + (List.getD K64 j 0)) + (List.getD wl j 0)), List.getD v 4 0, List.getD v 5 0, List.getD v 6 0], rfl, En9979.sb, Hv9973.pk [0, 1, 2], by omega, by rw [← hv2, hev]; rfl⟩, ?_⟩
   omega
  ·
   refine wp_exit ?_
   refine then_exit ?_
   refine then_exit ?_
   refine block_exit ?_
   refine then_normal ?_
   refine wp_seq ?_
   have hjn : j = 80 := by omega
   have hvl : List.length v = 8 := by rw [hev, hjn]; rfl
   refine d_r [0,1,2,7,8,9,10,11,12,13,14,15,16,97,98,164,165] [] En9700 fun ac9980 En9981 => ?_
   refine then_normal ?_
   refine wp_block ?_
   have hlv : ([List.getD v 0 0, List.getD v 1 0, List.getD v 2 0, List.getD v 3 0, List.getD v 4 0, List.getD v 5 0, List.getD v 6 0, List.getD v 7 0] : List UInt64) = v := by rcases v8 hvl with ⟨a0, a1, a2, a3, a4, a5, a6, a7, rfl⟩; rfl
   refine loop_m (fun ms9982 ac wo => ∃ (i : Nat) (sx : List UInt64), ms9982 = (8 - i : Nat) ∧ Env ac 179 [(0, .pointer (some ⟨bd, 9, none⟩)), (1, .slice av (List.length wl) cv), (2, .slice (some ⟨1, 0, none⟩) 80 80), (7, pt bk1), (8, ni (16 + q)), (9, uv64 (List.getD v 0 0)), (10, uv64 (List.getD v 1 0)), (11, uv64 (List.getD v 2 0)), (12, uv64 (List.getD v 3 0)), (13, uv64 (List.getD v 4 0)), (14, uv64 (List.getD v 5 0)), (15, uv64 (List.getD v 6 0)), (16, uv64 (List.getD v 7 0)), (97, .int .i64 80), (98, ni j), (164, .agg (List.toArray (u64s ([List.getD v 0 0, List.getD v 1 0, List.getD v 2 0, List.getD v 3 0, List.getD v 4 0, List.getD v 5 0, List.getD v 6 0, List.getD v 7 0] : List UInt64)))), (165, ni i)] ∧ Ev w [dB bd hh s s2 ar nr cr dn, .vec aw cw 1 (u64s w0) 53] wo [dB bd hh s sx ar nr cr dn, .vec av cv 1 (u64s wl) 53, .box bk1 kL64 66] ∧ (i ≤ 8) ∧ (List.length sx = 8) ∧ (sx = add64 s2 v i)) ⟨_, 0, s2, rfl, En9981.sb, Hv9697.pk [1, 0, 2], by omega, hls2, rfl⟩ ?_
   rintro mm9988 ac9984 wo9985 ⟨i, sx, rfl, En9986, Hv9987, hi, hlx, hes⟩
   refine wp_seq ?_
   refine d_r [0,1,2,7,8,9,10,11,12,13,14,15,16,97,98,164,165,166] [] En9986 fun ac9989 En9990 => ?_
   refine then_normal ?_
   refine wp_seq ?_
   refine c_d (((i : Nat) : Int) < (8 : Int)) En9990 (fun hc9991 => ?_) (fun hc9991 => ?_)
   ·
    refine wp_skip ?_
    refine then_normal ?_
    refine wp_seq ?_
    refine wp_block ?_
    refine wp_seq ?_
    have hb9992 : i < List.length ([List.getD v 0 0, List.getD v 1 0, List.getD v 2 0, List.getD v 3 0, List.getD v 4 0, List.getD v 5 0, List.getD v 6 0, List.getD v 7 0] : List UInt64) := by rw [(show List.length ([List.getD v 0 0, List.getD v 1 0, List.getD v 2 0, List.getD v 3 0, List.getD v 4 0, List.getD v 5 0, List.getD v 6 0, List.getD v 7 0] : List UInt64) = 8 from rfl)]; omega
    refine region_from ?_
    refine d_k [0,1,2,7,8,9,10,11,12,13,14,15,16,97,98,164,165,167] [] 1 En9990 fun ac9993 En9994 => ?_
    refine f_o ?_
    refine q_v (x := Instr.index 54 (.agg (List.toArray (u64s ([List.getD v 0 0, List.getD v 1 0, List.getD v 2 0, List.getD v 3 0, List.getD v 4 0, List.getD v 5 0, List.getD v 6 0, List.getD v 7 0] : List UInt64)))) (ni i)) (v := uv64 (List.getD ([List.getD v 0 0, List.getD v 1 0, List.getD v 2 0, List.getD v 3 0, List.getD v 4 0, List.getD v 5 0, List.getD v 6 0, List.getD v 7 0] : List UInt64) i 0)) En9994 (Go.Dbr.run_indexval (e := 53) (m := 8) (cs := u64s ([List.getD v 0 0, List.getD v 1 0, List.getD v 2 0, List.getD v 3 0, List.getD v 4 0, List.getD v 5 0, List.getD v 6 0, List.getD v 7 0] : List UInt64)) (j := i) (v := uv64 (List.getD ([List.getD v 0 0, List.getD v 1 0, List.getD v 2 0, List.getD v 3 0, List.getD v 4 0, List.getD v 5 0, List.getD v 6 0, List.getD v 7 0] : List UInt64) i 0)) (by kernel_rfl) (by kernel_rfl) (by kernel_rfl) (by omega) (by omega) (u64s_getD hb9992) _) fun ac9995 En9996 => ?_
    refine d_e [0,1,2,7,8,9,10,11,12,13,14,15,16,20,21,97,98,164,165] [] En9996 fun ac9997 En9998 => ?_
    refine then_normal ?_
    refine r_c (fun ac wo => Env ac 179 [(0, .pointer (some ⟨bd, 9, none⟩)), (1, .slice av (List.length wl) cv), (2, .slice (some ⟨1, 0, none⟩) 80 80), (7, pt bk1), (8, ni (16 + q)), (9, uv64 (List.getD v 0 0)), (10, uv64 (List.getD v 1 0)), (11, uv64 (List.getD v 2 0)), (12, uv64 (List.getD v 3 0)), (13, uv64 (List.getD v 4 0)), (14, uv64 (List.getD v 5 0)), (15, uv64 (List.getD v 6 0)), (16, uv64 (List.getD v 7 0)), (97, .int .i64 80), (98, ni j), (164, .agg (List.toArray (u64s ([List.getD v 0 0, List.getD v 1 0, List.getD v 2 0, List.getD v 3 0, List.getD v 4 0, List.getD v 5 0, List.getD v 6 0, List.getD v 7 0] : List UInt64)))), (165, ni i)] ∧ Ev w [dB bd hh s s2 ar nr cr dn, .vec aw cw 1 (u64s w0) 53] wo [.box bd (([.int .i64 hh] : List Value) ++ ((u32s s) ++ ((u64s (List.set sx i ((List.getD sx i 0) + (List.getD ([List.getD v 0 0, List.getD v 1 0, List.getD v 2 0, List.getD v 3 0, List.getD v 4 0, List.getD v 5 0, List.getD v 6 0, List.getD v 7 0] : List UInt64) i 0)))) ++ ([.slice ar nr cr, uv64 dn] : List Value)))) 58, .vec av cv 1 (u64s wl) 53, .box bk1 kL64 66]) ?_ ?_
    ·
     refine draw_any (by kernel_rfl) 10 (by kernel_rfl) ?_
     have wo9999 := Hv9987.trans (Ev.drew Hv9987.heap)
     refine q_a [0,1,2] [] 7 En9998 fun ac10018 En10019 => ?_
     refine q_g 3 (s := Instr.indexAt 54 (.pointer (some ⟨bd, 9, none⟩)) (ni i)) (v := .pointer (some ⟨bd, 9 + i, none⟩)) En10019 (fun _ => Go.Dbr.run_indexarr (e := 53) (sz := 1) (m := 8) (j := i) (o := 9 + i) (by kernel_rfl) (by kernel_rfl) (by omega) (by omega) (by omega) _) fun ac10020 En10021 => ?_
     refine q_a [5,7] [] 4 En10021 fun ac10022 En10023 => ?_
     refine q_u 4 ?_
     have hb10024 : i < List.length sx := by rw [hlx]; omega
     refine m_v 0 (9 + i) (uv64 (List.getD sx i 0)) En10023 wo9999 rfl (seg_eq (by omega) (seg_skip (n := 1) (j := 8 + (i)) rfl (seg_skip (n := 8) (j := i) (u32s_lenh hls) (seg_in (u64s_getD hb10024))))) fun ac10025 En10026 => ?_
     refine q_a [6] [(6, g_i .u64 (Go.Dbr.u64_add (x := List.getD sx i 0) (y := List.getD ([List.getD v 0 0, List.getD v 1 0, List.getD v 2 0, List.getD v 3 0, List.getD v 4 0, List.getD v 5 0, List.getD v 6 0, List.getD v 7 0] : List UInt64) i 0) rfl rfl))] 2 En10026 fun ac10027 En10028 => ?_
     refine q_g 8 (s := Instr.indexAt 54 (.pointer (some ⟨bd, 9, none⟩)) (ni i)) (v := .pointer (some ⟨bd, 9 + i, none⟩)) En10028 (fun _ => Go.Dbr.run_indexarr (e := 53) (sz := 1) (m := 8) (j := i) (o := 9 + i) (by kernel_rfl) (by kernel_rfl) (by omega) (by omega) (by omega) _) fun ac10029 En10030 => ?_
     refine q_u 9 ?_
     have hb10031 : i < List.length sx := by rw [hlx]; omega
     refine m_t 0 (9 + i) (uv64 ((List.getD sx i 0) + (List.getD ([List.getD v 0 0, List.getD v 1 0, List.getD v 2 0, List.getD v 3 0, List.getD v 4 0, List.getD v 5 0, List.getD v 6 0, List.getD v 7 0] : List UInt64) i 0))) [.box bd (([.int .i64 hh] : List Value) ++ ((u32s s) ++ ((u64s (List.set sx i ((List.getD sx i 0) + (List.getD ([List.getD v 0 0, List.getD v 1 0, List.getD v 2 0, List.getD v 3 0, List.getD v 4 0, List.getD v 5 0, List.getD v 6 0, List.getD v 7 0] : List UInt64) i 0)))) ++ ([.slice ar nr cr, uv64 dn] : List Value)))) 58, .vec av cv 1 (u64s wl) 53, .box bk1 kL64 66] En10030 wo9999 rfl (seg_eq (by omega) (seg_skip (n := 1) (j := 8 + (i)) rfl (seg_skip (n := 8) (j := i) (u32s_lenh hls) (seg_in (u64s_getD hb10031))))) (set_eq (j := 1 + (8 + (i))) (by omega) ((set_skip (n := 1) (j := 8 + (i)) rfl).trans (congrArg (([.int .i64 hh] : List Value) ++ ·) ((set_skip (n := 8) (j := i) (u32s_lenh hls)).trans (congrArg ((u32s s) ++ ·) ((set_in (by rw [(u64s_lenh hlx)]; omega)).trans (congrArg (· ++ [.slice ar nr cr, uv64 dn]) (u64s_set _ _ _)))))))) rfl fun ac10032 wo10033 En10034 Hv10035 => ?_
     exact a_e ⟨En10034.sb, Hv10035.pk [0, 1, 2]⟩
    rintro ac10036 wo10037 ⟨En10038, Hv10039⟩
    refine block_normal ?_
    refine then_normal ?_
    refine d_r [0,1,2,7,8,9,10,11,12,13,14,15,16,97,98,164,165] [(0, g_n (w_a i 1))] En10038 fun ac10040 En10041 => ?_
    refine then_normal ?_
    refine ⟨_, ⟨i + 1, (List.set sx i ((List.getD sx i 0) + (List.getD ([List.getD v 0 0, List.getD v 1 0, List.getD v 2 0, List.getD v 3 0, List.getD v 4 0, List.getD v 5 0, List.getD v 6 0, List.getD v 7 0] : List UInt64) i 0))), rfl, En10041.sb, Hv10039.pk [0, 1, 2], by omega, (List.length_set.trans hlx), by rw [hes, hlv]; rfl⟩, ?_⟩
    omega
   ·
    refine wp_exit ?_
    refine then_exit ?_
    refine then_exit ?_
    refine block_exit ?_
    refine d_end0 En9990 (by kernel_rfl) ?_
    have hi8 : i = 8 := by omega
    have hres : sx = blk64 s2 w0 := by rw [hes, hi8, hev, hjn, hew, hq64]; rfl
    rw [show sx = (blk64 s2 w0) from hres] at Hv9987
    exact ⟨rfl, Hv9987.pk [0]⟩

end Go.Proofs.YtbpihljkkkeijaaDoor
