import Derived.Test.YtlnogkmnklfjlaaGreatDoorSg10
import Derived.Test.YtlnogkmnklfjlaaGreatDoorSg2
open List renaming getD → za, length → zb, replicate → zd, toArray → zg, length_replicate → zi, take → zn, drop → zo, length_take → zs, length_drop → zu, length_append → zC, drop_append → z4, take_append → z5, drop_drop → Qy, drop_append_of_le_length → YC
open UInt64 renaming ofNat → zc, toUInt8 → zj
open Go.Dbr renaming then_normal → ze, u64s_lenh → zf, u64s → zh, region_from → zk, uv64 → zm, u64s_one → zt, block_normal → zv, u64s_getD → zx, then_exit → zy, len_app → zE, loop_once → zF, block_exit → zL, run_loadAgg2 → zM, seg_skip → zR, bys_append → Zd, run_load1 → Zf, bys_one → Zj, op_append → Zk, h_from → Zl, u32s_lenh → Zz, bys_len → ZD, then_ret → ZE, u32s → ZG, op_lit → ZO, op_slicearr → ZQ, loop_m → ZR, block_ret → Z8, d_ret1 → Qu, bys_vcap → Yd, set_skip → Yn, run_loadel → YX, some_of → Y5, seg_in → Ja, u64s_vnz → XG, bys_in_take → XJ
open Go.Dbr.Ev renaming drew → zO
open Go.Dbr.Reads renaming src → Zg
open Nat renaming mul_one → ZA
open Go.Proofs.YtlnogkmnklfjlaaGreatDoor.Sh renaming mix64 → QG, wB64_len → Ji, wB64 → Jt, blk64 → Xm, blk64_len → Xn, kL64 → XV
namespace Go.Proofs.YtlnogkmnklfjlaaGreatDoor.Sh
open Go.Dbr
set_option maxRecDepth 100000
set_option maxHeartbeats 2000000
set_option linter.unusedVariables false
set_option linter.unusedSimpArgs false
theorem blocked64_go (w : World) (bd : Nat) (hh : Int) (s : List UInt32) (hls : zb s = 8) (s2 : List UInt64) (hls2 : zb s2 = 8) (ar : Option Addr) (nr cr : Nat) (dn : UInt64) (aw : Option Addr) (cw : Nat) (w0 : List UInt64) (hw0 : zb w0 = 16) (gk64 : InU64 w [.box bd (([.int .i64 hh] : List Value) ++ ((ZG s) ++ ((zh s2) ++ ([.slice ar nr cr, zm dn] : List Value)))) 115, .vec aw cw 1 (zh w0) 31] (some ⟨1, 0, none⟩) 80 K64) (hH : Heap w [.box bd (([.int .i64 hh] : List Value) ++ ((ZG s) ++ ((zh s2) ++ ([.slice ar nr cr, zm dn] : List Value)))) 115, .vec aw cw 1 (zh w0) 31]) : Calls Tryz.prog 100 #[.pointer (some ⟨bd, 9, none⟩), .slice aw 16 cw, .slice (some ⟨1, 0, none⟩) 80 80, .agg (zg XV)] w fun e w' => e = .returned (.tuple #[]) ∧ Ev w [.box bd (([.int .i64 hh] : List Value) ++ ((ZG s) ++ ((zh s2) ++ ([.slice ar nr cr, zm dn] : List Value)))) 115, .vec aw cw 1 (zh w0) 31] w' [.box bd (([.int .i64 hh] : List Value) ++ ((ZG s) ++ ((zh (Xm s2 w0)) ++ ([.slice ar nr cr, zm dn] : List Value)))) 115] := by
 rw [show (16 : Nat) = zb w0 from hw0.symm]
 have hKl : zb K64 = 80 := rfl
 refine d_0 [(0, .pointer (some ⟨bd, 9, none⟩)), (1, .slice aw (zb w0) cw), (2, .slice (some ⟨1, 0, none⟩) 80 80), (3, .agg (zg XV))] 179 Go.Proofs.Tryz.func100 Go.Proofs.Tryz.ntmps100 (hH) fun aM aN aO => wp_seq <| zk <| f_o <| m_m 124 XV aN aO fun _ _ Ed aP aQ => f_e <| ze <| wp_seq <| wp_seq <| d_r [0,1,2,7,8] [] aP fun _ aR => ze <| wp_block <| ZR (fun aS ac wo => ∃ (q : Nat) (av : Option Addr) (cv : Nat) (wl : List UInt64), aS = (64 - q : Nat) ∧ Env ac 179 [(0, .pointer (some ⟨bd, 9, none⟩)), (1, .slice av (zb wl) cv), (2, .slice (some ⟨1, 0, none⟩) 80 80), (7, pt Ed), (8, ni (16 + q))] ∧ Ev w [.box bd (([.int .i64 hh] : List Value) ++ ((ZG s) ++ ((zh s2) ++ ([.slice ar nr cr, zm dn] : List Value)))) 115, .vec aw cw 1 (zh w0) 31] wo [.vec av cv 1 (zh wl) 31, .box bd (([.int .i64 hh] : List Value) ++ ((ZG s) ++ ((zh s2) ++ ([.slice ar nr cr, zm dn] : List Value)))) 115, .box Ed XV 124] ∧ (q ≤ 64) ∧ (wl = sch64 w0 q)) ⟨_, 0, aw, cw, w0, rfl, aR.sb, aQ.pk [1, 0, 2], by omega, rfl⟩ ?_
 rintro aT _ _ ⟨q, av, cv, wl, rfl, aI, EI, hq, hew⟩
 refine wp_seq <| wp_seq <| d_r [0,1,2,7,8,25] [] aI fun _ EX => ?_
 refine ze <| c_d (((16 + q : Nat) : Int) < (80 : Int)) EX (fun aJ => ?_) (fun aJ => ?_)
 ·
  refine wp_skip <| ze <| wp_seq <| wp_block ?_
  have hwl : zb wl = 16 + q := by rw [hew, sch64_len, hw0]
  refine r_c (fun ac wo => ∃ (Ee : Option Addr) (Ef : Nat), Env ac 179 [(0, .pointer (some ⟨bd, 9, none⟩)), (1, .slice Ee (zb (wl ++ [(((QG (za wl (14 + q) 0) 19 61 6 true) + (za wl (9 + q) 0)) + (QG (za wl (1 + q) 0) 1 8 7 true)) + (za wl q 0)])) Ef), (2, .slice (some ⟨1, 0, none⟩) 80 80), (7, pt Ed), (8, ni (16 + q))] ∧ Ev w [.box bd (([.int .i64 hh] : List Value) ++ ((ZG s) ++ ((zh s2) ++ ([.slice ar nr cr, zm dn] : List Value)))) 115, .vec aw cw 1 (zh w0) 31] wo [.vec Ee Ef 1 (zh (wl ++ [(((QG (za wl (14 + q) 0) 19 61 6 true) + (za wl (9 + q) 0)) + (QG (za wl (1 + q) 0) 1 8 7 true)) + (za wl q 0)])) 31, .box bd (([.int .i64 hh] : List Value) ++ ((ZG s) ++ ((zh s2) ++ ([.slice ar nr cr, zm dn] : List Value)))) 115, .box Ed XV 124]) ?_ ?_
  ·
   refine h_s (fun wv => Ev w [.box bd (([.int .i64 hh] : List Value) ++ ((ZG s) ++ ((zh s2) ++ ([.slice ar nr cr, zm dn] : List Value)))) 115, .vec aw cw 1 (zh w0) 31] wv [.vec av cv 1 (zh wl) 31, .box Ed XV 124]) [35] 37 ?_
   have Eb := EI.trans (zO EI.heap)
   have EA : 14 + q < zb wl := (by omega)
   obtain ⟨Eg, Eu⟩ := Y5 (XG Eb.heap (k := 0) rfl) EA
   refine q_s [0,1,2,3] [(3, g_n (w_r (e := ((16 + q : Nat) : Int) - (2 : Int)) (x := ((14 + q : Nat) : Int)) (by omega)))] 33 EX (Eb.pk [0, 2]) fun _ EY => q_f 4 (s := Instr.indexAt 127 (.slice av (zb wl) cv) (ni (14 + q))) (v := .pointer (some (Addr.add Eg (14 + q)))) EY (fun _ => Go.Dbr.run_indexsl (e := 31) (sz := 1) (j := 14 + q) (jo := 14 + q) Eu (by kernel_rfl) (by kernel_rfl) (by omega) EA (ZA _) _) (fun _ => Eb.pk [0, 2]) fun _ EZ => ?_
   have E0 : 14 + q < zb wl := by omega
   refine q_r 5 (s := Instr.loadAt 31 (.pointer (some (Addr.add Eg (14 + q))))) (v := zm (za wl (14 + q) 0)) EZ (fun w hS => YX (ad := Eg) (o := 14 + q) rfl (hS.heap.reads (k := 0) rfl) Eu (zx E0) (by kernel_rfl)) (Eb.pk [0, 2]) fun _ E1 => q_s [6] [] 30 E1 (Eb.pk [0, 2]) fun _ E2 => q_l 1 7 E2 (Eb.pk [0, 2]) fun _ E3 => q_s [8] [] 28 E3 (Eb.pk [0, 2]) fun _ E4 => ?_
   refine q_r 9 (s := Instr.loadAt 122 (.pointer (some ⟨Ed, 4, none⟩))) (v := .agg #[.int .i64 19, .int .i64 61, .int .i64 6]) E4 (fun w hS => zM (m := 3) (cs := [.int .i64 19, .int .i64 61, .int .i64 6]) rfl (by kernel_rfl) (by kernel_rfl) (hS.heap.cells (k := 1) (off := 4) (m := 3) rfl rfl)) (Eb.pk [0, 2]) fun _ E5 => ?_
   have EB : 9 + q < zb wl := (by omega)
   obtain ⟨Eh, Ew⟩ := Y5 (XG Eb.heap (k := 0) rfl) EB
   refine q_s [11,12,13] [(13, g_n (w_r (e := ((16 + q : Nat) : Int) - (7 : Int)) (x := ((9 + q : Nat) : Int)) (by omega)))] 24 E5 (Eb.pk [0, 2]) fun _ E6 => q_f 14 (s := Instr.indexAt 127 (.slice av (zb wl) cv) (ni (9 + q))) (v := .pointer (some (Addr.add Eh (9 + q)))) E6 (fun _ => Go.Dbr.run_indexsl (e := 31) (sz := 1) (j := 9 + q) (jo := 9 + q) Ew (by kernel_rfl) (by kernel_rfl) (by omega) EB (ZA _) _) (fun _ => Eb.pk [0, 2]) fun _ E7 => ?_
   have E8 : 9 + q < zb wl := by omega
   refine q_r 15 (s := Instr.loadAt 31 (.pointer (some (Addr.add Eh (9 + q))))) (v := zm (za wl (9 + q) 0)) E7 (fun w hS => YX (ad := Eh) (o := 9 + q) rfl (hS.heap.reads (k := 0) rfl) Ew (zx E8) (by kernel_rfl)) (Eb.pk [0, 2]) fun _ E9 => ?_
   have EC : 1 + q < zb wl := (by omega)
   obtain ⟨Ei, Ex⟩ := Y5 (XG Eb.heap (k := 0) rfl) EC
   refine q_s [17,18,19] [(19, g_n (w_r (e := ((16 + q : Nat) : Int) - (15 : Int)) (x := ((1 + q : Nat) : Int)) (by omega)))] 19 E9 (Eb.pk [0, 2]) fun _ Ha => q_f 20 (s := Instr.indexAt 127 (.slice av (zb wl) cv) (ni (1 + q))) (v := .pointer (some (Addr.add Ei (1 + q)))) Ha (fun _ => Go.Dbr.run_indexsl (e := 31) (sz := 1) (j := 1 + q) (jo := 1 + q) Ex (by kernel_rfl) (by kernel_rfl) (by omega) EC (ZA _) _) (fun _ => Eb.pk [0, 2]) fun _ Hb => ?_
   have Hc : 1 + q < zb wl := by omega
   refine q_r 21 (s := Instr.loadAt 31 (.pointer (some (Addr.add Ei (1 + q))))) (v := zm (za wl (1 + q) 0)) Hb (fun w hS => YX (ad := Ei) (o := 1 + q) rfl (hS.heap.reads (k := 0) rfl) Ex (zx Hc) (by kernel_rfl)) (Eb.pk [0, 2]) fun _ Hd => q_s [22] [] 16 Hd (Eb.pk [0, 2]) fun _ He => q_l 1 23 He (Eb.pk [0, 2]) fun _ Hf => q_s [24] [] 14 Hf (Eb.pk [0, 2]) fun _ Hg => ?_
   refine q_r 25 (s := Instr.loadAt 122 (.pointer (some ⟨Ed, 1, none⟩))) (v := .agg #[.int .i64 1, .int .i64 8, .int .i64 7]) Hg (fun w hS => zM (m := 3) (cs := [.int .i64 1, .int .i64 8, .int .i64 7]) rfl (by kernel_rfl) (by kernel_rfl) (hS.heap.cells (k := 1) (off := 1) (m := 3) rfl rfl)) (Eb.pk [0, 2]) fun _ Hh => ?_
   have ED : q < zb wl := (by omega)
   obtain ⟨Ej, Ey⟩ := Y5 (XG Eb.heap (k := 0) rfl) ED
   refine q_s [28,29,30] [(30, g_n (w_r (e := ((16 + q : Nat) : Int) - (16 : Int)) (x := ((q : Nat) : Int)) (by omega)))] 10 Hh (Eb.pk [0, 2]) fun _ Hi => q_f 31 (s := Instr.indexAt 127 (.slice av (zb wl) cv) (ni q)) (v := .pointer (some (Addr.add Ej q))) Hi (fun _ => Go.Dbr.run_indexsl (e := 31) (sz := 1) (j := q) (jo := q) Ey (by kernel_rfl) (by kernel_rfl) (by omega) ED (ZA _) _) (fun _ => Eb.pk [0, 2]) fun _ Hj => ?_
   have Hk : q < zb wl := by omega
   refine q_r 32 (s := Instr.loadAt 31 (.pointer (some (Addr.add Ej q)))) (v := zm (za wl q 0)) Hj (fun w hS => YX (ad := Ej) (o := q) rfl (hS.heap.reads (k := 0) rfl) Ey (zx Hk) (by kernel_rfl)) (Eb.pk [0, 2]) fun _ Hl => q_t 10 ?_
   refine c_p Hl Eb (mixed64_true _ (za wl (14 + q) 0) 19 61 6 (by decide) (by decide) (by decide)) fun _ _ Hm Em => ⟨fun _ => Em.pk [0, 2], ?_⟩
   refine q_s [16] [(16, g_i .u64 (Go.Dbr.u64_add (x := QG (za wl (14 + q) 0) 19 61 6 true) (y := za wl (9 + q) 0) rfl rfl))] 6 Hm (Em.pk [0, 2]) fun _ Hn => q_t 26 ?_
   refine c_p Hn Em (mixed64_true _ (za wl (1 + q) 0) 1 8 7 (by decide) (by decide) (by decide)) fun _ _ Ho En => ⟨fun _ => En.pk [0, 2], ?_⟩
   refine q_s [27,33] [(27, g_i .u64 (Go.Dbr.u64_add (x := (QG (za wl (14 + q) 0) 19 61 6 true) + (za wl (9 + q) 0)) (y := QG (za wl (1 + q) 0) 1 8 7 true) rfl rfl)), (33, g_i .u64 (Go.Dbr.u64_add (x := ((QG (za wl (14 + q) 0) 19 61 6 true) + (za wl (9 + q) 0)) + (QG (za wl (1 + q) 0) 1 8 7 true)) (y := za wl q 0) rfl rfl))] 3 Ho (En.pk [0, 2]) fun _ Hp => q_t 34 ?_
   refine ZO (d := some 62) (t := 127) (T := 31) (m := 1) (parts := #[(0, zm ((((QG (za wl (14 + q) 0) 19 61 6 true) + (za wl (9 + q) 0)) + (QG (za wl (1 + q) 0) 1 8 7 true)) + (za wl q 0)))]) (xs := zh [(((QG (za wl (14 + q) 0) 19 61 6 true) + (za wl (9 + q) 0)) + (QG (za wl (1 + q) 0) 1 8 7 true)) + (za wl q 0)]) (sz := 1) Hp (by kernel_rfl) (by kernel_rfl) rfl (by decide) En ?_
   intro _ _ Hq Hr Eo
   refine ⟨fun _ => Eo.pk [0, 2], ?_⟩
   refine q_t 35 ?_
   refine Zk (d := some 63) (t := 127) (tx := 127) (ty := 127) (k := 0) (p := zb wl) (m := 1) (x := .slice (some ⟨Hq, 0, none⟩) 1 1) (bytes := 8) Hr (by kernel_rfl) Eo rfl (u64s_len _) (Zg (size := 1) (tx := 127) (e' := 31) (by kernel_rfl) (Eo.heap.reads (k := 3) rfl) rfl (fun e => by cases e) (zt _)) (by kernel_rfl) (z := .int .u64 0) (by kernel_rfl) rfl (by decide) (by omega) (by unfold maxLen; omega) ?_
   intro _ _ Hs Ht EE EF hnz _
   clear hnz
   rw [← u64s_append] at EF
   have EJ : (zb wl) + 1 = zb (wl ++ [(((QG (za wl (14 + q) 0) 19 61 6 true) + (za wl (9 + q) 0)) + (QG (za wl (1 + q) 0) 1 8 7 true)) + (za wl q 0)]) := (by first | (simp; done) | (simp; omega) | omega)
   rw [EJ] at EE
   refine ⟨q_y, ?_⟩
   refine q_n [36] [] 0 EE fun _ Hu => ?_
   exact h_e ⟨Hs, Ht, Hu.sb, EF.pk [0, 1, 2]⟩
  rintro _ _ ⟨Ee, Ef, Hv, Hw⟩
  refine zv <| ze <| d_r [0,1,2,7,8] [(1, g_n (w_a (16 + q) 1))] Hv fun _ Hx => ze <| ⟨_, ⟨q + 1, Ee, Ef, (wl ++ [(((QG (za wl (14 + q) 0) 19 61 6 true) + (za wl (9 + q) 0)) + (QG (za wl (1 + q) 0) 1 8 7 true)) + (za wl q 0)]), rfl, Hx.sb, Hw.pk [0, 1, 2], by omega, by rw [hew]; rfl⟩, ?_⟩
  omega
 refine wp_exit <| zy <| zy <| zL <| ze <| wp_seq ?_
 have hq64 : q = 64 := by omega
 have hwl : zb wl = 80 := by rw [hew, sch64_len, hw0, hq64]
 refine r_c (fun ac wo => Env ac 179 [(0, .pointer (some ⟨bd, 9, none⟩)), (1, .slice av (zb wl) cv), (2, .slice (some ⟨1, 0, none⟩) 80 80), (7, pt Ed), (8, ni (16 + q)), (9, zm (za s2 0 0)), (10, zm (za s2 1 0)), (11, zm (za s2 2 0)), (12, zm (za s2 3 0)), (13, zm (za s2 4 0)), (14, zm (za s2 5 0)), (15, zm (za s2 6 0)), (16, zm (za s2 7 0))] ∧ Ev w [.box bd (([.int .i64 hh] : List Value) ++ ((ZG s) ++ ((zh s2) ++ ([.slice ar nr cr, zm dn] : List Value)))) 115, .vec aw cw 1 (zh w0) 31] wo [.vec av cv 1 (zh wl) 31, .box bd (([.int .i64 hh] : List Value) ++ ((ZG s) ++ ((zh s2) ++ ([.slice ar nr cr, zm dn] : List Value)))) 115, .box Ed XV 124]) ?_ ?_
 ·
  refine h_s (fun wv => Ev w [.box bd (([.int .i64 hh] : List Value) ++ ((ZG s) ++ ((zh s2) ++ ([.slice ar nr cr, zm dn] : List Value)))) 115, .vec aw cw 1 (zh w0) 31] wv [.box bd (([.int .i64 hh] : List Value) ++ ((ZG s) ++ ((zh s2) ++ ([.slice ar nr cr, zm dn] : List Value)))) 115]) [] 40 ?_
  have Ea := EI.trans (zO EI.heap)
  have Hy : 0 < zb s2 := by rw [hls2]; omega
  refine q_s [0,1,2] [] 37 EX (Ea.pk [1]) fun _ Hz => q_r 3 (s := Instr.loadAt 31 (.pointer (some ⟨bd, 9, none⟩))) (v := zm (za s2 0 0)) Hz (fun w hS => Zf (by kernel_rfl) (hS.heap.cell (k := 0) rfl (zR (n := 1) (j := 8) rfl (zR (n := 8) (j := 0) (Zz hls) (Ja (zx Hy)))))) (Ea.pk [1]) fun _ HA => ?_
  have HB : 1 < zb s2 := by rw [hls2]; omega
  refine q_s [4,5,6] [] 33 HA (Ea.pk [1]) fun _ HC => q_r 7 (s := Instr.loadAt 31 (.pointer (some ⟨bd, 10, none⟩))) (v := zm (za s2 1 0)) HC (fun w hS => Zf (by kernel_rfl) (hS.heap.cell (k := 0) rfl (zR (n := 1) (j := 9) rfl (zR (n := 8) (j := 1) (Zz hls) (Ja (zx HB)))))) (Ea.pk [1]) fun _ HD => ?_
  have HE : 2 < zb s2 := by rw [hls2]; omega
  refine q_s [8,9,10] [] 29 HD (Ea.pk [1]) fun _ HF => q_r 11 (s := Instr.loadAt 31 (.pointer (some ⟨bd, 11, none⟩))) (v := zm (za s2 2 0)) HF (fun w hS => Zf (by kernel_rfl) (hS.heap.cell (k := 0) rfl (zR (n := 1) (j := 10) rfl (zR (n := 8) (j := 2) (Zz hls) (Ja (zx HE)))))) (Ea.pk [1]) fun _ HG => ?_
  have HH : 3 < zb s2 := by rw [hls2]; omega
  refine q_s [12,13,14] [] 25 HG (Ea.pk [1]) fun _ HI => q_r 15 (s := Instr.loadAt 31 (.pointer (some ⟨bd, 12, none⟩))) (v := zm (za s2 3 0)) HI (fun w hS => Zf (by kernel_rfl) (hS.heap.cell (k := 0) rfl (zR (n := 1) (j := 11) rfl (zR (n := 8) (j := 3) (Zz hls) (Ja (zx HH)))))) (Ea.pk [1]) fun _ HJ => ?_
  have HK : 4 < zb s2 := by rw [hls2]; omega
  refine q_s [16,17,18] [] 21 HJ (Ea.pk [1]) fun _ HL => q_r 19 (s := Instr.loadAt 31 (.pointer (some ⟨bd, 13, none⟩))) (v := zm (za s2 4 0)) HL (fun w hS => Zf (by kernel_rfl) (hS.heap.cell (k := 0) rfl (zR (n := 1) (j := 12) rfl (zR (n := 8) (j := 4) (Zz hls) (Ja (zx HK)))))) (Ea.pk [1]) fun _ HM => ?_
  have HN : 5 < zb s2 := by rw [hls2]; omega
  refine q_s [20,21,22] [] 17 HM (Ea.pk [1]) fun _ HO => q_r 23 (s := Instr.loadAt 31 (.pointer (some ⟨bd, 14, none⟩))) (v := zm (za s2 5 0)) HO (fun w hS => Zf (by kernel_rfl) (hS.heap.cell (k := 0) rfl (zR (n := 1) (j := 13) rfl (zR (n := 8) (j := 5) (Zz hls) (Ja (zx HN)))))) (Ea.pk [1]) fun _ HP => ?_
  have HQ : 6 < zb s2 := by rw [hls2]; omega
  refine q_s [24,25,26] [] 13 HP (Ea.pk [1]) fun _ HR => q_r 27 (s := Instr.loadAt 31 (.pointer (some ⟨bd, 15, none⟩))) (v := zm (za s2 6 0)) HR (fun w hS => Zf (by kernel_rfl) (hS.heap.cell (k := 0) rfl (zR (n := 1) (j := 14) rfl (zR (n := 8) (j := 6) (Zz hls) (Ja (zx HQ)))))) (Ea.pk [1]) fun _ HS => ?_
  have HT : 7 < zb s2 := by rw [hls2]; omega
  refine q_s [28,29,30] [] 9 HS (Ea.pk [1]) fun _ HU => q_r 31 (s := Instr.loadAt 31 (.pointer (some ⟨bd, 16, none⟩))) (v := zm (za s2 7 0)) HU (fun w hS => Zf (by kernel_rfl) (hS.heap.cell (k := 0) rfl (zR (n := 1) (j := 15) rfl (zR (n := 8) (j := 7) (Zz hls) (Ja (zx HT)))))) (Ea.pk [1]) fun _ HV => q_s [32,33,34,35,36,37,38,39] [] 0 HV (Ea.pk [1]) fun _ HW => ?_
  exact h_e ⟨HW.sb, Ea.pk [0, 1, 2]⟩
 rintro _ _ ⟨HX, HY⟩
 refine ze <| wp_seq <| wp_seq <| d_r [0,1,2,7,8,9,10,11,12,13,14,15,16,97,98] [] HX fun _ HZ => ze <| wp_block <| ZR (fun H0 ac wo => ∃ (j : Nat) (v : List UInt64), H0 = (80 - j : Nat) ∧ Env ac 179 [(0, .pointer (some ⟨bd, 9, none⟩)), (1, .slice av (zb wl) cv), (2, .slice (some ⟨1, 0, none⟩) 80 80), (7, pt Ed), (8, ni (16 + q)), (9, zm (za v 0 0)), (10, zm (za v 1 0)), (11, zm (za v 2 0)), (12, zm (za v 3 0)), (13, zm (za v 4 0)), (14, zm (za v 5 0)), (15, zm (za v 6 0)), (16, zm (za v 7 0)), (97, .int .i64 80), (98, ni j)] ∧ Ev w [.box bd (([.int .i64 hh] : List Value) ++ ((ZG s) ++ ((zh s2) ++ ([.slice ar nr cr, zm dn] : List Value)))) 115, .vec aw cw 1 (zh w0) 31] wo [.vec av cv 1 (zh wl) 31, .box bd (([.int .i64 hh] : List Value) ++ ((ZG s) ++ ((zh s2) ++ ([.slice ar nr cr, zm dn] : List Value)))) 115, .box Ed XV 124] ∧ (j ≤ 80) ∧ (v = rnd64 wl s2 j)) ⟨_, 0, s2, rfl, HZ.sb, HY.pk [0, 1, 2], by omega, rfl⟩ ?_
 rintro aK _ _ ⟨j, v, rfl, H1, Ep, hj, hev⟩
 refine wp_seq <| d_r [0,1,2,7,8,9,10,11,12,13,14,15,16,97,98,99] [] H1 fun _ Eq => ?_
 refine ze <| wp_seq <| c_d (((j : Nat) : Int) < (80 : Int)) Eq (fun H2 => ?_) (fun H2 => ?_)
 ·
  refine wp_skip <| ze <| wp_seq <| wp_block <| wp_seq <| d_r [0,1,2,7,8,9,10,11,12,13,14,15,16,17,97,98] [] Eq fun _ H3 => ?_
  refine ze <| wp_seq <| r_c (fun ac wo => Env ac 179 [(0, .pointer (some ⟨bd, 9, none⟩)), (1, .slice av (zb wl) cv), (2, .slice (some ⟨1, 0, none⟩) 80 80), (7, pt Ed), (8, ni (16 + q)), (9, zm (za v 0 0)), (10, zm (za v 1 0)), (11, zm (za v 2 0)), (12, zm (za v 3 0)), (13, zm (za v 4 0)), (14, zm (za v 5 0)), (15, zm (za v 6 0)), (16, zm (za v 7 0)), (18, zm (((((za v 7 0) + (QG (za v 4 0) 14 18 41 false)) + ((za v 6 0) ^^^ ((za v 4 0) &&& ((za v 5 0) ^^^ (za v 6 0))))) + (za K64 j 0)) + (za wl j 0))), (97, .int .i64 80), (98, ni j)] ∧ Ev w [.box bd (([.int .i64 hh] : List Value) ++ ((ZG s) ++ ((zh s2) ++ ([.slice ar nr cr, zm dn] : List Value)))) 115, .vec aw cw 1 (zh w0) 31] wo [.vec av cv 1 (zh wl) 31, .box bd (([.int .i64 hh] : List Value) ++ ((ZG s) ++ ((zh s2) ++ ([.slice ar nr cr, zm dn] : List Value)))) 115, .box Ed XV 124]) ?_ ?_
  ·
   refine h_s (fun wv => Ev w [.box bd (([.int .i64 hh] : List Value) ++ ((ZG s) ++ ((zh s2) ++ ([.slice ar nr cr, zm dn] : List Value)))) 115, .vec aw cw 1 (zh w0) 31] wv [.vec av cv 1 (zh wl) 31, .box Ed XV 124]) [] 27 ?_
   have Ec := Ep.trans (zO Ep.heap)
   refine q_s [0,1,2] [] 24 H3 (Ec.pk [0, 2]) fun _ H4 => q_l 1 3 H4 (Ec.pk [0, 2]) fun _ H5 => q_s [4] [] 22 H5 (Ec.pk [0, 2]) fun _ H6 => q_r 5 (s := Instr.loadAt 122 (.pointer (some ⟨Ed, 10, none⟩))) (v := .agg #[.int .i64 14, .int .i64 18, .int .i64 41]) H6 (fun w hS => zM (m := 3) (cs := [.int .i64 14, .int .i64 18, .int .i64 41]) rfl (by kernel_rfl) (by kernel_rfl) (hS.heap.cells (k := 1) (off := 10) (m := 3) rfl rfl)) (Ec.pk [0, 2]) fun _ H7 => ?_
   have H8 : j < 80 := (by omega)
   refine q_s [8,9,10,11,12,13,14,16,17] [(12, g_i .u64 (Go.Dbr.u64_xor (x := za v 5 0) (y := za v 6 0) rfl rfl)), (13, g_i .u64 (Go.Dbr.u64_and (x := za v 4 0) (y := (za v 5 0) ^^^ (za v 6 0)) rfl rfl)), (14, g_i .u64 (Go.Dbr.u64_xor (x := za v 6 0) (y := (za v 4 0) &&& ((za v 5 0) ^^^ (za v 6 0))) rfl rfl))] 12 H7 (Ec.pk [0, 2]) fun _ H9 => q_f 18 (s := Instr.indexAt 127 (.slice (some ⟨1, 0, none⟩) 80 80) (ni j)) (v := .pointer (some (Addr.add ⟨1, 0, none⟩ j))) H9 (fun _ => Go.Dbr.run_indexsl (e := 31) (sz := 1) (j := j) (jo := j) rfl (by kernel_rfl) (by kernel_rfl) (by omega) H8 (ZA _) _) (fun _ => Ec.pk [0, 2]) fun _ aa => ?_
   have ab : j < zb K64 := by omega
   refine q_r 19 (s := Instr.loadAt 31 (.pointer (some (Addr.add ⟨1, 0, none⟩ j)))) (v := zm (za K64 j 0)) aa (fun w hS => YX (ad := ⟨1, 0, none⟩) (o := j) rfl (gk64.ev hS).reads rfl (zx ab) (by kernel_rfl)) (Ec.pk [0, 2]) fun _ ae => ?_
   have EG : j < zb wl := (by omega)
   obtain ⟨Ek, Ez⟩ := Y5 (XG Ec.heap (k := 0) rfl) EG
   refine q_s [21,22] [] 8 ae (Ec.pk [0, 2]) fun _ af => q_f 23 (s := Instr.indexAt 127 (.slice av (zb wl) cv) (ni j)) (v := .pointer (some (Addr.add Ek j))) af (fun _ => Go.Dbr.run_indexsl (e := 31) (sz := 1) (j := j) (jo := j) Ez (by kernel_rfl) (by kernel_rfl) (by omega) EG (ZA _) _) (fun _ => Ec.pk [0, 2]) fun _ ag => ?_
   have ah : j < zb wl := by omega
   refine q_r 24 (s := Instr.loadAt 31 (.pointer (some (Addr.add Ek j)))) (v := zm (za wl j 0)) ag (fun w hS => YX (ad := Ek) (o := j) rfl (hS.heap.reads (k := 0) rfl) Ez (zx ah) (by kernel_rfl)) (Ec.pk [0, 2]) fun _ ai => q_t 6 ?_
   refine c_p ai Ec (mixed64_false _ (za v 4 0) 14 18 41 (by decide) (by decide) (by decide)) fun _ _ aj Er => ⟨fun _ => Er.pk [0, 2], ?_⟩
   refine q_s [7,15,20,25,26] [(7, g_i .u64 (Go.Dbr.u64_add (x := za v 7 0) (y := QG (za v 4 0) 14 18 41 false) rfl rfl)), (15, g_i .u64 (Go.Dbr.u64_add (x := (za v 7 0) + (QG (za v 4 0) 14 18 41 false)) (y := (za v 6 0) ^^^ ((za v 4 0) &&& ((za v 5 0) ^^^ (za v 6 0)))) rfl rfl)), (20, g_i .u64 (Go.Dbr.u64_add (x := ((za v 7 0) + (QG (za v 4 0) 14 18 41 false)) + ((za v 6 0) ^^^ ((za v 4 0) &&& ((za v 5 0) ^^^ (za v 6 0))))) (y := za K64 j 0) rfl rfl)), (25, g_i .u64 (Go.Dbr.u64_add (x := (((za v 7 0) + (QG (za v 4 0) 14 18 41 false)) + ((za v 6 0) ^^^ ((za v 4 0) &&& ((za v 5 0) ^^^ (za v 6 0))))) + (za K64 j 0)) (y := za wl j 0) rfl rfl))] 0 aj (Er.pk [0, 2]) fun _ ak => ?_
   exact h_e ⟨ak.sb, Er.pk [0, 1, 2]⟩
  rintro _ _ ⟨al, Es⟩
  refine ze <| wp_seq <| zk <| d_k [0,1,2,7,8,9,10,11,12,13,14,15,16,18,97,98,127,128] [] 2 al fun _ am => f_o <| m_l 2 am Es fun _ an => d_k [0,1,2,7,8,9,10,11,12,13,14,15,16,18,97,98,127,129,130] [] 4 an fun _ ao => f_o <| m_a 2 7 3 [.int .i64 28, .int .i64 34, .int .i64 39] ao Es rfl rfl rfl fun _ ap => ?_
  refine f_o <| c_p ap Es (mixed64_false _ (za v 0 0) 28 34 39 (by decide) (by decide) (by decide)) fun _ _ aq au => d_e [0,1,2,7,8,9,10,11,12,13,14,15,16,18,19,97,98] [(8, g_i .u64 (Go.Dbr.u64_and (x := za v 0 0) (y := za v 1 0) rfl rfl)), (12, g_i .u64 (Go.Dbr.u64_or (x := za v 0 0) (y := za v 1 0) rfl rfl)), (13, g_i .u64 (Go.Dbr.u64_and (x := za v 2 0) (y := (za v 0 0) ||| (za v 1 0)) rfl rfl)), (14, g_i .u64 (Go.Dbr.u64_or (x := (za v 0 0) &&& (za v 1 0)) (y := (za v 2 0) &&& ((za v 0 0) ||| (za v 1 0))) rfl rfl)), (15, g_i .u64 (Go.Dbr.u64_add (x := QG (za v 0 0) 28 34 39 false) (y := ((za v 0 0) &&& (za v 1 0)) ||| ((za v 2 0) &&& ((za v 0 0) ||| (za v 1 0)))) rfl rfl))] aq fun _ ax => ze <| d_r [0,1,2,7,8,9,10,11,12,13,14,15,16,97,98] [(2, g_i .u64 (Go.Dbr.u64_add (x := ((((za v 7 0) + (QG (za v 4 0) 14 18 41 false)) + ((za v 6 0) ^^^ ((za v 4 0) &&& ((za v 5 0) ^^^ (za v 6 0))))) + (za K64 j 0)) + (za wl j 0)) (y := (QG (za v 0 0) 28 34 39 false) + (((za v 0 0) &&& (za v 1 0)) ||| ((za v 2 0) &&& ((za v 0 0) ||| (za v 1 0))))) rfl rfl)), (8, g_i .u64 (Go.Dbr.u64_add (x := za v 3 0) (y := ((((za v 7 0) + (QG (za v 4 0) 14 18 41 false)) + ((za v 6 0) ^^^ ((za v 4 0) &&& ((za v 5 0) ^^^ (za v 6 0))))) + (za K64 j 0)) + (za wl j 0)) rfl rfl))] ax fun _ ay => zv <| ze <| d_r [0,1,2,7,8,9,10,11,12,13,14,15,16,97,98] [(0, g_n (w_a j 1))] ay fun _ az => ?_
  refine ze ?_
  have hv2 : step64 v (za K64 j 0) (za wl j 0) = [(((((za v 7 0) + (QG (za v 4 0) 14 18 41 false)) + ((za v 6 0) ^^^ ((za v 4 0) &&& ((za v 5 0) ^^^ (za v 6 0))))) + (za K64 j 0)) + (za wl j 0)) + ((QG (za v 0 0) 28 34 39 false) + (((za v 0 0) &&& (za v 1 0)) ||| ((za v 2 0) &&& ((za v 0 0) ||| (za v 1 0))))), za v 0 0, za v 1 0, za v 2 0, (za v 3 0) + (((((za v 7 0) + (QG (za v 4 0) 14 18 41 false)) + ((za v 6 0) ^^^ ((za v 4 0) &&& ((za v 5 0) ^^^ (za v 6 0))))) + (za K64 j 0)) + (za wl j 0)), za v 4 0, za v 5 0, za v 6 0] := rfl
  refine ⟨_, ⟨j + 1, [(((((za v 7 0) + (QG (za v 4 0) 14 18 41 false)) + ((za v 6 0) ^^^ ((za v 4 0) &&& ((za v 5 0) ^^^ (za v 6 0))))) + (za K64 j 0)) + (za wl j 0)) + ((QG (za v 0 0) 28 34 39 false) + (((za v 0 0) &&& (za v 1 0)) ||| ((za v 2 0) &&& ((za v 0 0) ||| (za v 1 0))))), za v 0 0, za v 1 0, za v 2 0, (za v 3 0) + (((((za v 7 0) + (QG (za v 4 0) 14 18 41 false)) + ((za v 6 0) ^^^ ((za v 4 0) &&& ((za v 5 0) ^^^ (za v 6 0))))) + (za K64 j 0)) + (za wl j 0)), za v 4 0, za v 5 0, za v 6 0], rfl, az.sb, au.pk [0, 1, 2], by omega, by rw [← hv2, hev]; rfl⟩, ?_⟩
  omega
 refine wp_exit <| zy <| zy <| zL <| ze <| wp_seq ?_
 have hjn : j = 80 := by omega
 have hvl : zb v = 8 := by rw [hev, hjn]; rfl
 refine d_r [0,1,2,7,8,9,10,11,12,13,14,15,16,97,98,164,165] [] Eq fun _ aA => ze <| wp_block ?_
 have hlv : ([za v 0 0, za v 1 0, za v 2 0, za v 3 0, za v 4 0, za v 5 0, za v 6 0, za v 7 0] : List UInt64) = v := by rcases v8 hvl with ⟨a0, a1, a2, a3, a4, a5, a6, a7, rfl⟩; rfl
 refine ZR (fun aB ac wo => ∃ (i : Nat) (sx : List UInt64), aB = (8 - i : Nat) ∧ Env ac 179 [(0, .pointer (some ⟨bd, 9, none⟩)), (1, .slice av (zb wl) cv), (2, .slice (some ⟨1, 0, none⟩) 80 80), (7, pt Ed), (8, ni (16 + q)), (9, zm (za v 0 0)), (10, zm (za v 1 0)), (11, zm (za v 2 0)), (12, zm (za v 3 0)), (13, zm (za v 4 0)), (14, zm (za v 5 0)), (15, zm (za v 6 0)), (16, zm (za v 7 0)), (97, .int .i64 80), (98, ni j), (164, .agg (zg (zh ([za v 0 0, za v 1 0, za v 2 0, za v 3 0, za v 4 0, za v 5 0, za v 6 0, za v 7 0] : List UInt64)))), (165, ni i)] ∧ Ev w [.box bd (([.int .i64 hh] : List Value) ++ ((ZG s) ++ ((zh s2) ++ ([.slice ar nr cr, zm dn] : List Value)))) 115, .vec aw cw 1 (zh w0) 31] wo [.box bd (([.int .i64 hh] : List Value) ++ ((ZG s) ++ ((zh sx) ++ ([.slice ar nr cr, zm dn] : List Value)))) 115, .vec av cv 1 (zh wl) 31, .box Ed XV 124] ∧ (i ≤ 8) ∧ (zb sx = 8) ∧ (sx = add64 s2 v i)) ⟨_, 0, s2, rfl, aA.sb, Ep.pk [1, 0, 2], by omega, hls2, rfl⟩ ?_
 rintro aL _ _ ⟨i, sx, rfl, aC, El, hi, hlx, hes⟩
 refine wp_seq <| d_r [0,1,2,7,8,9,10,11,12,13,14,15,16,97,98,164,165,166] [] aC fun _ Et => ?_
 refine ze <| wp_seq <| c_d (((i : Nat) : Int) < (8 : Int)) Et (fun aD => ?_) (fun aD => ?_)
 ·
  refine wp_skip <| ze <| wp_seq <| wp_block <| wp_seq ?_
  have aE : i < zb ([za v 0 0, za v 1 0, za v 2 0, za v 3 0, za v 4 0, za v 5 0, za v 6 0, za v 7 0] : List UInt64) := by rw [(show zb ([za v 0 0, za v 1 0, za v 2 0, za v 3 0, za v 4 0, za v 5 0, za v 6 0, za v 7 0] : List UInt64) = 8 from rfl)]; omega
  refine zk <| d_k [0,1,2,7,8,9,10,11,12,13,14,15,16,97,98,164,165,167] [] 1 Et fun _ aF => f_o <| q_v (x := Instr.index 99 (.agg (zg (zh ([za v 0 0, za v 1 0, za v 2 0, za v 3 0, za v 4 0, za v 5 0, za v 6 0, za v 7 0] : List UInt64)))) (ni i)) (v := zm (za ([za v 0 0, za v 1 0, za v 2 0, za v 3 0, za v 4 0, za v 5 0, za v 6 0, za v 7 0] : List UInt64) i 0)) aF (Go.Dbr.run_indexval (e := 31) (m := 8) (cs := zh ([za v 0 0, za v 1 0, za v 2 0, za v 3 0, za v 4 0, za v 5 0, za v 6 0, za v 7 0] : List UInt64)) (j := i) (v := zm (za ([za v 0 0, za v 1 0, za v 2 0, za v 3 0, za v 4 0, za v 5 0, za v 6 0, za v 7 0] : List UInt64) i 0)) (by kernel_rfl) (by kernel_rfl) (by kernel_rfl) (by omega) (by omega) (zx aE) _) fun _ aG => d_e [0,1,2,7,8,9,10,11,12,13,14,15,16,20,21,97,98,164,165] [] aG fun _ aH => ?_
  refine ze <| r_c (fun ac wo => Env ac 179 [(0, .pointer (some ⟨bd, 9, none⟩)), (1, .slice av (zb wl) cv), (2, .slice (some ⟨1, 0, none⟩) 80 80), (7, pt Ed), (8, ni (16 + q)), (9, zm (za v 0 0)), (10, zm (za v 1 0)), (11, zm (za v 2 0)), (12, zm (za v 3 0)), (13, zm (za v 4 0)), (14, zm (za v 5 0)), (15, zm (za v 6 0)), (16, zm (za v 7 0)), (97, .int .i64 80), (98, ni j), (164, .agg (zg (zh ([za v 0 0, za v 1 0, za v 2 0, za v 3 0, za v 4 0, za v 5 0, za v 6 0, za v 7 0] : List UInt64)))), (165, ni i)] ∧ Ev w [.box bd (([.int .i64 hh] : List Value) ++ ((ZG s) ++ ((zh s2) ++ ([.slice ar nr cr, zm dn] : List Value)))) 115, .vec aw cw 1 (zh w0) 31] wo [.box bd (([.int .i64 hh] : List Value) ++ ((ZG s) ++ ((zh (List.set sx i ((za sx i 0) + (za ([za v 0 0, za v 1 0, za v 2 0, za v 3 0, za v 4 0, za v 5 0, za v 6 0, za v 7 0] : List UInt64) i 0)))) ++ ([.slice ar nr cr, zm dn] : List Value)))) 115, .vec av cv 1 (zh wl) 31, .box Ed XV 124]) ?_ ?_
  ·
   refine draw_any (by kernel_rfl) 10 (by kernel_rfl) ?_
   have EH := El.trans (zO El.heap)
   refine q_a [0,1,2] [] 7 aH fun _ EK => q_g 3 (s := Instr.indexAt 99 (.pointer (some ⟨bd, 9, none⟩)) (ni i)) (v := .pointer (some ⟨bd, 9 + i, none⟩)) EK (fun _ => Go.Dbr.run_indexarr (e := 31) (sz := 1) (m := 8) (j := i) (o := 9 + i) (by kernel_rfl) (by kernel_rfl) (by omega) (by omega) (by omega) _) fun _ EL => q_a [5,7] [] 4 EL fun _ EM => q_u 4 ?_
   have EN : i < zb sx := by rw [hlx]; omega
   refine m_v 0 (9 + i) (zm (za sx i 0)) EM EH rfl (seg_eq (by omega) (zR (n := 1) (j := 8 + (i)) rfl (zR (n := 8) (j := i) (Zz hls) (Ja (zx EN))))) fun _ EO => q_a [6] [(6, g_i .u64 (Go.Dbr.u64_add (x := za sx i 0) (y := za ([za v 0 0, za v 1 0, za v 2 0, za v 3 0, za v 4 0, za v 5 0, za v 6 0, za v 7 0] : List UInt64) i 0) rfl rfl))] 2 EO fun _ EP => q_g 8 (s := Instr.indexAt 99 (.pointer (some ⟨bd, 9, none⟩)) (ni i)) (v := .pointer (some ⟨bd, 9 + i, none⟩)) EP (fun _ => Go.Dbr.run_indexarr (e := 31) (sz := 1) (m := 8) (j := i) (o := 9 + i) (by kernel_rfl) (by kernel_rfl) (by omega) (by omega) (by omega) _) fun _ EQ => q_u 9 ?_
   have ER : i < zb sx := by rw [hlx]; omega
   refine m_t 0 (9 + i) (zm ((za sx i 0) + (za ([za v 0 0, za v 1 0, za v 2 0, za v 3 0, za v 4 0, za v 5 0, za v 6 0, za v 7 0] : List UInt64) i 0))) _ EQ EH rfl (seg_eq (by omega) (zR (n := 1) (j := 8 + (i)) rfl (zR (n := 8) (j := i) (Zz hls) (Ja (zx ER))))) (set_eq (j := 1 + (8 + (i))) (by omega) ((Yn (n := 1) (j := 8 + (i)) rfl).trans (congrArg (([.int .i64 hh] : List Value) ++ ·) ((Yn (n := 8) (j := i) (Zz hls)).trans (congrArg ((ZG s) ++ ·) ((set_in (by rw [(zf hlx)]; omega)).trans (congrArg (· ++ [.slice ar nr cr, zm dn]) (u64s_set _ _ _)))))))) rfl fun _ _ ES ET => ?_
   exact a_e ⟨ES.sb, ET.pk [0, 1, 2]⟩
  rintro _ _ ⟨EU, EV⟩
  refine zv <| ze <| d_r [0,1,2,7,8,9,10,11,12,13,14,15,16,97,98,164,165] [(0, g_n (w_a i 1))] EU fun _ EW => ze <| ⟨_, ⟨i + 1, (List.set sx i ((za sx i 0) + (za ([za v 0 0, za v 1 0, za v 2 0, za v 3 0, za v 4 0, za v 5 0, za v 6 0, za v 7 0] : List UInt64) i 0))), rfl, EW.sb, EV.pk [0, 1, 2], by omega, (List.length_set.trans hlx), by rw [hes, hlv]; rfl⟩, ?_⟩
  omega
 refine wp_exit <| zy <| zy <| zL <| d_end0 Et (by kernel_rfl) ?_
 have hi8 : i = 8 := by omega
 have hres : sx = Xm s2 w0 := by rw [hes, hi8, hev, hjn, hew, hq64]; rfl
 rw [show sx = (Xm s2 w0) from hres] at El
 exact ⟨rfl, El.pk [0]⟩
end Go.Proofs.YtlnogkmnklfjlaaGreatDoor.Sh

namespace Go.Proofs.YtlnogkmnklfjlaaGreatDoor.Sh
open Go.Dbr
set_option maxRecDepth 100000
set_option maxHeartbeats 2000000
set_option linter.unusedVariables false
set_option linter.unusedSimpArgs false
def blockOf (h : Int) : Nat := if h = 1 then 64 else if h = 2 then 128 else if h = 3 then 128 else 0
def sizeOfH (h : Int) : Nat := if h = 1 then 32 else if h = 2 then 48 else if h = 3 then 64 else 0
def init32 : List UInt32 := [1779033703, 3144134277, 1013904242, 2773480762, 1359893119, 2600822924, 528734635, 1541459225]
def zero32 : List UInt32 := zd 8 0
def init64 (h : Int) : List UInt64 := if h = 2 then [14680500436340154072, 7105036623409894663, 10473403895298186519, 1526699215303891257, 7436329637833083697, 10282925794625328401, 15784041429090275239, 5167115440072839076] else if h = 3 then [7640891576956012808, 13503953896175478587, 4354685564936845355, 11912009170470909681, 5840696475078001361, 11170449401992604703, 2270897969802886507, 6620516959819538809] else zd 8 0
def in32 (h : Int) : List UInt32 := if h = 1 then init32 else zero32
theorem init64_len (h : Int) : (init64 h).length = 8 := by unfold init64; split; rfl; split <;> rfl
theorem block_go2 (w : World) : Calls Tryz.prog 97 #[.int .i64 2] w fun e w' => e = .returned (ni (blockOf 2)) ∧ Ev w [] w' [] := by
 refine d_0 [(0, .int .i64 2)] 9 Go.Proofs.Tryz.func97 Go.Proofs.Tryz.ntmps97 (Heap.nil _) fun Ed Ee Ef => d_s [0,2] [] Ee fun _ Eg => wp_seq <| d_s [2,3] [] Eg fun _ Eh => wp_block <| d_s [2,3,4] [] Eh fun _ Ec => ?_
 refine c_f Ec ?_
 refine wp_seq <| d_s [2,3,6] [] Ec fun _ Ea => c_t Ea ?_
 refine wp_skip <| ze <| c_t Ea ?_
 refine d_s [2,3,6] [] Ea fun _ Eb => wp_ret <| Z8 <| ZE <| Qu (t := 2) (v := .int .i64 128) Eb (by kernel_rfl) (by kernel_rfl) ?_
 exact ⟨rfl, Ef.pk []⟩
theorem block_go3 (w : World) : Calls Tryz.prog 97 #[.int .i64 3] w fun e w' => e = .returned (ni (blockOf 3)) ∧ Ev w [] w' [] := by
 refine d_0 [(0, .int .i64 3)] 9 Go.Proofs.Tryz.func97 Go.Proofs.Tryz.ntmps97 (Heap.nil _) fun Ee Ef Eg => d_s [0,2] [] Ef fun _ Eh => wp_seq <| d_s [2,3] [] Eh fun _ Ei => wp_block <| d_s [2,3,4] [] Ei fun _ Ec => ?_
 refine c_f Ec ?_
 refine wp_seq <| d_s [2,3,6] [] Ec fun _ Ed => c_f Ed ?_
 refine d_r [2,3,6] [] Ed fun _ Ea => ze <| c_t Ea ?_
 refine d_s [2,3,6] [] Ea fun _ Eb => wp_ret <| Z8 <| ZE <| Qu (t := 2) (v := .int .i64 128) Eb (by kernel_rfl) (by kernel_rfl) ?_
 exact ⟨rfl, Eg.pk []⟩
theorem size_go1 (w : World) : Calls Tryz.prog 104 #[.int .i64 1] w fun e w' => e = .returned (ni (sizeOfH 1)) ∧ Ev w [] w' [] := by
 refine d_0 [(0, .int .i64 1)] 11 Go.Proofs.Tryz.func104 Go.Proofs.Tryz.ntmps104 (Heap.nil _) fun Eb Ec Ed => d_s [0,2] [] Ec fun _ Ee => wp_seq <| d_s [0,2,3] [] Ee fun _ Ef => wp_block <| wp_seq <| d_s [0,2,3,4] [] Ef fun _ Ea => ?_
 refine c_t Ea ?_
 refine wp_skip <| ze <| c_t Ea ?_
 refine d_s [0,2,3,4] [] Ea fun _ Eg => wp_ret <| Z8 <| ZE <| Qu (t := 2) (v := .int .i64 32) Eg (by kernel_rfl) (by kernel_rfl) ?_
 exact ⟨rfl, Ed.pk []⟩
theorem size_go2 (w : World) : Calls Tryz.prog 104 #[.int .i64 2] w fun e w' => e = .returned (ni (sizeOfH 2)) ∧ Ev w [] w' [] := by
 refine d_0 [(0, .int .i64 2)] 11 Go.Proofs.Tryz.func104 Go.Proofs.Tryz.ntmps104 (Heap.nil _) fun Ed Ee Ef => d_s [0,2] [] Ee fun _ Eg => wp_seq <| d_s [0,2,3] [] Eg fun _ Eh => wp_block <| wp_seq <| d_s [0,2,3,4] [] Eh fun _ Ec => ?_
 refine c_f Ec ?_
 refine d_s [0,2,3,4] [] Ec fun _ Ea => c_t Ea ?_
 refine wp_skip <| ze <| c_t Ea ?_
 refine d_s [0,2,3,4] [] Ea fun _ Eb => wp_ret <| Z8 <| ZE <| Qu (t := 2) (v := .int .i64 48) Eb (by kernel_rfl) (by kernel_rfl) ?_
 exact ⟨rfl, Ef.pk []⟩
theorem size_go3 (w : World) : Calls Tryz.prog 104 #[.int .i64 3] w fun e w' => e = .returned (ni (sizeOfH 3)) ∧ Ev w [] w' [] := by
 refine d_0 [(0, .int .i64 3)] 11 Go.Proofs.Tryz.func104 Go.Proofs.Tryz.ntmps104 (Heap.nil _) fun Ee Ef Eg => d_s [0,2] [] Ef fun _ Eh => wp_seq <| d_s [0,2,3] [] Eh fun _ Ei => wp_block <| wp_seq <| d_s [0,2,3,4] [] Ei fun _ Ec => ?_
 refine c_f Ec ?_
 refine d_s [0,2,3,4] [] Ec fun _ Ed => c_f Ed ?_
 refine d_r [0,2,3,4] [] Ed fun _ Ea => ze <| c_t Ea ?_
 refine d_s [0,2,3,4] [] Ea fun _ Eb => wp_ret <| Z8 <| ZE <| Qu (t := 2) (v := .int .i64 64) Eb (by kernel_rfl) (by kernel_rfl) ?_
 exact ⟨rfl, Eg.pk []⟩
theorem size_go0 (w : World) (h : Int) (h1 : ¬ (h = 1 ∨ h = 2 ∨ h = 3)) : Calls Tryz.prog 104 #[.int .i64 h] w fun e w' => e = .returned (ni (sizeOfH h)) ∧ Ev w [] w' [] := by
 refine d_0 [(0, .int .i64 h)] 11 Go.Proofs.Tryz.func104 Go.Proofs.Tryz.ntmps104 (Heap.nil _) fun Eh Ei Ej => d_s [0,2] [] Ei fun _ Ek => wp_seq <| d_s [0,2,3] [] Ek fun _ El => wp_block <| wp_seq <| d_s [0,2,3,4] [] El fun _ Ee => ?_
 refine c_e h (1 : Int) Ee (fun Ef => ?_) (fun Ef => ?_)
 ·
  exact absurd Ef (by omega)
 refine d_s [0,2,3,4] [] Ee fun _ Eg => ?_
 refine c_e h (2 : Int) Eg (fun Ea => ?_) (fun Ea => ?_)
 ·
  exact absurd Ea (by omega)
 refine d_r [0,2,3,4] [] Eg fun _ Eb => ?_
 refine ze <| c_e h (3 : Int) Eb (fun Ec => ?_) (fun Ec => ?_)
 ·
  exact absurd Ec (by omega)
 refine wp_skip <| zv <| ze <| d_s [0,2,3,4] [] Eb fun _ Ed => wp_ret <| Qu (t := 2) (v := .int .i64 0) Ed (by kernel_rfl) (by kernel_rfl) ?_
 exact ⟨by rw [show sizeOfH h = 0 from by unfold sizeOfH; rw [if_neg (by omega), if_neg (by omega), if_neg (by omega)]]; rfl, Ej.pk []⟩
theorem size_go (w : World) (h : Int) : Calls Tryz.prog 104 #[.int .i64 h] w fun e w' => e = .returned (ni (sizeOfH h)) ∧ Ev w [] w' [] := by
  by_cases h1 : h = 1 ∨ h = 2 ∨ h = 3
  · rcases h1 with rfl | rfl | rfl
    · exact size_go1 w
    · exact size_go2 w
    · exact size_go3 w
  · exact size_go0 w h h1
theorem new1 (w : World) : Calls Tryz.prog 72 #[.int .i64 1] w fun e w' => ∃ bd, e = .returned (pt bd) ∧ Ev w [] w' [.box bd (([.int .i64 1] : List Value) ++ ((ZG (in32 1)) ++ ((zh (init64 1)) ++ ([.slice none 0 0, zm 0] : List Value)))) 115] := by
 refine d_0 [(0, .int .i64 1)] 27 Go.Proofs.Tryz.func72 Go.Proofs.Tryz.ntmps72 (Heap.nil _) fun Ej Ek El => d_s [0,2] [] Ek fun _ Em => wp_seq <| zk <| d_k [0,2,5] [] 2 Em fun _ En => f_o <| m_m 115 [.int .i64 1, .int .u32 0, .int .u32 0, .int .u32 0, .int .u32 0, .int .u32 0, .int .u32 0, .int .u32 0, .int .u32 0, .int .u64 0, .int .u64 0, .int .u64 0, .int .u64 0, .int .u64 0, .int .u64 0, .int .u64 0, .int .u64 0, .slice none 0 0, .int .u64 0] En El fun _ _ Ei Eo Ep => ?_
 refine d_e [0,2,3] [] Eo fun _ Eb => ze <| wp_seq <| d_s [0,2,3,7] [] Eb fun _ Ec => wp_block <| d_s [0,2,3,7,8] [] Ec fun _ Ea => c_t Ea ?_
 refine zk <| d_k [0,2,3,7,11,13] [] 4 Ea fun _ Ed => f_o <| m_g 0 1 8 (ZG ([1779033703, 3144134277, 1013904242, 2773480762, 1359893119, 2600822924, 528734635, 1541459225] : List UInt32)) (([.int .i64 1] : List Value) ++ ((ZG ([1779033703, 3144134277, 1013904242, 2773480762, 1359893119, 2600822924, 528734635, 1541459225] : List UInt32)) ++ ([.int .u64 0, .int .u64 0, .int .u64 0, .int .u64 0, .int .u64 0, .int .u64 0, .int .u64 0, .int .u64 0, .slice none 0 0, .int .u64 0] : List Value))) _ Ed Ep rfl (Zz (show zb ([1779033703, 3144134277, 1013904242, 2773480762, 1359893119, 2600822924, 528734635, 1541459225] : List UInt32) = 8 from rfl)) (by simp) (u32s_one _) (by simp [z4, z5]) rfl fun _ Ee Ef Eg => f_e <| zv <| ze <| d_s [0,2,3,7] [] Ef fun _ Eh => wp_ret <| Qu (t := 2) (v := pt Ei) Eh (by kernel_rfl) (by kernel_rfl) ?_
 have Hf24 : Ev w [] Ee [.box Ei (([.int .i64 1] : List Value) ++ ((ZG (in32 1)) ++ ((zh (init64 1)) ++ ([.slice none 0 0, zm 0] : List Value)))) 115] := Eg.pk [0]
 exact ⟨_, rfl, Hf24⟩
theorem new2 (w : World) : Calls Tryz.prog 72 #[.int .i64 2] w fun e w' => ∃ bd, e = .returned (pt bd) ∧ Ev w [] w' [.box bd (([.int .i64 2] : List Value) ++ ((ZG (in32 2)) ++ ((zh (init64 2)) ++ ([.slice none 0 0, zm 0] : List Value)))) 115] := by
 refine d_0 [(0, .int .i64 2)] 27 Go.Proofs.Tryz.func72 Go.Proofs.Tryz.ntmps72 (Heap.nil _) fun Ek El Em => d_s [0,2] [] El fun _ En => wp_seq <| zk <| d_k [0,2,5] [] 2 En fun _ Eo => f_o <| m_m 115 [.int .i64 2, .int .u32 0, .int .u32 0, .int .u32 0, .int .u32 0, .int .u32 0, .int .u32 0, .int .u32 0, .int .u32 0, .int .u64 0, .int .u64 0, .int .u64 0, .int .u64 0, .int .u64 0, .int .u64 0, .int .u64 0, .int .u64 0, .slice none 0 0, .int .u64 0] Eo Em fun _ _ Ej Ep Eq => ?_
 refine d_e [0,2,3] [] Ep fun _ Ec => ze <| wp_seq <| d_s [0,2,3,7] [] Ec fun _ Ed => wp_block <| d_s [0,2,3,7,8] [] Ed fun _ Ea => c_f Ea ?_
 refine d_s [0,2,3,7,14] [] Ea fun _ Eb => c_t Eb ?_
 refine zk <| d_k [0,2,3,7,17,19] [] 4 Eb fun _ Ee => f_o <| m_g 0 9 8 (zh ([14680500436340154072, 7105036623409894663, 10473403895298186519, 1526699215303891257, 7436329637833083697, 10282925794625328401, 15784041429090275239, 5167115440072839076] : List UInt64)) (([.int .i64 2, .int .u32 0, .int .u32 0, .int .u32 0, .int .u32 0, .int .u32 0, .int .u32 0, .int .u32 0, .int .u32 0] : List Value) ++ ((zh ([14680500436340154072, 7105036623409894663, 10473403895298186519, 1526699215303891257, 7436329637833083697, 10282925794625328401, 15784041429090275239, 5167115440072839076] : List UInt64)) ++ ([.slice none 0 0, .int .u64 0] : List Value))) _ Ee Eq rfl (zf (show zb ([14680500436340154072, 7105036623409894663, 10473403895298186519, 1526699215303891257, 7436329637833083697, 10282925794625328401, 15784041429090275239, 5167115440072839076] : List UInt64) = 8 from rfl)) (by simp) (zt _) (by simp [z4, z5]) rfl fun _ Ef Eg Eh => f_e <| zv <| ze <| d_s [0,2,3,7] [] Eg fun _ Ei => wp_ret <| Qu (t := 2) (v := pt Ej) Ei (by kernel_rfl) (by kernel_rfl) ?_
 have Hf26 : Ev w [] Ef [.box Ej (([.int .i64 2] : List Value) ++ ((ZG (in32 2)) ++ ((zh (init64 2)) ++ ([.slice none 0 0, zm 0] : List Value)))) 115] := Eh.pk [0]
 exact ⟨_, rfl, Hf26⟩
theorem new3 (w : World) : Calls Tryz.prog 72 #[.int .i64 3] w fun e w' => ∃ bd, e = .returned (pt bd) ∧ Ev w [] w' [.box bd (([.int .i64 3] : List Value) ++ ((ZG (in32 3)) ++ ((zh (init64 3)) ++ ([.slice none 0 0, zm 0] : List Value)))) 115] := by
 refine d_0 [(0, .int .i64 3)] 27 Go.Proofs.Tryz.func72 Go.Proofs.Tryz.ntmps72 (Heap.nil _) fun El Em En => d_s [0,2] [] Em fun _ Eo => wp_seq <| zk <| d_k [0,2,5] [] 2 Eo fun _ Ep => f_o <| m_m 115 [.int .i64 3, .int .u32 0, .int .u32 0, .int .u32 0, .int .u32 0, .int .u32 0, .int .u32 0, .int .u32 0, .int .u32 0, .int .u64 0, .int .u64 0, .int .u64 0, .int .u64 0, .int .u64 0, .int .u64 0, .int .u64 0, .int .u64 0, .slice none 0 0, .int .u64 0] Ep En fun _ _ Ek Eq Er => ?_
 refine d_e [0,2,3] [] Eq fun _ Ed => ze <| wp_seq <| d_s [0,2,3,7] [] Ed fun _ Ee => wp_block <| d_s [0,2,3,7,8] [] Ee fun _ Ea => c_f Ea ?_
 refine d_s [0,2,3,7,14] [] Ea fun _ Eb => c_f Eb ?_
 refine d_s [0,2,3,7,20] [] Eb fun _ Ec => c_t Ec ?_
 refine zk <| d_k [0,2,3,7,23,25] [] 4 Ec fun _ Ef => f_o <| m_g 0 9 8 (zh ([7640891576956012808, 13503953896175478587, 4354685564936845355, 11912009170470909681, 5840696475078001361, 11170449401992604703, 2270897969802886507, 6620516959819538809] : List UInt64)) (([.int .i64 3, .int .u32 0, .int .u32 0, .int .u32 0, .int .u32 0, .int .u32 0, .int .u32 0, .int .u32 0, .int .u32 0] : List Value) ++ ((zh ([7640891576956012808, 13503953896175478587, 4354685564936845355, 11912009170470909681, 5840696475078001361, 11170449401992604703, 2270897969802886507, 6620516959819538809] : List UInt64)) ++ ([.slice none 0 0, .int .u64 0] : List Value))) _ Ef Er rfl (zf (show zb ([7640891576956012808, 13503953896175478587, 4354685564936845355, 11912009170470909681, 5840696475078001361, 11170449401992604703, 2270897969802886507, 6620516959819538809] : List UInt64) = 8 from rfl)) (by simp) (zt _) (by simp [z4, z5]) rfl fun _ Eg Eh Ei => f_e <| zv <| ze <| d_s [0,2,3,7] [] Eh fun _ Ej => wp_ret <| Qu (t := 2) (v := pt Ek) Ej (by kernel_rfl) (by kernel_rfl) ?_
 have Hf28 : Ev w [] Eg [.box Ek (([.int .i64 3] : List Value) ++ ((ZG (in32 3)) ++ ((zh (init64 3)) ++ ([.slice none 0 0, zm 0] : List Value)))) 115] := Ei.pk [0]
 exact ⟨_, rfl, Hf28⟩
theorem new_go (w : World) (h : Int) (h1 : h = 1 ∨ h = 2 ∨ h = 3) : Calls Tryz.prog 72 #[.int .i64 h] w fun e w' => ∃ bd, e = .returned (pt bd) ∧ Ev w [] w' [.box bd (([.int .i64 h] : List Value) ++ ((ZG (in32 h)) ++ ((zh (init64 h)) ++ ([.slice none 0 0, zm 0] : List Value)))) 115] := by
  rcases h1 with rfl | rfl | rfl
  · exact new1 w
  · exact new2 w
  · exact new3 w
end Go.Proofs.YtlnogkmnklfjlaaGreatDoor.Sh

namespace Go.Proofs.YtlnogkmnklfjlaaGreatDoor.Sh
open Go.Dbr
set_option maxRecDepth 100000
set_option maxHeartbeats 2000000
set_option linter.unusedVariables false
set_option linter.unusedSimpArgs false
def feed32 (s : List UInt32) (l : List UInt8) : Nat → List UInt32
  | 0 => s
  | q + 1 => blk32 (feed32 s l q) (wB32 (zn 64 (zo (64 * q) l)) 16)
theorem feed32_len {s : List UInt32} {m : Nat} (h : s.length = m) (l : List UInt8) (q : Nat) : (feed32 s l q).length = m := by
  induction q with
  | zero => exact h
  | succ q ih => exact blk32_len ih _
def feed64 (s : List UInt64) (l : List UInt8) : Nat → List UInt64
  | 0 => s
  | q + 1 => Xm (feed64 s l q) (Jt (zn 128 (zo (128 * q) l)) 16)
theorem feed64_len {s : List UInt64} {m : Nat} (h : s.length = m) (l : List UInt8) (q : Nat) : (feed64 s l q).length = m := by
  induction q with
  | zero => exact h
  | succ q ih => exact Xn ih _
theorem words64_16 (w : World) (ax : Option Addr) (nx cx : Nat) (lx : List UInt8) (ex : nx = zb lx) (ix : InB w [] ax cx lx) (h : zb lx = 128) : Calls Tryz.prog 101 #[.slice ax nx cx, .int .i64 8, .int .i64 80] w fun e w' => ∃ ao co, e = .returned (.slice ao 16 co) ∧ Ev w [] w' [.vec ao co 1 (zh (Jt lx 16)) 31] := by
  have h1 := words64_go w ax nx cx lx ex ix
  rw [show zb lx / 8 = 16 by omega] at h1
  simp only [Ji] at h1
  exact h1
theorem block_go23 (w : World) (h : Int) (hh : h = 2 ∨ h = 3) : Calls Tryz.prog 97 #[.int .i64 h] w fun e w' => e = .returned (.int .i64 128) ∧ Ev w [] w' [] := by
  rcases hh with rfl | rfl
  · exact block_go2 w
  · exact block_go3 w
end Go.Proofs.YtlnogkmnklfjlaaGreatDoor.Sh

namespace Go.Proofs.YtlnogkmnklfjlaaGreatDoor.Sh
open Go.Dbr
set_option maxRecDepth 100000
set_option maxHeartbeats 2000000
set_option linter.unusedVariables false
set_option linter.unusedSimpArgs false
theorem write64_go (w : World) (bd : Nat) (h : Int) (hh : h = 2 ∨ h = 3) (s : List UInt32) (hls : zb s = 8) (s2 : List UInt64) (hls2 : zb s2 = 8) (ar : Option Addr) (cr : Nat) (rs : List UInt8) (hrs : zb rs < 128) (dn : UInt64) (ax : Option Addr) (nx cx : Nat) (lx : List UInt8) (ex : nx = zb lx) (ix : InB w [.box bd (([.int .i64 h] : List Value) ++ ((ZG s) ++ ((zh s2) ++ ([.slice ar (zb rs) cr, zm dn] : List Value)))) 115, .vec ar cr 1 (bys rs) 5] ax cx lx)  (hB : zb rs + zb lx ≤ 140737488355200) (gk64 : InU64 w [.box bd (([.int .i64 h] : List Value) ++ ((ZG s) ++ ((zh s2) ++ ([.slice ar (zb rs) cr, zm dn] : List Value)))) 115, .vec ar cr 1 (bys rs) 5] (some ⟨1, 0, none⟩) 80 K64) (hH : Heap w [.box bd (([.int .i64 h] : List Value) ++ ((ZG s) ++ ((zh s2) ++ ([.slice ar (zb rs) cr, zm dn] : List Value)))) 115, .vec ar cr 1 (bys rs) 5]) : Calls Tryz.prog 73 #[pt bd, .slice ax nx cx] w fun e w' => ∃ ao co, e = .returned (.tuple #[]) ∧ Ev w [.box bd (([.int .i64 h] : List Value) ++ ((ZG s) ++ ((zh s2) ++ ([.slice ar (zb rs) cr, zm dn] : List Value)))) 115, .vec ar cr 1 (bys rs) 5] w' [.box bd (([.int .i64 h] : List Value) ++ ((ZG s) ++ ((zh (feed64 s2 (rs ++ lx) (zb (rs ++ lx) / 128))) ++ ([.slice ao (zb (zo (128 * (zb (rs ++ lx) / 128)) (rs ++ lx))) co, zm (dn + zc (zb lx))] : List Value)))) 115, .vec ao co 1 (bys (zo (128 * (zb (rs ++ lx) / 128)) (rs ++ lx))) 5] := by
 subst ex
 have hs := ix.small
 have hcx := ix.cap
 refine d_0 [(0, pt bd), (1, .slice ax (zb lx) cx)] 93 Go.Proofs.Tryz.func73 Go.Proofs.Tryz.ntmps73 (hH) fun HM HN HK => wp_seq <| zk <| d_k [0,1,5,7] [] 3 HN fun _ HO => f_o <| m_v 0 18 (zm dn) HO HK rfl (zR (n := 1) (j := 17) rfl (zR (n := 8) (j := 9) (Zz hls) (zR (n := 8) (j := 1) (zf hls2) rfl))) fun _ HP => d_k [0,1,12,14] [(6, g_i .u64 (Go.Dbr.nat_to_u64 (a := ((zb lx : Nat) : Int)) (n := zb lx) rfl)), (7, g_i .u64 (Go.Dbr.u64_add (x := dn) (y := zc (zb lx)) rfl rfl))] 10 HP fun _ HQ => ?_
 refine f_o <| m_t 0 18 (zm (dn + (zc (zb lx)))) _ HQ HK rfl (zR (n := 1) (j := 17) rfl (zR (n := 8) (j := 9) (Zz hls) (zR (n := 8) (j := 1) (zf hls2) rfl))) ((Yn (n := 1) (j := 17) rfl).trans (congrArg (([.int .i64 h] : List Value) ++ ·) ((Yn (n := 8) (j := 9) (Zz hls)).trans (congrArg ((ZG s) ++ ·) ((Yn (n := 8) (j := 1) (zf hls2)).trans (congrArg ((zh s2) ++ ·) rfl)))))) rfl fun _ _ HR EI => f_e <| ze <| wp_seq <| zk <| d_k [0,1,17] [] 3 HR fun _ HF => f_o <| m_v 0 0 (.int .i64 h) HF EI rfl (Ja rfl) fun _ HG => f_o <| c_p HG EI (block_go23 _ h hh) fun _ _ HH EJ => ?_
 refine d_e [0,1,4] [] HH fun _ HI => ?_
 refine ze <| wp_seq <| r_c (fun ac wo => ∃ (Ef : Option Addr) (Eg : Nat), Env ac 93 [(0, pt bd), (1, .slice ax (zb lx) cx), (4, .int .i64 128)] ∧ Ev w [.box bd (([.int .i64 h] : List Value) ++ ((ZG s) ++ ((zh s2) ++ ([.slice ar (zb rs) cr, zm dn] : List Value)))) 115, .vec ar cr 1 (bys rs) 5] wo [.box bd (([.int .i64 h] : List Value) ++ ((ZG s) ++ ((zh s2) ++ ([.slice Ef (zb (rs ++ lx)) Eg, zm (dn + (zc (zb lx)))] : List Value)))) 115, .vec Ef Eg 1 (bys (rs ++ lx)) 5]) ?_ ?_
 ·
  refine h_s (fun wv => Ev w [.box bd (([.int .i64 h] : List Value) ++ ((ZG s) ++ ((zh s2) ++ ([.slice ar (zb rs) cr, zm dn] : List Value)))) 115, .vec ar cr 1 (bys rs) 5] wv [.box bd (([.int .i64 h] : List Value) ++ ((ZG s) ++ ((zh s2) ++ ([.slice ar (zb rs) cr, zm (dn + (zc (zb lx)))] : List Value)))) 115, .vec ar cr 1 (bys rs) 5]) [15, 20] 21 ?_
  have Ed := EJ.trans (zO EJ.heap)
  refine q_s [0,1,2,3] [] 17 HI (Ed.pk [0, 1]) fun _ EK => q_r 4 (s := Instr.loadAt 23 (.pointer (some ⟨bd, 17, none⟩))) (v := .slice ar (zb rs) cr) EK (fun w hS => Zf (by kernel_rfl) (hS.heap.cell (k := 0) rfl (zR (n := 1) (j := 16) rfl (zR (n := 8) (j := 8) (Zz hls) (zR (n := 8) (j := 0) (zf hls2) rfl))))) (Ed.pk [0, 1]) fun _ EL => q_s [5,6,7] [] 13 EL (Ed.pk [0, 1]) fun _ EM => q_r 8 (s := Instr.loadAt 23 (.pointer (some ⟨bd, 17, none⟩))) (v := .slice ar (zb rs) cr) EM (fun w hS => Zf (by kernel_rfl) (hS.heap.cell (k := 0) rfl (zR (n := 1) (j := 16) rfl (zR (n := 8) (j := 8) (Zz hls) (zR (n := 8) (j := 0) (zf hls2) rfl))))) (Ed.pk [0, 1]) fun _ EN => ?_
  refine q_s [9,10,11,12] [] 8 EN (Ed.pk [0, 1]) fun _ EO => q_r 13 (s := Instr.loadAt 23 (.pointer (some ⟨bd, 17, none⟩))) (v := .slice ar (zb rs) cr) EO (fun w hS => Zf (by kernel_rfl) (hS.heap.cell (k := 0) rfl (zR (n := 1) (j := 16) rfl (zR (n := 8) (j := 8) (Zz hls) (zR (n := 8) (j := 0) (zf hls2) rfl))))) (Ed.pk [0, 1]) fun _ EP => q_s [14,16] [] 5 EP (Ed.pk [0, 1]) fun _ EQ => q_t 15 ?_
  have HB := Yd Ed.heap (k := 1) rfl
  refine op_slicefull (d := some 35) (t := 23) (e := 5) (k := 1) (p := zb rs) (cap := cr) (ao := ar) (xs := bys rs) (kk := .i64) (kl := .i64) EQ (by kernel_rfl) (by kernel_rfl) (by kernel_rfl) Ed rfl ((ZD _).trans (ZA _)) (by omega) ?_
  intro _ ER Eu
  refine ⟨q_y, ?_⟩
  refine q_t 17 ?_
  have HJ := ix.small
  refine Zk (d := some 37) (t := 23) (tx := 23) (ty := 23) (k := 1) (p := zb rs) (m := zb lx) (x := .slice ax (zb lx) cx) (bytes := 1) ER (by kernel_rfl) Eu rfl (ZD _) (Zg (size := 1) (tx := 23) (e' := 5) (by kernel_rfl) (ix.ev Eu).reads (ZD _) ix.nz (Zj _)) (by kernel_rfl) (z := .int .u8 0) (by kernel_rfl) rfl (by decide) (by omega) (by unfold maxLen; omega) ?_
  intro _ _ Eh Ei Ew Ex hnz _
  clear hnz
  rw [← Zd] at Ex
  have EF : (zb rs) + (zb lx) = zb (rs ++ lx) := (by first | (simp; done) | (simp; omega) | omega)
  rw [EF] at Ew
  refine ⟨q_y, ?_⟩
  refine q_n [18,19] [] 1 Ew fun _ ES => q_t 20 ?_
  refine m_t 0 17 (.slice Eh (zb (rs ++ lx)) Ei) [.box bd (([.int .i64 h] : List Value) ++ ((ZG s) ++ ((zh s2) ++ ([.slice Eh (zb (rs ++ lx)) Ei, zm (dn + (zc (zb lx)))] : List Value)))) 115, .vec Eh Ei 1 (bys (rs ++ lx)) 5] ES Ex rfl (zR (n := 1) (j := 16) rfl (zR (n := 8) (j := 8) (Zz hls) (zR (n := 8) (j := 0) (zf hls2) rfl))) ((Yn (n := 1) (j := 16) rfl).trans (congrArg (([.int .i64 h] : List Value) ++ ·) ((Yn (n := 8) (j := 8) (Zz hls)).trans (congrArg ((ZG s) ++ ·) ((Yn (n := 8) (j := 0) (zf hls2)).trans (congrArg ((zh s2) ++ ·) rfl)))))) rfl fun _ _ ET EU => ⟨q_y, ?_⟩
  exact h_e ⟨Eh, Ei, ET.sb, EU.pk [0, 1]⟩
 rintro _ _ ⟨Ef, Eg, EV, EW⟩
 refine ze <| wp_block ?_
 have hR : zb (rs ++ lx) ≤ 140737488355200 := by rw [zC]; omega
 have hz : rs ++ lx = zo (128 * 0) (rs ++ lx) := rfl
 refine ZR (fun EX ac wo => ∃ (q : Nat) (at1 : Option Addr) (ct : Nat) (sx : List UInt64), EX = (zb (rs ++ lx) - 128 * q : Nat) ∧ Env ac 93 [(0, pt bd), (1, .slice ax (zb lx) cx), (4, .int .i64 128)] ∧ Ev w [.box bd (([.int .i64 h] : List Value) ++ ((ZG s) ++ ((zh s2) ++ ([.slice ar (zb rs) cr, zm dn] : List Value)))) 115, .vec ar cr 1 (bys rs) 5] wo [.box bd (([.int .i64 h] : List Value) ++ ((ZG s) ++ ((zh sx) ++ ([.slice at1 (zb (zo (128 * q) (rs ++ lx))) ct, zm (dn + (zc (zb lx)))] : List Value)))) 115, .vec at1 ct 1 (bys (zo (128 * q) (rs ++ lx))) 5] ∧ (128 * q ≤ zb (rs ++ lx)) ∧ (zb sx = 8) ∧ (sx = feed64 s2 (rs ++ lx) q)) ⟨_, 0, Ef, Eg, s2, rfl, EV.sb, EW.pk [0, 1], by omega, hls2, rfl⟩ ?_
 rintro HL _ _ ⟨q, at1, ct, sx, rfl, EY, Ee, hq, hlx, hes⟩
 refine wp_seq <| wp_seq ?_
 have hDl : zb (zo (128 * q) (rs ++ lx)) = zb (rs ++ lx) - 128 * q := zu
 refine zk <| d_k [0,1,4,42] [] 3 EY fun _ EZ => f_o <| m_v 0 17 (.slice at1 (zb (zo (128 * q) (rs ++ lx))) ct) EZ Ee rfl (zR (n := 1) (j := 16) rfl (zR (n := 8) (j := 8) (Zz hls) (zR (n := 8) (j := 0) (zf hlx) rfl))) fun _ E0 => d_e [0,1,4,46] [] E0 fun _ El => ?_
 refine ze <| c_d (((zb (zo (128 * q) (rs ++ lx)) : Nat) : Int) ≥ (128 : Int)) El (fun E1 => ?_) (fun E1 => ?_)
 ·
  refine wp_skip <| ze <| wp_seq <| wp_block <| wp_seq <| wp_seq <| zk <| d_k [0,1,4,58] [] 3 El fun _ E2 => f_o <| m_v 0 0 (.int .i64 h) E2 Ee rfl (Ja rfl) fun _ E3 => d_e [0,1,4,60] [(4, g_b (show (h == (1 : Int)) = false from beq_eq_false_iff_ne.2 (by omega)))] E3 fun _ Ey => ze <| c_f Ey ?_
  refine wp_skip <| ze ?_
  have hD64 : zb (zn 128 (zo (128 * q) (rs ++ lx))) = 128 := by rw [zs]; omega
  refine r_c (fun ac wo => Env ac 93 [(0, pt bd), (1, .slice ax (zb lx) cx), (4, .int .i64 128)] ∧ Ev w [.box bd (([.int .i64 h] : List Value) ++ ((ZG s) ++ ((zh s2) ++ ([.slice ar (zb rs) cr, zm dn] : List Value)))) 115, .vec ar cr 1 (bys rs) 5] wo [.box bd (([.int .i64 h] : List Value) ++ ((ZG s) ++ ((zh (Xm sx (Jt (zn 128 (zo (128 * q) (rs ++ lx))) 16))) ++ ([.slice at1 (zb (zo (128 * q) (rs ++ lx))) ct, zm (dn + (zc (zb lx)))] : List Value)))) 115, .vec at1 ct 1 (bys (zo (128 * q) (rs ++ lx))) 5]) ?_ ?_
  ·
   refine h_s (fun wv => Ev w [.box bd (([.int .i64 h] : List Value) ++ ((ZG s) ++ ((zh s2) ++ ([.slice ar (zb rs) cr, zm dn] : List Value)))) 115, .vec ar cr 1 (bys rs) 5] wv [.box bd (([.int .i64 h] : List Value) ++ ((ZG s) ++ ((zh sx) ++ ([.slice at1 (zb (zo (128 * q) (rs ++ lx))) ct, zm (dn + (zc (zb lx)))] : List Value)))) 115, .vec at1 ct 1 (bys (zo (128 * q) (rs ++ lx))) 5]) [15] 16 ?_
   have Ea := Ee.trans (zO Ee.heap)
   refine h_name fun G hG => ?_
   have nd428 : ∀ (ac : Act) (wo : World) (Eb : _) (Ec : _), Env ac 93 [(0, pt bd), (1, .slice ax (zb lx) cx), (4, .int .i64 128), (79, .pointer (some ⟨bd, 9, none⟩)), (85, .slice Eb 16 Ec), (91, .agg (zg XV))] → Ev w [.box bd (([.int .i64 h] : List Value) ++ ((ZG s) ++ ((zh s2) ++ ([.slice ar (zb rs) cr, zm dn] : List Value)))) 115, .vec ar cr 1 (bys rs) 5] wo [.vec Eb Ec 1 (zh (Jt (zn 128 (zo (128 * q) (rs ++ lx))) 16)) 31, .box bd (([.int .i64 h] : List Value) ++ ((ZG s) ++ ((zh sx) ++ ([.slice at1 (zb (zo (128 * q) (rs ++ lx))) ct, zm (dn + (zc (zb lx)))] : List Value)))) 115, .vec at1 ct 1 (bys (zo (128 * q) (rs ++ lx))) 5] → G 2 #[true, true, true, true, true, true, true, true, true, false, true, true, true, true, true, false] ac wo := by
    intro _ _ Eb Ec E4 Em
    refine Zl hG ?_
    refine q_t 9 ?_
    refine ZQ (d := some 86) (t := 129) (e := 31) (sz := 1) (m := 80) (lo := 0) (hi := 80) (b := 1) (off := 0) (lov := none) (hiv := none) (o := 0) E4 (by kernel_rfl) (by kernel_rfl) (by kernel_rfl) (by omega) (by omega) (by omega) (.inl ⟨rfl, rfl⟩) (.inl ⟨rfl, rfl⟩) (by omega) ?_
    intro _ E5
    refine ⟨fun _ => Em.pk [1, 2], ?_⟩
    refine q_t 15 ?_
    refine c_l [1,0] (M := [.box bd (([.int .i64 h] : List Value) ++ ((ZG s) ++ ((zh sx) ++ ([.slice at1 (zb (zo (128 * q) (rs ++ lx))) ct, zm (dn + (zc (zb lx)))] : List Value)))) 115, .vec Eb Ec 1 (zh (Jt (zn 128 (zo (128 * q) (rs ++ lx))) 16)) 31]) E5 Em (fun hM435 => blocked64_go _ bd h s hls sx hlx at1 (zb (zo (128 * q) (rs ++ lx))) ct (dn + (zc (zb lx))) Eb Ec (Jt (zn 128 (zo (128 * q) (rs ++ lx))) 16) (Ji _ 16) ((gk64.ev Em).pick [1, 0] (by kernel_rfl)) hM435) ?_
    rintro _ _ ⟨rfl, E6⟩
    refine ⟨_, _, [.box bd (([.int .i64 h] : List Value) ++ ((ZG s) ++ ((zh (Xm sx (Jt (zn 128 (zo (128 * q) (rs ++ lx))) 16))) ++ ([.slice at1 (zb (zo (128 * q) (rs ++ lx))) ct, zm (dn + (zc (zb lx)))] : List Value)))) 115, .vec at1 ct 1 (bys (zo (128 * q) (rs ++ lx))) 5], rfl, E6, by kernel_rfl, fun _ E7 E8 => ?_⟩
    refine ⟨q_y, ?_⟩
    exact h_e ⟨E7.sb, E8.pk [0, 1]⟩
   have nd442 : ∀ (ac : Act) (wo : World), Env ac 93 [(0, pt bd), (1, .slice ax (zb lx) cx), (4, .int .i64 128), (79, .pointer (some ⟨bd, 9, none⟩)), (84, .slice at1 128 ct), (86, .slice (some ⟨1, 0, none⟩) 80 80), (91, .agg (zg XV))] → Ev w [.box bd (([.int .i64 h] : List Value) ++ ((ZG s) ++ ((zh s2) ++ ([.slice ar (zb rs) cr, zm dn] : List Value)))) 115, .vec ar cr 1 (bys rs) 5] wo [.box bd (([.int .i64 h] : List Value) ++ ((ZG s) ++ ((zh sx) ++ ([.slice at1 (zb (zo (128 * q) (rs ++ lx))) ct, zm (dn + (zc (zb lx)))] : List Value)))) 115, .vec at1 ct 1 (bys (zo (128 * q) (rs ++ lx))) 5] → G 2 #[true, true, true, true, true, true, true, true, false, true, true, true, true, true, true, false] ac wo := by
    intro _ _ E9 Ez
    refine Zl hG ?_
    refine q_t 8 ?_
    refine c_0 E9 Ez (words64_16 _ at1 128 ct (zn 128 (zo (128 * q) (rs ++ lx))) (by first | rfl | (simp; done) | (simp; omega) | omega) (XJ Ez.heap (k := 1) rfl [] (by kernel_rfl) rfl 128 (by first | decide | omega)) hD64) ?_
    rintro _ _ ⟨En, Eo, rfl, Ha⟩
    refine ⟨_, _, _, rfl, Ha, rfl, fun _ Hb Ep => ?_⟩
    refine ⟨fun _ => Ep.pk [1, 2], ?_⟩
    refine q_t 15 ?_
    refine c_l [1,0] (M := [.box bd (([.int .i64 h] : List Value) ++ ((ZG s) ++ ((zh sx) ++ ([.slice at1 (zb (zo (128 * q) (rs ++ lx))) ct, zm (dn + (zc (zb lx)))] : List Value)))) 115, .vec En Eo 1 (zh (Jt (zn 128 (zo (128 * q) (rs ++ lx))) 16)) 31]) Hb Ep (fun hM455 => blocked64_go _ bd h s hls sx hlx at1 (zb (zo (128 * q) (rs ++ lx))) ct (dn + (zc (zb lx))) En Eo (Jt (zn 128 (zo (128 * q) (rs ++ lx))) 16) (Ji _ 16) ((gk64.ev Ep).pick [1, 0] (by kernel_rfl)) hM455) ?_
    rintro _ _ ⟨rfl, Hc⟩
    refine ⟨_, _, [.box bd (([.int .i64 h] : List Value) ++ ((ZG s) ++ ((zh (Xm sx (Jt (zn 128 (zo (128 * q) (rs ++ lx))) 16))) ++ ([.slice at1 (zb (zo (128 * q) (rs ++ lx))) ct, zm (dn + (zc (zb lx)))] : List Value)))) 115, .vec at1 ct 1 (bys (zo (128 * q) (rs ++ lx))) 5], rfl, Hc, by kernel_rfl, fun _ Hd He => ?_⟩
    refine ⟨q_y, ?_⟩
    exact h_e ⟨Hd.sb, He.pk [0, 1]⟩
   have nd462 : ∀ (ac : Act) (wo : World), Env ac 93 [(0, pt bd), (1, .slice ax (zb lx) cx), (4, .int .i64 128), (79, .pointer (some ⟨bd, 9, none⟩)), (84, .slice at1 128 ct), (91, .agg (zg XV))] → Ev w [.box bd (([.int .i64 h] : List Value) ++ ((ZG s) ++ ((zh s2) ++ ([.slice ar (zb rs) cr, zm dn] : List Value)))) 115, .vec ar cr 1 (bys rs) 5] wo [.box bd (([.int .i64 h] : List Value) ++ ((ZG s) ++ ((zh sx) ++ ([.slice at1 (zb (zo (128 * q) (rs ++ lx))) ct, zm (dn + (zc (zb lx)))] : List Value)))) 115, .vec at1 ct 1 (bys (zo (128 * q) (rs ++ lx))) 5] → G 3 #[true, true, true, true, true, true, true, true, false, false, true, true, true, true, true, false] ac wo := by
    intro _ _ EA Ej
    refine Zl hG ?_
    refine h_ways [8, 9] (by kernel_rfl) rfl ?_
    refine ⟨?_, ?_, trivial⟩
    ·
     rintro _ rfl
     refine c_0 EA Ej (words64_16 _ at1 128 ct (zn 128 (zo (128 * q) (rs ++ lx))) (by first | rfl | (simp; done) | (simp; omega) | omega) (XJ Ej.heap (k := 1) rfl [] (by kernel_rfl) rfl 128 (by first | decide | omega)) hD64) ?_
     rintro _ _ ⟨EG, EH, rfl, Hf⟩
     refine ⟨_, _, _, rfl, Hf, rfl, fun _ Hg EB => ?_⟩
     refine ⟨fun _ => EB.pk [1, 2], ?_⟩
     exact h_to hG (by kernel_rfl) (nd428 _ _ EG EH (Hg.sb) (EB.pk [0, 1, 2]))
    rintro _ rfl
    refine ZQ (d := some 86) (t := 129) (e := 31) (sz := 1) (m := 80) (lo := 0) (hi := 80) (b := 1) (off := 0) (lov := none) (hiv := none) (o := 0) EA (by kernel_rfl) (by kernel_rfl) (by kernel_rfl) (by omega) (by omega) (by omega) (.inl ⟨rfl, rfl⟩) (.inl ⟨rfl, rfl⟩) (by omega) ?_
    intro _ Hh
    refine ⟨fun _ => Ej.pk [0, 1], ?_⟩
    exact h_to hG (by kernel_rfl) (nd442 _ _ (Hh.sb) (Ej.pk [0, 1]))
   have nd477 : ∀ (ac : Act) (wo : World), Env ac 93 [(0, pt bd), (1, .slice ax (zb lx) cx), (4, .int .i64 128), (79, .pointer (some ⟨bd, 9, none⟩)), (83, .slice at1 (zb (zo (128 * q) (rs ++ lx))) ct), (86, .slice (some ⟨1, 0, none⟩) 80 80), (91, .agg (zg XV))] → Ev w [.box bd (([.int .i64 h] : List Value) ++ ((ZG s) ++ ((zh s2) ++ ([.slice ar (zb rs) cr, zm dn] : List Value)))) 115, .vec ar cr 1 (bys rs) 5] wo [.box bd (([.int .i64 h] : List Value) ++ ((ZG s) ++ ((zh sx) ++ ([.slice at1 (zb (zo (128 * q) (rs ++ lx))) ct, zm (dn + (zc (zb lx)))] : List Value)))) 115, .vec at1 ct 1 (bys (zo (128 * q) (rs ++ lx))) 5] → G 3 #[true, true, true, true, true, true, true, false, false, true, true, true, true, true, true, false] ac wo := by
    intro _ _ Hi Ek
    refine Zl hG ?_
    refine q_t 7 ?_
    have HC := Yd Ek.heap (k := 1) rfl
    refine op_slice0 (d := some 84) (t := 23) (e := 5) (sz := 1) (len := zb (zo (128 * q) (rs ++ lx))) (cap := ct) (hi := 128) (ao := at1) (lov := none) (hiv := (some (.int .i64 128))) Hi (by kernel_rfl) (by kernel_rfl) (by kernel_rfl) (by omega) (.inl ⟨rfl, rfl⟩) (.inr ⟨.i64, rfl⟩) ?_
    intro _ Hj
    refine ⟨fun _ => Ek.pk [0, 1], ?_⟩
    refine q_t 8 ?_
    refine c_0 Hj Ek (words64_16 _ at1 128 ct (zn 128 (zo (128 * q) (rs ++ lx))) (by first | rfl | (simp; done) | (simp; omega) | omega) (XJ Ek.heap (k := 1) rfl [] (by kernel_rfl) rfl 128 (by first | decide | omega)) hD64) ?_
    rintro _ _ ⟨Eq, Er, rfl, Hk⟩
    refine ⟨_, _, _, rfl, Hk, rfl, fun _ Hl Es => ?_⟩
    refine ⟨fun _ => Es.pk [1, 2], ?_⟩
    refine q_t 15 ?_
    refine c_l [1,0] (M := [.box bd (([.int .i64 h] : List Value) ++ ((ZG s) ++ ((zh sx) ++ ([.slice at1 (zb (zo (128 * q) (rs ++ lx))) ct, zm (dn + (zc (zb lx)))] : List Value)))) 115, .vec Eq Er 1 (zh (Jt (zn 128 (zo (128 * q) (rs ++ lx))) 16)) 31]) Hl Es (fun hM493 => blocked64_go _ bd h s hls sx hlx at1 (zb (zo (128 * q) (rs ++ lx))) ct (dn + (zc (zb lx))) Eq Er (Jt (zn 128 (zo (128 * q) (rs ++ lx))) 16) (Ji _ 16) ((gk64.ev Es).pick [1, 0] (by kernel_rfl)) hM493) ?_
    rintro _ _ ⟨rfl, Hm⟩
    refine ⟨_, _, [.box bd (([.int .i64 h] : List Value) ++ ((ZG s) ++ ((zh (Xm sx (Jt (zn 128 (zo (128 * q) (rs ++ lx))) 16))) ++ ([.slice at1 (zb (zo (128 * q) (rs ++ lx))) ct, zm (dn + (zc (zb lx)))] : List Value)))) 115, .vec at1 ct 1 (bys (zo (128 * q) (rs ++ lx))) 5], rfl, Hm, by kernel_rfl, fun _ Hn Ho => ?_⟩
    refine ⟨q_y, ?_⟩
    exact h_e ⟨Hn.sb, Ho.pk [0, 1]⟩
   refine Zl hG ?_
   refine q_s [0,1,2,3,4,5] [] 10 Ey (Ea.pk [0, 1]) fun _ Hp => q_r 6 (s := Instr.loadAt 23 (.pointer (some ⟨bd, 17, none⟩))) (v := .slice at1 (zb (zo (128 * q) (rs ++ lx))) ct) Hp (fun w hS => Zf (by kernel_rfl) (hS.heap.cell (k := 0) rfl (zR (n := 1) (j := 16) rfl (zR (n := 8) (j := 8) (Zz hls) (zR (n := 8) (j := 0) (zf hlx) rfl))))) (Ea.pk [0, 1]) fun _ Hq => q_s [10,11,12,13,14] [] 4 Hq (Ea.pk [0, 1]) fun _ EC => h_ways [7, 9] (by kernel_rfl) rfl ?_
   refine ⟨?_, ?_, trivial⟩
   ·
    rintro _ rfl
    have HD := Yd Ea.heap (k := 1) rfl
    refine op_slice0 (d := some 84) (t := 23) (e := 5) (sz := 1) (len := zb (zo (128 * q) (rs ++ lx))) (cap := ct) (hi := 128) (ao := at1) (lov := none) (hiv := (some (.int .i64 128))) EC (by kernel_rfl) (by kernel_rfl) (by kernel_rfl) (by omega) (.inl ⟨rfl, rfl⟩) (.inr ⟨.i64, rfl⟩) ?_
    intro _ Hr
    refine ⟨fun _ => Ea.pk [0, 1], ?_⟩
    exact h_to hG (by kernel_rfl) (nd462 _ _ (Hr.sb) (Ea.pk [0, 1]))
   rintro _ rfl
   refine ZQ (d := some 86) (t := 129) (e := 31) (sz := 1) (m := 80) (lo := 0) (hi := 80) (b := 1) (off := 0) (lov := none) (hiv := none) (o := 0) EC (by kernel_rfl) (by kernel_rfl) (by kernel_rfl) (by omega) (by omega) (by omega) (.inl ⟨rfl, rfl⟩) (.inl ⟨rfl, rfl⟩) (by omega) ?_
   intro _ Hs
   refine ⟨fun _ => Ea.pk [0, 1], ?_⟩
   exact h_to hG (by kernel_rfl) (nd477 _ _ (Hs.sb) (Ea.pk [0, 1]))
  rintro _ Ht ⟨Hu, Et⟩
  refine zv <| ze ?_
  have hDl : zb (zo (128 * q) (rs ++ lx)) = zb (rs ++ lx) - 128 * q := zu
  refine zk <| d_k [0,1,4,47,50] [] 4 Hu fun _ Hv => f_o <| m_v 0 17 (.slice at1 (zb (zo (128 * q) (rs ++ lx))) ct) Hv Et rfl (zR (n := 1) (j := 16) rfl (zR (n := 8) (j := 8) (Zz hls) (zR (n := 8) (j := 0) (zf (Xn hlx (Jt (zn 128 (zo (128 * q) (rs ++ lx))) 16))) rfl))) fun _ Hw => d_k [0,1,4,47,51,52] [] 6 Hw fun _ Hx => f_o ?_
  have HE := Yd Et.heap (k := 1) rfl
  refine op_slice (d := some 53) (t := 23) (e := 5) (sz := 1) (len := zb (zo (128 * q) (rs ++ lx))) (cap := ct) (lo := 128) (hi := zb (zo (128 * q) (rs ++ lx))) (ao := at1) (lov := (some (.int .i64 128))) (hiv := none) Hx (by kernel_rfl) (by kernel_rfl) (by kernel_rfl) (by omega) (by omega) (.inr ⟨.i64, rfl⟩) (.inl ⟨rfl, rfl⟩) ?_
  intro _ ED
  have Hy : Ev w [.box bd (([.int .i64 h] : List Value) ++ ((ZG s) ++ ((zh s2) ++ ([.slice ar (zb rs) cr, zm dn] : List Value)))) 115, .vec ar cr 1 (bys rs) 5] Ht [.box bd (([.int .i64 h] : List Value) ++ ((ZG s) ++ ((zh (Xm sx (Jt (zn 128 (zo (128 * q) (rs ++ lx))) 16))) ++ ([.slice at1 (zb (zo (128 * q) (rs ++ lx))) ct, zm (dn + (zc (zb lx)))] : List Value)))) 115, .vec (cutAt at1 ct 128 1) (ct - 128) 1 (bys (zo 128 (zo (128 * q) (rs ++ lx)))) 5] := by
   have h := Ev.cut (k := 1) (n := zb (zo (128 * q) (rs ++ lx))) (sz := 1) Et rfl (ZD _) (by omega) 128 (zb (zo (128 * q) (rs ++ lx))) (by omega) (by omega)
   rw [bys_cutw (l := zo (128 * q) (rs ++ lx)) (lo := 128) (n := zb (zo (128 * q) (rs ++ lx))) (by simp)] at h
   exact h
  have el525 : (zb (zo (128 * q) (rs ++ lx))) - 128 = zb (zo 128 (zo (128 * q) (rs ++ lx))) := by first | (simp; done) | (rw [zs]; omega) | (rw [zu]; omega) | (simp; omega)
  rw [el525] at ED
  refine d_k [0,1,4,53,55] [] 9 ED fun _ Hz => f_o <| m_t 0 17 (.slice (cutAt at1 ct 128 1) (zb (zo 128 (zo (128 * q) (rs ++ lx)))) (ct - 128)) _ Hz Hy rfl (zR (n := 1) (j := 16) rfl (zR (n := 8) (j := 8) (Zz hls) (zR (n := 8) (j := 0) (zf (Xn hlx (Jt (zn 128 (zo (128 * q) (rs ++ lx))) 16))) rfl))) ((Yn (n := 1) (j := 16) rfl).trans (congrArg (([.int .i64 h] : List Value) ++ ·) ((Yn (n := 8) (j := 8) (Zz hls)).trans (congrArg ((ZG s) ++ ·) ((Yn (n := 8) (j := 0) (zf (Xn hlx (Jt (zn 128 (zo (128 * q) (rs ++ lx))) 16)))).trans (congrArg ((zh (Xm sx (Jt (zn 128 (zo (128 * q) (rs ++ lx))) 16))) ++ ·) rfl)))))) rfl fun _ _ HA EE => f_e ?_
  rw [show (zo 128 (zo (128 * q) (rs ++ lx))) = (zo (128 * (q + 1)) (rs ++ lx)) from by rw [Qy]; rfl] at EE
  refine ze <| ⟨_, ⟨q + 1, (cutAt at1 ct 128 1), (ct - 128), (Xm sx (Jt (zn 128 (zo (128 * q) (rs ++ lx))) 16)), rfl, HA.sb, EE.pk [0, 1], by omega, (Xn hlx (Jt (zn 128 (zo (128 * q) (rs ++ lx))) 16)), by rw [hes]; rfl⟩, ?_⟩
  omega
 refine wp_exit <| zy <| zy <| zL <| d_end0 El (by kernel_rfl) ?_
 have hqe : q = zb (rs ++ lx) / 128 := by omega
 rw [hqe] at hes
 subst hes
 subst hqe
 exact ⟨at1, ct, rfl, Ee.pk [0, 1]⟩
end Go.Proofs.YtlnogkmnklfjlaaGreatDoor.Sh

namespace Go.Proofs.YtlnogkmnklfjlaaGreatDoor.Sh
open Go.Dbr
set_option maxRecDepth 100000
set_option maxHeartbeats 2000000
set_option linter.unusedVariables false
set_option linter.unusedSimpArgs false
def st32 (s : List UInt32) (all : List UInt8) : List UInt32 := feed32 s all (all.length / 64)
def rest32 (all : List UInt8) : List UInt8 := zo (64 * (all.length / 64)) all
theorem rest32_len (all : List UInt8) : (rest32 all).length < 64 := by unfold rest32; rw [zu]; omega
theorem st32_len {s : List UInt32} (h : s.length = 8) (all : List UInt8) : (st32 s all).length = 8 := feed32_len h _ _
theorem feed64_more {s : List UInt64} {l m : List UInt8} : ∀ {q : Nat}, 128 * q ≤ l.length → feed64 s (l ++ m) q = feed64 s l q
  | 0, _ => rfl
  | q + 1, h => by
    rw [feed64, feed64, feed64_more (by omega)]
    congr 2
    rw [YC (by omega), List.take_append_of_le_length (by rw [zu]; omega)]
theorem feed64_on {s : List UInt64} {l : List UInt8} {q : Nat} : ∀ (p : Nat), feed64 (feed64 s l q) (zo (128 * q) l) p = feed64 s l (q + p)
  | 0 => rfl
  | p + 1 => by
    rw [feed64, feed64_on p, ← Nat.add_assoc, feed64, Qy, show 128 * q + 128 * p = 128 * (q + p) by omega]
def st64 (s : List UInt64) (all : List UInt8) : List UInt64 := feed64 s all (all.length / 128)
def rest64 (all : List UInt8) : List UInt8 := zo (128 * (all.length / 128)) all
theorem rest64_len (all : List UInt8) : (rest64 all).length < 128 := by unfold rest64; rw [zu]; omega
theorem st64_len {s : List UInt64} (h : s.length = 8) (all : List UInt8) : (st64 s all).length = 8 := feed64_len h _ _
theorem rest64_app (all m : List UInt8) : rest64 all ++ m = zo (128 * (all.length / 128)) (all ++ m) := by
  unfold rest64
  rw [YC (by omega)]
theorem st64_next (s : List UInt64) (all m : List UInt8) : feed64 (st64 s all) (rest64 all ++ m) ((rest64 all ++ m).length / 128) = st64 s (all ++ m) := by
  unfold st64
  rw [rest64_app, ← feed64_more (m := m) (q := all.length / 128) (by omega), feed64_on]
  congr 1
  rw [zu]
  simp only [zC]
  omega
theorem rest64_next (all m : List UInt8) : zo (128 * ((rest64 all ++ m).length / 128)) (rest64 all ++ m) = rest64 (all ++ m) := by
  rw [rest64_app]
  unfold rest64
  rw [Qy, zu]
  congr 1
  simp only [zC]
  omega
theorem n_next (all m : List UInt8) : zc all.length + zc m.length = zc (all ++ m).length := by rw [zC, UInt64.ofNat_add]
end Go.Proofs.YtlnogkmnklfjlaaGreatDoor.Sh

namespace Go.Proofs.YtlnogkmnklfjlaaGreatDoor.Sh
open Go.Dbr
set_option maxRecDepth 100000
set_option maxHeartbeats 2000000
set_option linter.unusedVariables false
set_option linter.unusedSimpArgs false
def S32 (h : Int) (all : List UInt8) : List UInt32 := if h = 1 then st32 init32 all else zero32
def S64 (h : Int) (all : List UInt8) : List UInt64 := if h = 1 then init64 1 else st64 (init64 h) all
def restH (h : Int) (all : List UInt8) : List UInt8 := if h = 1 then rest32 all else rest64 all
theorem S32_len (h : Int) (all : List UInt8) : (S32 h all).length = 8 := by unfold S32; split; exact st32_len rfl all; rfl
theorem S64_len (h : Int) (all : List UInt8) : (S64 h all).length = 8 := by unfold S64; split; rfl; exact st64_len (init64_len h) all
theorem restH_lt (h : Int) (all : List UInt8) : (restH h all).length < 128 := by
  unfold restH
  split
  · exact Nat.lt_trans (rest32_len all) (by decide)
  · exact rest64_len all
theorem restH_le (h : Int) (all : List UInt8) : (restH h all).length ≤ all.length := by
  unfold restH rest32 rest64
  split <;> simp
theorem new_dig (w : World) (h : Int) (hh : h = 2 ∨ h = 3) : Calls Tryz.prog 72 #[.int .i64 h] w fun e w' => ∃ bd, e = .returned (pt bd) ∧ Ev w [] w' [.box bd (([.int .i64 h] : List Value) ++ ((ZG (S32 h ([] : List UInt8))) ++ ((zh (S64 h ([] : List UInt8))) ++ ([.slice none (zb (restH h ([] : List UInt8))) 0, zm (zc (zb ([] : List UInt8)))] : List Value)))) 115, .vec none 0 1 (bys (restH h ([] : List UInt8))) 5] := by
  refine (new_go w h (.inr hh)).mono fun e w' h1 => ?_
  obtain ⟨bd, he, hv⟩ := h1
  refine ⟨bd, he, ?_⟩
  have h2 := Ev.nil (sz := 1) (T := 5) hv
  rcases hh with rfl | rfl
  · exact h2
  · exact h2
theorem write_go (w : World) (bd : Nat) (h : Int) (hh : h = 2 ∨ h = 3) (al : List UInt8) (ar : Option Addr) (cr : Nat) (ax : Option Addr) (nx cx : Nat) (lx : List UInt8) (ex : nx = zb lx) (ix : InB w [.box bd (([.int .i64 h] : List Value) ++ ((ZG (S32 h al)) ++ ((zh (S64 h al)) ++ ([.slice ar (zb (restH h al)) cr, zm (zc (zb al))] : List Value)))) 115, .vec ar cr 1 (bys (restH h al)) 5] ax cx lx) (hB : zb (restH h al) + zb lx ≤ 140737488355200) (gk32 : InU32 w [.box bd (([.int .i64 h] : List Value) ++ ((ZG (S32 h al)) ++ ((zh (S64 h al)) ++ ([.slice ar (zb (restH h al)) cr, zm (zc (zb al))] : List Value)))) 115, .vec ar cr 1 (bys (restH h al)) 5] (some ⟨0, 0, none⟩) 64 K32) (gk64 : InU64 w [.box bd (([.int .i64 h] : List Value) ++ ((ZG (S32 h al)) ++ ((zh (S64 h al)) ++ ([.slice ar (zb (restH h al)) cr, zm (zc (zb al))] : List Value)))) 115, .vec ar cr 1 (bys (restH h al)) 5] (some ⟨1, 0, none⟩) 80 K64) (hH : Heap w [.box bd (([.int .i64 h] : List Value) ++ ((ZG (S32 h al)) ++ ((zh (S64 h al)) ++ ([.slice ar (zb (restH h al)) cr, zm (zc (zb al))] : List Value)))) 115, .vec ar cr 1 (bys (restH h al)) 5]) : Calls Tryz.prog 73 #[pt bd, .slice ax nx cx] w fun e w' => ∃ ao co, e = .returned (.tuple #[]) ∧ Ev w [.box bd (([.int .i64 h] : List Value) ++ ((ZG (S32 h al)) ++ ((zh (S64 h al)) ++ ([.slice ar (zb (restH h al)) cr, zm (zc (zb al))] : List Value)))) 115, .vec ar cr 1 (bys (restH h al)) 5] w' [.box bd (([.int .i64 h] : List Value) ++ ((ZG (S32 h (al ++ lx))) ++ ((zh (S64 h (al ++ lx))) ++ ([.slice ao (zb (restH h (al ++ lx))) co, zm (zc (zb (al ++ lx)))] : List Value)))) 115, .vec ao co 1 (bys (restH h (al ++ lx))) 5] := by
  rcases hh with rfl | rfl
  · have h1 := write64_go w bd 2 (.inl rfl) (zero32) rfl (st64 (init64 2) al) (st64_len (init64_len 2) al) ar cr (rest64 al) (rest64_len al) (zc (zb al)) ax nx cx lx ex ix hB gk64 hH
    simp only [st64_next, rest64_next, n_next] at h1
    exact h1
  · have h1 := write64_go w bd 3 (.inr rfl) (zero32) rfl (st64 (init64 3) al) (st64_len (init64_len 3) al) ar cr (rest64 al) (rest64_len al) (zc (zb al)) ax nx cx lx ex ix hB gk64 hH
    simp only [st64_next, rest64_next, n_next] at h1
    exact h1
end Go.Proofs.YtlnogkmnklfjlaaGreatDoor.Sh

namespace Go.Proofs.YtlnogkmnklfjlaaGreatDoor.Sh
open Go.Dbr
set_option maxRecDepth 100000
set_option maxHeartbeats 2000000
set_option linter.unusedVariables false
set_option linter.unusedSimpArgs false
theorem clone_go (w : World) (bd : Nat) (h : Int) (al : List UInt8) (ar : Option Addr) (cr : Nat) (hH : Heap w [.box bd (([.int .i64 h] : List Value) ++ ((ZG (S32 h al)) ++ ((zh (S64 h al)) ++ ([.slice ar (zb (restH h al)) cr, zm (zc (zb al))] : List Value)))) 115, .vec ar cr 1 (bys (restH h al)) 5]) : Calls Tryz.prog 102 #[pt bd] w fun e w' => ∃ b2 ao co, e = .returned (pt b2) ∧ Ev w [.box bd (([.int .i64 h] : List Value) ++ ((ZG (S32 h al)) ++ ((zh (S64 h al)) ++ ([.slice ar (zb (restH h al)) cr, zm (zc (zb al))] : List Value)))) 115, .vec ar cr 1 (bys (restH h al)) 5] w' [.box bd (([.int .i64 h] : List Value) ++ ((ZG (S32 h al)) ++ ((zh (S64 h al)) ++ ([.slice ar (zb (restH h al)) cr, zm (zc (zb al))] : List Value)))) 115, .vec ar cr 1 (bys (restH h al)) 5, .box b2 (([.int .i64 h] : List Value) ++ ((ZG (S32 h al)) ++ ((zh (S64 h al)) ++ ([.slice ao (zb (restH h al)) co, zm (zc (zb al))] : List Value)))) 115, .vec ao co 1 (bys (restH h al)) 5] := by
 have hrl := restH_lt h al
 refine d_0 [(0, pt bd)] 13 Go.Proofs.Tryz.func102 Go.Proofs.Tryz.ntmps102 (hH) fun Et Eu Es => d_s [0,2] [] Eu fun _ Ew => wp_seq <| zk <| d_k [0,2,5] [] 2 Ew fun _ Ex => f_o <| m_aw 0 19 (([.int .i64 h] : List Value) ++ ((ZG (S32 h al)) ++ ((zh (S64 h al)) ++ ([.slice ar (zb (restH h al)) cr, zm (zc (zb al))] : List Value)))) Ex Es rfl (zE rfl (zE (Zz (S32_len _ _)) (zE (zf (S64_len _ _)) rfl))) fun _ Ey => ?_
 refine f_o <| m_z 115 (([.int .i64 0] : List Value) ++ ((ZG (zd 8 0)) ++ ((zh (zd 8 0)) ++ ([.slice none 0 0, .int .u64 0] : List Value)))) Ey Es fun _ _ Eh Ei Ej => f_o <| m_gw 2 19 (([.int .i64 h] : List Value) ++ ((ZG (S32 h al)) ++ ((zh (S64 h al)) ++ ([.slice ar (zb (restH h al)) cr, zm (zc (zb al))] : List Value)))) _ Ei Ej rfl (zE rfl (zE (Zz (S32_len _ _)) (zE (zf (S64_len _ _)) rfl))) (zE rfl (zE (Zz (zi)) (zE (zf (zi)) rfl))) (one_app (one_all (by kernel_rfl)) (one_app (u32s_one _) (one_app (zt _) (one_all (by kernel_rfl))))) rfl fun _ Ek El Ed => f_e <| ze <| wp_seq <| zk <| d_k [0,2,3,9] [] 3 El fun _ Em => f_o <| m_v 0 17 (.slice ar (zb (restH h al)) cr) Em Ed rfl (zR (n := 1) (j := 16) rfl (zR (n := 8) (j := 8) (Zz (S32_len _ _)) (zR (n := 8) (j := 0) (zf (S64_len _ _)) rfl))) fun _ En => ?_
 refine f_o ?_
 have Ec : Ev w [.box bd (([.int .i64 h] : List Value) ++ ((ZG (S32 h al)) ++ ((zh (S64 h al)) ++ ([.slice ar (zb (restH h al)) cr, zm (zc (zb al))] : List Value)))) 115, .vec ar cr 1 (bys (restH h al)) 5] Ek [.box bd (([.int .i64 h] : List Value) ++ ((ZG (S32 h al)) ++ ((zh (S64 h al)) ++ ([.slice ar (zb (restH h al)) cr, zm (zc (zb al))] : List Value)))) 115, .vec ar cr 1 (bys (restH h al)) 5, .box Eh (([.int .i64 h] : List Value) ++ ((ZG (S32 h al)) ++ ((zh (S64 h al)) ++ ([.slice ar (zb (restH h al)) cr, zm (zc (zb al))] : List Value)))) 115, .vec none 0 1 (bys []) 5] := Ev.nil (sz := 1) (T := 5) Ed
 refine Zk (d := some 11) (t := 23) (tx := 23) (ty := 23) (k := 3) (p := 0) (m := zb (restH h al)) (x := .slice ar (zb (restH h al)) cr) (bytes := 1) En (by kernel_rfl) Ec rfl (bys_lenn (by simp)) (Zg (size := 1) (tx := 23) (e' := 5) (by kernel_rfl) (Ec.heap.reads (k := 1) rfl) (ZD _) (bys_vnz Ec.heap (k := 1) rfl) (Zj _)) (by kernel_rfl) (z := .int .u8 0) (by kernel_rfl) rfl (by decide) (by omega) (by unfold maxLen; omega) ?_
 intro _ _ Ea Eb Ee Ef hnz _
 clear hnz
 rw [bys_nil_append] at Ef
 have Eg : 0 + (zb (restH h al)) = zb (restH h al) := (by first | (simp; done) | (simp; omega) | omega)
 rw [Eg] at Ee
 refine d_k [0,2,3,11,12] [] 6 Ee fun _ Eo => f_o <| m_t 2 17 (.slice Ea (zb (restH h al)) Eb) [.box bd (([.int .i64 h] : List Value) ++ ((ZG (S32 h al)) ++ ((zh (S64 h al)) ++ ([.slice ar (zb (restH h al)) cr, zm (zc (zb al))] : List Value)))) 115, .vec ar cr 1 (bys (restH h al)) 5, .box Eh (([.int .i64 h] : List Value) ++ ((ZG (S32 h al)) ++ ((zh (S64 h al)) ++ ([.slice Ea (zb (restH h al)) Eb, zm (zc (zb al))] : List Value)))) 115, .vec Ea Eb 1 (bys (restH h al)) 5] Eo Ef rfl (zR (n := 1) (j := 16) rfl (zR (n := 8) (j := 8) (Zz (S32_len _ _)) (zR (n := 8) (j := 0) (zf (S64_len _ _)) rfl))) ((Yn (n := 1) (j := 16) rfl).trans (congrArg (([.int .i64 h] : List Value) ++ ·) ((Yn (n := 8) (j := 8) (Zz (S32_len _ _))).trans (congrArg ((ZG (S32 h al)) ++ ·) ((Yn (n := 8) (j := 0) (zf (S64_len _ _))).trans (congrArg ((zh (S64 h al)) ++ ·) rfl)))))) rfl fun _ _ Ep Eq => f_e <| ze <| d_s [0,2,3] [] Ep fun _ Er => wp_ret <| Qu (t := 2) (v := pt Eh) Er (by kernel_rfl) (by kernel_rfl) ?_
 exact ⟨Eh, Ea, Eb, rfl, Eq.pk [0, 1, 2, 3]⟩
def be4 (x : UInt64) : List UInt8 := [zj (x >>> zc 24), zj (x >>> zc 16), zj (x >>> zc 8), zj (x >>> zc 0)]
def be8 (x : UInt64) : List UInt8 := [zj (x >>> zc 56), zj (x >>> zc 48), zj (x >>> zc 40), zj (x >>> zc 32), zj (x >>> zc 24), zj (x >>> zc 16), zj (x >>> zc 8), zj (x >>> zc 0)]
theorem spread8_go (w : World) (ab : Option Addr) (cb : Nat) (lb : List UInt8) (x : UInt64) (hB : zb lb ≤ 1000) (hH : Heap w [.vec ab cb 1 (bys lb) 5]) : Calls Tryz.prog 103 #[.slice ab (zb lb) cb, zm x, .int .i64 8] w fun e w' => ∃ ao co, e = .returned (.slice ao (zb (lb ++ be8 x)) co) ∧ Ev w [.vec ab cb 1 (bys lb) 5] w' [.vec ao co 1 (bys (lb ++ be8 x)) 5] := by
 refine d_0 [(0, .slice ab (zb lb) cb), (1, zm x), (2, .int .i64 8)] 23 Go.Proofs.Tryz.func103 Go.Proofs.Tryz.ntmps103 (hH) fun Hz HA HB => d_s [0,1,2,6] [] HA fun _ HC => wp_seq <| d_s [0,1,6,7] [] HC fun _ HD => wp_block <| loop_enter ?_
 refine zF <| wp_seq <| d_s [0,1,6,7,11] [] HD fun _ Hu => c_t Hu ?_
 refine wp_skip <| ze <| wp_seq <| wp_block <| zk <| d_k [0,1,6,7,14,19] [(4, g_i .u64 (Go.Dbr.u64_shr (x := x) (n := 56) rfl (by decide))), (5, g_i .u8 (Go.Dbr.u64_to_u8 (x := x >>> zc 56) rfl))] 6 Hu fun _ HE => f_o <| ZO (d := some 20) (t := 23) (T := 5) (m := 1) (parts := #[(0, bv (zj (x >>> zc 56)))]) (xs := bys [zj (x >>> zc 56)]) (sz := 1) HE (by kernel_rfl) (by kernel_rfl) rfl (by decide) HB ?_
 intro _ _ HF E9 Ew
 refine f_o <| Zk (d := some 21) (t := 23) (tx := 23) (ty := 23) (k := 0) (p := zb lb) (m := 1) (x := .slice (some ⟨HF, 0, none⟩) 1 1) (bytes := 1) E9 (by kernel_rfl) Ew rfl (ZD _) (Zg (size := 1) (tx := 23) (e' := 5) (by kernel_rfl) (Ew.heap.reads (k := 1) rfl) rfl (fun e => by cases e) (Zj _)) (by kernel_rfl) (z := .int .u8 0) (by kernel_rfl) rfl (by decide) (by omega) (by unfold maxLen; omega) ?_
 intro _ _ HG HH Ex Ey hnz _
 clear hnz
 rw [← Zd] at Ey
 have Ez : (zb lb) + 1 = zb (lb ++ [zj (x >>> zc 56)]) := (by first | (simp; done) | (simp; omega) | omega)
 rw [Ez] at Ex
 refine d_e [0,1,6,7] [] Ex fun _ Ha => zv <| ze <| d_r [0,1,6,7] [] Ha fun _ Hb => ze <| zF <| wp_seq <| d_s [0,1,6,7,11] [] Hb fun _ EA => c_t EA ?_
 refine wp_skip <| ze <| wp_seq <| wp_block <| zk <| d_k [0,1,6,7,14,19] [(4, g_i .u64 (Go.Dbr.u64_shr (x := x) (n := 48) rfl (by decide))), (5, g_i .u8 (Go.Dbr.u64_to_u8 (x := x >>> zc 48) rfl))] 6 EA fun _ Hc => f_o <| ZO (d := some 20) (t := 23) (T := 5) (m := 1) (parts := #[(0, bv (zj (x >>> zc 48)))]) (xs := bys [zj (x >>> zc 48)]) (sz := 1) Hc (by kernel_rfl) (by kernel_rfl) rfl (by decide) Ey ?_
 intro _ _ Hd He EB
 refine f_o <| Zk (d := some 21) (t := 23) (tx := 23) (ty := 23) (k := 0) (p := zb (lb ++ [zj (x >>> zc 56)])) (m := 1) (x := .slice (some ⟨Hd, 0, none⟩) 1 1) (bytes := 1) He (by kernel_rfl) EB rfl (ZD _) (Zg (size := 1) (tx := 23) (e' := 5) (by kernel_rfl) (EB.heap.reads (k := 2) rfl) rfl (fun e => by cases e) (Zj _)) (by kernel_rfl) (z := .int .u8 0) (by kernel_rfl) rfl (by decide) (by omega) (by unfold maxLen; omega) ?_
 intro _ _ HI HJ EC ED hnz _
 clear hnz
 rw [← Zd] at ED
 have EE : (zb (lb ++ [zj (x >>> zc 56)])) + 1 = zb ((lb ++ [zj (x >>> zc 56)]) ++ [zj (x >>> zc 48)]) := (by first | (simp; done) | (simp; omega) | omega)
 rw [EE] at EC
 refine d_e [0,1,6,7] [] EC fun _ Hf => zv <| ze <| d_r [0,1,6,7] [] Hf fun _ Hg => ze <| zF <| wp_seq <| d_s [0,1,6,7,11] [] Hg fun _ EF => c_t EF ?_
 refine wp_skip <| ze <| wp_seq <| wp_block <| zk <| d_k [0,1,6,7,14,19] [(4, g_i .u64 (Go.Dbr.u64_shr (x := x) (n := 40) rfl (by decide))), (5, g_i .u8 (Go.Dbr.u64_to_u8 (x := x >>> zc 40) rfl))] 6 EF fun _ Hh => f_o <| ZO (d := some 20) (t := 23) (T := 5) (m := 1) (parts := #[(0, bv (zj (x >>> zc 40)))]) (xs := bys [zj (x >>> zc 40)]) (sz := 1) Hh (by kernel_rfl) (by kernel_rfl) rfl (by decide) ED ?_
 intro _ _ Hi Hj EG
 refine f_o <| Zk (d := some 21) (t := 23) (tx := 23) (ty := 23) (k := 0) (p := zb ((lb ++ [zj (x >>> zc 56)]) ++ [zj (x >>> zc 48)])) (m := 1) (x := .slice (some ⟨Hi, 0, none⟩) 1 1) (bytes := 1) Hj (by kernel_rfl) EG rfl (ZD _) (Zg (size := 1) (tx := 23) (e' := 5) (by kernel_rfl) (EG.heap.reads (k := 3) rfl) rfl (fun e => by cases e) (Zj _)) (by kernel_rfl) (z := .int .u8 0) (by kernel_rfl) rfl (by decide) (by omega) (by unfold maxLen; omega) ?_
 intro _ _ HK HL EH EI hnz _
 clear hnz
 rw [← Zd] at EI
 have EJ : (zb ((lb ++ [zj (x >>> zc 56)]) ++ [zj (x >>> zc 48)])) + 1 = zb (((lb ++ [zj (x >>> zc 56)]) ++ [zj (x >>> zc 48)]) ++ [zj (x >>> zc 40)]) := (by first | (simp; done) | (simp; omega) | omega)
 rw [EJ] at EH
 refine d_e [0,1,6,7] [] EH fun _ Hk => zv <| ze <| d_r [0,1,6,7] [] Hk fun _ Hl => ze <| zF <| wp_seq <| d_s [0,1,6,7,11] [] Hl fun _ EK => c_t EK ?_
 refine wp_skip <| ze <| wp_seq <| wp_block <| zk <| d_k [0,1,6,7,14,19] [(4, g_i .u64 (Go.Dbr.u64_shr (x := x) (n := 32) rfl (by decide))), (5, g_i .u8 (Go.Dbr.u64_to_u8 (x := x >>> zc 32) rfl))] 6 EK fun _ Hm => f_o <| ZO (d := some 20) (t := 23) (T := 5) (m := 1) (parts := #[(0, bv (zj (x >>> zc 32)))]) (xs := bys [zj (x >>> zc 32)]) (sz := 1) Hm (by kernel_rfl) (by kernel_rfl) rfl (by decide) EI ?_
 intro _ _ Hn Ho EL
 refine f_o <| Zk (d := some 21) (t := 23) (tx := 23) (ty := 23) (k := 0) (p := zb (((lb ++ [zj (x >>> zc 56)]) ++ [zj (x >>> zc 48)]) ++ [zj (x >>> zc 40)])) (m := 1) (x := .slice (some ⟨Hn, 0, none⟩) 1 1) (bytes := 1) Ho (by kernel_rfl) EL rfl (ZD _) (Zg (size := 1) (tx := 23) (e' := 5) (by kernel_rfl) (EL.heap.reads (k := 4) rfl) rfl (fun e => by cases e) (Zj _)) (by kernel_rfl) (z := .int .u8 0) (by kernel_rfl) rfl (by decide) (by omega) (by unfold maxLen; omega) ?_
 intro _ _ HM HN EM EN hnz _
 clear hnz
 rw [← Zd] at EN
 have EO : (zb (((lb ++ [zj (x >>> zc 56)]) ++ [zj (x >>> zc 48)]) ++ [zj (x >>> zc 40)])) + 1 = zb ((((lb ++ [zj (x >>> zc 56)]) ++ [zj (x >>> zc 48)]) ++ [zj (x >>> zc 40)]) ++ [zj (x >>> zc 32)]) := (by first | (simp; done) | (simp; omega) | omega)
 rw [EO] at EM
 refine d_e [0,1,6,7] [] EM fun _ Hp => zv <| ze <| d_r [0,1,6,7] [] Hp fun _ Hq => ze <| zF <| wp_seq <| d_s [0,1,6,7,11] [] Hq fun _ EP => c_t EP ?_
 refine wp_skip <| ze <| wp_seq <| wp_block <| zk <| d_k [0,1,6,7,14,19] [(4, g_i .u64 (Go.Dbr.u64_shr (x := x) (n := 24) rfl (by decide))), (5, g_i .u8 (Go.Dbr.u64_to_u8 (x := x >>> zc 24) rfl))] 6 EP fun _ Hr => f_o <| ZO (d := some 20) (t := 23) (T := 5) (m := 1) (parts := #[(0, bv (zj (x >>> zc 24)))]) (xs := bys [zj (x >>> zc 24)]) (sz := 1) Hr (by kernel_rfl) (by kernel_rfl) rfl (by decide) EN ?_
 intro _ _ Hs Ht EQ
 refine f_o <| Zk (d := some 21) (t := 23) (tx := 23) (ty := 23) (k := 0) (p := zb ((((lb ++ [zj (x >>> zc 56)]) ++ [zj (x >>> zc 48)]) ++ [zj (x >>> zc 40)]) ++ [zj (x >>> zc 32)])) (m := 1) (x := .slice (some ⟨Hs, 0, none⟩) 1 1) (bytes := 1) Ht (by kernel_rfl) EQ rfl (ZD _) (Zg (size := 1) (tx := 23) (e' := 5) (by kernel_rfl) (EQ.heap.reads (k := 5) rfl) rfl (fun e => by cases e) (Zj _)) (by kernel_rfl) (z := .int .u8 0) (by kernel_rfl) rfl (by decide) (by omega) (by unfold maxLen; omega) ?_
 intro _ _ HO HP Ea Eb hnz _
 clear hnz
 rw [← Zd] at Eb
 have Er : (zb ((((lb ++ [zj (x >>> zc 56)]) ++ [zj (x >>> zc 48)]) ++ [zj (x >>> zc 40)]) ++ [zj (x >>> zc 32)])) + 1 = zb (((((lb ++ [zj (x >>> zc 56)]) ++ [zj (x >>> zc 48)]) ++ [zj (x >>> zc 40)]) ++ [zj (x >>> zc 32)]) ++ [zj (x >>> zc 24)]) := (by first | (simp; done) | (simp; omega) | omega)
 rw [Er] at Ea
 refine d_e [0,1,6,7] [] Ea fun _ ER => zv <| ze <| d_r [0,1,6,7] [] ER fun _ ES => ze <| zF <| wp_seq <| d_s [0,1,6,7,11] [] ES fun _ Ec => c_t Ec ?_
 refine wp_skip <| ze <| wp_seq <| wp_block <| zk <| d_k [0,1,6,7,14,19] [(4, g_i .u64 (Go.Dbr.u64_shr (x := x) (n := 16) rfl (by decide))), (5, g_i .u8 (Go.Dbr.u64_to_u8 (x := x >>> zc 16) rfl))] 6 Ec fun _ ET => f_o <| ZO (d := some 20) (t := 23) (T := 5) (m := 1) (parts := #[(0, bv (zj (x >>> zc 16)))]) (xs := bys [zj (x >>> zc 16)]) (sz := 1) ET (by kernel_rfl) (by kernel_rfl) rfl (by decide) Eb ?_
 intro _ _ EU EV Ed
 refine f_o <| Zk (d := some 21) (t := 23) (tx := 23) (ty := 23) (k := 0) (p := zb (((((lb ++ [zj (x >>> zc 56)]) ++ [zj (x >>> zc 48)]) ++ [zj (x >>> zc 40)]) ++ [zj (x >>> zc 32)]) ++ [zj (x >>> zc 24)])) (m := 1) (x := .slice (some ⟨EU, 0, none⟩) 1 1) (bytes := 1) EV (by kernel_rfl) Ed rfl (ZD _) (Zg (size := 1) (tx := 23) (e' := 5) (by kernel_rfl) (Ed.heap.reads (k := 6) rfl) rfl (fun e => by cases e) (Zj _)) (by kernel_rfl) (z := .int .u8 0) (by kernel_rfl) rfl (by decide) (by omega) (by unfold maxLen; omega) ?_
 intro _ _ Hv Hw Ee Ef hnz _
 clear hnz
 rw [← Zd] at Ef
 have Es : (zb (((((lb ++ [zj (x >>> zc 56)]) ++ [zj (x >>> zc 48)]) ++ [zj (x >>> zc 40)]) ++ [zj (x >>> zc 32)]) ++ [zj (x >>> zc 24)])) + 1 = zb ((((((lb ++ [zj (x >>> zc 56)]) ++ [zj (x >>> zc 48)]) ++ [zj (x >>> zc 40)]) ++ [zj (x >>> zc 32)]) ++ [zj (x >>> zc 24)]) ++ [zj (x >>> zc 16)]) := (by first | (simp; done) | (simp; omega) | omega)
 rw [Es] at Ee
 refine d_e [0,1,6,7] [] Ee fun _ EW => zv <| ze <| d_r [0,1,6,7] [] EW fun _ EX => ze <| zF <| wp_seq <| d_s [0,1,6,7,11] [] EX fun _ Eg => c_t Eg ?_
 refine wp_skip <| ze <| wp_seq <| wp_block <| zk <| d_k [0,1,6,7,14,19] [(4, g_i .u64 (Go.Dbr.u64_shr (x := x) (n := 8) rfl (by decide))), (5, g_i .u8 (Go.Dbr.u64_to_u8 (x := x >>> zc 8) rfl))] 6 Eg fun _ EY => f_o <| ZO (d := some 20) (t := 23) (T := 5) (m := 1) (parts := #[(0, bv (zj (x >>> zc 8)))]) (xs := bys [zj (x >>> zc 8)]) (sz := 1) EY (by kernel_rfl) (by kernel_rfl) rfl (by decide) Ef ?_
 intro _ _ EZ E0 Eh
 refine f_o <| Zk (d := some 21) (t := 23) (tx := 23) (ty := 23) (k := 0) (p := zb ((((((lb ++ [zj (x >>> zc 56)]) ++ [zj (x >>> zc 48)]) ++ [zj (x >>> zc 40)]) ++ [zj (x >>> zc 32)]) ++ [zj (x >>> zc 24)]) ++ [zj (x >>> zc 16)])) (m := 1) (x := .slice (some ⟨EZ, 0, none⟩) 1 1) (bytes := 1) E0 (by kernel_rfl) Eh rfl (ZD _) (Zg (size := 1) (tx := 23) (e' := 5) (by kernel_rfl) (Eh.heap.reads (k := 7) rfl) rfl (fun e => by cases e) (Zj _)) (by kernel_rfl) (z := .int .u8 0) (by kernel_rfl) rfl (by decide) (by omega) (by unfold maxLen; omega) ?_
 intro _ _ Hx Hy Ei Ej hnz _
 clear hnz
 rw [← Zd] at Ej
 have Et : (zb ((((((lb ++ [zj (x >>> zc 56)]) ++ [zj (x >>> zc 48)]) ++ [zj (x >>> zc 40)]) ++ [zj (x >>> zc 32)]) ++ [zj (x >>> zc 24)]) ++ [zj (x >>> zc 16)])) + 1 = zb (((((((lb ++ [zj (x >>> zc 56)]) ++ [zj (x >>> zc 48)]) ++ [zj (x >>> zc 40)]) ++ [zj (x >>> zc 32)]) ++ [zj (x >>> zc 24)]) ++ [zj (x >>> zc 16)]) ++ [zj (x >>> zc 8)]) := (by first | (simp; done) | (simp; omega) | omega)
 rw [Et] at Ei
 refine d_e [0,1,6,7] [] Ei fun _ E1 => zv <| ze <| d_r [0,1,6,7] [] E1 fun _ E2 => ze <| zF <| wp_seq <| d_s [0,1,6,7,11] [] E2 fun _ Ek => c_t Ek ?_
 refine wp_skip <| ze <| wp_seq <| wp_block <| zk <| d_k [0,1,6,7,14,19] [(4, g_i .u64 (Go.Dbr.u64_shr (x := x) (n := 0) rfl (by decide))), (5, g_i .u8 (Go.Dbr.u64_to_u8 (x := x >>> zc 0) rfl))] 6 Ek fun _ E3 => f_o <| ZO (d := some 20) (t := 23) (T := 5) (m := 1) (parts := #[(0, bv (zj (x >>> zc 0)))]) (xs := bys [zj (x >>> zc 0)]) (sz := 1) E3 (by kernel_rfl) (by kernel_rfl) rfl (by decide) Ej ?_
 intro _ _ E4 E5 El
 refine f_o <| Zk (d := some 21) (t := 23) (tx := 23) (ty := 23) (k := 0) (p := zb (((((((lb ++ [zj (x >>> zc 56)]) ++ [zj (x >>> zc 48)]) ++ [zj (x >>> zc 40)]) ++ [zj (x >>> zc 32)]) ++ [zj (x >>> zc 24)]) ++ [zj (x >>> zc 16)]) ++ [zj (x >>> zc 8)])) (m := 1) (x := .slice (some ⟨E4, 0, none⟩) 1 1) (bytes := 1) E5 (by kernel_rfl) El rfl (ZD _) (Zg (size := 1) (tx := 23) (e' := 5) (by kernel_rfl) (El.heap.reads (k := 8) rfl) rfl (fun e => by cases e) (Zj _)) (by kernel_rfl) (z := .int .u8 0) (by kernel_rfl) rfl (by decide) (by omega) (by unfold maxLen; omega) ?_
 intro _ _ Em En Eo Ep hnz _
 clear hnz
 rw [← Zd] at Ep
 have Eu : (zb (((((((lb ++ [zj (x >>> zc 56)]) ++ [zj (x >>> zc 48)]) ++ [zj (x >>> zc 40)]) ++ [zj (x >>> zc 32)]) ++ [zj (x >>> zc 24)]) ++ [zj (x >>> zc 16)]) ++ [zj (x >>> zc 8)])) + 1 = zb ((((((((lb ++ [zj (x >>> zc 56)]) ++ [zj (x >>> zc 48)]) ++ [zj (x >>> zc 40)]) ++ [zj (x >>> zc 32)]) ++ [zj (x >>> zc 24)]) ++ [zj (x >>> zc 16)]) ++ [zj (x >>> zc 8)]) ++ [zj (x >>> zc 0)]) := (by first | (simp; done) | (simp; omega) | omega)
 rw [Eu] at Eo
 refine d_e [0,1,6,7] [] Eo fun _ E6 => zv <| ze <| d_r [0,1,6,7] [] E6 fun _ E7 => ze <| zF <| wp_seq <| d_s [0,1,6,7,11] [] E7 fun _ Eq => c_f Eq ?_
 refine wp_exit <| zy <| zy <| zL <| ze <| d_s [0,1,6,7] [] Eq fun _ E8 => wp_ret <| Qu (t := 6) (v := .slice Em (zb ((((((((lb ++ [zj (x >>> zc 56)]) ++ [zj (x >>> zc 48)]) ++ [zj (x >>> zc 40)]) ++ [zj (x >>> zc 32)]) ++ [zj (x >>> zc 24)]) ++ [zj (x >>> zc 16)]) ++ [zj (x >>> zc 8)]) ++ [zj (x >>> zc 0)])) En) E8 (by kernel_rfl) (by kernel_rfl) ?_
 have hl : (((((((lb ++ [zj (x >>> zc 56)]) ++ [zj (x >>> zc 48)]) ++ [zj (x >>> zc 40)]) ++ [zj (x >>> zc 32)]) ++ [zj (x >>> zc 24)]) ++ [zj (x >>> zc 16)]) ++ [zj (x >>> zc 8)]) ++ [zj (x >>> zc 0)] = lb ++ be8 x := by simp [be8]
 have Hf177 := Ep.pk [0] (M := [.vec Em En 1 (bys ((((((((lb ++ [zj (x >>> zc 56)]) ++ [zj (x >>> zc 48)]) ++ [zj (x >>> zc 40)]) ++ [zj (x >>> zc 32)]) ++ [zj (x >>> zc 24)]) ++ [zj (x >>> zc 16)]) ++ [zj (x >>> zc 8)]) ++ [zj (x >>> zc 0)])) 5])
 rw [hl] at Hf177
 exact ⟨_, _, by rw [hl], Hf177⟩
end Go.Proofs.YtlnogkmnklfjlaaGreatDoor.Sh

namespace Go.Proofs.YtlnogkmnklfjlaaGreatDoor.Sh
open Go.Dbr
set_option maxRecDepth 100000
set_option maxHeartbeats 2000000
set_option linter.unusedVariables false
set_option linter.unusedSimpArgs false
def pdZ (sz r : Nat) : Nat := (sz - (r + 1 + sz / 8) % sz) % sz
def padB (sz : Nat) (r n : Nat) : List UInt8 := ((([128] : List UInt8) ++ zd (pdZ sz r) 0) ++ zd (sz / 8 - 8) 0) ++ be8 (zc n * 8)
theorem padB_len (sz r n : Nat) (h : 0 < sz) (h2 : sz ≤ 128) : (padB sz r n).length ≤ 153 := by
  have : pdZ sz r < sz := Nat.mod_lt _ h
  simp [padB, be8]
  omega
def padH (h : Int) (al : List UInt8) : List UInt8 := if h = 1 then padB 64 (restH h al).length al.length else padB 128 (restH h al).length al.length
theorem padH_len (h : Int) (al : List UInt8) : (padH h al).length ≤ 153 := by
  unfold padH
  split
  · exact padB_len _ _ _ (by decide) (by decide)
  · exact padB_len _ _ _ (by decide) (by decide)
def out32 (s : List UInt32) : Nat → List UInt8
  | 0 => []
  | i + 1 => out32 s i ++ be4 (UInt32.toUInt64 (za s i 0))
def out64 (s : List UInt64) : Nat → List UInt8
  | 0 => []
  | i + 1 => out64 s i ++ be8 (za s i 0)
theorem out32_len (s : List UInt32) (i : Nat) : (out32 s i).length = 4 * i := by
  induction i with
  | zero => rfl
  | succ i ih => rw [out32, zC, ih]; rfl
theorem out64_len (s : List UInt64) (i : Nat) : (out64 s i).length = 8 * i := by
  induction i with
  | zero => rfl
  | succ i ih => rw [out64, zC, ih]; rfl
def sumF (h : Int) (al : List UInt8) : List UInt8 := zn (sizeOfH h) (if h = 1 then out32 (S32 h (al ++ padH h al)) 8 else out64 (S64 h (al ++ padH h al)) 8)
theorem sumF_len {h : Int} (hh : h = 1 ∨ h = 2 ∨ h = 3) (al : List UInt8) : (sumF h al).length = sizeOfH h := by
  unfold sumF
  rw [zs]
  rcases hh with rfl | rfl | rfl
  · rw [if_pos rfl, out32_len]; rfl
  · rw [if_neg (by decide), out64_len]; rfl
  · rw [if_neg (by decide), out64_len]; rfl
theorem end_step {B : List UInt8} {j : Nat} : (B ++ zd j 0) ++ [0] = B ++ zd (j + 1) 0 := by rw [List.append_assoc, List.replicate_succ']
theorem size_le (h : Int) : sizeOfH h ≤ 64 := by
  unfold sizeOfH
  split
  · decide
  · split
    · decide
    · split <;> decide
end Go.Proofs.YtlnogkmnklfjlaaGreatDoor.Sh
