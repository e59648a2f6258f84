/- Layer 9: carried, product, ended of the document: the walks. -/
import Derived.Test.YtnahplggflhdaaaP5
namespace Go.Proofs.Ytnahplggflhdaaa
open Go.Dbr
set_option maxRecDepth 100000
set_option maxHeartbeats 2000000
set_option linter.unusedVariables false
set_option linter.unusedSimpArgs false

theorem carried_ref (w : World) (l : List UInt64) (hl : List.length l = 18) : Calls Try.prog 37 #[.agg (List.toArray (u64s l))] w fun e w' => e = .returned (.agg (List.toArray (u64s (carryF l 17)))) ∧ Ev w [] w' [] := by
 refine d_start [(0, .agg (List.toArray (u64s l)))] 27 Go.Proofs.Try.func37 Go.Proofs.Try.ntmps37 rfl (by kernel_rfl) (by kernel_rfl) ?_
 intro act0 En0
 have Hv0 : Ev w [] w [] := Ev.refl (Heap.nil _)
 refine wp_seq ?_
 refine region_from ?_
 refine from_op (by kernel_rfl) ?_
 refine op_newbox (d := some 1) (T := 68) (v := .agg (List.toArray (u64s l))) (cs := u64s l) En0 (by kernel_rfl) rfl Hv0 ?_
 intro ac2 wo3 bk1 En4 Hv5
 refine from_op (by kernel_rfl) ?_
 refine op_alloc (d := some 2) (T := 68) (x := .tuple #[]) (z := .agg (List.toArray (u64s (List.replicate 18 0)))) (cs := u64s (List.replicate 18 0)) En4 (by kernel_rfl) (by kernel_rfl) (by kernel_rfl) Hv5 ?_
 intro ac7 wo8 bk6 En9 Hv10
 refine from_end (by kernel_rfl) ?_
 refine then_normal ?_
 refine wp_seq ?_
 refine wp_seq ?_
 refine region_from ?_
 refine d_pures [(1, pt bk1), (2, pt bk6), (3, .int .i64 0)] [.int .i64 0] 1 En9 (by kernel_rfl) (by kernel_rfl) rfl ?_
 intro ac11 En12
 refine from_end (by kernel_rfl) ?_
 refine then_normal ?_
 refine wp_block ?_
 refine loop_m (fun ms13 ac wo => ∃ (i : Nat) (v : List UInt64), ms13 = (17 - i : Nat) ∧ Env ac 27 [(1, pt bk1), (2, pt bk6), (3, ni i)] ∧ Ev w [] wo [.box bk1 (u64s v) 68, .box bk6 (u64s (List.replicate 18 0)) 68] ∧ (i ≤ 17) ∧ (List.length v = 18) ∧ (v = carryF l i)) ⟨_, 0, l, rfl, En12.sub (by kernel_rfl), Hv10.pick [0, 1] (by kernel_rfl) (by decide), by omega, hl, rfl⟩ ?_
 rintro mm19 ac15 wo16 ⟨i, v, rfl, En17, Hv18, hiv, hlv, hev⟩
 refine wp_seq ?_
 refine wp_seq ?_
 refine region_from ?_
 refine d_pures [(1, pt bk1), (2, pt bk6), (3, ni i), (5, .bool (decide (((i : Nat) : Int) < (17 : Int))))] [ni i, .bool (decide (((i : Nat) : Int) < (17 : Int)))] 2 En17 (by kernel_rfl) (by kernel_rfl) rfl ?_
 intro ac20 En21
 refine from_end (by kernel_rfl) ?_
 refine then_normal ?_
 refine cond_at En21 (t := decide (((i : Nat) : Int) < (17 : Int))) (by kernel_rfl) (fun hc22 => ?_) (fun hc22 => ?_)
 ·
  replace hc22 : ((i : Nat) : Int) < (17 : Int) := of_decide_eq_true hc22
  refine wp_skip ?_
  refine then_normal ?_
  refine wp_seq ?_
  refine wp_block ?_
  refine wp_seq ?_
  refine region_cut (F := fun ac wo => Env ac 27 [(1, pt bk1), (2, pt bk6), (3, ni i)] ∧ Ev w [] wo [.box bk1 (u64s (List.set v (i + 1) ((List.getD v (i + 1) 0) + ((List.getD v i 0) >>> UInt64.ofNat 16)))) 68, .box bk6 (u64s (List.replicate 18 0)) 68]) ?_ ?_
  ·
   refine h_start (fun wv => Ev w [] wv [.box bk1 (u64s v) 68]) [12] (by kernel_rfl) 13 (by kernel_rfl) ?_
   have wo23 := Hv18.trans (Ev.drew Hv18.heap)
   refine h_pureR (d := some 8) En21 (v := ni i) 0 (by kernel_rfl) (by kernel_rfl) rfl (fun _ => wo23.pick [0] (by kernel_rfl) (by decide)) ?_
   intro ac103 En104
   refine h_pureR (d := some 9) En104 (v := .int .i64 (IntKind.wrap .i64 (((i : Nat) : Int) + (1 : Int)))) 1 (by kernel_rfl) (by kernel_rfl) rfl (fun _ => wo23.pick [0] (by kernel_rfl) (by decide)) ?_
   intro ac105 En106
   rw [Go.Dbr.wr64 (e := ((i : Nat) : Int) + (1 : Int)) (x := ((i + 1 : Nat) : Int)) (by omega) (by omega) (by omega)] at En106
   refine h_pureR (d := some 10) En106 (v := ni i) 2 (by kernel_rfl) (by kernel_rfl) rfl (fun _ => wo23.pick [0] (by kernel_rfl) (by decide)) ?_
   intro ac107 En108
   refine h_pureR (d := some 11) En108 (v := .int .i64 (IntKind.wrap .i64 (((i : Nat) : Int) + (1 : Int)))) 3 (by kernel_rfl) (by kernel_rfl) rfl (fun _ => wo23.pick [0] (by kernel_rfl) (by decide)) ?_
   intro ac109 En110
   rw [Go.Dbr.wr64 (e := ((i : Nat) : Int) + (1 : Int)) (x := ((i + 1 : Nat) : Int)) (by omega) (by omega) (by omega)] at En110
   refine h_free (d := some 12) (s := nv (Instr.indexAt 68 (pt bk1) (.int .i64 ((i + 1 : Nat) : Int)))) En110 (v := .pointer (some ⟨bk1, i + 1, none⟩)) 4 (by kernel_rfl) (fun _ => run_nv (Go.Dbr.run_indexarr (e := 49) (sz := 1) (m := 18) (j := i + 1) (o := i + 1) (by kernel_rfl) (by kernel_rfl) (by omega) (by omega) (by omega) _)) (by kernel_rfl) rfl (fun _ => wo23.pick [0] (by kernel_rfl) (by decide)) ?_
   intro ac111 En112
   have hb113 : i + 1 < List.length v := by rw [hlv]; omega
   refine h_read (d := some 13) (s := nv (Instr.loadAt 49 (.pointer (some ⟨bk1, i + 1, none⟩)))) En112 (v := .int .u64 ((UInt64.toNat (List.getD v (i + 1) 0) : Nat) : Int)) 5 (by kernel_rfl) (fun w hS => run_nv (run_load1 (by kernel_rfl) (hS.heap.cell (k := 0) rfl (u64s_getD hb113)))) (by kernel_rfl) rfl (wo23.pick [0] (by kernel_rfl) (by decide)) ?_
   intro ac114 En115
   refine h_pureR (d := some 14) En115 (v := ni i) 6 (by kernel_rfl) (by kernel_rfl) rfl (fun _ => wo23.pick [0] (by kernel_rfl) (by decide)) ?_
   intro ac116 En117
   refine h_free (d := some 15) (s := nv (Instr.indexAt 68 (pt bk1) (ni i))) En117 (v := .pointer (some ⟨bk1, i, none⟩)) 7 (by kernel_rfl) (fun _ => run_nv (Go.Dbr.run_indexarr (e := 49) (sz := 1) (m := 18) (j := i) (o := i) (by kernel_rfl) (by kernel_rfl) (by omega) (by omega) (by omega) _)) (by kernel_rfl) rfl (fun _ => wo23.pick [0] (by kernel_rfl) (by decide)) ?_
   intro ac118 En119
   have hb120 : i < List.length v := by rw [hlv]; omega
   refine h_read (d := some 16) (s := nv (Instr.loadAt 49 (.pointer (some ⟨bk1, i, none⟩)))) En119 (v := .int .u64 ((UInt64.toNat (List.getD v i 0) : Nat) : Int)) 8 (by kernel_rfl) (fun w hS => run_nv (run_load1 (by kernel_rfl) (hS.heap.cell (k := 0) rfl (u64s_getD hb120)))) (by kernel_rfl) rfl (wo23.pick [0] (by kernel_rfl) (by decide)) ?_
   intro ac121 En122
   refine h_pureR (d := some 17) En122 (v := .int .u64 (Int.fdiv ((UInt64.toNat (List.getD v i 0) : Nat) : Int) (2 ^ 16))) 9 (by kernel_rfl) (by kernel_rfl) rfl (fun _ => wo23.pick [0] (by kernel_rfl) (by decide)) ?_
   intro ac123 En124
   rw [Go.Dbr.u64_shr (a := ((UInt64.toNat (List.getD v i 0) : Nat) : Int)) (x := List.getD v i 0) (n := 16) rfl (by decide)] at En124
   refine h_pureR (d := some 18) En124 (v := .int .u64 (IntKind.wrap .u64 (((UInt64.toNat (List.getD v (i + 1) 0) : Nat) : Int) + ((UInt64.toNat ((List.getD v i 0) >>> UInt64.ofNat 16) : Nat) : Int)))) 10 (by kernel_rfl) (by kernel_rfl) rfl (fun _ => wo23.pick [0] (by kernel_rfl) (by decide)) ?_
   intro ac125 En126
   rw [Go.Dbr.u64_add (a := ((UInt64.toNat (List.getD v (i + 1) 0) : Nat) : Int)) (b := ((UInt64.toNat ((List.getD v i 0) >>> UInt64.ofNat 16) : Nat) : Int)) (x := List.getD v (i + 1) 0) (y := (List.getD v i 0) >>> UInt64.ofNat 16) rfl rfl] at En126
   refine h_free (d := some 19) (s := nv (Instr.indexAt 68 (pt bk1) (.int .i64 ((i + 1 : Nat) : Int)))) En126 (v := .pointer (some ⟨bk1, i + 1, none⟩)) 11 (by kernel_rfl) (fun _ => run_nv (Go.Dbr.run_indexarr (e := 49) (sz := 1) (m := 18) (j := i + 1) (o := i + 1) (by kernel_rfl) (by kernel_rfl) (by omega) (by omega) (by omega) _)) (by kernel_rfl) rfl (fun _ => wo23.pick [0] (by kernel_rfl) (by decide)) ?_
   intro ac127 En128
   refine h_at 12 (by kernel_rfl) rfl ?_
   have hb129 : i + 1 < List.length v := by rw [hlv]; omega
   refine op_storebox2 (d := none) (t := 49) (b := bk1) (off := i + 1) (k := 0) (v := .int .u64 ((UInt64.toNat ((List.getD v (i + 1) 0) + ((List.getD v i 0) >>> UInt64.ofNat 16)) : Nat) : Int)) En128 (by kernel_rfl) wo23 rfl (u64s_getD hb129) (by kernel_rfl) rfl (u64s_set _ _ _) rfl ?_
   intro ac130 wo131  En132 Hv133
   refine ⟨not_yet (by kernel_rfl), ?_⟩
   exact h_end (by kernel_rfl) ⟨En132.sub (by kernel_rfl), Hv133.pick [0, 1] (by kernel_rfl) (by decide)⟩
  rintro ac134 wo135 ⟨En136, Hv137⟩
  refine then_normal ?_
  refine region_from ?_
  refine d_pures [(1, pt bk1), (2, pt bk6), (3, ni i), (20, ni i), (21, ni i)] [ni i, ni i] 2 En136 (by kernel_rfl) (by kernel_rfl) rfl ?_
  intro ac138 En139
  refine from_op (by kernel_rfl) ?_
  refine op_val (d := some 22) (x := Instr.indexAt 68 (pt bk1) (ni i)) (v := .pointer (some ⟨bk1, i, none⟩)) En139 (by kernel_rfl) (Go.Dbr.run_indexarr (e := 49) (sz := 1) (m := 18) (j := i) (o := i) (by kernel_rfl) (by kernel_rfl) (by omega) (by omega) (by omega) _) ?_
  intro ac140 En141
  refine from_op (by kernel_rfl) ?_
  have hb142 : i < List.length (List.set v (i + 1) ((List.getD v (i + 1) 0) + ((List.getD v i 0) >>> UInt64.ofNat 16))) := by rw [(List.length_set.trans hlv)]; omega
  refine op_loadbox (d := some 23) (t := 49) (b := bk1) (off := i) (k := 0) (v := .int .u64 ((UInt64.toNat (List.getD (List.set v (i + 1) ((List.getD v (i + 1) 0) + ((List.getD v i 0) >>> UInt64.ofNat 16))) i 0) : Nat) : Int)) En141 (by kernel_rfl) Hv137 rfl (u64s_getD hb142) (by kernel_rfl) ?_
  intro ac143 En144
  refine d_pures [(1, pt bk1), (2, pt bk6), (3, ni i), (20, ni i), (24, .int .u64 (IntKind.wrap .u64 ((BitVec.ofInt (IntKind.bits .u64) ((UInt64.toNat (List.getD (List.set v (i + 1) ((List.getD v (i + 1) 0) + ((List.getD v i 0) >>> UInt64.ofNat 16))) i 0) : Nat) : Int) &&& BitVec.ofInt (IntKind.bits .u64) (65535 : Int)).toNat : Int)))] [.int .u64 (IntKind.wrap .u64 ((BitVec.ofInt (IntKind.bits .u64) ((UInt64.toNat (List.getD (List.set v (i + 1) ((List.getD v (i + 1) 0) + ((List.getD v i 0) >>> UInt64.ofNat 16))) i 0) : Nat) : Int) &&& BitVec.ofInt (IntKind.bits .u64) (65535 : Int)).toNat : Int))] 5 En144 (by kernel_rfl) (by kernel_rfl) rfl ?_
  intro ac145 En146
  rw [Go.Dbr.u64_and (a := ((UInt64.toNat (List.getD (List.set v (i + 1) ((List.getD v (i + 1) 0) + ((List.getD v i 0) >>> UInt64.ofNat 16))) i 0) : Nat) : Int)) (b := (65535 : Int)) (x := List.getD (List.set v (i + 1) ((List.getD v (i + 1) 0) + ((List.getD v i 0) >>> UInt64.ofNat 16))) i 0) (y := (65535 : UInt64)) rfl rfl] at En146
  refine from_op (by kernel_rfl) ?_
  refine op_val (d := some 25) (x := Instr.indexAt 68 (pt bk1) (ni i)) (v := .pointer (some ⟨bk1, i, none⟩)) En146 (by kernel_rfl) (Go.Dbr.run_indexarr (e := 49) (sz := 1) (m := 18) (j := i) (o := i) (by kernel_rfl) (by kernel_rfl) (by omega) (by omega) (by omega) _) ?_
  intro ac147 En148
  refine from_op (by kernel_rfl) ?_
  have hb149 : i < List.length (List.set v (i + 1) ((List.getD v (i + 1) 0) + ((List.getD v i 0) >>> UInt64.ofNat 16))) := by rw [(List.length_set.trans hlv)]; omega
  refine op_storebox2 (d := none) (t := 49) (b := bk1) (off := i) (k := 0) (v := .int .u64 ((UInt64.toNat ((List.getD (List.set v (i + 1) ((List.getD v (i + 1) 0) + ((List.getD v i 0) >>> UInt64.ofNat 16))) i 0) &&& (65535 : UInt64)) : Nat) : Int)) En148 (by kernel_rfl) Hv137 rfl (u64s_getD hb149) (by kernel_rfl) rfl (u64s_set _ _ _) (L' := [.box bk1 (u64s (List.set (List.set v (i + 1) ((List.getD v (i + 1) 0) + ((List.getD v i 0) >>> UInt64.ofNat 16))) i ((List.getD (List.set v (i + 1) ((List.getD v (i + 1) 0) + ((List.getD v i 0) >>> UInt64.ofNat 16))) i 0) &&& (65535 : UInt64)))) 68, .box bk6 (u64s (List.replicate 18 0)) 68]) rfl ?_
  intro ac150 wo151  En152 Hv153
  refine from_end (by kernel_rfl) ?_
  refine block_normal ?_
  refine then_normal ?_
  refine region_from ?_
  refine d_pures [(1, pt bk1), (2, pt bk6), (3, ni i), (7, .int .i64 (IntKind.wrap .i64 (((i : Nat) : Int) + (1 : Int))))] [ni i, .int .i64 (IntKind.wrap .i64 (((i : Nat) : Int) + (1 : Int)))] 2 En152 (by kernel_rfl) (by kernel_rfl) rfl ?_
  intro ac154 En155
  rw [Go.Dbr.wr64 (e := ((i : Nat) : Int) + (1 : Int)) (x := ((i + 1 : Nat) : Int)) (by omega) (by omega) (by omega)] at En155
  refine d_pures [(1, pt bk1), (2, pt bk6), (3, .int .i64 ((i + 1 : Nat) : Int))] [.int .i64 ((i + 1 : Nat) : Int)] 3 En155 (by kernel_rfl) (by kernel_rfl) rfl ?_
  intro ac156 En157
  refine from_end (by kernel_rfl) ?_
  refine then_normal ?_
  refine ⟨_, ⟨i + 1, (List.set (List.set v (i + 1) ((List.getD v (i + 1) 0) + ((List.getD v i 0) >>> UInt64.ofNat 16))) i ((List.getD (List.set v (i + 1) ((List.getD v (i + 1) 0) + ((List.getD v i 0) >>> UInt64.ofNat 16))) i 0) &&& (65535 : UInt64))), rfl, En157.sub (by kernel_rfl), Hv153.pick [0, 1] (by kernel_rfl) (by decide), by omega, (List.length_set.trans (List.length_set.trans hlv)), by first | (rw [hev]; rfl) | (rw [hev, hc2]; rfl) | rfl⟩, ?_⟩
  omega
 ·
  replace hc22 : ¬ (((i : Nat) : Int) < (17 : Int)) := of_decide_eq_false hc22
  refine wp_exit ?_
  refine then_exit ?_
  refine then_exit ?_
  refine block_exit ?_
  refine then_normal ?_
  refine wp_seq ?_
  have hnv : i = 17 := by omega
  have hfv : v = carryF l 17 := by rw [hev, hnv] <;> rfl
  rw [show v = (carryF l 17) from hfv] at Hv18
  refine region_from ?_
  refine from_op (by kernel_rfl) ?_
  refine op_loadaggbox (d := some 26) (t := 68) (b := bk1) (off := 0) (k := 0) (m := 18) (xs := u64s (carryF l 17)) En21 (by kernel_rfl) Hv18 rfl (load_whole (u64s_lenh (carryF_len hl 17))) (u64s_lenh (carryF_len hl 17)) (by kernel_rfl) (by kernel_rfl) ?_
  intro ac158 En159
  refine from_op (by kernel_rfl) ?_
  refine op_storeaggbox (d := none) (t := 68) (b := bk6) (off := 0) (k := 1) (m := 18) (xs := u64s (carryF l 17)) (v := .agg (List.toArray (u64s (carryF l 17)))) (cs' := u64s (carryF l 17)) En159 (by kernel_rfl) Hv18 rfl rfl (u64s_lenh (carryF_len hl 17)) (by rw [(u64s_lenh (List.length_replicate))]; decide) (by kernel_rfl) (u64s_one _) (store_whole (u64s_lenh (List.length_replicate))) (L' := [.box bk1 (u64s (carryF l 17)) 68, .box bk6 (u64s (carryF l 17)) 68]) rfl ?_
  intro ac160 wo161  En162 Hv163
  refine from_end (by kernel_rfl) ?_
  refine then_normal ?_
  refine wp_ret ?_
  refine d_cell1 (v := .agg (List.toArray (u64s (carryF l 17)))) (t := 2) (T := 68) (ad := ⟨bk6, 0, none⟩) En162 (by kernel_rfl) (by kernel_rfl) (Ev.cellAgg (t := 68) (k := 1) (off := 0) (m := 18) (xs := u64s (carryF l 17)) Hv163 rfl (load_whole (u64s_lenh (carryF_len hl 17))) (u64s_lenh (carryF_len hl 17)) (by kernel_rfl) (by kernel_rfl)) ?_
  exact ⟨rfl, Hv163.pick [] (by kernel_rfl) (by decide)⟩

theorem product_ref (w : World) (a : List UInt64) (ha : List.length a = 9) (r : List UInt64) (hr : List.length r = 8) : Calls Try.prog 28 #[.agg (List.toArray (u64s a)), .agg (List.toArray (u64s r))] w fun e w' => e = .returned (.agg (List.toArray (u64s (productF a r)))) ∧ Ev w [] w' [] := by
 refine d_start [(0, .agg (List.toArray (u64s a))), (1, .agg (List.toArray (u64s r)))] 104 Go.Proofs.Try.func28 Go.Proofs.Try.ntmps28 rfl (by kernel_rfl) (by kernel_rfl) ?_
 intro act0 En0
 have Hv0 : Ev w [] w [] := Ev.refl (Heap.nil _)
 refine wp_seq ?_
 refine region_from ?_
 refine from_op (by kernel_rfl) ?_
 refine op_newbox (d := some 2) (T := 59) (v := .agg (List.toArray (u64s a))) (cs := u64s a) En0 (by kernel_rfl) rfl Hv0 ?_
 intro ac2 wo3 bk1 En4 Hv5
 refine from_op (by kernel_rfl) ?_
 refine op_newbox (d := some 3) (T := 58) (v := .agg (List.toArray (u64s r))) (cs := u64s r) En4 (by kernel_rfl) rfl Hv5 ?_
 intro ac7 wo8 bk6 En9 Hv10
 refine from_op (by kernel_rfl) ?_
 refine op_alloc (d := some 4) (T := 59) (x := .tuple #[]) (z := .agg (List.toArray (u64s (List.replicate 9 0)))) (cs := u64s (List.replicate 9 0)) En9 (by kernel_rfl) (by kernel_rfl) (by kernel_rfl) Hv10 ?_
 intro ac12 wo13 bk11 En14 Hv15
 refine from_end (by kernel_rfl) ?_
 refine then_normal ?_
 refine wp_seq ?_
 refine region_from ?_
 refine from_op (by kernel_rfl) ?_
 refine op_alloc (d := some 5) (T := 68) (x := .tuple #[]) (z := .agg (List.toArray (u64s (List.replicate 18 0)))) (cs := u64s (List.replicate 18 0)) En14 (by kernel_rfl) (by kernel_rfl) (by kernel_rfl) Hv15 ?_
 intro ac17 wo18 bk16 En19 Hv20
 refine from_end (by kernel_rfl) ?_
 refine then_normal ?_
 refine wp_seq ?_
 refine wp_seq ?_
 refine region_from ?_
 refine d_pures [(2, pt bk1), (3, pt bk6), (4, pt bk11), (5, pt bk16), (6, .int .i64 0)] [.int .i64 0] 1 En19 (by kernel_rfl) (by kernel_rfl) rfl ?_
 intro ac21 En22
 refine from_end (by kernel_rfl) ?_
 refine then_normal ?_
 refine wp_block ?_
 refine loop_m (fun ms23 ac wo => ∃ (i : Nat) (v : List UInt64), ms23 = (9 - i : Nat) ∧ Env ac 104 [(2, pt bk1), (3, pt bk6), (4, pt bk11), (5, pt bk16), (6, ni i)] ∧ Ev w [] wo [.box bk16 (u64s v) 68, .box bk1 (u64s a) 59, .box bk6 (u64s r) 58, .box bk11 (u64s (List.replicate 9 0)) 59] ∧ (i ≤ 9) ∧ (List.length v = 18) ∧ (v = prodF a r i)) ⟨_, 0, List.replicate 18 0, rfl, En22.sub (by kernel_rfl), Hv20.pick [3, 0, 1, 2] (by kernel_rfl) (by decide), by omega, (List.length_replicate), rfl⟩ ?_
 rintro mm29 ac25 wo26 ⟨i, v, rfl, En27, Hv28, hiv, hlv, hev⟩
 refine wp_seq ?_
 refine wp_seq ?_
 refine region_from ?_
 refine d_pures [(2, pt bk1), (3, pt bk6), (4, pt bk11), (5, pt bk16), (6, ni i), (16, .bool (decide (((i : Nat) : Int) < (9 : Int))))] [ni i, .bool (decide (((i : Nat) : Int) < (9 : Int)))] 2 En27 (by kernel_rfl) (by kernel_rfl) rfl ?_
 intro ac30 En31
 refine from_end (by kernel_rfl) ?_
 refine then_normal ?_
 refine cond_at En31 (t := decide (((i : Nat) : Int) < (9 : Int))) (by kernel_rfl) (fun hc32 => ?_) (fun hc32 => ?_)
 ·
  replace hc32 : ((i : Nat) : Int) < (9 : Int) := of_decide_eq_true hc32
  refine wp_skip ?_
  refine then_normal ?_
  refine wp_seq ?_
  refine wp_block ?_
  refine wp_seq ?_
  refine region_from ?_
  refine d_pures [(2, pt bk1), (3, pt bk6), (4, pt bk11), (5, pt bk16), (6, ni i), (7, .int .i64 0)] [.int .i64 0] 1 En31 (by kernel_rfl) (by kernel_rfl) rfl ?_
  intro ac33 En34
  refine from_end (by kernel_rfl) ?_
  refine then_normal ?_
  refine wp_block ?_
  refine loop_m (fun ms35 ac wo => ∃ (k : Nat) (v2 : List UInt64), ms35 = (8 - k : Nat) ∧ Env ac 104 [(2, pt bk1), (3, pt bk6), (4, pt bk11), (5, pt bk16), (6, ni i), (7, ni k)] ∧ Ev w [] wo [.box bk16 (u64s v2) 68, .box bk1 (u64s a) 59, .box bk6 (u64s r) 58, .box bk11 (u64s (List.replicate 9 0)) 59] ∧ (k ≤ 8) ∧ (List.length v2 = 18) ∧ (v2 = rowF v a r i k)) ⟨_, 0, v, rfl, En34.sub (by kernel_rfl), Hv28.pick [0, 1, 2, 3] (by kernel_rfl) (by decide), by omega, hlv, rfl⟩ ?_
  rintro mm41 ac37 wo38 ⟨k, v2, rfl, En39, Hv40, hiv2, hlv2, hev2⟩
  refine wp_seq ?_
  refine wp_seq ?_
  refine region_from ?_
  refine d_pures [(2, pt bk1), (3, pt bk6), (4, pt bk11), (5, pt bk16), (6, ni i), (7, ni k), (20, .bool (decide (((k : Nat) : Int) < (8 : Int))))] [ni k, .bool (decide (((k : Nat) : Int) < (8 : Int)))] 2 En39 (by kernel_rfl) (by kernel_rfl) rfl ?_
  intro ac42 En43
  refine from_end (by kernel_rfl) ?_
  refine then_normal ?_
  refine cond_at En43 (t := decide (((k : Nat) : Int) < (8 : Int))) (by kernel_rfl) (fun hc44 => ?_) (fun hc44 => ?_)
  ·
   replace hc44 : ((k : Nat) : Int) < (8 : Int) := of_decide_eq_true hc44
   refine wp_skip ?_
   refine then_normal ?_
   refine wp_seq ?_
   refine wp_block ?_
   refine region_cut (F := fun ac wo => Env ac 104 [(2, pt bk1), (3, pt bk6), (4, pt bk11), (5, pt bk16), (6, ni i), (7, ni k)] ∧ Ev w [] wo [.box bk16 (u64s (List.set v2 (i + k) ((List.getD v2 (i + k) 0) + ((List.getD a i 0) * (List.getD r k 0))))) 68, .box bk1 (u64s a) 59, .box bk6 (u64s r) 58, .box bk11 (u64s (List.replicate 9 0)) 59]) ?_ ?_
   ·
    refine h_start (fun wv => Ev w [] wv [.box bk16 (u64s v2) 68, .box bk1 (u64s a) 59, .box bk6 (u64s r) 58]) [17] (by kernel_rfl) 18 (by kernel_rfl) ?_
    have wo45 := Hv40.trans (Ev.drew Hv40.heap)
    refine h_pureR (d := some 23) En43 (v := ni i) 0 (by kernel_rfl) (by kernel_rfl) rfl (fun _ => wo45.pick [0, 1, 2] (by kernel_rfl) (by decide)) ?_
    intro ac179 En180
    refine h_pureR (d := some 24) En180 (v := ni k) 1 (by kernel_rfl) (by kernel_rfl) rfl (fun _ => wo45.pick [0, 1, 2] (by kernel_rfl) (by decide)) ?_
    intro ac181 En182
    refine h_pureR (d := some 25) En182 (v := .int .i64 (IntKind.wrap .i64 (((i : Nat) : Int) + ((k : Nat) : Int)))) 2 (by kernel_rfl) (by kernel_rfl) rfl (fun _ => wo45.pick [0, 1, 2] (by kernel_rfl) (by decide)) ?_
    intro ac183 En184
    rw [Go.Dbr.wr64 (e := ((i : Nat) : Int) + ((k : Nat) : Int)) (x := ((i + k : Nat) : Int)) (by omega) (by omega) (by omega)] at En184
    refine h_pureR (d := some 26) En184 (v := ni i) 3 (by kernel_rfl) (by kernel_rfl) rfl (fun _ => wo45.pick [0, 1, 2] (by kernel_rfl) (by decide)) ?_
    intro ac185 En186
    refine h_pureR (d := some 27) En186 (v := ni k) 4 (by kernel_rfl) (by kernel_rfl) rfl (fun _ => wo45.pick [0, 1, 2] (by kernel_rfl) (by decide)) ?_
    intro ac187 En188
    refine h_pureR (d := some 28) En188 (v := .int .i64 (IntKind.wrap .i64 (((i : Nat) : Int) + ((k : Nat) : Int)))) 5 (by kernel_rfl) (by kernel_rfl) rfl (fun _ => wo45.pick [0, 1, 2] (by kernel_rfl) (by decide)) ?_
    intro ac189 En190
    rw [Go.Dbr.wr64 (e := ((i : Nat) : Int) + ((k : Nat) : Int)) (x := ((i + k : Nat) : Int)) (by omega) (by omega) (by omega)] at En190
    refine h_free (d := some 29) (s := nv (Instr.indexAt 68 (pt bk16) (.int .i64 ((i + k : Nat) : Int)))) En190 (v := .pointer (some ⟨bk16, i + k, none⟩)) 6 (by kernel_rfl) (fun _ => run_nv (Go.Dbr.run_indexarr (e := 49) (sz := 1) (m := 18) (j := i + k) (o := i + k) (by kernel_rfl) (by kernel_rfl) (by omega) (by omega) (by omega) _)) (by kernel_rfl) rfl (fun _ => wo45.pick [0, 1, 2] (by kernel_rfl) (by decide)) ?_
    intro ac191 En192
    have hb193 : i + k < List.length v2 := by rw [hlv2]; omega
    refine h_read (d := some 30) (s := nv (Instr.loadAt 49 (.pointer (some ⟨bk16, i + k, none⟩)))) En192 (v := .int .u64 ((UInt64.toNat (List.getD v2 (i + k) 0) : Nat) : Int)) 7 (by kernel_rfl) (fun w hS => run_nv (run_load1 (by kernel_rfl) (hS.heap.cell (k := 0) rfl (u64s_getD hb193)))) (by kernel_rfl) rfl (wo45.pick [0, 1, 2] (by kernel_rfl) (by decide)) ?_
    intro ac194 En195
    refine h_pureR (d := some 31) En195 (v := ni i) 8 (by kernel_rfl) (by kernel_rfl) rfl (fun _ => wo45.pick [0, 1, 2] (by kernel_rfl) (by decide)) ?_
    intro ac196 En197
    refine h_free (d := some 32) (s := nv (Instr.indexAt 59 (pt bk1) (ni i))) En197 (v := .pointer (some ⟨bk1, i, none⟩)) 9 (by kernel_rfl) (fun _ => run_nv (Go.Dbr.run_indexarr (e := 49) (sz := 1) (m := 9) (j := i) (o := i) (by kernel_rfl) (by kernel_rfl) (by omega) (by omega) (by omega) _)) (by kernel_rfl) rfl (fun _ => wo45.pick [0, 1, 2] (by kernel_rfl) (by decide)) ?_
    intro ac198 En199
    have hb200 : i < List.length a := by rw [ha]; omega
    refine h_read (d := some 33) (s := nv (Instr.loadAt 49 (.pointer (some ⟨bk1, i, none⟩)))) En199 (v := .int .u64 ((UInt64.toNat (List.getD a i 0) : Nat) : Int)) 10 (by kernel_rfl) (fun w hS => run_nv (run_load1 (by kernel_rfl) (hS.heap.cell (k := 1) rfl (u64s_getD hb200)))) (by kernel_rfl) rfl (wo45.pick [0, 1, 2] (by kernel_rfl) (by decide)) ?_
    intro ac201 En202
    refine h_pureR (d := some 34) En202 (v := ni k) 11 (by kernel_rfl) (by kernel_rfl) rfl (fun _ => wo45.pick [0, 1, 2] (by kernel_rfl) (by decide)) ?_
    intro ac203 En204
    refine h_free (d := some 35) (s := nv (Instr.indexAt 58 (pt bk6) (ni k))) En204 (v := .pointer (some ⟨bk6, k, none⟩)) 12 (by kernel_rfl) (fun _ => run_nv (Go.Dbr.run_indexarr (e := 49) (sz := 1) (m := 8) (j := k) (o := k) (by kernel_rfl) (by kernel_rfl) (by omega) (by omega) (by omega) _)) (by kernel_rfl) rfl (fun _ => wo45.pick [0, 1, 2] (by kernel_rfl) (by decide)) ?_
    intro ac205 En206
    have hb207 : k < List.length r := by rw [hr]; omega
    refine h_read (d := some 36) (s := nv (Instr.loadAt 49 (.pointer (some ⟨bk6, k, none⟩)))) En206 (v := .int .u64 ((UInt64.toNat (List.getD r k 0) : Nat) : Int)) 13 (by kernel_rfl) (fun w hS => run_nv (run_load1 (by kernel_rfl) (hS.heap.cell (k := 2) rfl (u64s_getD hb207)))) (by kernel_rfl) rfl (wo45.pick [0, 1, 2] (by kernel_rfl) (by decide)) ?_
    intro ac208 En209
    refine h_pureR (d := some 37) En209 (v := .int .u64 (IntKind.wrap .u64 (((UInt64.toNat (List.getD a i 0) : Nat) : Int) * ((UInt64.toNat (List.getD r k 0) : Nat) : Int)))) 14 (by kernel_rfl) (by kernel_rfl) rfl (fun _ => wo45.pick [0, 1, 2] (by kernel_rfl) (by decide)) ?_
    intro ac210 En211
    rw [Go.Dbr.u64_mul (a := ((UInt64.toNat (List.getD a i 0) : Nat) : Int)) (b := ((UInt64.toNat (List.getD r k 0) : Nat) : Int)) (x := List.getD a i 0) (y := List.getD r k 0) rfl rfl] at En211
    refine h_pureR (d := some 38) En211 (v := .int .u64 (IntKind.wrap .u64 (((UInt64.toNat (List.getD v2 (i + k) 0) : Nat) : Int) + ((UInt64.toNat ((List.getD a i 0) * (List.getD r k 0)) : Nat) : Int)))) 15 (by kernel_rfl) (by kernel_rfl) rfl (fun _ => wo45.pick [0, 1, 2] (by kernel_rfl) (by decide)) ?_
    intro ac212 En213
    rw [Go.Dbr.u64_add (a := ((UInt64.toNat (List.getD v2 (i + k) 0) : Nat) : Int)) (b := ((UInt64.toNat ((List.getD a i 0) * (List.getD r k 0)) : Nat) : Int)) (x := List.getD v2 (i + k) 0) (y := (List.getD a i 0) * (List.getD r k 0)) rfl rfl] at En213
    refine h_free (d := some 39) (s := nv (Instr.indexAt 68 (pt bk16) (.int .i64 ((i + k : Nat) : Int)))) En213 (v := .pointer (some ⟨bk16, i + k, none⟩)) 16 (by kernel_rfl) (fun _ => run_nv (Go.Dbr.run_indexarr (e := 49) (sz := 1) (m := 18) (j := i + k) (o := i + k) (by kernel_rfl) (by kernel_rfl) (by omega) (by omega) (by omega) _)) (by kernel_rfl) rfl (fun _ => wo45.pick [0, 1, 2] (by kernel_rfl) (by decide)) ?_
    intro ac214 En215
    refine h_at 17 (by kernel_rfl) rfl ?_
    have hb216 : i + k < List.length v2 := by rw [hlv2]; omega
    refine op_storebox2 (d := none) (t := 49) (b := bk16) (off := i + k) (k := 0) (v := .int .u64 ((UInt64.toNat ((List.getD v2 (i + k) 0) + ((List.getD a i 0) * (List.getD r k 0))) : Nat) : Int)) En215 (by kernel_rfl) wo45 rfl (u64s_getD hb216) (by kernel_rfl) rfl (u64s_set _ _ _) rfl ?_
    intro ac217 wo218  En219 Hv220
    refine ⟨not_yet (by kernel_rfl), ?_⟩
    exact h_end (by kernel_rfl) ⟨En219.sub (by kernel_rfl), Hv220.pick [0, 1, 2, 3] (by kernel_rfl) (by decide)⟩
   rintro ac221 wo222 ⟨En223, Hv224⟩
   refine block_normal ?_
   refine then_normal ?_
   refine region_from ?_
   refine d_pures [(2, pt bk1), (3, pt bk6), (4, pt bk11), (5, pt bk16), (6, ni i), (7, ni k), (22, .int .i64 (IntKind.wrap .i64 (((k : Nat) : Int) + (1 : Int))))] [ni k, .int .i64 (IntKind.wrap .i64 (((k : Nat) : Int) + (1 : Int)))] 2 En223 (by kernel_rfl) (by kernel_rfl) rfl ?_
   intro ac225 En226
   rw [Go.Dbr.wr64 (e := ((k : Nat) : Int) + (1 : Int)) (x := ((k + 1 : Nat) : Int)) (by omega) (by omega) (by omega)] at En226
   refine d_pures [(2, pt bk1), (3, pt bk6), (4, pt bk11), (5, pt bk16), (6, ni i), (7, .int .i64 ((k + 1 : Nat) : Int))] [.int .i64 ((k + 1 : Nat) : Int)] 3 En226 (by kernel_rfl) (by kernel_rfl) rfl ?_
   intro ac227 En228
   refine from_end (by kernel_rfl) ?_
   refine then_normal ?_
   refine ⟨_, ⟨k + 1, (List.set v2 (i + k) ((List.getD v2 (i + k) 0) + ((List.getD a i 0) * (List.getD r k 0)))), rfl, En228.sub (by kernel_rfl), Hv224.pick [0, 1, 2, 3] (by kernel_rfl) (by decide), by omega, (List.length_set.trans hlv2), by first | (rw [hev2]; rfl) | (rw [hev2, hc2]; rfl) | rfl⟩, ?_⟩
   omega
  ·
   replace hc44 : ¬ (((k : Nat) : Int) < (8 : Int)) := of_decide_eq_false hc44
   refine wp_exit ?_
   refine then_exit ?_
   refine then_exit ?_
   refine block_exit ?_
   refine block_normal ?_
   refine then_normal ?_
   have hk8 : k = 8 := by omega
   have hrow : v2 = prodF a r (i + 1) := by rw [hev2, hk8, hev]; rfl
   rw [show v2 = (prodF a r (i + 1)) from hrow] at Hv40
   refine region_from ?_
   refine d_pures [(2, pt bk1), (3, pt bk6), (4, pt bk11), (5, pt bk16), (6, ni i), (7, ni k), (18, .int .i64 (IntKind.wrap .i64 (((i : Nat) : Int) + (1 : Int))))] [ni i, .int .i64 (IntKind.wrap .i64 (((i : Nat) : Int) + (1 : Int)))] 2 En43 (by kernel_rfl) (by kernel_rfl) rfl ?_
   intro ac229 En230
   rw [Go.Dbr.wr64 (e := ((i : Nat) : Int) + (1 : Int)) (x := ((i + 1 : Nat) : Int)) (by omega) (by omega) (by omega)] at En230
   refine d_pures [(2, pt bk1), (3, pt bk6), (4, pt bk11), (5, pt bk16), (6, .int .i64 ((i + 1 : Nat) : Int)), (7, ni k)] [.int .i64 ((i + 1 : Nat) : Int)] 3 En230 (by kernel_rfl) (by kernel_rfl) rfl ?_
   intro ac231 En232
   refine from_end (by kernel_rfl) ?_
   refine then_normal ?_
   refine ⟨_, ⟨i + 1, (prodF a r (i + 1)), rfl, En232.sub (by kernel_rfl), Hv40.pick [0, 1, 2, 3] (by kernel_rfl) (by decide), by omega, (prodF_len a r (i + 1)), by first | (rw [hev]; rfl) | (rw [hev, hc2]; rfl) | rfl⟩, ?_⟩
   omega
 ·
  replace hc32 : ¬ (((i : Nat) : Int) < (9 : Int)) := of_decide_eq_false hc32
  refine wp_exit ?_
  refine then_exit ?_
  refine then_exit ?_
  refine block_exit ?_
  refine then_normal ?_
  refine wp_seq ?_
  have hnv : i = 9 := by omega
  have hfv : v = prodF a r 9 := by rw [hev, hnv] <;> rfl
  rw [show v = (prodF a r 9) from hfv] at Hv28
  refine region_from ?_
  refine from_op (by kernel_rfl) ?_
  refine op_loadaggbox (d := some 40) (t := 68) (b := bk16) (off := 0) (k := 0) (m := 18) (xs := u64s (prodF a r 9)) En31 (by kernel_rfl) Hv28 rfl (load_whole (u64s_lenh (prodF_len a r 9))) (u64s_lenh (prodF_len a r 9)) (by kernel_rfl) (by kernel_rfl) ?_
  intro ac233 En234
  refine from_op (by kernel_rfl) ?_
  have hM235 : Heap wo26 [] := Hv28.heap.pick [] (by kernel_rfl) (by decide)
  refine op_call (d := some 41) (f := 37) (args := #[.agg (List.toArray (u64s (prodF a r 9)))]) En234 (by kernel_rfl) ((carried_ref _ (prodF a r 9) (prodF_len a r 9)).mono ?_)
  rintro _ wo237 ⟨rfl, he240⟩
  refine ⟨_, rfl, ?_⟩
  intro ac236 En238
  have Hv239 : Ev w [] wo237 [.box bk16 (u64s (prodF a r 9)) 68, .box bk1 (u64s a) 59, .box bk6 (u64s r) 58, .box bk11 (u64s (List.replicate 9 0)) 59] := Hv28.trans (Ev.call (R := [.box bk16 (u64s (prodF a r 9)) 68, .box bk1 (u64s a) 59, .box bk6 (u64s r) 58, .box bk11 (u64s (List.replicate 9 0)) 59]) Hv28.heap [0, 1, 2, 3] (by kernel_rfl) (by decide) he240)
  clear hM235 he240
  refine from_op (by kernel_rfl) ?_
  refine op_storeaggbox (d := none) (t := 68) (b := bk16) (off := 0) (k := 0) (m := 18) (xs := u64s (carryF (prodF a r 9) 17)) (v := .agg (List.toArray (u64s (carryF (prodF a r 9) 17)))) (cs' := u64s (carryF (prodF a r 9) 17)) En238 (by kernel_rfl) Hv239 rfl rfl (u64s_lenh (carryF_len (prodF_len a r 9) 17)) (by rw [(u64s_lenh (prodF_len a r 9))]; decide) (by kernel_rfl) (u64s_one _) (store_whole (u64s_lenh (prodF_len a r 9))) (L' := [.box bk16 (u64s (carryF (prodF a r 9) 17)) 68, .box bk1 (u64s a) 59, .box bk6 (u64s r) 58, .box bk11 (u64s (List.replicate 9 0)) 59]) rfl ?_
  intro ac241 wo242  En243 Hv244
  refine from_end (by kernel_rfl) ?_
  replace Hv244 : Ev w [] wo242 [.box bk16 (u64s (carryF (prodF a r 9) 17)) 68, .box bk1 (u64s a) 59, .box bk6 (u64s r) 58, .box bk11 (u64s (List.replicate 9 0)) 59] := Hv244
  refine then_normal ?_
  refine wp_seq ?_
  refine wp_seq ?_
  refine region_from ?_
  refine d_pures [(2, pt bk1), (3, pt bk6), (4, pt bk11), (5, pt bk16), (6, ni i), (8, .int .i64 0)] [.int .i64 0] 1 En243 (by kernel_rfl) (by kernel_rfl) rfl ?_
  intro ac245 En246
  refine from_end (by kernel_rfl) ?_
  refine then_normal ?_
  refine wp_block ?_
  refine loop_enter ?_
  refine loop_once ?_
  refine wp_seq ?_
  refine wp_seq ?_
  refine region_from ?_
  refine d_pures [(2, pt bk1), (3, pt bk6), (4, pt bk11), (5, pt bk16), (6, ni i), (8, .int .i64 0), (43, .bool true)] [.int .i64 0, .bool true] 2 En246 (by kernel_rfl) (by kernel_rfl) rfl ?_
  intro ac247 En248
  refine from_end (by kernel_rfl) ?_
  refine then_normal ?_
  refine cond_true En248 (t := true) (by kernel_rfl) rfl ?_
  refine wp_skip ?_
  refine then_normal ?_
  refine wp_seq ?_
  refine wp_block ?_
  refine wp_seq ?_
  refine region_from ?_
  refine from_op (by kernel_rfl) ?_
  refine op_alloc (d := some 9) (T := 68) (x := .tuple #[]) (z := .agg (List.toArray (u64s (List.replicate 18 0)))) (cs := u64s (List.replicate 18 0)) En248 (by kernel_rfl) (by kernel_rfl) (by kernel_rfl) Hv244 ?_
  intro ac250 wo251 bk249 En252 Hv253
  refine from_end (by kernel_rfl) ?_
  refine then_normal ?_
  refine wp_seq ?_
  refine wp_seq ?_
  refine region_from ?_
  refine d_pures [(2, pt bk1), (3, pt bk6), (4, pt bk11), (5, pt bk16), (6, ni i), (8, .int .i64 0), (9, pt bk249), (10, .int .i64 8)] [.int .i64 8] 1 En252 (by kernel_rfl) (by kernel_rfl) rfl ?_
  intro ac254 En255
  refine from_end (by kernel_rfl) ?_
  refine then_normal ?_
  refine wp_block ?_
  refine loop_m (fun ms256 ac wo => ∃ (k1 : Nat) (h : List UInt64), ms256 = (9 - k1 : Nat) ∧ Env ac 104 [(2, pt bk1), (3, pt bk6), (4, pt bk11), (5, pt bk16), (6, ni i), (8, .int .i64 0), (9, pt bk249), (10, .int .i64 ((8 + k1 : Nat) : Int))] ∧ Ev w [] wo [.box bk249 (u64s h) 68, .box bk16 (u64s (carryF (prodF a r 9) 17)) 68, .box bk1 (u64s a) 59, .box bk6 (u64s r) 58, .box bk11 (u64s (List.replicate 9 0)) 59] ∧ (k1 ≤ 9) ∧ (List.length h = 18) ∧ (h = highF (carryF (prodF a r 9) 17) k1)) ⟨_, 0, List.replicate 18 0, rfl, En255.sub (by kernel_rfl), Hv253.pick [4, 0, 1, 2, 3] (by kernel_rfl) (by decide), by omega, (List.length_replicate), rfl⟩ ?_
  rintro mm262 ac258 wo259 ⟨k1, h, rfl, En260, Hv261, hih, hlh, heh⟩
  refine wp_seq ?_
  refine wp_seq ?_
  refine region_from ?_
  refine d_pures [(2, pt bk1), (3, pt bk6), (4, pt bk11), (5, pt bk16), (6, ni i), (8, .int .i64 0), (9, pt bk249), (10, .int .i64 ((8 + k1 : Nat) : Int)), (47, .bool (decide (((8 + k1 : Nat) : Int) < (17 : Int))))] [.int .i64 ((8 + k1 : Nat) : Int), .bool (decide (((8 + k1 : Nat) : Int) < (17 : Int)))] 2 En260 (by kernel_rfl) (by kernel_rfl) rfl ?_
  intro ac263 En264
  refine from_end (by kernel_rfl) ?_
  refine then_normal ?_
  refine cond_at En264 (t := decide (((8 + k1 : Nat) : Int) < (17 : Int))) (by kernel_rfl) (fun hc265 => ?_) (fun hc265 => ?_)
  ·
   replace hc265 : ((8 + k1 : Nat) : Int) < (17 : Int) := of_decide_eq_true hc265
   refine wp_skip ?_
   refine then_normal ?_
   refine wp_seq ?_
   refine wp_block ?_
   refine region_cut (F := fun ac wo => Env ac 104 [(2, pt bk1), (3, pt bk6), (4, pt bk11), (5, pt bk16), (6, ni i), (8, .int .i64 0), (9, pt bk249), (10, .int .i64 ((8 + k1 : Nat) : Int))] ∧ Ev w [] wo [.box bk249 (u64s (List.set h k1 (((List.getD (carryF (prodF a r 9) 17) (8 + k1) 0) >>> UInt64.ofNat 2) ||| (((List.getD (carryF (prodF a r 9) 17) ((8 + k1) + 1) 0) <<< UInt64.ofNat 14) &&& (65535 : UInt64))))) 68, .box bk16 (u64s (carryF (prodF a r 9) 17)) 68, .box bk1 (u64s a) 59, .box bk6 (u64s r) 58, .box bk11 (u64s (List.replicate 9 0)) 59]) ?_ ?_
   ·
    refine h_start (fun wv => Ev w [] wv [.box bk16 (u64s (carryF (prodF a r 9) 17)) 68]) [] (by kernel_rfl) 15 (by kernel_rfl) ?_
    have wo266 := Hv261.trans (Ev.drew Hv261.heap)
    refine h_pureR (d := some 50) En264 (v := .int .i64 ((8 + k1 : Nat) : Int)) 0 (by kernel_rfl) (by kernel_rfl) rfl (fun _ => wo266.pick [1] (by kernel_rfl) (by decide)) ?_
    intro ac358 En359
    refine h_pureR (d := some 51) En359 (v := .int .i64 (IntKind.wrap .i64 (((8 + k1 : Nat) : Int) - (8 : Int)))) 1 (by kernel_rfl) (by kernel_rfl) rfl (fun _ => wo266.pick [1] (by kernel_rfl) (by decide)) ?_
    intro ac360 En361
    rw [Go.Dbr.wr64 (e := ((8 + k1 : Nat) : Int) - (8 : Int)) (x := ((k1 : Nat) : Int)) (by omega) (by omega) (by omega)] at En361
    refine h_pureR (d := some 52) En361 (v := .int .i64 ((8 + k1 : Nat) : Int)) 2 (by kernel_rfl) (by kernel_rfl) rfl (fun _ => wo266.pick [1] (by kernel_rfl) (by decide)) ?_
    intro ac362 En363
    refine h_free (d := some 53) (s := nv (Instr.indexAt 68 (pt bk16) (.int .i64 ((8 + k1 : Nat) : Int)))) En363 (v := .pointer (some ⟨bk16, 8 + k1, none⟩)) 3 (by kernel_rfl) (fun _ => run_nv (Go.Dbr.run_indexarr (e := 49) (sz := 1) (m := 18) (j := 8 + k1) (o := 8 + k1) (by kernel_rfl) (by kernel_rfl) (by omega) (by omega) (by omega) _)) (by kernel_rfl) rfl (fun _ => wo266.pick [1] (by kernel_rfl) (by decide)) ?_
    intro ac364 En365
    have hb366 : 8 + k1 < List.length (carryF (prodF a r 9) 17) := by rw [(carryF_len (prodF_len _ _ _) _)]; omega
    refine h_read (d := some 54) (s := nv (Instr.loadAt 49 (.pointer (some ⟨bk16, 8 + k1, none⟩)))) En365 (v := .int .u64 ((UInt64.toNat (List.getD (carryF (prodF a r 9) 17) (8 + k1) 0) : Nat) : Int)) 4 (by kernel_rfl) (fun w hS => run_nv (run_load1 (by kernel_rfl) (hS.heap.cell (k := 0) rfl (u64s_getD hb366)))) (by kernel_rfl) rfl (wo266.pick [1] (by kernel_rfl) (by decide)) ?_
    intro ac367 En368
    refine h_pureR (d := some 55) En368 (v := .int .u64 (Int.fdiv ((UInt64.toNat (List.getD (carryF (prodF a r 9) 17) (8 + k1) 0) : Nat) : Int) (2 ^ 2))) 5 (by kernel_rfl) (by kernel_rfl) rfl (fun _ => wo266.pick [1] (by kernel_rfl) (by decide)) ?_
    intro ac369 En370
    rw [Go.Dbr.u64_shr (a := ((UInt64.toNat (List.getD (carryF (prodF a r 9) 17) (8 + k1) 0) : Nat) : Int)) (x := List.getD (carryF (prodF a r 9) 17) (8 + k1) 0) (n := 2) rfl (by decide)] at En370
    refine h_pureR (d := some 56) En370 (v := .int .i64 ((8 + k1 : Nat) : Int)) 6 (by kernel_rfl) (by kernel_rfl) rfl (fun _ => wo266.pick [1] (by kernel_rfl) (by decide)) ?_
    intro ac371 En372
    refine h_pureR (d := some 57) En372 (v := .int .i64 (IntKind.wrap .i64 (((8 + k1 : Nat) : Int) + (1 : Int)))) 7 (by kernel_rfl) (by kernel_rfl) rfl (fun _ => wo266.pick [1] (by kernel_rfl) (by decide)) ?_
    intro ac373 En374
    rw [Go.Dbr.wr64 (e := ((8 + k1 : Nat) : Int) + (1 : Int)) (x := (((8 + k1) + 1 : Nat) : Int)) (by omega) (by omega) (by omega)] at En374
    refine h_free (d := some 58) (s := nv (Instr.indexAt 68 (pt bk16) (.int .i64 (((8 + k1) + 1 : Nat) : Int)))) En374 (v := .pointer (some ⟨bk16, (8 + k1) + 1, none⟩)) 8 (by kernel_rfl) (fun _ => run_nv (Go.Dbr.run_indexarr (e := 49) (sz := 1) (m := 18) (j := (8 + k1) + 1) (o := (8 + k1) + 1) (by kernel_rfl) (by kernel_rfl) (by omega) (by omega) (by omega) _)) (by kernel_rfl) rfl (fun _ => wo266.pick [1] (by kernel_rfl) (by decide)) ?_
    intro ac375 En376
    have hb377 : (8 + k1) + 1 < List.length (carryF (prodF a r 9) 17) := by rw [(carryF_len (prodF_len _ _ _) _)]; omega
    refine h_read (d := some 59) (s := nv (Instr.loadAt 49 (.pointer (some ⟨bk16, (8 + k1) + 1, none⟩)))) En376 (v := .int .u64 ((UInt64.toNat (List.getD (carryF (prodF a r 9) 17) ((8 + k1) + 1) 0) : Nat) : Int)) 9 (by kernel_rfl) (fun w hS => run_nv (run_load1 (by kernel_rfl) (hS.heap.cell (k := 0) rfl (u64s_getD hb377)))) (by kernel_rfl) rfl (wo266.pick [1] (by kernel_rfl) (by decide)) ?_
    intro ac378 En379
    refine h_pureR (d := some 60) En379 (v := .int .u64 (IntKind.wrap .u64 (((UInt64.toNat (List.getD (carryF (prodF a r 9) 17) ((8 + k1) + 1) 0) : Nat) : Int) * 2 ^ 14))) 10 (by kernel_rfl) (by kernel_rfl) rfl (fun _ => wo266.pick [1] (by kernel_rfl) (by decide)) ?_
    intro ac380 En381
    rw [Go.Dbr.u64_shl (a := ((UInt64.toNat (List.getD (carryF (prodF a r 9) 17) ((8 + k1) + 1) 0) : Nat) : Int)) (x := List.getD (carryF (prodF a r 9) 17) ((8 + k1) + 1) 0) (n := 14) rfl (by decide)] at En381
    refine h_pureR (d := some 61) En381 (v := .int .u64 (IntKind.wrap .u64 ((BitVec.ofInt (IntKind.bits .u64) ((UInt64.toNat ((List.getD (carryF (prodF a r 9) 17) ((8 + k1) + 1) 0) <<< UInt64.ofNat 14) : Nat) : Int) &&& BitVec.ofInt (IntKind.bits .u64) (65535 : Int)).toNat : Int))) 11 (by kernel_rfl) (by kernel_rfl) rfl (fun _ => wo266.pick [1] (by kernel_rfl) (by decide)) ?_
    intro ac382 En383
    rw [Go.Dbr.u64_and (a := ((UInt64.toNat ((List.getD (carryF (prodF a r 9) 17) ((8 + k1) + 1) 0) <<< UInt64.ofNat 14) : Nat) : Int)) (b := (65535 : Int)) (x := (List.getD (carryF (prodF a r 9) 17) ((8 + k1) + 1) 0) <<< UInt64.ofNat 14) (y := (65535 : UInt64)) rfl rfl] at En383
    refine h_pureR (d := some 62) En383 (v := .int .u64 (IntKind.wrap .u64 ((BitVec.ofInt (IntKind.bits .u64) ((UInt64.toNat ((List.getD (carryF (prodF a r 9) 17) (8 + k1) 0) >>> UInt64.ofNat 2) : Nat) : Int) ||| BitVec.ofInt (IntKind.bits .u64) ((UInt64.toNat (((List.getD (carryF (prodF a r 9) 17) ((8 + k1) + 1) 0) <<< UInt64.ofNat 14) &&& (65535 : UInt64)) : Nat) : Int)).toNat : Int))) 12 (by kernel_rfl) (by kernel_rfl) rfl (fun _ => wo266.pick [1] (by kernel_rfl) (by decide)) ?_
    intro ac384 En385
    rw [Go.Dbr.u64_or (a := ((UInt64.toNat ((List.getD (carryF (prodF a r 9) 17) (8 + k1) 0) >>> UInt64.ofNat 2) : Nat) : Int)) (b := ((UInt64.toNat (((List.getD (carryF (prodF a r 9) 17) ((8 + k1) + 1) 0) <<< UInt64.ofNat 14) &&& (65535 : UInt64)) : Nat) : Int)) (x := (List.getD (carryF (prodF a r 9) 17) (8 + k1) 0) >>> UInt64.ofNat 2) (y := ((List.getD (carryF (prodF a r 9) 17) ((8 + k1) + 1) 0) <<< UInt64.ofNat 14) &&& (65535 : UInt64)) rfl rfl] at En385
    refine h_free (d := some 63) (s := nv (Instr.indexAt 68 (pt bk249) (ni k1))) En385 (v := .pointer (some ⟨bk249, k1, none⟩)) 13 (by kernel_rfl) (fun _ => run_nv (Go.Dbr.run_indexarr (e := 49) (sz := 1) (m := 18) (j := k1) (o := k1) (by kernel_rfl) (by kernel_rfl) (by omega) (by omega) (by omega) _)) (by kernel_rfl) rfl (fun _ => wo266.pick [1] (by kernel_rfl) (by decide)) ?_
    intro ac386 En387
    refine h_at 14 (by kernel_rfl) rfl ?_
    have hb388 : k1 < List.length h := by rw [hlh]; omega
    refine op_storebox2 (d := none) (t := 49) (b := bk249) (off := k1) (k := 0) (v := .int .u64 ((UInt64.toNat (((List.getD (carryF (prodF a r 9) 17) (8 + k1) 0) >>> UInt64.ofNat 2) ||| (((List.getD (carryF (prodF a r 9) 17) ((8 + k1) + 1) 0) <<< UInt64.ofNat 14) &&& (65535 : UInt64))) : Nat) : Int)) En387 (by kernel_rfl) wo266 rfl (u64s_getD hb388) (by kernel_rfl) rfl (u64s_set _ _ _) rfl ?_
    intro ac389 wo390  En391 Hv392
    refine ⟨fun _ => Hv392.pick [1] (by kernel_rfl) (by decide), ?_⟩
    exact h_end (by kernel_rfl) ⟨En391.sub (by kernel_rfl), Hv392.pick [0, 1, 2, 3, 4] (by kernel_rfl) (by decide)⟩
   rintro ac393 wo394 ⟨En395, Hv396⟩
   refine block_normal ?_
   refine then_normal ?_
   refine region_from ?_
   refine d_pures [(2, pt bk1), (3, pt bk6), (4, pt bk11), (5, pt bk16), (6, ni i), (8, .int .i64 0), (9, pt bk249), (10, .int .i64 ((8 + k1 : Nat) : Int)), (49, .int .i64 (IntKind.wrap .i64 (((8 + k1 : Nat) : Int) + (1 : Int))))] [.int .i64 ((8 + k1 : Nat) : Int), .int .i64 (IntKind.wrap .i64 (((8 + k1 : Nat) : Int) + (1 : Int)))] 2 En395 (by kernel_rfl) (by kernel_rfl) rfl ?_
   intro ac397 En398
   rw [Go.Dbr.wr64 (e := ((8 + k1 : Nat) : Int) + (1 : Int)) (x := (((8 + k1) + 1 : Nat) : Int)) (by omega) (by omega) (by omega)] at En398
   refine d_pures [(2, pt bk1), (3, pt bk6), (4, pt bk11), (5, pt bk16), (6, ni i), (8, .int .i64 0), (9, pt bk249), (10, .int .i64 (((8 + k1) + 1 : Nat) : Int))] [.int .i64 (((8 + k1) + 1 : Nat) : Int)] 3 En398 (by kernel_rfl) (by kernel_rfl) rfl ?_
   intro ac399 En400
   refine from_end (by kernel_rfl) ?_
   refine then_normal ?_
   refine ⟨_, ⟨k1 + 1, (List.set h k1 (((List.getD (carryF (prodF a r 9) 17) (8 + k1) 0) >>> UInt64.ofNat 2) ||| (((List.getD (carryF (prodF a r 9) 17) ((8 + k1) + 1) 0) <<< UInt64.ofNat 14) &&& (65535 : UInt64)))), rfl, En400.sub (by kernel_rfl), Hv396.pick [0, 1, 2, 3, 4] (by kernel_rfl) (by decide), by omega, (List.length_set.trans hlh), by first | (rw [heh]; rfl) | (rw [heh, hc2]; rfl) | rfl⟩, ?_⟩
   omega
  ·
   replace hc265 : ¬ (((8 + k1 : Nat) : Int) < (17 : Int)) := of_decide_eq_false hc265
   refine wp_exit ?_
   refine then_exit ?_
   refine then_exit ?_
   refine block_exit ?_
   refine then_normal ?_
   refine wp_seq ?_
   have hnh : k1 = 9 := by omega
   have hfh : h = highF (carryF (prodF a r 9) 17) 9 := by rw [heh, hnh] <;> rfl
   rw [show h = (highF (carryF (prodF a r 9) 17) 9) from hfh] at Hv261
   refine region_from ?_
   refine from_op (by kernel_rfl) ?_
   refine op_val (d := some 64) (x := Instr.indexAt 68 (pt bk16) (.int .i64 17)) (v := .pointer (some ⟨bk16, 17, none⟩)) En264 (by kernel_rfl) (Go.Dbr.run_indexarr (e := 49) (sz := 1) (m := 18) (j := 17) (o := 17) (by kernel_rfl) (by kernel_rfl) (by omega) (by omega) (by omega) _) ?_
   intro ac401 En402
   refine from_op (by kernel_rfl) ?_
   have hb403 : 17 < List.length (carryF (prodF a r 9) 17) := by rw [(carryF_len (prodF_len _ _ _) _)]; omega
   refine op_loadbox (d := some 65) (t := 49) (b := bk16) (off := 17) (k := 1) (v := .int .u64 ((UInt64.toNat (List.getD (carryF (prodF a r 9) 17) 17 0) : Nat) : Int)) En402 (by kernel_rfl) Hv261 rfl (u64s_getD hb403) (by kernel_rfl) ?_
   intro ac404 En405
   refine d_pures [(2, pt bk1), (3, pt bk6), (4, pt bk11), (5, pt bk16), (6, ni i), (8, .int .i64 0), (9, pt bk249), (10, .int .i64 ((8 + k1 : Nat) : Int)), (66, .int .u64 (Int.fdiv ((UInt64.toNat (List.getD (carryF (prodF a r 9) 17) 17 0) : Nat) : Int) (2 ^ 2)))] [.int .u64 (Int.fdiv ((UInt64.toNat (List.getD (carryF (prodF a r 9) 17) 17 0) : Nat) : Int) (2 ^ 2))] 3 En405 (by kernel_rfl) (by kernel_rfl) rfl ?_
   intro ac406 En407
   rw [Go.Dbr.u64_shr (a := ((UInt64.toNat (List.getD (carryF (prodF a r 9) 17) 17 0) : Nat) : Int)) (x := List.getD (carryF (prodF a r 9) 17) 17 0) (n := 2) rfl (by decide)] at En407
   refine from_op (by kernel_rfl) ?_
   refine op_val (d := some 67) (x := Instr.indexAt 68 (pt bk249) (.int .i64 9)) (v := .pointer (some ⟨bk249, 9, none⟩)) En407 (by kernel_rfl) (Go.Dbr.run_indexarr (e := 49) (sz := 1) (m := 18) (j := 9) (o := 9) (by kernel_rfl) (by kernel_rfl) (by omega) (by omega) (by omega) _) ?_
   intro ac408 En409
   refine from_op (by kernel_rfl) ?_
   have hb410 : 9 < List.length (highF (carryF (prodF a r 9) 17) 9) := by rw [(highF_len _ 9)]; omega
   refine op_storebox2 (d := none) (t := 49) (b := bk249) (off := 9) (k := 0) (v := .int .u64 ((UInt64.toNat ((List.getD (carryF (prodF a r 9) 17) 17 0) >>> UInt64.ofNat 2) : Nat) : Int)) En409 (by kernel_rfl) Hv261 rfl (u64s_getD hb410) (by kernel_rfl) rfl (u64s_set _ _ _) (L' := [.box bk249 (u64s (List.set (highF (carryF (prodF a r 9) 17) 9) 9 ((List.getD (carryF (prodF a r 9) 17) 17 0) >>> UInt64.ofNat 2))) 68, .box bk16 (u64s (carryF (prodF a r 9) 17)) 68, .box bk1 (u64s a) 59, .box bk6 (u64s r) 58, .box bk11 (u64s (List.replicate 9 0)) 59]) rfl ?_
   intro ac411 wo412  En413 Hv414
   refine from_end (by kernel_rfl) ?_
   refine then_normal ?_
   refine wp_seq ?_
   refine region_from ?_
   refine from_op (by kernel_rfl) ?_
   refine op_val (d := some 68) (x := Instr.indexAt 68 (pt bk16) (.int .i64 8)) (v := .pointer (some ⟨bk16, 8, none⟩)) En413 (by kernel_rfl) (Go.Dbr.run_indexarr (e := 49) (sz := 1) (m := 18) (j := 8) (o := 8) (by kernel_rfl) (by kernel_rfl) (by omega) (by omega) (by omega) _) ?_
   intro ac415 En416
   refine from_op (by kernel_rfl) ?_
   have hb417 : 8 < List.length (carryF (prodF a r 9) 17) := by rw [(carryF_len (prodF_len _ _ _) _)]; omega
   refine op_loadbox (d := some 69) (t := 49) (b := bk16) (off := 8) (k := 1) (v := .int .u64 ((UInt64.toNat (List.getD (carryF (prodF a r 9) 17) 8 0) : Nat) : Int)) En416 (by kernel_rfl) Hv414 rfl (u64s_getD hb417) (by kernel_rfl) ?_
   intro ac418 En419
   refine d_pures [(2, pt bk1), (3, pt bk6), (4, pt bk11), (5, pt bk16), (6, ni i), (8, .int .i64 0), (9, pt bk249), (10, .int .i64 ((8 + k1 : Nat) : Int)), (70, .int .u64 (IntKind.wrap .u64 ((BitVec.ofInt (IntKind.bits .u64) ((UInt64.toNat (List.getD (carryF (prodF a r 9) 17) 8 0) : Nat) : Int) &&& BitVec.ofInt (IntKind.bits .u64) (3 : Int)).toNat : Int)))] [.int .u64 (IntKind.wrap .u64 ((BitVec.ofInt (IntKind.bits .u64) ((UInt64.toNat (List.getD (carryF (prodF a r 9) 17) 8 0) : Nat) : Int) &&& BitVec.ofInt (IntKind.bits .u64) (3 : Int)).toNat : Int))] 3 En419 (by kernel_rfl) (by kernel_rfl) rfl ?_
   intro ac420 En421
   rw [Go.Dbr.u64_and (a := ((UInt64.toNat (List.getD (carryF (prodF a r 9) 17) 8 0) : Nat) : Int)) (b := (3 : Int)) (x := List.getD (carryF (prodF a r 9) 17) 8 0) (y := (3 : UInt64)) rfl rfl] at En421
   refine from_op (by kernel_rfl) ?_
   refine op_val (d := some 71) (x := Instr.indexAt 68 (pt bk16) (.int .i64 8)) (v := .pointer (some ⟨bk16, 8, none⟩)) En421 (by kernel_rfl) (Go.Dbr.run_indexarr (e := 49) (sz := 1) (m := 18) (j := 8) (o := 8) (by kernel_rfl) (by kernel_rfl) (by omega) (by omega) (by omega) _) ?_
   intro ac422 En423
   refine from_op (by kernel_rfl) ?_
   have hb424 : 8 < List.length (carryF (prodF a r 9) 17) := by rw [(carryF_len (prodF_len _ _ _) _)]; omega
   refine op_storebox2 (d := none) (t := 49) (b := bk16) (off := 8) (k := 1) (v := .int .u64 ((UInt64.toNat ((List.getD (carryF (prodF a r 9) 17) 8 0) &&& (3 : UInt64)) : Nat) : Int)) En423 (by kernel_rfl) Hv414 rfl (u64s_getD hb424) (by kernel_rfl) rfl (u64s_set _ _ _) (L' := [.box bk249 (u64s (List.set (highF (carryF (prodF a r 9) 17) 9) 9 ((List.getD (carryF (prodF a r 9) 17) 17 0) >>> UInt64.ofNat 2))) 68, .box bk16 (u64s (List.set (carryF (prodF a r 9) 17) 8 ((List.getD (carryF (prodF a r 9) 17) 8 0) &&& (3 : UInt64)))) 68, .box bk1 (u64s a) 59, .box bk6 (u64s r) 58, .box bk11 (u64s (List.replicate 9 0)) 59]) rfl ?_
   intro ac425 wo426  En427 Hv428
   refine from_end (by kernel_rfl) ?_
   refine then_normal ?_
   refine wp_seq ?_
   refine wp_seq ?_
   replace Hv428 : Ev w [] wo426 [.box bk249 (u64s (high (carryF (prodF a r 9) 17))) 68, .box bk16 (u64s (List.set (carryF (prodF a r 9) 17) 8 ((List.getD (carryF (prodF a r 9) 17) 8 0) &&& (3 : UInt64)))) 68, .box bk1 (u64s a) 59, .box bk6 (u64s r) 58, .box bk11 (u64s (List.replicate 9 0)) 59] := Hv428
   refine region_from ?_
   refine d_pures [(2, pt bk1), (3, pt bk6), (4, pt bk11), (5, pt bk16), (6, ni i), (8, .int .i64 0), (9, pt bk249), (10, .int .i64 ((8 + k1 : Nat) : Int)), (11, .int .i64 9)] [.int .i64 9] 1 En427 (by kernel_rfl) (by kernel_rfl) rfl ?_
   intro ac429 En430
   refine from_end (by kernel_rfl) ?_
   refine then_normal ?_
   refine wp_block ?_
   refine loop_m (fun ms431 ac wo => ∃ (k2 : Nat) (u : List UInt64), ms431 = (9 - k2 : Nat) ∧ Env ac 104 [(2, pt bk1), (3, pt bk6), (4, pt bk11), (5, pt bk16), (6, ni i), (8, .int .i64 0), (9, pt bk249), (10, .int .i64 ((8 + k1 : Nat) : Int)), (11, .int .i64 ((9 + k2 : Nat) : Int))] ∧ Ev w [] wo [.box bk16 (u64s u) 68, .box bk249 (u64s (high (carryF (prodF a r 9) 17))) 68, .box bk1 (u64s a) 59, .box bk6 (u64s r) 58, .box bk11 (u64s (List.replicate 9 0)) 59] ∧ (k2 ≤ 9) ∧ (List.length u = 18) ∧ (u = clearF (List.set (carryF (prodF a r 9) 17) 8 (List.getD (carryF (prodF a r 9) 17) 8 0 &&& 3)) k2)) ⟨_, 0, List.set (carryF (prodF a r 9) 17) 8 ((List.getD (carryF (prodF a r 9) 17) 8 0) &&& (3 : UInt64)), rfl, En430.sub (by kernel_rfl), Hv428.pick [1, 0, 2, 3, 4] (by kernel_rfl) (by decide), by omega, (List.length_set.trans (carryF_len (prodF_len _ _ _) _)), rfl⟩ ?_
   rintro mm437 ac433 wo434 ⟨k2, u, rfl, En435, Hv436, hiu, hlu, heu⟩
   refine wp_seq ?_
   refine wp_seq ?_
   refine region_from ?_
   refine d_pures [(2, pt bk1), (3, pt bk6), (4, pt bk11), (5, pt bk16), (6, ni i), (8, .int .i64 0), (9, pt bk249), (10, .int .i64 ((8 + k1 : Nat) : Int)), (11, .int .i64 ((9 + k2 : Nat) : Int)), (73, .bool (decide (((9 + k2 : Nat) : Int) < (18 : Int))))] [.int .i64 ((9 + k2 : Nat) : Int), .bool (decide (((9 + k2 : Nat) : Int) < (18 : Int)))] 2 En435 (by kernel_rfl) (by kernel_rfl) rfl ?_
   intro ac438 En439
   refine from_end (by kernel_rfl) ?_
   refine then_normal ?_
   refine cond_at En439 (t := decide (((9 + k2 : Nat) : Int) < (18 : Int))) (by kernel_rfl) (fun hc440 => ?_) (fun hc440 => ?_)
   ·
    replace hc440 : ((9 + k2 : Nat) : Int) < (18 : Int) := of_decide_eq_true hc440
    refine wp_skip ?_
    refine then_normal ?_
    refine wp_seq ?_
    refine wp_block ?_
    refine region_from ?_
    refine d_pures [(2, pt bk1), (3, pt bk6), (4, pt bk11), (5, pt bk16), (6, ni i), (8, .int .i64 0), (9, pt bk249), (10, .int .i64 ((8 + k1 : Nat) : Int)), (11, .int .i64 ((9 + k2 : Nat) : Int)), (76, .int .i64 ((9 + k2 : Nat) : Int))] [.int .i64 ((9 + k2 : Nat) : Int)] 1 En439 (by kernel_rfl) (by kernel_rfl) rfl ?_
    intro ac441 En442
    refine from_op (by kernel_rfl) ?_
    refine op_val (d := some 77) (x := Instr.indexAt 68 (pt bk16) (.int .i64 ((9 + k2 : Nat) : Int))) (v := .pointer (some ⟨bk16, 9 + k2, none⟩)) En442 (by kernel_rfl) (Go.Dbr.run_indexarr (e := 49) (sz := 1) (m := 18) (j := 9 + k2) (o := 9 + k2) (by kernel_rfl) (by kernel_rfl) (by omega) (by omega) (by omega) _) ?_
    intro ac443 En444
    refine from_op (by kernel_rfl) ?_
    have hb445 : 9 + k2 < List.length u := by rw [hlu]; omega
    refine op_storebox2 (d := none) (t := 49) (b := bk16) (off := 9 + k2) (k := 0) (v := .int .u64 0) En444 (by kernel_rfl) Hv436 rfl (u64s_getD hb445) (by kernel_rfl) rfl (u64s_set _ _ (0 : UInt64)) (L' := [.box bk16 (u64s (List.set u (9 + k2) (0 : UInt64))) 68, .box bk249 (u64s (high (carryF (prodF a r 9) 17))) 68, .box bk1 (u64s a) 59, .box bk6 (u64s r) 58, .box bk11 (u64s (List.replicate 9 0)) 59]) rfl ?_
    intro ac446 wo447  En448 Hv449
    refine from_end (by kernel_rfl) ?_
    refine block_normal ?_
    refine then_normal ?_
    refine region_from ?_
    refine d_pures [(2, pt bk1), (3, pt bk6), (4, pt bk11), (5, pt bk16), (6, ni i), (8, .int .i64 0), (9, pt bk249), (10, .int .i64 ((8 + k1 : Nat) : Int)), (11, .int .i64 ((9 + k2 : Nat) : Int)), (75, .int .i64 (IntKind.wrap .i64 (((9 + k2 : Nat) : Int) + (1 : Int))))] [.int .i64 ((9 + k2 : Nat) : Int), .int .i64 (IntKind.wrap .i64 (((9 + k2 : Nat) : Int) + (1 : Int)))] 2 En448 (by kernel_rfl) (by kernel_rfl) rfl ?_
    intro ac450 En451
    rw [Go.Dbr.wr64 (e := ((9 + k2 : Nat) : Int) + (1 : Int)) (x := (((9 + k2) + 1 : Nat) : Int)) (by omega) (by omega) (by omega)] at En451
    refine d_pures [(2, pt bk1), (3, pt bk6), (4, pt bk11), (5, pt bk16), (6, ni i), (8, .int .i64 0), (9, pt bk249), (10, .int .i64 ((8 + k1 : Nat) : Int)), (11, .int .i64 (((9 + k2) + 1 : Nat) : Int))] [.int .i64 (((9 + k2) + 1 : Nat) : Int)] 3 En451 (by kernel_rfl) (by kernel_rfl) rfl ?_
    intro ac452 En453
    refine from_end (by kernel_rfl) ?_
    refine then_normal ?_
    refine ⟨_, ⟨k2 + 1, (List.set u (9 + k2) (0 : UInt64)), rfl, En453.sub (by kernel_rfl), Hv449.pick [0, 1, 2, 3, 4] (by kernel_rfl) (by decide), by omega, (List.length_set.trans hlu), by first | (rw [heu]; rfl) | (rw [heu, hc2]; rfl) | rfl⟩, ?_⟩
    omega
   ·
    replace hc440 : ¬ (((9 + k2 : Nat) : Int) < (18 : Int)) := of_decide_eq_false hc440
    refine wp_exit ?_
    refine then_exit ?_
    refine then_exit ?_
    refine block_exit ?_
    refine then_normal ?_
    refine wp_seq ?_
    refine wp_seq ?_
    have hnu : k2 = 9 := by omega
    have hfu : u = low (carryF (prodF a r 9) 17) := by rw [heu, hnu] <;> rfl
    rw [show u = (low (carryF (prodF a r 9) 17)) from hfu] at Hv436
    refine region_from ?_
    refine d_pures [(2, pt bk1), (3, pt bk6), (4, pt bk11), (5, pt bk16), (6, ni i), (8, .int .i64 0), (9, pt bk249), (10, .int .i64 ((8 + k1 : Nat) : Int)), (11, .int .i64 ((9 + k2 : Nat) : Int)), (12, .int .i64 0)] [.int .i64 0] 1 En439 (by kernel_rfl) (by kernel_rfl) rfl ?_
    intro ac454 En455
    refine from_end (by kernel_rfl) ?_
    refine then_normal ?_
    refine wp_block ?_
    refine loop_m (fun ms456 ac wo => ∃ (k3 : Nat) (x : List UInt64), ms456 = (10 - k3 : Nat) ∧ Env ac 104 [(2, pt bk1), (3, pt bk6), (4, pt bk11), (5, pt bk16), (6, ni i), (8, .int .i64 0), (9, pt bk249), (10, .int .i64 ((8 + k1 : Nat) : Int)), (11, .int .i64 ((9 + k2 : Nat) : Int)), (12, ni k3)] ∧ Ev w [] wo [.box bk16 (u64s x) 68, .box bk249 (u64s (high (carryF (prodF a r 9) 17))) 68, .box bk1 (u64s a) 59, .box bk6 (u64s r) 58, .box bk11 (u64s (List.replicate 9 0)) 59] ∧ (k3 ≤ 10) ∧ (List.length x = 18) ∧ (x = add5F (low (carryF (prodF a r 9) 17)) (high (carryF (prodF a r 9) 17)) k3)) ⟨_, 0, low (carryF (prodF a r 9) 17), rfl, En455.sub (by kernel_rfl), Hv436.pick [0, 1, 2, 3, 4] (by kernel_rfl) (by decide), by omega, (low_len (carryF_len (prodF_len _ _ _) _)), rfl⟩ ?_
    rintro mm462 ac458 wo459 ⟨k3, x, rfl, En460, Hv461, hix, hlx, hex⟩
    refine wp_seq ?_
    refine wp_seq ?_
    refine region_from ?_
    refine d_pures [(2, pt bk1), (3, pt bk6), (4, pt bk11), (5, pt bk16), (6, ni i), (8, .int .i64 0), (9, pt bk249), (10, .int .i64 ((8 + k1 : Nat) : Int)), (11, .int .i64 ((9 + k2 : Nat) : Int)), (12, ni k3), (79, .bool (decide (((k3 : Nat) : Int) < (10 : Int))))] [ni k3, .bool (decide (((k3 : Nat) : Int) < (10 : Int)))] 2 En460 (by kernel_rfl) (by kernel_rfl) rfl ?_
    intro ac463 En464
    refine from_end (by kernel_rfl) ?_
    refine then_normal ?_
    refine cond_at En464 (t := decide (((k3 : Nat) : Int) < (10 : Int))) (by kernel_rfl) (fun hc465 => ?_) (fun hc465 => ?_)
    ·
     replace hc465 : ((k3 : Nat) : Int) < (10 : Int) := of_decide_eq_true hc465
     refine wp_skip ?_
     refine then_normal ?_
     refine wp_seq ?_
     refine wp_block ?_
     refine region_cut (F := fun ac wo => Env ac 104 [(2, pt bk1), (3, pt bk6), (4, pt bk11), (5, pt bk16), (6, ni i), (8, .int .i64 0), (9, pt bk249), (10, .int .i64 ((8 + k1 : Nat) : Int)), (11, .int .i64 ((9 + k2 : Nat) : Int)), (12, ni k3)] ∧ Ev w [] wo [.box bk16 (u64s (List.set x k3 ((List.getD x k3 0) + ((5 : UInt64) * (List.getD (high (carryF (prodF a r 9) 17)) k3 0))))) 68, .box bk249 (u64s (high (carryF (prodF a r 9) 17))) 68, .box bk1 (u64s a) 59, .box bk6 (u64s r) 58, .box bk11 (u64s (List.replicate 9 0)) 59]) ?_ ?_
     ·
      refine h_start (fun wv => Ev w [] wv [.box bk16 (u64s x) 68, .box bk249 (u64s (high (carryF (prodF a r 9) 17))) 68]) [10] (by kernel_rfl) 11 (by kernel_rfl) ?_
      have wo466 := Hv461.trans (Ev.drew Hv461.heap)
      refine h_pureR (d := some 82) En464 (v := ni k3) 0 (by kernel_rfl) (by kernel_rfl) rfl (fun _ => wo466.pick [0, 1] (by kernel_rfl) (by decide)) ?_
      intro ac538 En539
      refine h_pureR (d := some 83) En539 (v := ni k3) 1 (by kernel_rfl) (by kernel_rfl) rfl (fun _ => wo466.pick [0, 1] (by kernel_rfl) (by decide)) ?_
      intro ac540 En541
      refine h_free (d := some 84) (s := nv (Instr.indexAt 68 (pt bk16) (ni k3))) En541 (v := .pointer (some ⟨bk16, k3, none⟩)) 2 (by kernel_rfl) (fun _ => run_nv (Go.Dbr.run_indexarr (e := 49) (sz := 1) (m := 18) (j := k3) (o := k3) (by kernel_rfl) (by kernel_rfl) (by omega) (by omega) (by omega) _)) (by kernel_rfl) rfl (fun _ => wo466.pick [0, 1] (by kernel_rfl) (by decide)) ?_
      intro ac542 En543
      have hb544 : k3 < List.length x := by rw [hlx]; omega
      refine h_read (d := some 85) (s := nv (Instr.loadAt 49 (.pointer (some ⟨bk16, k3, none⟩)))) En543 (v := .int .u64 ((UInt64.toNat (List.getD x k3 0) : Nat) : Int)) 3 (by kernel_rfl) (fun w hS => run_nv (run_load1 (by kernel_rfl) (hS.heap.cell (k := 0) rfl (u64s_getD hb544)))) (by kernel_rfl) rfl (wo466.pick [0, 1] (by kernel_rfl) (by decide)) ?_
      intro ac545 En546
      refine h_pureR (d := some 86) En546 (v := ni k3) 4 (by kernel_rfl) (by kernel_rfl) rfl (fun _ => wo466.pick [0, 1] (by kernel_rfl) (by decide)) ?_
      intro ac547 En548
      refine h_free (d := some 87) (s := nv (Instr.indexAt 68 (pt bk249) (ni k3))) En548 (v := .pointer (some ⟨bk249, k3, none⟩)) 5 (by kernel_rfl) (fun _ => run_nv (Go.Dbr.run_indexarr (e := 49) (sz := 1) (m := 18) (j := k3) (o := k3) (by kernel_rfl) (by kernel_rfl) (by omega) (by omega) (by omega) _)) (by kernel_rfl) rfl (fun _ => wo466.pick [0, 1] (by kernel_rfl) (by decide)) ?_
      intro ac549 En550
      have hb551 : k3 < List.length (high (carryF (prodF a r 9) 17)) := by rw [(high_len _)]; omega
      refine h_read (d := some 88) (s := nv (Instr.loadAt 49 (.pointer (some ⟨bk249, k3, none⟩)))) En550 (v := .int .u64 ((UInt64.toNat (List.getD (high (carryF (prodF a r 9) 17)) k3 0) : Nat) : Int)) 6 (by kernel_rfl) (fun w hS => run_nv (run_load1 (by kernel_rfl) (hS.heap.cell (k := 1) rfl (u64s_getD hb551)))) (by kernel_rfl) rfl (wo466.pick [0, 1] (by kernel_rfl) (by decide)) ?_
      intro ac552 En553
      refine h_pureR (d := some 89) En553 (v := .int .u64 (IntKind.wrap .u64 ((5 : Int) * ((UInt64.toNat (List.getD (high (carryF (prodF a r 9) 17)) k3 0) : Nat) : Int)))) 7 (by kernel_rfl) (by kernel_rfl) rfl (fun _ => wo466.pick [0, 1] (by kernel_rfl) (by decide)) ?_
      intro ac554 En555
      rw [Go.Dbr.u64_mul (a := (5 : Int)) (b := ((UInt64.toNat (List.getD (high (carryF (prodF a r 9) 17)) k3 0) : Nat) : Int)) (x := (5 : UInt64)) (y := List.getD (high (carryF (prodF a r 9) 17)) k3 0) rfl rfl] at En555
      refine h_pureR (d := some 90) En555 (v := .int .u64 (IntKind.wrap .u64 (((UInt64.toNat (List.getD x k3 0) : Nat) : Int) + ((UInt64.toNat ((5 : UInt64) * (List.getD (high (carryF (prodF a r 9) 17)) k3 0)) : Nat) : Int)))) 8 (by kernel_rfl) (by kernel_rfl) rfl (fun _ => wo466.pick [0, 1] (by kernel_rfl) (by decide)) ?_
      intro ac556 En557
      rw [Go.Dbr.u64_add (a := ((UInt64.toNat (List.getD x k3 0) : Nat) : Int)) (b := ((UInt64.toNat ((5 : UInt64) * (List.getD (high (carryF (prodF a r 9) 17)) k3 0)) : Nat) : Int)) (x := List.getD x k3 0) (y := (5 : UInt64) * (List.getD (high (carryF (prodF a r 9) 17)) k3 0)) rfl rfl] at En557
      refine h_free (d := some 91) (s := nv (Instr.indexAt 68 (pt bk16) (ni k3))) En557 (v := .pointer (some ⟨bk16, k3, none⟩)) 9 (by kernel_rfl) (fun _ => run_nv (Go.Dbr.run_indexarr (e := 49) (sz := 1) (m := 18) (j := k3) (o := k3) (by kernel_rfl) (by kernel_rfl) (by omega) (by omega) (by omega) _)) (by kernel_rfl) rfl (fun _ => wo466.pick [0, 1] (by kernel_rfl) (by decide)) ?_
      intro ac558 En559
      refine h_at 10 (by kernel_rfl) rfl ?_
      have hb560 : k3 < List.length x := by rw [hlx]; omega
      refine op_storebox2 (d := none) (t := 49) (b := bk16) (off := k3) (k := 0) (v := .int .u64 ((UInt64.toNat ((List.getD x k3 0) + ((5 : UInt64) * (List.getD (high (carryF (prodF a r 9) 17)) k3 0))) : Nat) : Int)) En559 (by kernel_rfl) wo466 rfl (u64s_getD hb560) (by kernel_rfl) rfl (u64s_set _ _ _) rfl ?_
      intro ac561 wo562  En563 Hv564
      refine ⟨not_yet (by kernel_rfl), ?_⟩
      exact h_end (by kernel_rfl) ⟨En563.sub (by kernel_rfl), Hv564.pick [0, 1, 2, 3, 4] (by kernel_rfl) (by decide)⟩
     rintro ac565 wo566 ⟨En567, Hv568⟩
     refine block_normal ?_
     refine then_normal ?_
     refine region_from ?_
     refine d_pures [(2, pt bk1), (3, pt bk6), (4, pt bk11), (5, pt bk16), (6, ni i), (8, .int .i64 0), (9, pt bk249), (10, .int .i64 ((8 + k1 : Nat) : Int)), (11, .int .i64 ((9 + k2 : Nat) : Int)), (12, ni k3), (81, .int .i64 (IntKind.wrap .i64 (((k3 : Nat) : Int) + (1 : Int))))] [ni k3, .int .i64 (IntKind.wrap .i64 (((k3 : Nat) : Int) + (1 : Int)))] 2 En567 (by kernel_rfl) (by kernel_rfl) rfl ?_
     intro ac569 En570
     rw [Go.Dbr.wr64 (e := ((k3 : Nat) : Int) + (1 : Int)) (x := ((k3 + 1 : Nat) : Int)) (by omega) (by omega) (by omega)] at En570
     refine d_pures [(2, pt bk1), (3, pt bk6), (4, pt bk11), (5, pt bk16), (6, ni i), (8, .int .i64 0), (9, pt bk249), (10, .int .i64 ((8 + k1 : Nat) : Int)), (11, .int .i64 ((9 + k2 : Nat) : Int)), (12, .int .i64 ((k3 + 1 : Nat) : Int))] [.int .i64 ((k3 + 1 : Nat) : Int)] 3 En570 (by kernel_rfl) (by kernel_rfl) rfl ?_
     intro ac571 En572
     refine from_end (by kernel_rfl) ?_
     refine then_normal ?_
     refine ⟨_, ⟨k3 + 1, (List.set x k3 ((List.getD x k3 0) + ((5 : UInt64) * (List.getD (high (carryF (prodF a r 9) 17)) k3 0)))), rfl, En572.sub (by kernel_rfl), Hv568.pick [0, 1, 2, 3, 4] (by kernel_rfl) (by decide), by omega, (List.length_set.trans hlx), by first | (rw [hex]; rfl) | (rw [hex, hc2]; rfl) | rfl⟩, ?_⟩
     omega
    ·
     replace hc465 : ¬ (((k3 : Nat) : Int) < (10 : Int)) := of_decide_eq_false hc465
     refine wp_exit ?_
     refine then_exit ?_
     refine then_exit ?_
     refine block_exit ?_
     refine then_normal ?_
     have hnx : k3 = 10 := by omega
     have hfx : x = add5F (low (carryF (prodF a r 9) 17)) (high (carryF (prodF a r 9) 17)) 10 := by rw [hex, hnx] <;> rfl
     rw [show x = (add5F (low (carryF (prodF a r 9) 17)) (high (carryF (prodF a r 9) 17)) 10) from hfx] at Hv461
     refine region_from ?_
     refine from_op (by kernel_rfl) ?_
     refine op_loadaggbox (d := some 92) (t := 68) (b := bk16) (off := 0) (k := 0) (m := 18) (xs := u64s (add5F (low (carryF (prodF a r 9) 17)) (high (carryF (prodF a r 9) 17)) 10)) En464 (by kernel_rfl) Hv461 rfl (load_whole (u64s_lenh (add5F_len (low_len (carryF_len (prodF_len _ _ _) _)) _ _))) (u64s_lenh (add5F_len (low_len (carryF_len (prodF_len _ _ _) _)) _ _)) (by kernel_rfl) (by kernel_rfl) ?_
     intro ac573 En574
     refine from_op (by kernel_rfl) ?_
     have hM575 : Heap wo459 [] := Hv461.heap.pick [] (by kernel_rfl) (by decide)
     refine op_call (d := some 93) (f := 37) (args := #[.agg (List.toArray (u64s (add5F (low (carryF (prodF a r 9) 17)) (high (carryF (prodF a r 9) 17)) 10)))]) En574 (by kernel_rfl) ((carried_ref _ (add5F (low (carryF (prodF a r 9) 17)) (high (carryF (prodF a r 9) 17)) 10) (add5F_len (low_len (carryF_len (prodF_len _ _ _) _)) _ _)).mono ?_)
     rintro _ wo577 ⟨rfl, he580⟩
     refine ⟨_, rfl, ?_⟩
     intro ac576 En578
     have Hv579 : Ev w [] wo577 [.box bk16 (u64s (add5F (low (carryF (prodF a r 9) 17)) (high (carryF (prodF a r 9) 17)) 10)) 68, .box bk249 (u64s (high (carryF (prodF a r 9) 17))) 68, .box bk1 (u64s a) 59, .box bk6 (u64s r) 58, .box bk11 (u64s (List.replicate 9 0)) 59] := Hv461.trans (Ev.call (R := [.box bk16 (u64s (add5F (low (carryF (prodF a r 9) 17)) (high (carryF (prodF a r 9) 17)) 10)) 68, .box bk249 (u64s (high (carryF (prodF a r 9) 17))) 68, .box bk1 (u64s a) 59, .box bk6 (u64s r) 58, .box bk11 (u64s (List.replicate 9 0)) 59]) Hv461.heap [0, 1, 2, 3, 4] (by kernel_rfl) (by decide) he580)
     clear hM575 he580
     refine from_op (by kernel_rfl) ?_
     refine op_storeaggbox (d := none) (t := 68) (b := bk16) (off := 0) (k := 0) (m := 18) (xs := u64s (carryF (add5F (low (carryF (prodF a r 9) 17)) (high (carryF (prodF a r 9) 17)) 10) 17)) (v := .agg (List.toArray (u64s (carryF (add5F (low (carryF (prodF a r 9) 17)) (high (carryF (prodF a r 9) 17)) 10) 17)))) (cs' := u64s (carryF (add5F (low (carryF (prodF a r 9) 17)) (high (carryF (prodF a r 9) 17)) 10) 17)) En578 (by kernel_rfl) Hv579 rfl rfl (u64s_lenh (carryF_len (add5F_len (low_len (carryF_len (prodF_len _ _ _) _)) _ _) 17)) (by rw [(u64s_lenh (add5F_len (low_len (carryF_len (prodF_len _ _ _) _)) _ _))]; decide) (by kernel_rfl) (u64s_one _) (store_whole (u64s_lenh (add5F_len (low_len (carryF_len (prodF_len _ _ _) _)) _ _))) (L' := [.box bk16 (u64s (carryF (add5F (low (carryF (prodF a r 9) 17)) (high (carryF (prodF a r 9) 17)) 10) 17)) 68, .box bk249 (u64s (high (carryF (prodF a r 9) 17))) 68, .box bk1 (u64s a) 59, .box bk6 (u64s r) 58, .box bk11 (u64s (List.replicate 9 0)) 59]) rfl ?_
     intro ac581 wo582  En583 Hv584
     refine from_end (by kernel_rfl) ?_
     replace Hv584 : Ev w [] wo582 [.box bk16 (u64s (turnF (carryF (prodF a r 9) 17))) 68, .box bk249 (u64s (high (carryF (prodF a r 9) 17))) 68, .box bk1 (u64s a) 59, .box bk6 (u64s r) 58, .box bk11 (u64s (List.replicate 9 0)) 59] := Hv584
     refine block_normal ?_
     refine then_normal ?_
     refine region_from ?_
     refine d_pures [(2, pt bk1), (3, pt bk6), (4, pt bk11), (5, pt bk16), (6, ni i), (8, .int .i64 1), (9, pt bk249), (10, .int .i64 ((8 + k1 : Nat) : Int)), (11, .int .i64 ((9 + k2 : Nat) : Int)), (12, ni k3)] [.int .i64 0, .int .i64 1, .int .i64 1] 3 En583 (by kernel_rfl) (by kernel_rfl) rfl ?_
     intro ac585 En586
     refine from_end (by kernel_rfl) ?_
     refine then_normal ?_
     refine loop_once ?_
     refine wp_seq ?_
     refine wp_seq ?_
     refine region_from ?_
     refine d_pures [(2, pt bk1), (3, pt bk6), (4, pt bk11), (5, pt bk16), (6, ni i), (8, .int .i64 1), (9, pt bk249), (10, .int .i64 ((8 + k1 : Nat) : Int)), (11, .int .i64 ((9 + k2 : Nat) : Int)), (12, ni k3), (43, .bool true)] [.int .i64 1, .bool true] 2 En586 (by kernel_rfl) (by kernel_rfl) rfl ?_
     intro ac587 En588
     refine from_end (by kernel_rfl) ?_
     refine then_normal ?_
     refine cond_true En588 (t := true) (by kernel_rfl) rfl ?_
     refine wp_skip ?_
     refine then_normal ?_
     refine wp_seq ?_
     refine wp_block ?_
     refine wp_seq ?_
     refine region_from ?_
     refine from_op (by kernel_rfl) ?_
     refine op_alloc (d := some 9) (T := 68) (x := .tuple #[]) (z := .agg (List.toArray (u64s (List.replicate 18 0)))) (cs := u64s (List.replicate 18 0)) En588 (by kernel_rfl) (by kernel_rfl) (by kernel_rfl) Hv584 ?_
     intro ac590 wo591 bk589 En592 Hv593
     refine from_end (by kernel_rfl) ?_
     refine then_normal ?_
     refine wp_seq ?_
     refine wp_seq ?_
     refine region_from ?_
     refine d_pures [(2, pt bk1), (3, pt bk6), (4, pt bk11), (5, pt bk16), (6, ni i), (8, .int .i64 1), (9, pt bk589), (10, .int .i64 8), (11, .int .i64 ((9 + k2 : Nat) : Int)), (12, ni k3)] [.int .i64 8] 1 En592 (by kernel_rfl) (by kernel_rfl) rfl ?_
     intro ac594 En595
     refine from_end (by kernel_rfl) ?_
     refine then_normal ?_
     refine wp_block ?_
     refine loop_m (fun ms596 ac wo => ∃ (k1 : Nat) (h : List UInt64), ms596 = (9 - k1 : Nat) ∧ Env ac 104 [(2, pt bk1), (3, pt bk6), (4, pt bk11), (5, pt bk16), (6, ni i), (8, .int .i64 1), (9, pt bk589), (10, .int .i64 ((8 + k1 : Nat) : Int)), (11, .int .i64 ((9 + k2 : Nat) : Int)), (12, ni k3)] ∧ Ev w [] wo [.box bk589 (u64s h) 68, .box bk16 (u64s (turnF (carryF (prodF a r 9) 17))) 68, .box bk1 (u64s a) 59, .box bk6 (u64s r) 58, .box bk11 (u64s (List.replicate 9 0)) 59] ∧ (k1 ≤ 9) ∧ (List.length h = 18) ∧ (h = highF (turnF (carryF (prodF a r 9) 17)) k1)) ⟨_, 0, List.replicate 18 0, rfl, En595.sub (by kernel_rfl), Hv593.pick [5, 0, 2, 3, 4] (by kernel_rfl) (by decide), by omega, (List.length_replicate), rfl⟩ ?_
     rintro mm602 ac598 wo599 ⟨k1, h, rfl, En600, Hv601, hih, hlh, heh⟩
     refine wp_seq ?_
     refine wp_seq ?_
     refine region_from ?_
     refine d_pures [(2, pt bk1), (3, pt bk6), (4, pt bk11), (5, pt bk16), (6, ni i), (8, .int .i64 1), (9, pt bk589), (10, .int .i64 ((8 + k1 : Nat) : Int)), (11, .int .i64 ((9 + k2 : Nat) : Int)), (12, ni k3), (47, .bool (decide (((8 + k1 : Nat) : Int) < (17 : Int))))] [.int .i64 ((8 + k1 : Nat) : Int), .bool (decide (((8 + k1 : Nat) : Int) < (17 : Int)))] 2 En600 (by kernel_rfl) (by kernel_rfl) rfl ?_
     intro ac603 En604
     refine from_end (by kernel_rfl) ?_
     refine then_normal ?_
     refine cond_at En604 (t := decide (((8 + k1 : Nat) : Int) < (17 : Int))) (by kernel_rfl) (fun hc605 => ?_) (fun hc605 => ?_)
     ·
      replace hc605 : ((8 + k1 : Nat) : Int) < (17 : Int) := of_decide_eq_true hc605
      refine wp_skip ?_
      refine then_normal ?_
      refine wp_seq ?_
      refine wp_block ?_
      refine region_cut (F := fun ac wo => Env ac 104 [(2, pt bk1), (3, pt bk6), (4, pt bk11), (5, pt bk16), (6, ni i), (8, .int .i64 1), (9, pt bk589), (10, .int .i64 ((8 + k1 : Nat) : Int)), (11, .int .i64 ((9 + k2 : Nat) : Int)), (12, ni k3)] ∧ Ev w [] wo [.box bk589 (u64s (List.set h k1 (((List.getD (turnF (carryF (prodF a r 9) 17)) (8 + k1) 0) >>> UInt64.ofNat 2) ||| (((List.getD (turnF (carryF (prodF a r 9) 17)) ((8 + k1) + 1) 0) <<< UInt64.ofNat 14) &&& (65535 : UInt64))))) 68, .box bk16 (u64s (turnF (carryF (prodF a r 9) 17))) 68, .box bk1 (u64s a) 59, .box bk6 (u64s r) 58, .box bk11 (u64s (List.replicate 9 0)) 59]) ?_ ?_
      ·
       refine h_start (fun wv => Ev w [] wv [.box bk16 (u64s (turnF (carryF (prodF a r 9) 17))) 68]) [] (by kernel_rfl) 15 (by kernel_rfl) ?_
       have wo606 := Hv601.trans (Ev.drew Hv601.heap)
       refine h_pureR (d := some 50) En604 (v := .int .i64 ((8 + k1 : Nat) : Int)) 0 (by kernel_rfl) (by kernel_rfl) rfl (fun _ => wo606.pick [1] (by kernel_rfl) (by decide)) ?_
       intro ac698 En699
       refine h_pureR (d := some 51) En699 (v := .int .i64 (IntKind.wrap .i64 (((8 + k1 : Nat) : Int) - (8 : Int)))) 1 (by kernel_rfl) (by kernel_rfl) rfl (fun _ => wo606.pick [1] (by kernel_rfl) (by decide)) ?_
       intro ac700 En701
       rw [Go.Dbr.wr64 (e := ((8 + k1 : Nat) : Int) - (8 : Int)) (x := ((k1 : Nat) : Int)) (by omega) (by omega) (by omega)] at En701
       refine h_pureR (d := some 52) En701 (v := .int .i64 ((8 + k1 : Nat) : Int)) 2 (by kernel_rfl) (by kernel_rfl) rfl (fun _ => wo606.pick [1] (by kernel_rfl) (by decide)) ?_
       intro ac702 En703
       refine h_free (d := some 53) (s := nv (Instr.indexAt 68 (pt bk16) (.int .i64 ((8 + k1 : Nat) : Int)))) En703 (v := .pointer (some ⟨bk16, 8 + k1, none⟩)) 3 (by kernel_rfl) (fun _ => run_nv (Go.Dbr.run_indexarr (e := 49) (sz := 1) (m := 18) (j := 8 + k1) (o := 8 + k1) (by kernel_rfl) (by kernel_rfl) (by omega) (by omega) (by omega) _)) (by kernel_rfl) rfl (fun _ => wo606.pick [1] (by kernel_rfl) (by decide)) ?_
       intro ac704 En705
       have hb706 : 8 + k1 < List.length (turnF (carryF (prodF a r 9) 17)) := by rw [(turnF_len (carryF_len (prodF_len _ _ _) _))]; omega
       refine h_read (d := some 54) (s := nv (Instr.loadAt 49 (.pointer (some ⟨bk16, 8 + k1, none⟩)))) En705 (v := .int .u64 ((UInt64.toNat (List.getD (turnF (carryF (prodF a r 9) 17)) (8 + k1) 0) : Nat) : Int)) 4 (by kernel_rfl) (fun w hS => run_nv (run_load1 (by kernel_rfl) (hS.heap.cell (k := 0) rfl (u64s_getD hb706)))) (by kernel_rfl) rfl (wo606.pick [1] (by kernel_rfl) (by decide)) ?_
       intro ac707 En708
       refine h_pureR (d := some 55) En708 (v := .int .u64 (Int.fdiv ((UInt64.toNat (List.getD (turnF (carryF (prodF a r 9) 17)) (8 + k1) 0) : Nat) : Int) (2 ^ 2))) 5 (by kernel_rfl) (by kernel_rfl) rfl (fun _ => wo606.pick [1] (by kernel_rfl) (by decide)) ?_
       intro ac709 En710
       rw [Go.Dbr.u64_shr (a := ((UInt64.toNat (List.getD (turnF (carryF (prodF a r 9) 17)) (8 + k1) 0) : Nat) : Int)) (x := List.getD (turnF (carryF (prodF a r 9) 17)) (8 + k1) 0) (n := 2) rfl (by decide)] at En710
       refine h_pureR (d := some 56) En710 (v := .int .i64 ((8 + k1 : Nat) : Int)) 6 (by kernel_rfl) (by kernel_rfl) rfl (fun _ => wo606.pick [1] (by kernel_rfl) (by decide)) ?_
       intro ac711 En712
       refine h_pureR (d := some 57) En712 (v := .int .i64 (IntKind.wrap .i64 (((8 + k1 : Nat) : Int) + (1 : Int)))) 7 (by kernel_rfl) (by kernel_rfl) rfl (fun _ => wo606.pick [1] (by kernel_rfl) (by decide)) ?_
       intro ac713 En714
       rw [Go.Dbr.wr64 (e := ((8 + k1 : Nat) : Int) + (1 : Int)) (x := (((8 + k1) + 1 : Nat) : Int)) (by omega) (by omega) (by omega)] at En714
       refine h_free (d := some 58) (s := nv (Instr.indexAt 68 (pt bk16) (.int .i64 (((8 + k1) + 1 : Nat) : Int)))) En714 (v := .pointer (some ⟨bk16, (8 + k1) + 1, none⟩)) 8 (by kernel_rfl) (fun _ => run_nv (Go.Dbr.run_indexarr (e := 49) (sz := 1) (m := 18) (j := (8 + k1) + 1) (o := (8 + k1) + 1) (by kernel_rfl) (by kernel_rfl) (by omega) (by omega) (by omega) _)) (by kernel_rfl) rfl (fun _ => wo606.pick [1] (by kernel_rfl) (by decide)) ?_
       intro ac715 En716
       have hb717 : (8 + k1) + 1 < List.length (turnF (carryF (prodF a r 9) 17)) := by rw [(turnF_len (carryF_len (prodF_len _ _ _) _))]; omega
       refine h_read (d := some 59) (s := nv (Instr.loadAt 49 (.pointer (some ⟨bk16, (8 + k1) + 1, none⟩)))) En716 (v := .int .u64 ((UInt64.toNat (List.getD (turnF (carryF (prodF a r 9) 17)) ((8 + k1) + 1) 0) : Nat) : Int)) 9 (by kernel_rfl) (fun w hS => run_nv (run_load1 (by kernel_rfl) (hS.heap.cell (k := 0) rfl (u64s_getD hb717)))) (by kernel_rfl) rfl (wo606.pick [1] (by kernel_rfl) (by decide)) ?_
       intro ac718 En719
       refine h_pureR (d := some 60) En719 (v := .int .u64 (IntKind.wrap .u64 (((UInt64.toNat (List.getD (turnF (carryF (prodF a r 9) 17)) ((8 + k1) + 1) 0) : Nat) : Int) * 2 ^ 14))) 10 (by kernel_rfl) (by kernel_rfl) rfl (fun _ => wo606.pick [1] (by kernel_rfl) (by decide)) ?_
       intro ac720 En721
       rw [Go.Dbr.u64_shl (a := ((UInt64.toNat (List.getD (turnF (carryF (prodF a r 9) 17)) ((8 + k1) + 1) 0) : Nat) : Int)) (x := List.getD (turnF (carryF (prodF a r 9) 17)) ((8 + k1) + 1) 0) (n := 14) rfl (by decide)] at En721
       refine h_pureR (d := some 61) En721 (v := .int .u64 (IntKind.wrap .u64 ((BitVec.ofInt (IntKind.bits .u64) ((UInt64.toNat ((List.getD (turnF (carryF (prodF a r 9) 17)) ((8 + k1) + 1) 0) <<< UInt64.ofNat 14) : Nat) : Int) &&& BitVec.ofInt (IntKind.bits .u64) (65535 : Int)).toNat : Int))) 11 (by kernel_rfl) (by kernel_rfl) rfl (fun _ => wo606.pick [1] (by kernel_rfl) (by decide)) ?_
       intro ac722 En723
       rw [Go.Dbr.u64_and (a := ((UInt64.toNat ((List.getD (turnF (carryF (prodF a r 9) 17)) ((8 + k1) + 1) 0) <<< UInt64.ofNat 14) : Nat) : Int)) (b := (65535 : Int)) (x := (List.getD (turnF (carryF (prodF a r 9) 17)) ((8 + k1) + 1) 0) <<< UInt64.ofNat 14) (y := (65535 : UInt64)) rfl rfl] at En723
       refine h_pureR (d := some 62) En723 (v := .int .u64 (IntKind.wrap .u64 ((BitVec.ofInt (IntKind.bits .u64) ((UInt64.toNat ((List.getD (turnF (carryF (prodF a r 9) 17)) (8 + k1) 0) >>> UInt64.ofNat 2) : Nat) : Int) ||| BitVec.ofInt (IntKind.bits .u64) ((UInt64.toNat (((List.getD (turnF (carryF (prodF a r 9) 17)) ((8 + k1) + 1) 0) <<< UInt64.ofNat 14) &&& (65535 : UInt64)) : Nat) : Int)).toNat : Int))) 12 (by kernel_rfl) (by kernel_rfl) rfl (fun _ => wo606.pick [1] (by kernel_rfl) (by decide)) ?_
       intro ac724 En725
       rw [Go.Dbr.u64_or (a := ((UInt64.toNat ((List.getD (turnF (carryF (prodF a r 9) 17)) (8 + k1) 0) >>> UInt64.ofNat 2) : Nat) : Int)) (b := ((UInt64.toNat (((List.getD (turnF (carryF (prodF a r 9) 17)) ((8 + k1) + 1) 0) <<< UInt64.ofNat 14) &&& (65535 : UInt64)) : Nat) : Int)) (x := (List.getD (turnF (carryF (prodF a r 9) 17)) (8 + k1) 0) >>> UInt64.ofNat 2) (y := ((List.getD (turnF (carryF (prodF a r 9) 17)) ((8 + k1) + 1) 0) <<< UInt64.ofNat 14) &&& (65535 : UInt64)) rfl rfl] at En725
       refine h_free (d := some 63) (s := nv (Instr.indexAt 68 (pt bk589) (ni k1))) En725 (v := .pointer (some ⟨bk589, k1, none⟩)) 13 (by kernel_rfl) (fun _ => run_nv (Go.Dbr.run_indexarr (e := 49) (sz := 1) (m := 18) (j := k1) (o := k1) (by kernel_rfl) (by kernel_rfl) (by omega) (by omega) (by omega) _)) (by kernel_rfl) rfl (fun _ => wo606.pick [1] (by kernel_rfl) (by decide)) ?_
       intro ac726 En727
       refine h_at 14 (by kernel_rfl) rfl ?_
       have hb728 : k1 < List.length h := by rw [hlh]; omega
       refine op_storebox2 (d := none) (t := 49) (b := bk589) (off := k1) (k := 0) (v := .int .u64 ((UInt64.toNat (((List.getD (turnF (carryF (prodF a r 9) 17)) (8 + k1) 0) >>> UInt64.ofNat 2) ||| (((List.getD (turnF (carryF (prodF a r 9) 17)) ((8 + k1) + 1) 0) <<< UInt64.ofNat 14) &&& (65535 : UInt64))) : Nat) : Int)) En727 (by kernel_rfl) wo606 rfl (u64s_getD hb728) (by kernel_rfl) rfl (u64s_set _ _ _) rfl ?_
       intro ac729 wo730  En731 Hv732
       refine ⟨fun _ => Hv732.pick [1] (by kernel_rfl) (by decide), ?_⟩
       exact h_end (by kernel_rfl) ⟨En731.sub (by kernel_rfl), Hv732.pick [0, 1, 2, 3, 4] (by kernel_rfl) (by decide)⟩
      rintro ac733 wo734 ⟨En735, Hv736⟩
      refine block_normal ?_
      refine then_normal ?_
      refine region_from ?_
      refine d_pures [(2, pt bk1), (3, pt bk6), (4, pt bk11), (5, pt bk16), (6, ni i), (8, .int .i64 1), (9, pt bk589), (10, .int .i64 ((8 + k1 : Nat) : Int)), (11, .int .i64 ((9 + k2 : Nat) : Int)), (12, ni k3), (49, .int .i64 (IntKind.wrap .i64 (((8 + k1 : Nat) : Int) + (1 : Int))))] [.int .i64 ((8 + k1 : Nat) : Int), .int .i64 (IntKind.wrap .i64 (((8 + k1 : Nat) : Int) + (1 : Int)))] 2 En735 (by kernel_rfl) (by kernel_rfl) rfl ?_
      intro ac737 En738
      rw [Go.Dbr.wr64 (e := ((8 + k1 : Nat) : Int) + (1 : Int)) (x := (((8 + k1) + 1 : Nat) : Int)) (by omega) (by omega) (by omega)] at En738
      refine d_pures [(2, pt bk1), (3, pt bk6), (4, pt bk11), (5, pt bk16), (6, ni i), (8, .int .i64 1), (9, pt bk589), (10, .int .i64 (((8 + k1) + 1 : Nat) : Int)), (11, .int .i64 ((9 + k2 : Nat) : Int)), (12, ni k3)] [.int .i64 (((8 + k1) + 1 : Nat) : Int)] 3 En738 (by kernel_rfl) (by kernel_rfl) rfl ?_
      intro ac739 En740
      refine from_end (by kernel_rfl) ?_
      refine then_normal ?_
      refine ⟨_, ⟨k1 + 1, (List.set h k1 (((List.getD (turnF (carryF (prodF a r 9) 17)) (8 + k1) 0) >>> UInt64.ofNat 2) ||| (((List.getD (turnF (carryF (prodF a r 9) 17)) ((8 + k1) + 1) 0) <<< UInt64.ofNat 14) &&& (65535 : UInt64)))), rfl, En740.sub (by kernel_rfl), Hv736.pick [0, 1, 2, 3, 4] (by kernel_rfl) (by decide), by omega, (List.length_set.trans hlh), by first | (rw [heh]; rfl) | (rw [heh, hc2]; rfl) | rfl⟩, ?_⟩
      omega
     ·
      replace hc605 : ¬ (((8 + k1 : Nat) : Int) < (17 : Int)) := of_decide_eq_false hc605
      refine wp_exit ?_
      refine then_exit ?_
      refine then_exit ?_
      refine block_exit ?_
      refine then_normal ?_
      refine wp_seq ?_
      have hnh : k1 = 9 := by omega
      have hfh : h = highF (turnF (carryF (prodF a r 9) 17)) 9 := by rw [heh, hnh] <;> rfl
      rw [show h = (highF (turnF (carryF (prodF a r 9) 17)) 9) from hfh] at Hv601
      refine region_from ?_
      refine from_op (by kernel_rfl) ?_
      refine op_val (d := some 64) (x := Instr.indexAt 68 (pt bk16) (.int .i64 17)) (v := .pointer (some ⟨bk16, 17, none⟩)) En604 (by kernel_rfl) (Go.Dbr.run_indexarr (e := 49) (sz := 1) (m := 18) (j := 17) (o := 17) (by kernel_rfl) (by kernel_rfl) (by omega) (by omega) (by omega) _) ?_
      intro ac741 En742
      refine from_op (by kernel_rfl) ?_
      have hb743 : 17 < List.length (turnF (carryF (prodF a r 9) 17)) := by rw [(turnF_len (carryF_len (prodF_len _ _ _) _))]; omega
      refine op_loadbox (d := some 65) (t := 49) (b := bk16) (off := 17) (k := 1) (v := .int .u64 ((UInt64.toNat (List.getD (turnF (carryF (prodF a r 9) 17)) 17 0) : Nat) : Int)) En742 (by kernel_rfl) Hv601 rfl (u64s_getD hb743) (by kernel_rfl) ?_
      intro ac744 En745
      refine d_pures [(2, pt bk1), (3, pt bk6), (4, pt bk11), (5, pt bk16), (6, ni i), (8, .int .i64 1), (9, pt bk589), (10, .int .i64 ((8 + k1 : Nat) : Int)), (11, .int .i64 ((9 + k2 : Nat) : Int)), (12, ni k3), (66, .int .u64 (Int.fdiv ((UInt64.toNat (List.getD (turnF (carryF (prodF a r 9) 17)) 17 0) : Nat) : Int) (2 ^ 2)))] [.int .u64 (Int.fdiv ((UInt64.toNat (List.getD (turnF (carryF (prodF a r 9) 17)) 17 0) : Nat) : Int) (2 ^ 2))] 3 En745 (by kernel_rfl) (by kernel_rfl) rfl ?_
      intro ac746 En747
      rw [Go.Dbr.u64_shr (a := ((UInt64.toNat (List.getD (turnF (carryF (prodF a r 9) 17)) 17 0) : Nat) : Int)) (x := List.getD (turnF (carryF (prodF a r 9) 17)) 17 0) (n := 2) rfl (by decide)] at En747
      refine from_op (by kernel_rfl) ?_
      refine op_val (d := some 67) (x := Instr.indexAt 68 (pt bk589) (.int .i64 9)) (v := .pointer (some ⟨bk589, 9, none⟩)) En747 (by kernel_rfl) (Go.Dbr.run_indexarr (e := 49) (sz := 1) (m := 18) (j := 9) (o := 9) (by kernel_rfl) (by kernel_rfl) (by omega) (by omega) (by omega) _) ?_
      intro ac748 En749
      refine from_op (by kernel_rfl) ?_
      have hb750 : 9 < List.length (highF (turnF (carryF (prodF a r 9) 17)) 9) := by rw [(highF_len _ 9)]; omega
      refine op_storebox2 (d := none) (t := 49) (b := bk589) (off := 9) (k := 0) (v := .int .u64 ((UInt64.toNat ((List.getD (turnF (carryF (prodF a r 9) 17)) 17 0) >>> UInt64.ofNat 2) : Nat) : Int)) En749 (by kernel_rfl) Hv601 rfl (u64s_getD hb750) (by kernel_rfl) rfl (u64s_set _ _ _) (L' := [.box bk589 (u64s (List.set (highF (turnF (carryF (prodF a r 9) 17)) 9) 9 ((List.getD (turnF (carryF (prodF a r 9) 17)) 17 0) >>> UInt64.ofNat 2))) 68, .box bk16 (u64s (turnF (carryF (prodF a r 9) 17))) 68, .box bk1 (u64s a) 59, .box bk6 (u64s r) 58, .box bk11 (u64s (List.replicate 9 0)) 59]) rfl ?_
      intro ac751 wo752  En753 Hv754
      refine from_end (by kernel_rfl) ?_
      refine then_normal ?_
      refine wp_seq ?_
      refine region_from ?_
      refine from_op (by kernel_rfl) ?_
      refine op_val (d := some 68) (x := Instr.indexAt 68 (pt bk16) (.int .i64 8)) (v := .pointer (some ⟨bk16, 8, none⟩)) En753 (by kernel_rfl) (Go.Dbr.run_indexarr (e := 49) (sz := 1) (m := 18) (j := 8) (o := 8) (by kernel_rfl) (by kernel_rfl) (by omega) (by omega) (by omega) _) ?_
      intro ac755 En756
      refine from_op (by kernel_rfl) ?_
      have hb757 : 8 < List.length (turnF (carryF (prodF a r 9) 17)) := by rw [(turnF_len (carryF_len (prodF_len _ _ _) _))]; omega
      refine op_loadbox (d := some 69) (t := 49) (b := bk16) (off := 8) (k := 1) (v := .int .u64 ((UInt64.toNat (List.getD (turnF (carryF (prodF a r 9) 17)) 8 0) : Nat) : Int)) En756 (by kernel_rfl) Hv754 rfl (u64s_getD hb757) (by kernel_rfl) ?_
      intro ac758 En759
      refine d_pures [(2, pt bk1), (3, pt bk6), (4, pt bk11), (5, pt bk16), (6, ni i), (8, .int .i64 1), (9, pt bk589), (10, .int .i64 ((8 + k1 : Nat) : Int)), (11, .int .i64 ((9 + k2 : Nat) : Int)), (12, ni k3), (70, .int .u64 (IntKind.wrap .u64 ((BitVec.ofInt (IntKind.bits .u64) ((UInt64.toNat (List.getD (turnF (carryF (prodF a r 9) 17)) 8 0) : Nat) : Int) &&& BitVec.ofInt (IntKind.bits .u64) (3 : Int)).toNat : Int)))] [.int .u64 (IntKind.wrap .u64 ((BitVec.ofInt (IntKind.bits .u64) ((UInt64.toNat (List.getD (turnF (carryF (prodF a r 9) 17)) 8 0) : Nat) : Int) &&& BitVec.ofInt (IntKind.bits .u64) (3 : Int)).toNat : Int))] 3 En759 (by kernel_rfl) (by kernel_rfl) rfl ?_
      intro ac760 En761
      rw [Go.Dbr.u64_and (a := ((UInt64.toNat (List.getD (turnF (carryF (prodF a r 9) 17)) 8 0) : Nat) : Int)) (b := (3 : Int)) (x := List.getD (turnF (carryF (prodF a r 9) 17)) 8 0) (y := (3 : UInt64)) rfl rfl] at En761
      refine from_op (by kernel_rfl) ?_
      refine op_val (d := some 71) (x := Instr.indexAt 68 (pt bk16) (.int .i64 8)) (v := .pointer (some ⟨bk16, 8, none⟩)) En761 (by kernel_rfl) (Go.Dbr.run_indexarr (e := 49) (sz := 1) (m := 18) (j := 8) (o := 8) (by kernel_rfl) (by kernel_rfl) (by omega) (by omega) (by omega) _) ?_
      intro ac762 En763
      refine from_op (by kernel_rfl) ?_
      have hb764 : 8 < List.length (turnF (carryF (prodF a r 9) 17)) := by rw [(turnF_len (carryF_len (prodF_len _ _ _) _))]; omega
      refine op_storebox2 (d := none) (t := 49) (b := bk16) (off := 8) (k := 1) (v := .int .u64 ((UInt64.toNat ((List.getD (turnF (carryF (prodF a r 9) 17)) 8 0) &&& (3 : UInt64)) : Nat) : Int)) En763 (by kernel_rfl) Hv754 rfl (u64s_getD hb764) (by kernel_rfl) rfl (u64s_set _ _ _) (L' := [.box bk589 (u64s (List.set (highF (turnF (carryF (prodF a r 9) 17)) 9) 9 ((List.getD (turnF (carryF (prodF a r 9) 17)) 17 0) >>> UInt64.ofNat 2))) 68, .box bk16 (u64s (List.set (turnF (carryF (prodF a r 9) 17)) 8 ((List.getD (turnF (carryF (prodF a r 9) 17)) 8 0) &&& (3 : UInt64)))) 68, .box bk1 (u64s a) 59, .box bk6 (u64s r) 58, .box bk11 (u64s (List.replicate 9 0)) 59]) rfl ?_
      intro ac765 wo766  En767 Hv768
      refine from_end (by kernel_rfl) ?_
      refine then_normal ?_
      refine wp_seq ?_
      refine wp_seq ?_
      replace Hv768 : Ev w [] wo766 [.box bk589 (u64s (high (turnF (carryF (prodF a r 9) 17)))) 68, .box bk16 (u64s (List.set (turnF (carryF (prodF a r 9) 17)) 8 ((List.getD (turnF (carryF (prodF a r 9) 17)) 8 0) &&& (3 : UInt64)))) 68, .box bk1 (u64s a) 59, .box bk6 (u64s r) 58, .box bk11 (u64s (List.replicate 9 0)) 59] := Hv768
      refine region_from ?_
      refine d_pures [(2, pt bk1), (3, pt bk6), (4, pt bk11), (5, pt bk16), (6, ni i), (8, .int .i64 1), (9, pt bk589), (10, .int .i64 ((8 + k1 : Nat) : Int)), (11, .int .i64 9), (12, ni k3)] [.int .i64 9] 1 En767 (by kernel_rfl) (by kernel_rfl) rfl ?_
      intro ac769 En770
      refine from_end (by kernel_rfl) ?_
      refine then_normal ?_
      refine wp_block ?_
      refine loop_m (fun ms771 ac wo => ∃ (k2 : Nat) (u : List UInt64), ms771 = (9 - k2 : Nat) ∧ Env ac 104 [(2, pt bk1), (3, pt bk6), (4, pt bk11), (5, pt bk16), (6, ni i), (8, .int .i64 1), (9, pt bk589), (10, .int .i64 ((8 + k1 : Nat) : Int)), (11, .int .i64 ((9 + k2 : Nat) : Int)), (12, ni k3)] ∧ Ev w [] wo [.box bk16 (u64s u) 68, .box bk589 (u64s (high (turnF (carryF (prodF a r 9) 17)))) 68, .box bk1 (u64s a) 59, .box bk6 (u64s r) 58, .box bk11 (u64s (List.replicate 9 0)) 59] ∧ (k2 ≤ 9) ∧ (List.length u = 18) ∧ (u = clearF (List.set (turnF (carryF (prodF a r 9) 17)) 8 (List.getD (turnF (carryF (prodF a r 9) 17)) 8 0 &&& 3)) k2)) ⟨_, 0, List.set (turnF (carryF (prodF a r 9) 17)) 8 ((List.getD (turnF (carryF (prodF a r 9) 17)) 8 0) &&& (3 : UInt64)), rfl, En770.sub (by kernel_rfl), Hv768.pick [1, 0, 2, 3, 4] (by kernel_rfl) (by decide), by omega, (List.length_set.trans (turnF_len (carryF_len (prodF_len _ _ _) _))), rfl⟩ ?_
      rintro mm777 ac773 wo774 ⟨k2, u, rfl, En775, Hv776, hiu, hlu, heu⟩
      refine wp_seq ?_
      refine wp_seq ?_
      refine region_from ?_
      refine d_pures [(2, pt bk1), (3, pt bk6), (4, pt bk11), (5, pt bk16), (6, ni i), (8, .int .i64 1), (9, pt bk589), (10, .int .i64 ((8 + k1 : Nat) : Int)), (11, .int .i64 ((9 + k2 : Nat) : Int)), (12, ni k3), (73, .bool (decide (((9 + k2 : Nat) : Int) < (18 : Int))))] [.int .i64 ((9 + k2 : Nat) : Int), .bool (decide (((9 + k2 : Nat) : Int) < (18 : Int)))] 2 En775 (by kernel_rfl) (by kernel_rfl) rfl ?_
      intro ac778 En779
      refine from_end (by kernel_rfl) ?_
      refine then_normal ?_
      refine cond_at En779 (t := decide (((9 + k2 : Nat) : Int) < (18 : Int))) (by kernel_rfl) (fun hc780 => ?_) (fun hc780 => ?_)
      ·
       replace hc780 : ((9 + k2 : Nat) : Int) < (18 : Int) := of_decide_eq_true hc780
       refine wp_skip ?_
       refine then_normal ?_
       refine wp_seq ?_
       refine wp_block ?_
       refine region_from ?_
       refine d_pures [(2, pt bk1), (3, pt bk6), (4, pt bk11), (5, pt bk16), (6, ni i), (8, .int .i64 1), (9, pt bk589), (10, .int .i64 ((8 + k1 : Nat) : Int)), (11, .int .i64 ((9 + k2 : Nat) : Int)), (12, ni k3), (76, .int .i64 ((9 + k2 : Nat) : Int))] [.int .i64 ((9 + k2 : Nat) : Int)] 1 En779 (by kernel_rfl) (by kernel_rfl) rfl ?_
       intro ac781 En782
       refine from_op (by kernel_rfl) ?_
       refine op_val (d := some 77) (x := Instr.indexAt 68 (pt bk16) (.int .i64 ((9 + k2 : Nat) : Int))) (v := .pointer (some ⟨bk16, 9 + k2, none⟩)) En782 (by kernel_rfl) (Go.Dbr.run_indexarr (e := 49) (sz := 1) (m := 18) (j := 9 + k2) (o := 9 + k2) (by kernel_rfl) (by kernel_rfl) (by omega) (by omega) (by omega) _) ?_
       intro ac783 En784
       refine from_op (by kernel_rfl) ?_
       have hb785 : 9 + k2 < List.length u := by rw [hlu]; omega
       refine op_storebox2 (d := none) (t := 49) (b := bk16) (off := 9 + k2) (k := 0) (v := .int .u64 0) En784 (by kernel_rfl) Hv776 rfl (u64s_getD hb785) (by kernel_rfl) rfl (u64s_set _ _ (0 : UInt64)) (L' := [.box bk16 (u64s (List.set u (9 + k2) (0 : UInt64))) 68, .box bk589 (u64s (high (turnF (carryF (prodF a r 9) 17)))) 68, .box bk1 (u64s a) 59, .box bk6 (u64s r) 58, .box bk11 (u64s (List.replicate 9 0)) 59]) rfl ?_
       intro ac786 wo787  En788 Hv789
       refine from_end (by kernel_rfl) ?_
       refine block_normal ?_
       refine then_normal ?_
       refine region_from ?_
       refine d_pures [(2, pt bk1), (3, pt bk6), (4, pt bk11), (5, pt bk16), (6, ni i), (8, .int .i64 1), (9, pt bk589), (10, .int .i64 ((8 + k1 : Nat) : Int)), (11, .int .i64 ((9 + k2 : Nat) : Int)), (12, ni k3), (75, .int .i64 (IntKind.wrap .i64 (((9 + k2 : Nat) : Int) + (1 : Int))))] [.int .i64 ((9 + k2 : Nat) : Int), .int .i64 (IntKind.wrap .i64 (((9 + k2 : Nat) : Int) + (1 : Int)))] 2 En788 (by kernel_rfl) (by kernel_rfl) rfl ?_
       intro ac790 En791
       rw [Go.Dbr.wr64 (e := ((9 + k2 : Nat) : Int) + (1 : Int)) (x := (((9 + k2) + 1 : Nat) : Int)) (by omega) (by omega) (by omega)] at En791
       refine d_pures [(2, pt bk1), (3, pt bk6), (4, pt bk11), (5, pt bk16), (6, ni i), (8, .int .i64 1), (9, pt bk589), (10, .int .i64 ((8 + k1 : Nat) : Int)), (11, .int .i64 (((9 + k2) + 1 : Nat) : Int)), (12, ni k3)] [.int .i64 (((9 + k2) + 1 : Nat) : Int)] 3 En791 (by kernel_rfl) (by kernel_rfl) rfl ?_
       intro ac792 En793
       refine from_end (by kernel_rfl) ?_
       refine then_normal ?_
       refine ⟨_, ⟨k2 + 1, (List.set u (9 + k2) (0 : UInt64)), rfl, En793.sub (by kernel_rfl), Hv789.pick [0, 1, 2, 3, 4] (by kernel_rfl) (by decide), by omega, (List.length_set.trans hlu), by first | (rw [heu]; rfl) | (rw [heu, hc2]; rfl) | rfl⟩, ?_⟩
       omega
      ·
       replace hc780 : ¬ (((9 + k2 : Nat) : Int) < (18 : Int)) := of_decide_eq_false hc780
       refine wp_exit ?_
       refine then_exit ?_
       refine then_exit ?_
       refine block_exit ?_
       refine then_normal ?_
       refine wp_seq ?_
       refine wp_seq ?_
       have hnu : k2 = 9 := by omega
       have hfu : u = low (turnF (carryF (prodF a r 9) 17)) := by rw [heu, hnu] <;> rfl
       rw [show u = (low (turnF (carryF (prodF a r 9) 17))) from hfu] at Hv776
       refine region_from ?_
       refine d_pures [(2, pt bk1), (3, pt bk6), (4, pt bk11), (5, pt bk16), (6, ni i), (8, .int .i64 1), (9, pt bk589), (10, .int .i64 ((8 + k1 : Nat) : Int)), (11, .int .i64 ((9 + k2 : Nat) : Int)), (12, .int .i64 0)] [.int .i64 0] 1 En779 (by kernel_rfl) (by kernel_rfl) rfl ?_
       intro ac794 En795
       refine from_end (by kernel_rfl) ?_
       refine then_normal ?_
       refine wp_block ?_
       refine loop_m (fun ms796 ac wo => ∃ (k3 : Nat) (x : List UInt64), ms796 = (10 - k3 : Nat) ∧ Env ac 104 [(2, pt bk1), (3, pt bk6), (4, pt bk11), (5, pt bk16), (6, ni i), (8, .int .i64 1), (9, pt bk589), (10, .int .i64 ((8 + k1 : Nat) : Int)), (11, .int .i64 ((9 + k2 : Nat) : Int)), (12, ni k3)] ∧ Ev w [] wo [.box bk16 (u64s x) 68, .box bk589 (u64s (high (turnF (carryF (prodF a r 9) 17)))) 68, .box bk1 (u64s a) 59, .box bk6 (u64s r) 58, .box bk11 (u64s (List.replicate 9 0)) 59] ∧ (k3 ≤ 10) ∧ (List.length x = 18) ∧ (x = add5F (low (turnF (carryF (prodF a r 9) 17))) (high (turnF (carryF (prodF a r 9) 17))) k3)) ⟨_, 0, low (turnF (carryF (prodF a r 9) 17)), rfl, En795.sub (by kernel_rfl), Hv776.pick [0, 1, 2, 3, 4] (by kernel_rfl) (by decide), by omega, (low_len (turnF_len (carryF_len (prodF_len _ _ _) _))), rfl⟩ ?_
       rintro mm802 ac798 wo799 ⟨k3, x, rfl, En800, Hv801, hix, hlx, hex⟩
       refine wp_seq ?_
       refine wp_seq ?_
       refine region_from ?_
       refine d_pures [(2, pt bk1), (3, pt bk6), (4, pt bk11), (5, pt bk16), (6, ni i), (8, .int .i64 1), (9, pt bk589), (10, .int .i64 ((8 + k1 : Nat) : Int)), (11, .int .i64 ((9 + k2 : Nat) : Int)), (12, ni k3), (79, .bool (decide (((k3 : Nat) : Int) < (10 : Int))))] [ni k3, .bool (decide (((k3 : Nat) : Int) < (10 : Int)))] 2 En800 (by kernel_rfl) (by kernel_rfl) rfl ?_
       intro ac803 En804
       refine from_end (by kernel_rfl) ?_
       refine then_normal ?_
       refine cond_at En804 (t := decide (((k3 : Nat) : Int) < (10 : Int))) (by kernel_rfl) (fun hc805 => ?_) (fun hc805 => ?_)
       ·
        replace hc805 : ((k3 : Nat) : Int) < (10 : Int) := of_decide_eq_true hc805
        refine wp_skip ?_
        refine then_normal ?_
        refine wp_seq ?_
        refine wp_block ?_
        refine region_cut (F := fun ac wo => Env ac 104 [(2, pt bk1), (3, pt bk6), (4, pt bk11), (5, pt bk16), (6, ni i), (8, .int .i64 1), (9, pt bk589), (10, .int .i64 ((8 + k1 : Nat) : Int)), (11, .int .i64 ((9 + k2 : Nat) : Int)), (12, ni k3)] ∧ Ev w [] wo [.box bk16 (u64s (List.set x k3 ((List.getD x k3 0) + ((5 : UInt64) * (List.getD (high (turnF (carryF (prodF a r 9) 17))) k3 0))))) 68, .box bk589 (u64s (high (turnF (carryF (prodF a r 9) 17)))) 68, .box bk1 (u64s a) 59, .box bk6 (u64s r) 58, .box bk11 (u64s (List.replicate 9 0)) 59]) ?_ ?_
        ·
         refine h_start (fun wv => Ev w [] wv [.box bk16 (u64s x) 68, .box bk589 (u64s (high (turnF (carryF (prodF a r 9) 17)))) 68]) [10] (by kernel_rfl) 11 (by kernel_rfl) ?_
         have wo806 := Hv801.trans (Ev.drew Hv801.heap)
         refine h_pureR (d := some 82) En804 (v := ni k3) 0 (by kernel_rfl) (by kernel_rfl) rfl (fun _ => wo806.pick [0, 1] (by kernel_rfl) (by decide)) ?_
         intro ac878 En879
         refine h_pureR (d := some 83) En879 (v := ni k3) 1 (by kernel_rfl) (by kernel_rfl) rfl (fun _ => wo806.pick [0, 1] (by kernel_rfl) (by decide)) ?_
         intro ac880 En881
         refine h_free (d := some 84) (s := nv (Instr.indexAt 68 (pt bk16) (ni k3))) En881 (v := .pointer (some ⟨bk16, k3, none⟩)) 2 (by kernel_rfl) (fun _ => run_nv (Go.Dbr.run_indexarr (e := 49) (sz := 1) (m := 18) (j := k3) (o := k3) (by kernel_rfl) (by kernel_rfl) (by omega) (by omega) (by omega) _)) (by kernel_rfl) rfl (fun _ => wo806.pick [0, 1] (by kernel_rfl) (by decide)) ?_
         intro ac882 En883
         have hb884 : k3 < List.length x := by rw [hlx]; omega
         refine h_read (d := some 85) (s := nv (Instr.loadAt 49 (.pointer (some ⟨bk16, k3, none⟩)))) En883 (v := .int .u64 ((UInt64.toNat (List.getD x k3 0) : Nat) : Int)) 3 (by kernel_rfl) (fun w hS => run_nv (run_load1 (by kernel_rfl) (hS.heap.cell (k := 0) rfl (u64s_getD hb884)))) (by kernel_rfl) rfl (wo806.pick [0, 1] (by kernel_rfl) (by decide)) ?_
         intro ac885 En886
         refine h_pureR (d := some 86) En886 (v := ni k3) 4 (by kernel_rfl) (by kernel_rfl) rfl (fun _ => wo806.pick [0, 1] (by kernel_rfl) (by decide)) ?_
         intro ac887 En888
         refine h_free (d := some 87) (s := nv (Instr.indexAt 68 (pt bk589) (ni k3))) En888 (v := .pointer (some ⟨bk589, k3, none⟩)) 5 (by kernel_rfl) (fun _ => run_nv (Go.Dbr.run_indexarr (e := 49) (sz := 1) (m := 18) (j := k3) (o := k3) (by kernel_rfl) (by kernel_rfl) (by omega) (by omega) (by omega) _)) (by kernel_rfl) rfl (fun _ => wo806.pick [0, 1] (by kernel_rfl) (by decide)) ?_
         intro ac889 En890
         have hb891 : k3 < List.length (high (turnF (carryF (prodF a r 9) 17))) := by rw [(high_len _)]; omega
         refine h_read (d := some 88) (s := nv (Instr.loadAt 49 (.pointer (some ⟨bk589, k3, none⟩)))) En890 (v := .int .u64 ((UInt64.toNat (List.getD (high (turnF (carryF (prodF a r 9) 17))) k3 0) : Nat) : Int)) 6 (by kernel_rfl) (fun w hS => run_nv (run_load1 (by kernel_rfl) (hS.heap.cell (k := 1) rfl (u64s_getD hb891)))) (by kernel_rfl) rfl (wo806.pick [0, 1] (by kernel_rfl) (by decide)) ?_
         intro ac892 En893
         refine h_pureR (d := some 89) En893 (v := .int .u64 (IntKind.wrap .u64 ((5 : Int) * ((UInt64.toNat (List.getD (high (turnF (carryF (prodF a r 9) 17))) k3 0) : Nat) : Int)))) 7 (by kernel_rfl) (by kernel_rfl) rfl (fun _ => wo806.pick [0, 1] (by kernel_rfl) (by decide)) ?_
         intro ac894 En895
         rw [Go.Dbr.u64_mul (a := (5 : Int)) (b := ((UInt64.toNat (List.getD (high (turnF (carryF (prodF a r 9) 17))) k3 0) : Nat) : Int)) (x := (5 : UInt64)) (y := List.getD (high (turnF (carryF (prodF a r 9) 17))) k3 0) rfl rfl] at En895
         refine h_pureR (d := some 90) En895 (v := .int .u64 (IntKind.wrap .u64 (((UInt64.toNat (List.getD x k3 0) : Nat) : Int) + ((UInt64.toNat ((5 : UInt64) * (List.getD (high (turnF (carryF (prodF a r 9) 17))) k3 0)) : Nat) : Int)))) 8 (by kernel_rfl) (by kernel_rfl) rfl (fun _ => wo806.pick [0, 1] (by kernel_rfl) (by decide)) ?_
         intro ac896 En897
         rw [Go.Dbr.u64_add (a := ((UInt64.toNat (List.getD x k3 0) : Nat) : Int)) (b := ((UInt64.toNat ((5 : UInt64) * (List.getD (high (turnF (carryF (prodF a r 9) 17))) k3 0)) : Nat) : Int)) (x := List.getD x k3 0) (y := (5 : UInt64) * (List.getD (high (turnF (carryF (prodF a r 9) 17))) k3 0)) rfl rfl] at En897
         refine h_free (d := some 91) (s := nv (Instr.indexAt 68 (pt bk16) (ni k3))) En897 (v := .pointer (some ⟨bk16, k3, none⟩)) 9 (by kernel_rfl) (fun _ => run_nv (Go.Dbr.run_indexarr (e := 49) (sz := 1) (m := 18) (j := k3) (o := k3) (by kernel_rfl) (by kernel_rfl) (by omega) (by omega) (by omega) _)) (by kernel_rfl) rfl (fun _ => wo806.pick [0, 1] (by kernel_rfl) (by decide)) ?_
         intro ac898 En899
         refine h_at 10 (by kernel_rfl) rfl ?_
         have hb900 : k3 < List.length x := by rw [hlx]; omega
         refine op_storebox2 (d := none) (t := 49) (b := bk16) (off := k3) (k := 0) (v := .int .u64 ((UInt64.toNat ((List.getD x k3 0) + ((5 : UInt64) * (List.getD (high (turnF (carryF (prodF a r 9) 17))) k3 0))) : Nat) : Int)) En899 (by kernel_rfl) wo806 rfl (u64s_getD hb900) (by kernel_rfl) rfl (u64s_set _ _ _) rfl ?_
         intro ac901 wo902  En903 Hv904
         refine ⟨not_yet (by kernel_rfl), ?_⟩
         exact h_end (by kernel_rfl) ⟨En903.sub (by kernel_rfl), Hv904.pick [0, 1, 2, 3, 4] (by kernel_rfl) (by decide)⟩
        rintro ac905 wo906 ⟨En907, Hv908⟩
        refine block_normal ?_
        refine then_normal ?_
        refine region_from ?_
        refine d_pures [(2, pt bk1), (3, pt bk6), (4, pt bk11), (5, pt bk16), (6, ni i), (8, .int .i64 1), (9, pt bk589), (10, .int .i64 ((8 + k1 : Nat) : Int)), (11, .int .i64 ((9 + k2 : Nat) : Int)), (12, ni k3), (81, .int .i64 (IntKind.wrap .i64 (((k3 : Nat) : Int) + (1 : Int))))] [ni k3, .int .i64 (IntKind.wrap .i64 (((k3 : Nat) : Int) + (1 : Int)))] 2 En907 (by kernel_rfl) (by kernel_rfl) rfl ?_
        intro ac909 En910
        rw [Go.Dbr.wr64 (e := ((k3 : Nat) : Int) + (1 : Int)) (x := ((k3 + 1 : Nat) : Int)) (by omega) (by omega) (by omega)] at En910
        refine d_pures [(2, pt bk1), (3, pt bk6), (4, pt bk11), (5, pt bk16), (6, ni i), (8, .int .i64 1), (9, pt bk589), (10, .int .i64 ((8 + k1 : Nat) : Int)), (11, .int .i64 ((9 + k2 : Nat) : Int)), (12, .int .i64 ((k3 + 1 : Nat) : Int))] [.int .i64 ((k3 + 1 : Nat) : Int)] 3 En910 (by kernel_rfl) (by kernel_rfl) rfl ?_
        intro ac911 En912
        refine from_end (by kernel_rfl) ?_
        refine then_normal ?_
        refine ⟨_, ⟨k3 + 1, (List.set x k3 ((List.getD x k3 0) + ((5 : UInt64) * (List.getD (high (turnF (carryF (prodF a r 9) 17))) k3 0)))), rfl, En912.sub (by kernel_rfl), Hv908.pick [0, 1, 2, 3, 4] (by kernel_rfl) (by decide), by omega, (List.length_set.trans hlx), by first | (rw [hex]; rfl) | (rw [hex, hc2]; rfl) | rfl⟩, ?_⟩
        omega
       ·
        replace hc805 : ¬ (((k3 : Nat) : Int) < (10 : Int)) := of_decide_eq_false hc805
        refine wp_exit ?_
        refine then_exit ?_
        refine then_exit ?_
        refine block_exit ?_
        refine then_normal ?_
        have hnx : k3 = 10 := by omega
        have hfx : x = add5F (low (turnF (carryF (prodF a r 9) 17))) (high (turnF (carryF (prodF a r 9) 17))) 10 := by rw [hex, hnx] <;> rfl
        rw [show x = (add5F (low (turnF (carryF (prodF a r 9) 17))) (high (turnF (carryF (prodF a r 9) 17))) 10) from hfx] at Hv801
        refine region_from ?_
        refine from_op (by kernel_rfl) ?_
        refine op_loadaggbox (d := some 92) (t := 68) (b := bk16) (off := 0) (k := 0) (m := 18) (xs := u64s (add5F (low (turnF (carryF (prodF a r 9) 17))) (high (turnF (carryF (prodF a r 9) 17))) 10)) En804 (by kernel_rfl) Hv801 rfl (load_whole (u64s_lenh (add5F_len (low_len (turnF_len (carryF_len (prodF_len _ _ _) _))) _ _))) (u64s_lenh (add5F_len (low_len (turnF_len (carryF_len (prodF_len _ _ _) _))) _ _)) (by kernel_rfl) (by kernel_rfl) ?_
        intro ac913 En914
        refine from_op (by kernel_rfl) ?_
        have hM915 : Heap wo799 [] := Hv801.heap.pick [] (by kernel_rfl) (by decide)
        refine op_call (d := some 93) (f := 37) (args := #[.agg (List.toArray (u64s (add5F (low (turnF (carryF (prodF a r 9) 17))) (high (turnF (carryF (prodF a r 9) 17))) 10)))]) En914 (by kernel_rfl) ((carried_ref _ (add5F (low (turnF (carryF (prodF a r 9) 17))) (high (turnF (carryF (prodF a r 9) 17))) 10) (add5F_len (low_len (turnF_len (carryF_len (prodF_len _ _ _) _))) _ _)).mono ?_)
        rintro _ wo917 ⟨rfl, he920⟩
        refine ⟨_, rfl, ?_⟩
        intro ac916 En918
        have Hv919 : Ev w [] wo917 [.box bk16 (u64s (add5F (low (turnF (carryF (prodF a r 9) 17))) (high (turnF (carryF (prodF a r 9) 17))) 10)) 68, .box bk589 (u64s (high (turnF (carryF (prodF a r 9) 17)))) 68, .box bk1 (u64s a) 59, .box bk6 (u64s r) 58, .box bk11 (u64s (List.replicate 9 0)) 59] := Hv801.trans (Ev.call (R := [.box bk16 (u64s (add5F (low (turnF (carryF (prodF a r 9) 17))) (high (turnF (carryF (prodF a r 9) 17))) 10)) 68, .box bk589 (u64s (high (turnF (carryF (prodF a r 9) 17)))) 68, .box bk1 (u64s a) 59, .box bk6 (u64s r) 58, .box bk11 (u64s (List.replicate 9 0)) 59]) Hv801.heap [0, 1, 2, 3, 4] (by kernel_rfl) (by decide) he920)
        clear hM915 he920
        refine from_op (by kernel_rfl) ?_
        refine op_storeaggbox (d := none) (t := 68) (b := bk16) (off := 0) (k := 0) (m := 18) (xs := u64s (carryF (add5F (low (turnF (carryF (prodF a r 9) 17))) (high (turnF (carryF (prodF a r 9) 17))) 10) 17)) (v := .agg (List.toArray (u64s (carryF (add5F (low (turnF (carryF (prodF a r 9) 17))) (high (turnF (carryF (prodF a r 9) 17))) 10) 17)))) (cs' := u64s (carryF (add5F (low (turnF (carryF (prodF a r 9) 17))) (high (turnF (carryF (prodF a r 9) 17))) 10) 17)) En918 (by kernel_rfl) Hv919 rfl rfl (u64s_lenh (carryF_len (add5F_len (low_len (turnF_len (carryF_len (prodF_len _ _ _) _))) _ _) 17)) (by rw [(u64s_lenh (add5F_len (low_len (turnF_len (carryF_len (prodF_len _ _ _) _))) _ _))]; decide) (by kernel_rfl) (u64s_one _) (store_whole (u64s_lenh (add5F_len (low_len (turnF_len (carryF_len (prodF_len _ _ _) _))) _ _))) (L' := [.box bk16 (u64s (carryF (add5F (low (turnF (carryF (prodF a r 9) 17))) (high (turnF (carryF (prodF a r 9) 17))) 10) 17)) 68, .box bk589 (u64s (high (turnF (carryF (prodF a r 9) 17)))) 68, .box bk1 (u64s a) 59, .box bk6 (u64s r) 58, .box bk11 (u64s (List.replicate 9 0)) 59]) rfl ?_
        intro ac921 wo922  En923 Hv924
        refine from_end (by kernel_rfl) ?_
        replace Hv924 : Ev w [] wo922 [.box bk16 (u64s (turnF (turnF (carryF (prodF a r 9) 17)))) 68, .box bk589 (u64s (high (turnF (carryF (prodF a r 9) 17)))) 68, .box bk1 (u64s a) 59, .box bk6 (u64s r) 58, .box bk11 (u64s (List.replicate 9 0)) 59] := Hv924
        refine block_normal ?_
        refine then_normal ?_
        refine region_from ?_
        refine d_pures [(2, pt bk1), (3, pt bk6), (4, pt bk11), (5, pt bk16), (6, ni i), (8, .int .i64 2), (9, pt bk589), (10, .int .i64 ((8 + k1 : Nat) : Int)), (11, .int .i64 ((9 + k2 : Nat) : Int)), (12, ni k3)] [.int .i64 1, .int .i64 2, .int .i64 2] 3 En923 (by kernel_rfl) (by kernel_rfl) rfl ?_
        intro ac925 En926
        refine from_end (by kernel_rfl) ?_
        refine then_normal ?_
        refine loop_once ?_
        refine wp_seq ?_
        refine wp_seq ?_
        refine region_from ?_
        refine d_pures [(2, pt bk1), (3, pt bk6), (4, pt bk11), (5, pt bk16), (6, ni i), (8, .int .i64 2), (9, pt bk589), (10, .int .i64 ((8 + k1 : Nat) : Int)), (11, .int .i64 ((9 + k2 : Nat) : Int)), (12, ni k3), (43, .bool false)] [.int .i64 2, .bool false] 2 En926 (by kernel_rfl) (by kernel_rfl) rfl ?_
        intro ac927 En928
        refine from_end (by kernel_rfl) ?_
        refine then_normal ?_
        refine cond_false En928 (t := false) (by kernel_rfl) rfl ?_
        refine wp_exit ?_
        refine then_exit ?_
        refine then_exit ?_
        refine block_exit ?_
        refine then_normal ?_
        refine wp_seq ?_
        refine region_from ?_
        refine from_op (by kernel_rfl) ?_
        refine op_alloc (d := some 13) (T := 59) (x := .tuple #[]) (z := .agg (List.toArray (u64s (List.replicate 9 0)))) (cs := u64s (List.replicate 9 0)) En928 (by kernel_rfl) (by kernel_rfl) (by kernel_rfl) Hv924 ?_
        intro ac930 wo931 bk929 En932 Hv933
        refine from_end (by kernel_rfl) ?_
        refine then_normal ?_
        refine wp_seq ?_
        refine wp_seq ?_
        refine region_from ?_
        refine d_pures [(2, pt bk1), (3, pt bk6), (4, pt bk11), (5, pt bk16), (6, ni i), (8, .int .i64 2), (9, pt bk589), (10, .int .i64 ((8 + k1 : Nat) : Int)), (11, .int .i64 ((9 + k2 : Nat) : Int)), (12, ni k3), (13, pt bk929), (14, .int .i64 0)] [.int .i64 0] 1 En932 (by kernel_rfl) (by kernel_rfl) rfl ?_
        intro ac934 En935
        refine from_end (by kernel_rfl) ?_
        refine then_normal ?_
        refine wp_block ?_
        refine loop_m (fun ms936 ac wo => ∃ (i6 : Nat) (o : List UInt64), ms936 = (9 - i6 : Nat) ∧ Env ac 104 [(2, pt bk1), (3, pt bk6), (4, pt bk11), (5, pt bk16), (6, ni i), (8, .int .i64 2), (9, pt bk589), (10, .int .i64 ((8 + k1 : Nat) : Int)), (11, .int .i64 ((9 + k2 : Nat) : Int)), (12, ni k3), (13, pt bk929), (14, ni i6)] ∧ Ev w [] wo [.box bk929 (u64s o) 59, .box bk16 (u64s (turnF (turnF (carryF (prodF a r 9) 17)))) 68, .box bk589 (u64s (high (turnF (carryF (prodF a r 9) 17)))) 68, .box bk1 (u64s a) 59, .box bk6 (u64s r) 58, .box bk11 (u64s (List.replicate 9 0)) 59] ∧ (i6 ≤ 9) ∧ (List.length o = 9) ∧ (o = outF (turnF (turnF (carryF (prodF a r 9) 17))) i6)) ⟨_, 0, List.replicate 9 0, rfl, En935.sub (by kernel_rfl), Hv933.pick [5, 0, 1, 2, 3, 4] (by kernel_rfl) (by decide), by omega, (List.length_replicate), rfl⟩ ?_
        rintro mm942 ac938 wo939 ⟨i6, o, rfl, En940, Hv941, hio, hlo, heo⟩
        refine wp_seq ?_
        refine wp_seq ?_
        refine region_from ?_
        refine d_pures [(2, pt bk1), (3, pt bk6), (4, pt bk11), (5, pt bk16), (6, ni i), (8, .int .i64 2), (9, pt bk589), (10, .int .i64 ((8 + k1 : Nat) : Int)), (11, .int .i64 ((9 + k2 : Nat) : Int)), (12, ni k3), (13, pt bk929), (14, ni i6), (95, .bool (decide (((i6 : Nat) : Int) < (9 : Int))))] [ni i6, .bool (decide (((i6 : Nat) : Int) < (9 : Int)))] 2 En940 (by kernel_rfl) (by kernel_rfl) rfl ?_
        intro ac943 En944
        refine from_end (by kernel_rfl) ?_
        refine then_normal ?_
        refine cond_at En944 (t := decide (((i6 : Nat) : Int) < (9 : Int))) (by kernel_rfl) (fun hc945 => ?_) (fun hc945 => ?_)
        ·
         replace hc945 : ((i6 : Nat) : Int) < (9 : Int) := of_decide_eq_true hc945
         refine wp_skip ?_
         refine then_normal ?_
         refine wp_seq ?_
         refine wp_block ?_
         refine region_from ?_
         refine d_pures [(2, pt bk1), (3, pt bk6), (4, pt bk11), (5, pt bk16), (6, ni i), (8, .int .i64 2), (9, pt bk589), (10, .int .i64 ((8 + k1 : Nat) : Int)), (11, .int .i64 ((9 + k2 : Nat) : Int)), (12, ni k3), (13, pt bk929), (14, ni i6), (98, ni i6), (99, ni i6)] [ni i6, ni i6] 2 En944 (by kernel_rfl) (by kernel_rfl) rfl ?_
         intro ac946 En947
         refine from_op (by kernel_rfl) ?_
         refine op_val (d := some 100) (x := Instr.indexAt 68 (pt bk16) (ni i6)) (v := .pointer (some ⟨bk16, i6, none⟩)) En947 (by kernel_rfl) (Go.Dbr.run_indexarr (e := 49) (sz := 1) (m := 18) (j := i6) (o := i6) (by kernel_rfl) (by kernel_rfl) (by omega) (by omega) (by omega) _) ?_
         intro ac948 En949
         refine from_op (by kernel_rfl) ?_
         have hb950 : i6 < List.length (turnF (turnF (carryF (prodF a r 9) 17))) := by rw [(turnF_len (turnF_len (carryF_len (prodF_len _ _ _) _)))]; omega
         refine op_loadbox (d := some 101) (t := 49) (b := bk16) (off := i6) (k := 1) (v := .int .u64 ((UInt64.toNat (List.getD (turnF (turnF (carryF (prodF a r 9) 17))) i6 0) : Nat) : Int)) En949 (by kernel_rfl) Hv941 rfl (u64s_getD hb950) (by kernel_rfl) ?_
         intro ac951 En952
         refine from_op (by kernel_rfl) ?_
         refine op_val (d := some 102) (x := Instr.indexAt 59 (pt bk929) (ni i6)) (v := .pointer (some ⟨bk929, i6, none⟩)) En952 (by kernel_rfl) (Go.Dbr.run_indexarr (e := 49) (sz := 1) (m := 9) (j := i6) (o := i6) (by kernel_rfl) (by kernel_rfl) (by omega) (by omega) (by omega) _) ?_
         intro ac953 En954
         refine from_op (by kernel_rfl) ?_
         have hb955 : i6 < List.length o := by rw [hlo]; omega
         refine op_storebox2 (d := none) (t := 49) (b := bk929) (off := i6) (k := 0) (v := .int .u64 ((UInt64.toNat (List.getD (turnF (turnF (carryF (prodF a r 9) 17))) i6 0) : Nat) : Int)) En954 (by kernel_rfl) Hv941 rfl (u64s_getD hb955) (by kernel_rfl) rfl (u64s_set _ _ _) (L' := [.box bk929 (u64s (List.set o i6 (List.getD (turnF (turnF (carryF (prodF a r 9) 17))) i6 0))) 59, .box bk16 (u64s (turnF (turnF (carryF (prodF a r 9) 17)))) 68, .box bk589 (u64s (high (turnF (carryF (prodF a r 9) 17)))) 68, .box bk1 (u64s a) 59, .box bk6 (u64s r) 58, .box bk11 (u64s (List.replicate 9 0)) 59]) rfl ?_
         intro ac956 wo957  En958 Hv959
         refine from_end (by kernel_rfl) ?_
         refine block_normal ?_
         refine then_normal ?_
         refine region_from ?_
         refine d_pures [(2, pt bk1), (3, pt bk6), (4, pt bk11), (5, pt bk16), (6, ni i), (8, .int .i64 2), (9, pt bk589), (10, .int .i64 ((8 + k1 : Nat) : Int)), (11, .int .i64 ((9 + k2 : Nat) : Int)), (12, ni k3), (13, pt bk929), (14, ni i6), (97, .int .i64 (IntKind.wrap .i64 (((i6 : Nat) : Int) + (1 : Int))))] [ni i6, .int .i64 (IntKind.wrap .i64 (((i6 : Nat) : Int) + (1 : Int)))] 2 En958 (by kernel_rfl) (by kernel_rfl) rfl ?_
         intro ac960 En961
         rw [Go.Dbr.wr64 (e := ((i6 : Nat) : Int) + (1 : Int)) (x := ((i6 + 1 : Nat) : Int)) (by omega) (by omega) (by omega)] at En961
         refine d_pures [(2, pt bk1), (3, pt bk6), (4, pt bk11), (5, pt bk16), (6, ni i), (8, .int .i64 2), (9, pt bk589), (10, .int .i64 ((8 + k1 : Nat) : Int)), (11, .int .i64 ((9 + k2 : Nat) : Int)), (12, ni k3), (13, pt bk929), (14, .int .i64 ((i6 + 1 : Nat) : Int))] [.int .i64 ((i6 + 1 : Nat) : Int)] 3 En961 (by kernel_rfl) (by kernel_rfl) rfl ?_
         intro ac962 En963
         refine from_end (by kernel_rfl) ?_
         refine then_normal ?_
         refine ⟨_, ⟨i6 + 1, (List.set o i6 (List.getD (turnF (turnF (carryF (prodF a r 9) 17))) i6 0)), rfl, En963.sub (by kernel_rfl), Hv959.pick [0, 1, 2, 3, 4, 5] (by kernel_rfl) (by decide), by omega, (List.length_set.trans hlo), by first | (rw [heo]; rfl) | (rw [heo, hc2]; rfl) | rfl⟩, ?_⟩
         omega
        ·
         replace hc945 : ¬ (((i6 : Nat) : Int) < (9 : Int)) := of_decide_eq_false hc945
         refine wp_exit ?_
         refine then_exit ?_
         refine then_exit ?_
         refine block_exit ?_
         refine then_normal ?_
         refine wp_seq ?_
         have hno : i6 = 9 := by omega
         have hfo : o = productF a r := by rw [heo, hno] <;> rfl
         rw [show o = (productF a r) from hfo] at Hv941
         refine region_from ?_
         refine from_op (by kernel_rfl) ?_
         refine op_loadaggbox (d := some 103) (t := 59) (b := bk929) (off := 0) (k := 0) (m := 9) (xs := u64s (productF a r)) En944 (by kernel_rfl) Hv941 rfl (load_whole (u64s_lenh (productF_len a r))) (u64s_lenh (productF_len a r)) (by kernel_rfl) (by kernel_rfl) ?_
         intro ac964 En965
         refine from_op (by kernel_rfl) ?_
         refine op_storeaggbox (d := none) (t := 59) (b := bk11) (off := 0) (k := 5) (m := 9) (xs := u64s (productF a r)) (v := .agg (List.toArray (u64s (productF a r)))) (cs' := u64s (productF a r)) En965 (by kernel_rfl) Hv941 rfl rfl (u64s_lenh (productF_len a r)) (by rw [(u64s_lenh (List.length_replicate))]; decide) (by kernel_rfl) (u64s_one _) (store_whole (u64s_lenh (List.length_replicate))) (L' := [.box bk929 (u64s (productF a r)) 59, .box bk16 (u64s (turnF (turnF (carryF (prodF a r 9) 17)))) 68, .box bk589 (u64s (high (turnF (carryF (prodF a r 9) 17)))) 68, .box bk1 (u64s a) 59, .box bk6 (u64s r) 58, .box bk11 (u64s (productF a r)) 59]) rfl ?_
         intro ac966 wo967  En968 Hv969
         refine from_end (by kernel_rfl) ?_
         refine then_normal ?_
         refine wp_ret ?_
         refine d_cell1 (v := .agg (List.toArray (u64s (productF a r)))) (t := 4) (T := 59) (ad := ⟨bk11, 0, none⟩) En968 (by kernel_rfl) (by kernel_rfl) (Ev.cellAgg (t := 59) (k := 5) (off := 0) (m := 9) (xs := u64s (productF a r)) Hv969 rfl (load_whole (u64s_lenh (productF_len a r))) (u64s_lenh (productF_len a r)) (by kernel_rfl) (by kernel_rfl)) ?_
         exact ⟨rfl, Hv969.pick [] (by kernel_rfl) (by decide)⟩

end Go.Proofs.Ytnahplggflhdaaa
