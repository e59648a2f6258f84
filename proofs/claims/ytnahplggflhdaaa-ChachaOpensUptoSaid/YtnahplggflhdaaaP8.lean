/- Layer 9: the code of a text, by the document: the walk. -/
import Derived.Test.YtnahplggflhdaaaP6
import Derived.Test.YtnahplggflhdaaaP7
namespace Go.Proofs.Ytnahplggflhdaaa
open Go.Dbr
set_option maxRecDepth 100000
set_option maxHeartbeats 2000000
set_option linter.unusedVariables false
set_option linter.unusedSimpArgs false

theorem ended_ref (w : World) (a : List UInt64) (ha : List.length a = 9) (hda : ∀ j, UInt64.toNat (List.getD a j 0) < 65536) (hba : dv B16 a < 4 * 1361129467683753853853498429727072845819) : Calls Try.prog 29 #[.agg (List.toArray (u64s a))] w fun e w' => ∃ l', e = .returned (.agg (List.toArray (u64s l'))) ∧ Ev w [] w' [] ∧ List.length l' = 9 ∧ (∀ j, UInt64.toNat (List.getD l' j 0) < 65536) ∧ dv B16 l' = dv B16 a % 1361129467683753853853498429727072845819 := by
 refine d_start [(0, .agg (List.toArray (u64s a)))] 41 Go.Proofs.Try.func29 Go.Proofs.Try.ntmps29 rfl (by kernel_rfl) (by kernel_rfl) ?_
 intro act0 En0
 have Hv0 : Ev w [] w [] := Ev.refl (Heap.nil _)
 refine wp_seq ?_
 refine region_from ?_
 refine from_op (by kernel_rfl) ?_
 refine op_newbox (d := some 1) (T := 59) (v := .agg (List.toArray (u64s a))) (cs := u64s a) En0 (by kernel_rfl) rfl Hv0 ?_
 intro ac2 wo3 bk1 En4 Hv5
 refine from_op (by kernel_rfl) ?_
 refine op_alloc (d := some 2) (T := 59) (x := .tuple #[]) (z := .agg (List.toArray (u64s (List.replicate 9 0)))) (cs := u64s (List.replicate 9 0)) En4 (by kernel_rfl) (by kernel_rfl) (by kernel_rfl) Hv5 ?_
 intro ac7 wo8 bk6 En9 Hv10
 refine from_end (by kernel_rfl) ?_
 refine then_normal ?_
 refine wp_seq ?_
 refine wp_seq ?_
 refine region_from ?_
 refine d_pures [(1, pt bk1), (2, pt bk6), (3, .int .i64 0)] [.int .i64 0] 1 En9 (by kernel_rfl) (by kernel_rfl) rfl ?_
 intro ac11 En12
 refine from_end (by kernel_rfl) ?_
 refine then_normal ?_
 refine wp_block ?_
 refine loop_m (fun ms13 ac wo => ∃ (t : Nat) (v : List UInt64), ms13 = (4 - t : Nat) ∧ Env ac 41 [(1, pt bk1), (2, pt bk6), (3, ni t)] ∧ Ev w [] wo [.box bk1 (u64s v) 59, .box bk6 (u64s (List.replicate 9 0)) 59] ∧ (List.length v = 9) ∧ (∀ j, UInt64.toNat (List.getD v j 0) < 65536) ∧ (dv B16 v % 1361129467683753853853498429727072845819 = dv B16 a % 1361129467683753853853498429727072845819) ∧ (dv B16 v + 1361129467683753853853498429727072845819 * t < 4 * 1361129467683753853853498429727072845819)) ⟨_, 0, a, rfl, En12.sub (by kernel_rfl), Hv10.pick [0, 1] (by kernel_rfl) (by decide), ha, hda, rfl, by omega⟩ ?_
 rintro mm19 ac15 wo16 ⟨t, v, rfl, En17, Hv18, hl, hd, hm, hb⟩
 refine wp_seq ?_
 refine wp_seq ?_
 refine region_from ?_
 refine d_pures [(1, pt bk1), (2, pt bk6), (3, ni t), (9, .bool (decide (((t : Nat) : Int) < (4 : Int))))] [ni t, .bool (decide (((t : Nat) : Int) < (4 : Int)))] 2 En17 (by kernel_rfl) (by kernel_rfl) rfl ?_
 intro ac20 En21
 refine from_end (by kernel_rfl) ?_
 refine then_normal ?_
 refine cond_at En21 (t := decide (((t : Nat) : Int) < (4 : Int))) (by kernel_rfl) (fun hc22 => ?_) (fun hc22 => ?_)
 ·
  replace hc22 : ((t : Nat) : Int) < (4 : Int) := of_decide_eq_true hc22
  refine wp_skip ?_
  refine then_normal ?_
  refine wp_seq ?_
  refine wp_block ?_
  refine wp_seq ?_
  refine region_from ?_
  refine from_op (by kernel_rfl) ?_
  refine op_alloc (d := some 4) (T := 59) (x := .tuple #[]) (z := .agg (List.toArray (u64s (List.replicate 9 0)))) (cs := u64s (List.replicate 9 0)) En21 (by kernel_rfl) (by kernel_rfl) (by kernel_rfl) Hv18 ?_
  intro ac24 wo25 bk23 En26 Hv27
  refine from_end (by kernel_rfl) ?_
  refine then_normal ?_
  refine wp_seq ?_
  refine region_from ?_
  refine d_pures [(1, pt bk1), (2, pt bk6), (3, ni t), (4, pt bk23), (5, .int .u64 5)] [.int .u64 5] 1 En26 (by kernel_rfl) (by kernel_rfl) rfl ?_
  intro ac28 En29
  refine from_end (by kernel_rfl) ?_
  refine then_normal ?_
  refine wp_seq ?_
  refine wp_seq ?_
  refine region_from ?_
  refine d_pures [(1, pt bk1), (2, pt bk6), (3, ni t), (4, pt bk23), (5, .int .u64 5), (6, .int .i64 0)] [.int .i64 0] 1 En29 (by kernel_rfl) (by kernel_rfl) rfl ?_
  intro ac30 En31
  refine from_end (by kernel_rfl) ?_
  refine then_normal ?_
  refine wp_block ?_
  refine loop_m (fun ms32 ac wo => ∃ (i : Nat) (b : List UInt64) (cy : UInt64), ms32 = (9 - i : Nat) ∧ Env ac 41 [(1, pt bk1), (2, pt bk6), (3, ni t), (4, pt bk23), (5, uv64 cy), (6, ni i)] ∧ Ev w [] wo [.box bk23 (u64s b) 59, .box bk1 (u64s v) 59, .box bk6 (u64s (List.replicate 9 0)) 59] ∧ (i ≤ 9) ∧ (List.length b = 9) ∧ (b = (e5F v i).1) ∧ (cy = (e5F v i).2)) ⟨_, 0, List.replicate 9 0, 5, rfl, En31.sub (by kernel_rfl), Hv27.pick [2, 0, 1] (by kernel_rfl) (by decide), by omega, (List.length_replicate), rfl, rfl⟩ ?_
  rintro mm38 ac34 wo35 ⟨i, b, cy, rfl, En36, Hv37, hi, hlb, heb, hec⟩
  refine wp_seq ?_
  refine wp_seq ?_
  refine region_from ?_
  refine d_pures [(1, pt bk1), (2, pt bk6), (3, ni t), (4, pt bk23), (5, uv64 cy), (6, ni i), (13, .bool (decide (((i : Nat) : Int) < (9 : Int))))] [ni i, .bool (decide (((i : Nat) : Int) < (9 : Int)))] 2 En36 (by kernel_rfl) (by kernel_rfl) rfl ?_
  intro ac39 En40
  refine from_end (by kernel_rfl) ?_
  refine then_normal ?_
  refine cond_at En40 (t := decide (((i : Nat) : Int) < (9 : Int))) (by kernel_rfl) (fun hc41 => ?_) (fun hc41 => ?_)
  ·
   replace hc41 : ((i : Nat) : Int) < (9 : Int) := of_decide_eq_true hc41
   refine wp_skip ?_
   refine then_normal ?_
   refine wp_seq ?_
   refine wp_block ?_
   refine wp_seq ?_
   refine region_from ?_
   refine d_pures [(1, pt bk1), (2, pt bk6), (3, ni t), (4, pt bk23), (5, uv64 cy), (6, ni i), (16, ni i)] [ni i] 1 En40 (by kernel_rfl) (by kernel_rfl) rfl ?_
   intro ac42 En43
   refine from_op (by kernel_rfl) ?_
   refine op_val (d := some 17) (x := Instr.indexAt 59 (pt bk1) (ni i)) (v := .pointer (some ⟨bk1, i, none⟩)) En43 (by kernel_rfl) (Go.Dbr.run_indexarr (e := 49) (sz := 1) (m := 9) (j := i) (o := i) (by kernel_rfl) (by kernel_rfl) (by omega) (by omega) (by omega) _) ?_
   intro ac44 En45
   refine from_op (by kernel_rfl) ?_
   have hb46 : i < List.length v := by rw [hl]; omega
   refine op_loadbox (d := some 18) (t := 49) (b := bk1) (off := i) (k := 1) (v := .int .u64 ((UInt64.toNat (List.getD v i 0) : Nat) : Int)) En45 (by kernel_rfl) Hv37 rfl (u64s_getD hb46) (by kernel_rfl) ?_
   intro ac47 En48
   refine d_pures [(1, pt bk1), (2, pt bk6), (3, ni t), (4, pt bk23), (5, uv64 cy), (6, ni i), (20, .int .u64 (IntKind.wrap .u64 (((UInt64.toNat (List.getD v i 0) : Nat) : Int) + ((UInt64.toNat cy : Nat) : Int))))] [uv64 cy, .int .u64 (IntKind.wrap .u64 (((UInt64.toNat (List.getD v i 0) : Nat) : Int) + ((UInt64.toNat cy : Nat) : Int)))] 5 En48 (by kernel_rfl) (by kernel_rfl) rfl ?_
   intro ac49 En50
   rw [Go.Dbr.u64_add (a := ((UInt64.toNat (List.getD v i 0) : Nat) : Int)) (b := ((UInt64.toNat cy : Nat) : Int)) (x := List.getD v i 0) (y := cy) rfl rfl] at En50
   refine d_pures [(1, pt bk1), (2, pt bk6), (3, ni t), (4, pt bk23), (5, uv64 cy), (6, ni i), (7, .int .u64 ((UInt64.toNat ((List.getD v i 0) + cy) : Nat) : Int))] [.int .u64 ((UInt64.toNat ((List.getD v i 0) + cy) : Nat) : Int)] 6 En50 (by kernel_rfl) (by kernel_rfl) rfl ?_
   intro ac51 En52
   refine from_end (by kernel_rfl) ?_
   refine then_normal ?_
   refine wp_seq ?_
   refine region_from ?_
   refine d_pures [(1, pt bk1), (2, pt bk6), (3, ni t), (4, pt bk23), (5, uv64 cy), (6, ni i), (7, .int .u64 ((UInt64.toNat ((List.getD v i 0) + cy) : Nat) : Int)), (21, ni i), (23, .int .u64 (IntKind.wrap .u64 ((BitVec.ofInt (IntKind.bits .u64) ((UInt64.toNat ((List.getD v i 0) + cy) : Nat) : Int) &&& BitVec.ofInt (IntKind.bits .u64) (65535 : Int)).toNat : Int)))] [ni i, .int .u64 ((UInt64.toNat ((List.getD v i 0) + cy) : Nat) : Int), .int .u64 (IntKind.wrap .u64 ((BitVec.ofInt (IntKind.bits .u64) ((UInt64.toNat ((List.getD v i 0) + cy) : Nat) : Int) &&& BitVec.ofInt (IntKind.bits .u64) (65535 : Int)).toNat : Int))] 3 En52 (by kernel_rfl) (by kernel_rfl) rfl ?_
   intro ac53 En54
   rw [Go.Dbr.u64_and (a := ((UInt64.toNat ((List.getD v i 0) + cy) : Nat) : Int)) (b := (65535 : Int)) (x := (List.getD v i 0) + cy) (y := (65535 : UInt64)) rfl rfl] at En54
   refine from_op (by kernel_rfl) ?_
   refine op_val (d := some 24) (x := Instr.indexAt 59 (pt bk23) (ni i)) (v := .pointer (some ⟨bk23, i, none⟩)) En54 (by kernel_rfl) (Go.Dbr.run_indexarr (e := 49) (sz := 1) (m := 9) (j := i) (o := i) (by kernel_rfl) (by kernel_rfl) (by omega) (by omega) (by omega) _) ?_
   intro ac55 En56
   refine from_op (by kernel_rfl) ?_
   have hb57 : i < List.length b := by rw [hlb]; omega
   refine op_storebox2 (d := none) (t := 49) (b := bk23) (off := i) (k := 0) (v := .int .u64 ((UInt64.toNat (((List.getD v i 0) + cy) &&& (65535 : UInt64)) : Nat) : Int)) En56 (by kernel_rfl) Hv37 rfl (u64s_getD hb57) (by kernel_rfl) rfl (u64s_set _ _ _) (L' := [.box bk23 (u64s (List.set b i (((List.getD v i 0) + cy) &&& (65535 : UInt64)))) 59, .box bk1 (u64s v) 59, .box bk6 (u64s (List.replicate 9 0)) 59]) rfl ?_
   intro ac58 wo59  En60 Hv61
   refine from_end (by kernel_rfl) ?_
   refine then_normal ?_
   refine region_from ?_
   refine d_pures [(1, pt bk1), (2, pt bk6), (3, ni t), (4, pt bk23), (5, uv64 cy), (6, ni i), (7, .int .u64 ((UInt64.toNat ((List.getD v i 0) + cy) : Nat) : Int)), (26, .int .u64 (Int.fdiv ((UInt64.toNat ((List.getD v i 0) + cy) : Nat) : Int) (2 ^ 16)))] [.int .u64 ((UInt64.toNat ((List.getD v i 0) + cy) : Nat) : Int), .int .u64 (Int.fdiv ((UInt64.toNat ((List.getD v i 0) + cy) : Nat) : Int) (2 ^ 16))] 2 En60 (by kernel_rfl) (by kernel_rfl) rfl ?_
   intro ac62 En63
   rw [Go.Dbr.u64_shr (a := ((UInt64.toNat ((List.getD v i 0) + cy) : Nat) : Int)) (x := (List.getD v i 0) + cy) (n := 16) rfl (by decide)] at En63
   refine d_pures [(1, pt bk1), (2, pt bk6), (3, ni t), (4, pt bk23), (5, .int .u64 ((UInt64.toNat (((List.getD v i 0) + cy) >>> UInt64.ofNat 16) : Nat) : Int)), (6, ni i), (7, .int .u64 ((UInt64.toNat ((List.getD v i 0) + cy) : Nat) : Int))] [.int .u64 ((UInt64.toNat (((List.getD v i 0) + cy) >>> UInt64.ofNat 16) : Nat) : Int)] 3 En63 (by kernel_rfl) (by kernel_rfl) rfl ?_
   intro ac64 En65
   refine from_end (by kernel_rfl) ?_
   refine block_normal ?_
   refine then_normal ?_
   refine region_from ?_
   refine d_pures [(1, pt bk1), (2, pt bk6), (3, ni t), (4, pt bk23), (5, .int .u64 ((UInt64.toNat (((List.getD v i 0) + cy) >>> UInt64.ofNat 16) : Nat) : Int)), (6, ni i), (7, .int .u64 ((UInt64.toNat ((List.getD v i 0) + cy) : Nat) : Int)), (15, .int .i64 (IntKind.wrap .i64 (((i : Nat) : Int) + (1 : Int))))] [ni i, .int .i64 (IntKind.wrap .i64 (((i : Nat) : Int) + (1 : Int)))] 2 En65 (by kernel_rfl) (by kernel_rfl) rfl ?_
   intro ac66 En67
   rw [Go.Dbr.wr64 (e := ((i : Nat) : Int) + (1 : Int)) (x := ((i + 1 : Nat) : Int)) (by omega) (by omega) (by omega)] at En67
   refine d_pures [(1, pt bk1), (2, pt bk6), (3, ni t), (4, pt bk23), (5, .int .u64 ((UInt64.toNat (((List.getD v i 0) + cy) >>> UInt64.ofNat 16) : Nat) : Int)), (6, .int .i64 ((i + 1 : Nat) : Int)), (7, .int .u64 ((UInt64.toNat ((List.getD v i 0) + cy) : Nat) : Int))] [.int .i64 ((i + 1 : Nat) : Int)] 3 En67 (by kernel_rfl) (by kernel_rfl) rfl ?_
   intro ac68 En69
   refine from_end (by kernel_rfl) ?_
   refine then_normal ?_
   refine ⟨_, ⟨i + 1, (List.set b i (((List.getD v i 0) + cy) &&& (65535 : UInt64))), (((List.getD v i 0) + cy) >>> UInt64.ofNat 16), rfl, En69.sub (by kernel_rfl), Hv61.pick [0, 1, 2] (by kernel_rfl) (by decide), by omega, (List.length_set.trans hlb), by rw [heb, hec]; rfl, by rw [hec]; rfl⟩, ?_⟩
   omega
  ·
   replace hc41 : ¬ (((i : Nat) : Int) < (9 : Int)) := of_decide_eq_false hc41
   refine wp_exit ?_
   refine then_exit ?_
   refine then_exit ?_
   refine block_exit ?_
   refine then_normal ?_
   refine wp_seq ?_
   refine wp_seq ?_
   have hi9 : i = 9 := by omega
   rw [hi9] at heb hec
   obtain ⟨hE1, hE2, hE3⟩ := ended_val hl hd (by omega)
   have hcz : UInt64.toNat cy = 0 := by rw [hec]; exact hE1
   rw [← heb] at hE2 hE3
   refine region_from ?_
   refine from_op (by kernel_rfl) ?_
   refine op_val (d := some 27) (x := Instr.indexAt 59 (pt bk23) (.int .i64 8)) (v := .pointer (some ⟨bk23, 8, none⟩)) En40 (by kernel_rfl) (Go.Dbr.run_indexarr (e := 49) (sz := 1) (m := 9) (j := 8) (o := 8) (by kernel_rfl) (by kernel_rfl) (by omega) (by omega) (by omega) _) ?_
   intro ac70 En71
   refine from_op (by kernel_rfl) ?_
   have hb72 : 8 < List.length b := by rw [hlb]; omega
   refine op_loadbox (d := some 28) (t := 49) (b := bk23) (off := 8) (k := 0) (v := .int .u64 ((UInt64.toNat (List.getD b 8 0) : Nat) : Int)) En71 (by kernel_rfl) Hv37 rfl (u64s_getD hb72) (by kernel_rfl) ?_
   intro ac73 En74
   refine d_pures [(1, pt bk1), (2, pt bk6), (3, ni t), (4, pt bk23), (5, uv64 cy), (6, ni i), (30, .bool (decide (((UInt64.toNat (List.getD b 8 0) : Nat) : Int) < (4 : Int))))] [.bool (decide (((UInt64.toNat (List.getD b 8 0) : Nat) : Int) < (4 : Int))), .bool (decide (((UInt64.toNat (List.getD b 8 0) : Nat) : Int) < (4 : Int)))] 4 En74 (by kernel_rfl) (by kernel_rfl) rfl ?_
   intro ac75 En76
   rcases Bool.eq_false_or_eq_true (decide (((UInt64.toNat (List.getD b 8 0) : Nat) : Int) < (4 : Int))) with hb77 | hb77
   ·
    rw [hb77] at En76
    have hp78 : ((UInt64.toNat (List.getD b 8 0) : Nat) : Int) < (4 : Int) := of_decide_eq_true hb77
    refine d_pures [(1, pt bk1), (2, pt bk6), (3, ni t), (4, pt bk23), (5, uv64 cy), (6, ni i), (30, .bool true), (32, .bool (((UInt64.toNat cy : Nat) : Int) == (0 : Int)))] [uv64 cy, .bool (((UInt64.toNat cy : Nat) : Int) == (0 : Int))] 6 En76 (by kernel_rfl) (by kernel_rfl) rfl ?_
    intro ac79 En80
    rw [show (((UInt64.toNat cy : Nat) : Int) == (0 : Int)) = true from by rw [hcz]; rfl] at En80
    refine d_pures [(1, pt bk1), (2, pt bk6), (3, ni t), (4, pt bk23), (5, uv64 cy), (6, ni i), (33, .bool true)] [.bool true] 7 En80 (by kernel_rfl) (by kernel_rfl) rfl ?_
    intro ac81 En82
    refine from_end (by kernel_rfl) ?_
    refine then_normal ?_
    refine cond_true En82 (t := true) (by kernel_rfl) rfl ?_
    refine wp_seq ?_
    refine region_from ?_
    refine from_op (by kernel_rfl) ?_
    refine op_loadaggbox (d := some 34) (t := 59) (b := bk1) (off := 0) (k := 1) (m := 9) (xs := u64s v) En82 (by kernel_rfl) Hv37 rfl (load_whole (u64s_lenh hl)) (u64s_lenh hl) (by kernel_rfl) (by kernel_rfl) ?_
    intro ac83 En84
    refine from_op (by kernel_rfl) ?_
    refine op_storeaggbox (d := none) (t := 59) (b := bk6) (off := 0) (k := 2) (m := 9) (xs := u64s v) (v := .agg (List.toArray (u64s v))) (cs' := u64s v) En84 (by kernel_rfl) Hv37 rfl rfl (u64s_lenh hl) (by rw [(u64s_lenh (List.length_replicate))]; decide) (by kernel_rfl) (u64s_one _) (store_whole (u64s_lenh (List.length_replicate))) (L' := [.box bk23 (u64s b) 59, .box bk1 (u64s v) 59, .box bk6 (u64s v) 59]) rfl ?_
    intro ac85 wo86  En87 Hv88
    refine from_end (by kernel_rfl) ?_
    refine then_normal ?_
    refine wp_ret ?_
    refine then_ret ?_
    refine block_ret ?_
    refine then_ret ?_
    refine then_ret ?_
    refine block_ret ?_
    refine then_ret ?_
    refine d_cell1 (v := .agg (List.toArray (u64s v))) (t := 2) (T := 59) (ad := ⟨bk6, 0, none⟩) En87 (by kernel_rfl) (by kernel_rfl) (Ev.cellAgg (t := 59) (k := 2) (off := 0) (m := 9) (xs := u64s v) Hv88 rfl (load_whole (u64s_lenh hl)) (u64s_lenh hl) (by kernel_rfl) (by kernel_rfl)) ?_
    have hlt : dv B16 v < 1361129467683753853853498429727072845819 := by omega
    exact ⟨_, rfl, Hv88.pick [] (by kernel_rfl) (by decide), hl, hd, by rw [← hm, Nat.mod_eq_of_lt hlt]⟩
   ·
    rw [hb77] at En76
    have hp89 : ¬ (((UInt64.toNat (List.getD b 8 0) : Nat) : Int) < (4 : Int)) := of_decide_eq_false hb77
    refine d_pures [(1, pt bk1), (2, pt bk6), (3, ni t), (4, pt bk23), (5, uv64 cy), (6, ni i), (33, .bool false)] [undef, undef, .bool false] 7 En76 (by kernel_rfl) (by kernel_rfl) rfl ?_
    intro ac90 En91
    refine from_end (by kernel_rfl) ?_
    refine then_normal ?_
    refine cond_false En91 (t := false) (by kernel_rfl) rfl ?_
    refine wp_skip ?_
    refine then_normal ?_
    refine wp_seq ?_
    refine region_from ?_
    refine from_op (by kernel_rfl) ?_
    refine op_val (d := some 35) (x := Instr.indexAt 59 (pt bk23) (.int .i64 8)) (v := .pointer (some ⟨bk23, 8, none⟩)) En91 (by kernel_rfl) (Go.Dbr.run_indexarr (e := 49) (sz := 1) (m := 9) (j := 8) (o := 8) (by kernel_rfl) (by kernel_rfl) (by omega) (by omega) (by omega) _) ?_
    intro ac92 En93
    refine from_op (by kernel_rfl) ?_
    have hb94 : 8 < List.length b := by rw [hlb]; omega
    refine op_loadbox (d := some 36) (t := 49) (b := bk23) (off := 8) (k := 0) (v := .int .u64 ((UInt64.toNat (List.getD b 8 0) : Nat) : Int)) En93 (by kernel_rfl) Hv37 rfl (u64s_getD hb94) (by kernel_rfl) ?_
    intro ac95 En96
    refine d_pures [(1, pt bk1), (2, pt bk6), (3, ni t), (4, pt bk23), (5, uv64 cy), (6, ni i), (37, .int .u64 (IntKind.wrap .u64 (((UInt64.toNat (List.getD b 8 0) : Nat) : Int) - (4 : Int))))] [.int .u64 (IntKind.wrap .u64 (((UInt64.toNat (List.getD b 8 0) : Nat) : Int) - (4 : Int)))] 3 En96 (by kernel_rfl) (by kernel_rfl) rfl ?_
    intro ac97 En98
    rw [Go.Dbr.u64_sub (a := ((UInt64.toNat (List.getD b 8 0) : Nat) : Int)) (b := (4 : Int)) (x := List.getD b 8 0) (y := (4 : UInt64)) rfl rfl] at En98
    refine from_op (by kernel_rfl) ?_
    refine op_val (d := some 38) (x := Instr.indexAt 59 (pt bk23) (.int .i64 8)) (v := .pointer (some ⟨bk23, 8, none⟩)) En98 (by kernel_rfl) (Go.Dbr.run_indexarr (e := 49) (sz := 1) (m := 9) (j := 8) (o := 8) (by kernel_rfl) (by kernel_rfl) (by omega) (by omega) (by omega) _) ?_
    intro ac99 En100
    refine from_op (by kernel_rfl) ?_
    have hb101 : 8 < List.length b := by rw [hlb]; omega
    refine op_storebox2 (d := none) (t := 49) (b := bk23) (off := 8) (k := 0) (v := .int .u64 ((UInt64.toNat ((List.getD b 8 0) - (4 : UInt64)) : Nat) : Int)) En100 (by kernel_rfl) Hv37 rfl (u64s_getD hb101) (by kernel_rfl) rfl (u64s_set _ _ _) (L' := [.box bk23 (u64s (List.set b 8 ((List.getD b 8 0) - (4 : UInt64)))) 59, .box bk1 (u64s v) 59, .box bk6 (u64s (List.replicate 9 0)) 59]) rfl ?_
    intro ac102 wo103  En104 Hv105
    refine from_end (by kernel_rfl) ?_
    refine then_normal ?_
    refine region_from ?_
    refine from_op (by kernel_rfl) ?_
    refine op_loadaggbox (d := some 39) (t := 59) (b := bk23) (off := 0) (k := 0) (m := 9) (xs := u64s (List.set b 8 ((List.getD b 8 0) - (4 : UInt64)))) En104 (by kernel_rfl) Hv105 rfl (load_whole (u64s_lenh (List.length_set.trans hlb))) (u64s_lenh (List.length_set.trans hlb)) (by kernel_rfl) (by kernel_rfl) ?_
    intro ac106 En107
    refine from_op (by kernel_rfl) ?_
    refine op_storeaggbox (d := none) (t := 59) (b := bk1) (off := 0) (k := 1) (m := 9) (xs := u64s (List.set b 8 ((List.getD b 8 0) - (4 : UInt64)))) (v := .agg (List.toArray (u64s (List.set b 8 ((List.getD b 8 0) - (4 : UInt64)))))) (cs' := u64s (List.set b 8 ((List.getD b 8 0) - (4 : UInt64)))) En107 (by kernel_rfl) Hv105 rfl rfl (u64s_lenh (List.length_set.trans hlb)) (by rw [(u64s_lenh hl)]; decide) (by kernel_rfl) (u64s_one _) (store_whole (u64s_lenh hl)) (L' := [.box bk23 (u64s (List.set b 8 ((List.getD b 8 0) - (4 : UInt64)))) 59, .box bk1 (u64s (List.set b 8 ((List.getD b 8 0) - (4 : UInt64)))) 59, .box bk6 (u64s (List.replicate 9 0)) 59]) rfl ?_
    intro ac108 wo109  En110 Hv111
    refine from_end (by kernel_rfl) ?_
    refine block_normal ?_
    refine then_normal ?_
    refine region_from ?_
    refine d_pures [(1, pt bk1), (2, pt bk6), (3, ni t), (4, pt bk23), (5, uv64 cy), (6, ni i), (11, .int .i64 (IntKind.wrap .i64 (((t : Nat) : Int) + (1 : Int))))] [ni t, .int .i64 (IntKind.wrap .i64 (((t : Nat) : Int) + (1 : Int)))] 2 En110 (by kernel_rfl) (by kernel_rfl) rfl ?_
    intro ac112 En113
    rw [Go.Dbr.wr64 (e := ((t : Nat) : Int) + (1 : Int)) (x := ((t + 1 : Nat) : Int)) (by omega) (by omega) (by omega)] at En113
    refine d_pures [(1, pt bk1), (2, pt bk6), (3, .int .i64 ((t + 1 : Nat) : Int)), (4, pt bk23), (5, uv64 cy), (6, ni i)] [.int .i64 ((t + 1 : Nat) : Int)] 3 En113 (by kernel_rfl) (by kernel_rfl) rfl ?_
    intro ac114 En115
    refine from_end (by kernel_rfl) ?_
    refine then_normal ?_
    have hge : 1361129467683753853853498429727072845819 ≤ dv B16 v := by omega
    obtain ⟨hsv, hsd⟩ := hE3 hge
    refine ⟨_, ⟨t + 1, (List.set b 8 ((List.getD b 8 0) - (4 : UInt64))), rfl, En115.sub (by kernel_rfl), Hv111.pick [1, 2] (by kernel_rfl) (by decide), (List.length_set.trans hlb), hsd, by omega, by omega⟩, ?_⟩
    omega
 ·
  replace hc22 : ¬ (((t : Nat) : Int) < (4 : Int)) := of_decide_eq_false hc22
  refine wp_exit ?_
  refine then_exit ?_
  refine then_exit ?_
  refine block_exit ?_
  refine then_normal ?_
  refine wp_seq ?_
  exfalso; omega

theorem poly_ref (w : World) (lk : List UInt8) (hk : List.length lk = 32) (ax : Option Addr) (nx cx : Nat) (lx : List UInt8) (ex : nx = List.length lx) (ix : InB w [] ax cx lx) : Calls Try.prog 14 #[.agg (List.toArray (bys lk)), .slice ax nx cx] w fun e w' => e = .returned (.agg (List.toArray (bys (polyF lk lx)))) ∧ Ev w [] w' [] := by
 subst ex
 have hs := ix.small
 have hcx := ix.cap
 refine d_start [(0, .agg (List.toArray (bys lk))), (1, .slice ax (List.length lx) cx)] 139 Go.Proofs.Try.func14 Go.Proofs.Try.ntmps14 rfl (by kernel_rfl) (by kernel_rfl) ?_
 intro act0 En0
 have Hv0 : Ev w [] w [] := Ev.refl (Heap.nil _)
 refine wp_seq ?_
 refine region_from ?_
 refine from_op (by kernel_rfl) ?_
 refine op_newbox (d := some 2) (T := 22) (v := .agg (List.toArray (bys lk))) (cs := bys lk) En0 (by kernel_rfl) rfl Hv0 ?_
 intro ac2 wo3 bk1 En4 Hv5
 refine from_op (by kernel_rfl) ?_
 refine op_alloc (d := some 4) (T := 31) (x := .tuple #[]) (z := .agg (List.toArray (bys (List.replicate 16 0)))) (cs := bys (List.replicate 16 0)) En4 (by kernel_rfl) (by kernel_rfl) (by kernel_rfl) Hv5 ?_
 intro ac7 wo8 bk6 En9 Hv10
 refine from_end (by kernel_rfl) ?_
 refine then_normal ?_
 refine wp_seq ?_
 refine region_from ?_
 refine from_op (by kernel_rfl) ?_
 refine op_alloc (d := some 5) (T := 58) (x := .tuple #[]) (z := .agg (List.toArray (u64s (List.replicate 8 0)))) (cs := u64s (List.replicate 8 0)) En9 (by kernel_rfl) (by kernel_rfl) (by kernel_rfl) Hv10 ?_
 intro ac12 wo13 bk11 En14 Hv15
 refine from_end (by kernel_rfl) ?_
 refine then_normal ?_
 refine wp_seq ?_
 refine wp_seq ?_
 refine region_from ?_
 refine d_pures [(1, .slice ax (List.length lx) cx), (2, pt bk1), (4, pt bk6), (5, pt bk11), (6, .int .i64 0)] [.int .i64 0] 1 En14 (by kernel_rfl) (by kernel_rfl) rfl ?_
 intro ac16 En17
 refine from_end (by kernel_rfl) ?_
 refine then_normal ?_
 refine wp_block ?_
 refine loop_m (fun ms18 ac wo => ∃ (i0 : Nat) (rd : List UInt64), ms18 = (16 - i0 : Nat) ∧ Env ac 139 [(1, .slice ax (List.length lx) cx), (2, pt bk1), (4, pt bk6), (5, pt bk11), (6, ni i0)] ∧ Ev w [] wo [.box bk11 (u64s rd) 58, .box bk1 (bys lk) 22, .box bk6 (bys (List.replicate 16 0)) 31] ∧ (i0 ≤ 16) ∧ (List.length rd = 8) ∧ (rd = rDF lk i0)) ⟨_, 0, List.replicate 8 0, rfl, En17.sub (by kernel_rfl), Hv15.pick [2, 0, 1] (by kernel_rfl) (by decide), by omega, (List.length_replicate), rfl⟩ ?_
 rintro mm24 ac20 wo21 ⟨i0, rd, rfl, En22, Hv23, hird, hlrd, herd⟩
 refine wp_seq ?_
 refine wp_seq ?_
 refine region_from ?_
 refine d_pures [(1, .slice ax (List.length lx) cx), (2, pt bk1), (4, pt bk6), (5, pt bk11), (6, ni i0), (17, .bool (decide (((i0 : Nat) : Int) < (16 : Int))))] [ni i0, .bool (decide (((i0 : Nat) : Int) < (16 : Int)))] 2 En22 (by kernel_rfl) (by kernel_rfl) rfl ?_
 intro ac25 En26
 refine from_end (by kernel_rfl) ?_
 refine then_normal ?_
 refine cond_at En26 (t := decide (((i0 : Nat) : Int) < (16 : Int))) (by kernel_rfl) (fun hc27 => ?_) (fun hc27 => ?_)
 ·
  replace hc27 : ((i0 : Nat) : Int) < (16 : Int) := of_decide_eq_true hc27
  refine wp_skip ?_
  refine then_normal ?_
  refine wp_seq ?_
  refine wp_block ?_
  refine wp_seq ?_
  refine region_from ?_
  refine d_pures [(1, .slice ax (List.length lx) cx), (2, pt bk1), (4, pt bk6), (5, pt bk11), (6, ni i0), (20, ni i0)] [ni i0] 1 En26 (by kernel_rfl) (by kernel_rfl) rfl ?_
  intro ac28 En29
  refine from_op (by kernel_rfl) ?_
  refine op_val (d := some 21) (x := Instr.indexAt 22 (pt bk1) (ni i0)) (v := .pointer (some ⟨bk1, i0, none⟩)) En29 (by kernel_rfl) (Go.Dbr.run_indexarr (e := 5) (sz := 1) (m := 32) (j := i0) (o := i0) (by kernel_rfl) (by kernel_rfl) (by omega) (by omega) (by omega) _) ?_
  intro ac30 En31
  refine from_op (by kernel_rfl) ?_
  have hb32 : i0 < List.length lk := by rw [hk]; omega
  refine op_loadbox (d := some 22) (t := 5) (b := bk1) (off := i0) (k := 1) (v := .int .u8 ((UInt8.toNat (List.getD lk i0 0) : Nat) : Int)) En31 (by kernel_rfl) Hv23 rfl (bys_getD hb32) (by kernel_rfl) ?_
  intro ac33 En34
  refine d_pures [(1, .slice ax (List.length lx) cx), (2, pt bk1), (4, pt bk6), (5, pt bk11), (6, ni i0), (7, .int .u8 ((UInt8.toNat (List.getD lk i0 0) : Nat) : Int))] [.int .u8 ((UInt8.toNat (List.getD lk i0 0) : Nat) : Int)] 4 En34 (by kernel_rfl) (by kernel_rfl) rfl ?_
  intro ac35 En36
  refine from_end (by kernel_rfl) ?_
  refine then_normal ?_
  refine wp_seq ?_
  refine wp_seq ?_
  refine region_from ?_
  refine d_pures [(1, .slice ax (List.length lx) cx), (2, pt bk1), (4, pt bk6), (5, pt bk11), (6, ni i0), (7, .int .u8 ((UInt8.toNat (List.getD lk i0 0) : Nat) : Int)), (24, .int .i64 (Int.tmod ((i0 : Nat) : Int) (4 : Int)))] [ni i0, .int .i64 (Int.tmod ((i0 : Nat) : Int) (4 : Int))] 2 En36 (by kernel_rfl) (by kernel_rfl) rfl ?_
  intro ac37 En38
  rw [show Int.tmod ((i0 : Nat) : Int) (4 : Int) = ((i0 % 4 : Nat) : Int) from Go.Dbr.i64_rem_nat (a := ((i0 : Nat) : Int)) (n := i0) (m := 4) rfl (by omega)] at En38
  refine d_pures [(1, .slice ax (List.length lx) cx), (2, pt bk1), (4, pt bk6), (5, pt bk11), (6, ni i0), (7, .int .u8 ((UInt8.toNat (List.getD lk i0 0) : Nat) : Int)), (25, .bool (((i0 % 4 : Nat) : Int) == (3 : Int)))] [.bool (((i0 % 4 : Nat) : Int) == (3 : Int))] 3 En38 (by kernel_rfl) (by kernel_rfl) rfl ?_
  intro ac39 En40
  refine from_end (by kernel_rfl) ?_
  refine then_normal ?_
  refine region_cut (F := fun ac wo => ∃ (c1 : UInt8), Env ac 139 [(1, .slice ax (List.length lx) cx), (2, pt bk1), (4, pt bk6), (5, pt bk11), (6, ni i0), (7, bv c1)] ∧ Ev w [] wo [.box bk11 (u64s rd) 58, .box bk1 (bys lk) 22, .box bk6 (bys (List.replicate 16 0)) 31] ∧ (c1 = if i0 % 4 = 3 then List.getD lk i0 0 &&& 15 else List.getD lk i0 0)) ?_ ?_
  ·
   refine cond_at En40 (t := ((i0 % 4 : Nat) : Int) == (3 : Int)) (by kernel_rfl) (fun hc41 => ?_) (fun hc41 => ?_)
   ·
    replace hc41 : ((i0 % 4 : Nat) : Int) = (3 : Int) := eq_of_beq hc41
    refine region_from ?_
    refine d_pures [(1, .slice ax (List.length lx) cx), (2, pt bk1), (4, pt bk6), (5, pt bk11), (6, ni i0), (7, .int .u8 ((UInt8.toNat (List.getD lk i0 0) : Nat) : Int)), (27, .int .u8 (IntKind.wrap .u8 ((BitVec.ofInt (IntKind.bits .u8) ((UInt8.toNat (List.getD lk i0 0) : Nat) : Int) &&& BitVec.ofInt (IntKind.bits .u8) (15 : Int)).toNat : Int)))] [.int .u8 ((UInt8.toNat (List.getD lk i0 0) : Nat) : Int), .int .u8 (IntKind.wrap .u8 ((BitVec.ofInt (IntKind.bits .u8) ((UInt8.toNat (List.getD lk i0 0) : Nat) : Int) &&& BitVec.ofInt (IntKind.bits .u8) (15 : Int)).toNat : Int))] 2 En40 (by kernel_rfl) (by kernel_rfl) rfl ?_
    intro ac42 En43
    rw [Go.Dbr.u8_and (a := ((UInt8.toNat (List.getD lk i0 0) : Nat) : Int)) (b := (15 : Int)) (x := List.getD lk i0 0) (y := (15 : UInt8)) rfl rfl] at En43
    refine d_pures [(1, .slice ax (List.length lx) cx), (2, pt bk1), (4, pt bk6), (5, pt bk11), (6, ni i0), (7, .int .u8 ((UInt8.toNat ((List.getD lk i0 0) &&& (15 : UInt8)) : Nat) : Int))] [.int .u8 ((UInt8.toNat ((List.getD lk i0 0) &&& (15 : UInt8)) : Nat) : Int)] 3 En43 (by kernel_rfl) (by kernel_rfl) rfl ?_
    intro ac44 En45
    refine from_end (by kernel_rfl) ?_
    exact ⟨rfl, ⟨((List.getD lk i0 0) &&& (15 : UInt8)), En45.sub (by kernel_rfl), Hv23.pick [0, 1, 2] (by kernel_rfl) (by decide), by first | rw [if_pos (by omega)] | rw [if_neg (by omega)]⟩⟩
   ·
    replace hc41 : ¬ (((i0 % 4 : Nat) : Int) = (3 : Int)) := ne_of_beq_false hc41
    refine wp_skip ?_
    exact ⟨rfl, ⟨(List.getD lk i0 0), En40.sub (by kernel_rfl), Hv23.pick [0, 1, 2] (by kernel_rfl) (by decide), by first | rw [if_pos (by omega)] | rw [if_neg (by omega)]⟩⟩
  ·
   rintro ac46 wo47 ⟨c1, En48, Hv49, hc1⟩
   refine then_normal ?_
   refine wp_seq ?_
   refine wp_seq ?_
   refine region_from ?_
   refine d_pures [(1, .slice ax (List.length lx) cx), (2, pt bk1), (4, pt bk6), (5, pt bk11), (6, ni i0), (7, bv c1), (29, .int .i64 (Int.tmod ((i0 : Nat) : Int) (4 : Int)))] [ni i0, .int .i64 (Int.tmod ((i0 : Nat) : Int) (4 : Int))] 2 En48 (by kernel_rfl) (by kernel_rfl) rfl ?_
   intro ac50 En51
   rw [show Int.tmod ((i0 : Nat) : Int) (4 : Int) = ((i0 % 4 : Nat) : Int) from Go.Dbr.i64_rem_nat (a := ((i0 : Nat) : Int)) (n := i0) (m := 4) rfl (by omega)] at En51
   refine d_pures [(1, .slice ax (List.length lx) cx), (2, pt bk1), (4, pt bk6), (5, pt bk11), (6, ni i0), (7, bv c1), (31, .bool (((i0 % 4 : Nat) : Int) == (0 : Int)))] [.bool (((i0 % 4 : Nat) : Int) == (0 : Int)), .bool (((i0 % 4 : Nat) : Int) == (0 : Int))] 4 En51 (by kernel_rfl) (by kernel_rfl) rfl ?_
   intro ac52 En53
   rcases Bool.eq_false_or_eq_true (((i0 % 4 : Nat) : Int) == (0 : Int)) with hb54 | hb54
   ·
    rw [hb54] at En53
    have hp55 : ((i0 % 4 : Nat) : Int) = (0 : Int) := eq_of_beq hb54
    refine d_pures [(1, .slice ax (List.length lx) cx), (2, pt bk1), (4, pt bk6), (5, pt bk11), (6, ni i0), (7, bv c1), (34, .bool (decide (((i0 : Nat) : Int) > (0 : Int))))] [ni i0, .bool (decide (((i0 : Nat) : Int) > (0 : Int))), .bool (decide (((i0 : Nat) : Int) > (0 : Int)))] 7 En53 (by kernel_rfl) (by kernel_rfl) rfl ?_
    intro ac56 En57
    refine from_end (by kernel_rfl) ?_
    refine then_normal ?_
    refine region_cut (F := fun ac wo => ∃ (c2 : UInt8), Env ac 139 [(1, .slice ax (List.length lx) cx), (2, pt bk1), (4, pt bk6), (5, pt bk11), (6, ni i0), (7, bv c2)] ∧ Ev w [] wo [.box bk11 (u64s rd) 58, .box bk1 (bys lk) 22, .box bk6 (bys (List.replicate 16 0)) 31] ∧ (c2 = clampB lk i0)) ?_ ?_
    ·
     refine cond_at En57 (t := decide (((i0 : Nat) : Int) > (0 : Int))) (by kernel_rfl) (fun hc58 => ?_) (fun hc58 => ?_)
     ·
      replace hc58 : ((i0 : Nat) : Int) > (0 : Int) := of_decide_eq_true hc58
      refine region_from ?_
      refine d_pures [(1, .slice ax (List.length lx) cx), (2, pt bk1), (4, pt bk6), (5, pt bk11), (6, ni i0), (7, bv c1), (36, .int .u8 (IntKind.wrap .u8 ((BitVec.ofInt (IntKind.bits .u8) ((UInt8.toNat c1 : Nat) : Int) &&& BitVec.ofInt (IntKind.bits .u8) (252 : Int)).toNat : Int)))] [bv c1, .int .u8 (IntKind.wrap .u8 ((BitVec.ofInt (IntKind.bits .u8) ((UInt8.toNat c1 : Nat) : Int) &&& BitVec.ofInt (IntKind.bits .u8) (252 : Int)).toNat : Int))] 2 En57 (by kernel_rfl) (by kernel_rfl) rfl ?_
      intro ac59 En60
      rw [Go.Dbr.u8_and (a := ((UInt8.toNat c1 : Nat) : Int)) (b := (252 : Int)) (x := c1) (y := (252 : UInt8)) rfl rfl] at En60
      refine d_pures [(1, .slice ax (List.length lx) cx), (2, pt bk1), (4, pt bk6), (5, pt bk11), (6, ni i0), (7, .int .u8 ((UInt8.toNat (c1 &&& (252 : UInt8)) : Nat) : Int))] [.int .u8 ((UInt8.toNat (c1 &&& (252 : UInt8)) : Nat) : Int)] 3 En60 (by kernel_rfl) (by kernel_rfl) rfl ?_
      intro ac61 En62
      refine from_end (by kernel_rfl) ?_
      exact ⟨rfl, ⟨(c1 &&& (252 : UInt8)), En62.sub (by kernel_rfl), Hv49.pick [0, 1, 2] (by kernel_rfl) (by decide), by unfold clampB; first | rw [if_pos (by omega), hc1] | rw [if_neg (by omega), hc1]⟩⟩
     ·
      replace hc58 : ¬ (((i0 : Nat) : Int) > (0 : Int)) := of_decide_eq_false hc58
      refine wp_skip ?_
      exact ⟨rfl, ⟨c1, En57.sub (by kernel_rfl), Hv49.pick [0, 1, 2] (by kernel_rfl) (by decide), by unfold clampB; first | rw [if_pos (by omega), hc1] | rw [if_neg (by omega), hc1]⟩⟩
    ·
     rintro ac63 wo64 ⟨c2, En65, Hv66, hc2⟩
     refine then_normal ?_
     refine region_cut (F := fun ac wo => Env ac 139 [(1, .slice ax (List.length lx) cx), (2, pt bk1), (4, pt bk6), (5, pt bk11), (6, ni i0), (7, bv c2)] ∧ Ev w [] wo [.box bk11 (u64s (List.set rd (i0 / 2) ((List.getD rd (i0 / 2) 0) ||| ((UInt8.toUInt64 c2) <<< UInt64.ofNat (8 * (i0 % 2)))))) 58, .box bk1 (bys lk) 22, .box bk6 (bys (List.replicate 16 0)) 31]) ?_ ?_
     ·
      refine draw_any (by kernel_rfl) 15 (by kernel_rfl) ?_
      have wo67 := Hv66.trans (Ev.drew Hv66.heap)
      refine any_pureR (d := some 37) En65 (v := ni i0) 0 (by kernel_rfl) (by kernel_rfl) rfl ?_
      intro ac102 En103
      refine any_pureR (d := some 38) En103 (v := .int .i64 (IntKind.wrap .i64 (Int.tdiv ((i0 : Nat) : Int) (2 : Int)))) 1 (by kernel_rfl) (by kernel_rfl) rfl ?_
      intro ac104 En105
      rw [show IntKind.wrap .i64 (Int.tdiv ((i0 : Nat) : Int) (2 : Int)) = ((i0 / 2 : Nat) : Int) from Go.Dbr.i64_quo_nat (a := ((i0 : Nat) : Int)) (n := i0) (m := 2) rfl (by omega)] at En105
      refine any_pureR (d := some 39) En105 (v := ni i0) 2 (by kernel_rfl) (by kernel_rfl) rfl ?_
      intro ac106 En107
      refine any_pureR (d := some 40) En107 (v := .int .i64 (IntKind.wrap .i64 (Int.tdiv ((i0 : Nat) : Int) (2 : Int)))) 3 (by kernel_rfl) (by kernel_rfl) rfl ?_
      intro ac108 En109
      rw [show IntKind.wrap .i64 (Int.tdiv ((i0 : Nat) : Int) (2 : Int)) = ((i0 / 2 : Nat) : Int) from Go.Dbr.i64_quo_nat (a := ((i0 : Nat) : Int)) (n := i0) (m := 2) rfl (by omega)] at En109
      refine any_pure (d := some 41) (s := nv (Instr.indexAt 58 (pt bk11) (.int .i64 ((i0 / 2 : Nat) : Int)))) En109 (v := .pointer (some ⟨bk11, i0 / 2, none⟩)) 4 (by kernel_rfl) (funext fun _ => run_nv (Go.Dbr.run_indexarr (e := 49) (sz := 1) (m := 8) (j := i0 / 2) (o := i0 / 2) (by kernel_rfl) (by kernel_rfl) (by omega) (by omega) (by omega) _)) (by kernel_rfl) rfl ?_
      intro ac110 En111
      refine any_pureR (d := some 43) En111 (v := bv c2) 6 (by kernel_rfl) (by kernel_rfl) rfl ?_
      intro ac112 En113
      refine any_pureR (d := some 44) En113 (v := .int .u64 (IntKind.wrap .u64 ((UInt8.toNat c2 : Nat) : Int))) 7 (by kernel_rfl) (by kernel_rfl) rfl ?_
      intro ac114 En115
      rw [Go.Dbr.u8_to_u64 (a := ((UInt8.toNat c2 : Nat) : Int)) (x := c2) rfl] at En115
      refine any_pureR (d := some 45) En115 (v := ni i0) 8 (by kernel_rfl) (by kernel_rfl) rfl ?_
      intro ac116 En117
      refine any_pureR (d := some 46) En117 (v := .int .i64 (Int.tmod ((i0 : Nat) : Int) (2 : Int))) 9 (by kernel_rfl) (by kernel_rfl) rfl ?_
      intro ac118 En119
      rw [show Int.tmod ((i0 : Nat) : Int) (2 : Int) = ((i0 % 2 : Nat) : Int) from Go.Dbr.i64_rem_nat (a := ((i0 : Nat) : Int)) (n := i0) (m := 2) rfl (by omega)] at En119
      refine any_pureR (d := some 47) En119 (v := .int .i64 (IntKind.wrap .i64 ((8 : Int) * ((i0 % 2 : Nat) : Int)))) 10 (by kernel_rfl) (by kernel_rfl) rfl ?_
      intro ac120 En121
      rw [Go.Dbr.wr64 (e := (8 : Int) * ((i0 % 2 : Nat) : Int)) (x := ((8 * (i0 % 2) : Nat) : Int)) (by omega) (by omega) (by omega)] at En121
      refine any_pure (d := some 48) (s := nv (Op.shift .shl .u64 ((UInt64.toNat (UInt8.toUInt64 c2) : Nat) : Int) .i64 ((8 * (i0 % 2) : Nat) : Int))) En121 (v := .int .u64 ((UInt64.toNat ((UInt8.toUInt64 c2) <<< UInt64.ofNat (8 * (i0 % 2))) : Nat) : Int)) 11 (by kernel_rfl) (funext fun _ => run_nv (Go.Dbr.run_shl_u64 (UInt8.toUInt64 c2) .i64 (8 * (i0 % 2)) (by omega) _)) (by kernel_rfl) rfl ?_
      intro ac122 En123
      refine any_at 5 (by kernel_rfl) rfl ?_
      have hb124 : i0 / 2 < List.length rd := by rw [hlrd]; omega
      refine op_loadbox (d := some 42) (t := 49) (b := bk11) (off := i0 / 2) (k := 0) (v := .int .u64 ((UInt64.toNat (List.getD rd (i0 / 2) 0) : Nat) : Int)) En123 (by kernel_rfl) wo67 rfl (u64s_getD hb124) (by kernel_rfl) ?_
      intro ac125 En126
      refine any_pureR (d := some 49) En126 (v := .int .u64 (IntKind.wrap .u64 ((BitVec.ofInt (IntKind.bits .u64) ((UInt64.toNat (List.getD rd (i0 / 2) 0) : Nat) : Int) ||| BitVec.ofInt (IntKind.bits .u64) ((UInt64.toNat ((UInt8.toUInt64 c2) <<< UInt64.ofNat (8 * (i0 % 2))) : Nat) : Int)).toNat : Int))) 12 (by kernel_rfl) (by kernel_rfl) rfl ?_
      intro ac127 En128
      rw [Go.Dbr.u64_or (a := ((UInt64.toNat (List.getD rd (i0 / 2) 0) : Nat) : Int)) (b := ((UInt64.toNat ((UInt8.toUInt64 c2) <<< UInt64.ofNat (8 * (i0 % 2))) : Nat) : Int)) (x := List.getD rd (i0 / 2) 0) (y := (UInt8.toUInt64 c2) <<< UInt64.ofNat (8 * (i0 % 2))) rfl rfl] at En128
      refine any_pure (d := some 50) (s := nv (Instr.indexAt 58 (pt bk11) (.int .i64 ((i0 / 2 : Nat) : Int)))) En128 (v := .pointer (some ⟨bk11, i0 / 2, none⟩)) 13 (by kernel_rfl) (funext fun _ => run_nv (Go.Dbr.run_indexarr (e := 49) (sz := 1) (m := 8) (j := i0 / 2) (o := i0 / 2) (by kernel_rfl) (by kernel_rfl) (by omega) (by omega) (by omega) _)) (by kernel_rfl) rfl ?_
      intro ac129 En130
      refine any_at 14 (by kernel_rfl) rfl ?_
      have hb131 : i0 / 2 < List.length rd := by rw [hlrd]; omega
      refine op_storebox2 (d := none) (t := 49) (b := bk11) (off := i0 / 2) (k := 0) (v := .int .u64 ((UInt64.toNat ((List.getD rd (i0 / 2) 0) ||| ((UInt8.toUInt64 c2) <<< UInt64.ofNat (8 * (i0 % 2)))) : Nat) : Int)) En130 (by kernel_rfl) wo67 rfl (u64s_getD hb131) (by kernel_rfl) rfl (u64s_set _ _ _) rfl ?_
      intro ac132 wo133  En134 Hv135
      exact any_end (by kernel_rfl) ⟨En134.sub (by kernel_rfl), Hv135.pick [0, 1, 2] (by kernel_rfl) (by decide)⟩
     rintro ac136 wo137 ⟨En138, Hv139⟩
     refine block_normal ?_
     refine then_normal ?_
     refine region_from ?_
     refine d_pures [(1, .slice ax (List.length lx) cx), (2, pt bk1), (4, pt bk6), (5, pt bk11), (6, ni i0), (7, bv c2), (19, .int .i64 (IntKind.wrap .i64 (((i0 : Nat) : Int) + (1 : Int))))] [ni i0, .int .i64 (IntKind.wrap .i64 (((i0 : Nat) : Int) + (1 : Int)))] 2 En138 (by kernel_rfl) (by kernel_rfl) rfl ?_
     intro ac140 En141
     rw [Go.Dbr.wr64 (e := ((i0 : Nat) : Int) + (1 : Int)) (x := ((i0 + 1 : Nat) : Int)) (by omega) (by omega) (by omega)] at En141
     refine d_pures [(1, .slice ax (List.length lx) cx), (2, pt bk1), (4, pt bk6), (5, pt bk11), (6, .int .i64 ((i0 + 1 : Nat) : Int)), (7, bv c2)] [.int .i64 ((i0 + 1 : Nat) : Int)] 3 En141 (by kernel_rfl) (by kernel_rfl) rfl ?_
     intro ac142 En143
     refine from_end (by kernel_rfl) ?_
     refine then_normal ?_
     refine ⟨_, ⟨i0 + 1, (List.set rd (i0 / 2) ((List.getD rd (i0 / 2) 0) ||| ((UInt8.toUInt64 c2) <<< UInt64.ofNat (8 * (i0 % 2))))), rfl, En143.sub (by kernel_rfl), Hv139.pick [0, 1, 2] (by kernel_rfl) (by decide), by omega, (List.length_set.trans hlrd), by first | (rw [herd]; rfl) | (rw [herd, hc2]; rfl) | rfl⟩, ?_⟩
     omega
   ·
    rw [hb54] at En53
    have hp144 : ¬ (((i0 % 4 : Nat) : Int) = (0 : Int)) := ne_of_beq_false hb54
    refine d_pures [(1, .slice ax (List.length lx) cx), (2, pt bk1), (4, pt bk6), (5, pt bk11), (6, ni i0), (7, bv c1), (34, .bool false)] [undef, undef, .bool false] 7 En53 (by kernel_rfl) (by kernel_rfl) rfl ?_
    intro ac145 En146
    refine from_end (by kernel_rfl) ?_
    refine then_normal ?_
    refine region_cut (F := fun ac wo => ∃ (c2 : UInt8), Env ac 139 [(1, .slice ax (List.length lx) cx), (2, pt bk1), (4, pt bk6), (5, pt bk11), (6, ni i0), (7, bv c2)] ∧ Ev w [] wo [.box bk11 (u64s rd) 58, .box bk1 (bys lk) 22, .box bk6 (bys (List.replicate 16 0)) 31] ∧ (c2 = clampB lk i0)) ?_ ?_
    ·
     refine cond_false En146 (t := false) (by kernel_rfl) rfl ?_
     refine wp_skip ?_
     exact ⟨rfl, ⟨c1, En146.sub (by kernel_rfl), Hv49.pick [0, 1, 2] (by kernel_rfl) (by decide), by unfold clampB; first | rw [if_pos (by omega), hc1] | rw [if_neg (by omega), hc1]⟩⟩
    ·
     rintro ac147 wo148 ⟨c2, En149, Hv150, hc2⟩
     refine then_normal ?_
     refine region_cut (F := fun ac wo => Env ac 139 [(1, .slice ax (List.length lx) cx), (2, pt bk1), (4, pt bk6), (5, pt bk11), (6, ni i0), (7, bv c2)] ∧ Ev w [] wo [.box bk11 (u64s (List.set rd (i0 / 2) ((List.getD rd (i0 / 2) 0) ||| ((UInt8.toUInt64 c2) <<< UInt64.ofNat (8 * (i0 % 2)))))) 58, .box bk1 (bys lk) 22, .box bk6 (bys (List.replicate 16 0)) 31]) ?_ ?_
     ·
      refine draw_any (by kernel_rfl) 15 (by kernel_rfl) ?_
      have wo151 := Hv150.trans (Ev.drew Hv150.heap)
      refine any_pureR (d := some 37) En149 (v := ni i0) 0 (by kernel_rfl) (by kernel_rfl) rfl ?_
      intro ac186 En187
      refine any_pureR (d := some 38) En187 (v := .int .i64 (IntKind.wrap .i64 (Int.tdiv ((i0 : Nat) : Int) (2 : Int)))) 1 (by kernel_rfl) (by kernel_rfl) rfl ?_
      intro ac188 En189
      rw [show IntKind.wrap .i64 (Int.tdiv ((i0 : Nat) : Int) (2 : Int)) = ((i0 / 2 : Nat) : Int) from Go.Dbr.i64_quo_nat (a := ((i0 : Nat) : Int)) (n := i0) (m := 2) rfl (by omega)] at En189
      refine any_pureR (d := some 39) En189 (v := ni i0) 2 (by kernel_rfl) (by kernel_rfl) rfl ?_
      intro ac190 En191
      refine any_pureR (d := some 40) En191 (v := .int .i64 (IntKind.wrap .i64 (Int.tdiv ((i0 : Nat) : Int) (2 : Int)))) 3 (by kernel_rfl) (by kernel_rfl) rfl ?_
      intro ac192 En193
      rw [show IntKind.wrap .i64 (Int.tdiv ((i0 : Nat) : Int) (2 : Int)) = ((i0 / 2 : Nat) : Int) from Go.Dbr.i64_quo_nat (a := ((i0 : Nat) : Int)) (n := i0) (m := 2) rfl (by omega)] at En193
      refine any_pure (d := some 41) (s := nv (Instr.indexAt 58 (pt bk11) (.int .i64 ((i0 / 2 : Nat) : Int)))) En193 (v := .pointer (some ⟨bk11, i0 / 2, none⟩)) 4 (by kernel_rfl) (funext fun _ => run_nv (Go.Dbr.run_indexarr (e := 49) (sz := 1) (m := 8) (j := i0 / 2) (o := i0 / 2) (by kernel_rfl) (by kernel_rfl) (by omega) (by omega) (by omega) _)) (by kernel_rfl) rfl ?_
      intro ac194 En195
      refine any_pureR (d := some 43) En195 (v := bv c2) 6 (by kernel_rfl) (by kernel_rfl) rfl ?_
      intro ac196 En197
      refine any_pureR (d := some 44) En197 (v := .int .u64 (IntKind.wrap .u64 ((UInt8.toNat c2 : Nat) : Int))) 7 (by kernel_rfl) (by kernel_rfl) rfl ?_
      intro ac198 En199
      rw [Go.Dbr.u8_to_u64 (a := ((UInt8.toNat c2 : Nat) : Int)) (x := c2) rfl] at En199
      refine any_pureR (d := some 45) En199 (v := ni i0) 8 (by kernel_rfl) (by kernel_rfl) rfl ?_
      intro ac200 En201
      refine any_pureR (d := some 46) En201 (v := .int .i64 (Int.tmod ((i0 : Nat) : Int) (2 : Int))) 9 (by kernel_rfl) (by kernel_rfl) rfl ?_
      intro ac202 En203
      rw [show Int.tmod ((i0 : Nat) : Int) (2 : Int) = ((i0 % 2 : Nat) : Int) from Go.Dbr.i64_rem_nat (a := ((i0 : Nat) : Int)) (n := i0) (m := 2) rfl (by omega)] at En203
      refine any_pureR (d := some 47) En203 (v := .int .i64 (IntKind.wrap .i64 ((8 : Int) * ((i0 % 2 : Nat) : Int)))) 10 (by kernel_rfl) (by kernel_rfl) rfl ?_
      intro ac204 En205
      rw [Go.Dbr.wr64 (e := (8 : Int) * ((i0 % 2 : Nat) : Int)) (x := ((8 * (i0 % 2) : Nat) : Int)) (by omega) (by omega) (by omega)] at En205
      refine any_pure (d := some 48) (s := nv (Op.shift .shl .u64 ((UInt64.toNat (UInt8.toUInt64 c2) : Nat) : Int) .i64 ((8 * (i0 % 2) : Nat) : Int))) En205 (v := .int .u64 ((UInt64.toNat ((UInt8.toUInt64 c2) <<< UInt64.ofNat (8 * (i0 % 2))) : Nat) : Int)) 11 (by kernel_rfl) (funext fun _ => run_nv (Go.Dbr.run_shl_u64 (UInt8.toUInt64 c2) .i64 (8 * (i0 % 2)) (by omega) _)) (by kernel_rfl) rfl ?_
      intro ac206 En207
      refine any_at 5 (by kernel_rfl) rfl ?_
      have hb208 : i0 / 2 < List.length rd := by rw [hlrd]; omega
      refine op_loadbox (d := some 42) (t := 49) (b := bk11) (off := i0 / 2) (k := 0) (v := .int .u64 ((UInt64.toNat (List.getD rd (i0 / 2) 0) : Nat) : Int)) En207 (by kernel_rfl) wo151 rfl (u64s_getD hb208) (by kernel_rfl) ?_
      intro ac209 En210
      refine any_pureR (d := some 49) En210 (v := .int .u64 (IntKind.wrap .u64 ((BitVec.ofInt (IntKind.bits .u64) ((UInt64.toNat (List.getD rd (i0 / 2) 0) : Nat) : Int) ||| BitVec.ofInt (IntKind.bits .u64) ((UInt64.toNat ((UInt8.toUInt64 c2) <<< UInt64.ofNat (8 * (i0 % 2))) : Nat) : Int)).toNat : Int))) 12 (by kernel_rfl) (by kernel_rfl) rfl ?_
      intro ac211 En212
      rw [Go.Dbr.u64_or (a := ((UInt64.toNat (List.getD rd (i0 / 2) 0) : Nat) : Int)) (b := ((UInt64.toNat ((UInt8.toUInt64 c2) <<< UInt64.ofNat (8 * (i0 % 2))) : Nat) : Int)) (x := List.getD rd (i0 / 2) 0) (y := (UInt8.toUInt64 c2) <<< UInt64.ofNat (8 * (i0 % 2))) rfl rfl] at En212
      refine any_pure (d := some 50) (s := nv (Instr.indexAt 58 (pt bk11) (.int .i64 ((i0 / 2 : Nat) : Int)))) En212 (v := .pointer (some ⟨bk11, i0 / 2, none⟩)) 13 (by kernel_rfl) (funext fun _ => run_nv (Go.Dbr.run_indexarr (e := 49) (sz := 1) (m := 8) (j := i0 / 2) (o := i0 / 2) (by kernel_rfl) (by kernel_rfl) (by omega) (by omega) (by omega) _)) (by kernel_rfl) rfl ?_
      intro ac213 En214
      refine any_at 14 (by kernel_rfl) rfl ?_
      have hb215 : i0 / 2 < List.length rd := by rw [hlrd]; omega
      refine op_storebox2 (d := none) (t := 49) (b := bk11) (off := i0 / 2) (k := 0) (v := .int .u64 ((UInt64.toNat ((List.getD rd (i0 / 2) 0) ||| ((UInt8.toUInt64 c2) <<< UInt64.ofNat (8 * (i0 % 2)))) : Nat) : Int)) En214 (by kernel_rfl) wo151 rfl (u64s_getD hb215) (by kernel_rfl) rfl (u64s_set _ _ _) rfl ?_
      intro ac216 wo217  En218 Hv219
      exact any_end (by kernel_rfl) ⟨En218.sub (by kernel_rfl), Hv219.pick [0, 1, 2] (by kernel_rfl) (by decide)⟩
     rintro ac220 wo221 ⟨En222, Hv223⟩
     refine block_normal ?_
     refine then_normal ?_
     refine region_from ?_
     refine d_pures [(1, .slice ax (List.length lx) cx), (2, pt bk1), (4, pt bk6), (5, pt bk11), (6, ni i0), (7, bv c2), (19, .int .i64 (IntKind.wrap .i64 (((i0 : Nat) : Int) + (1 : Int))))] [ni i0, .int .i64 (IntKind.wrap .i64 (((i0 : Nat) : Int) + (1 : Int)))] 2 En222 (by kernel_rfl) (by kernel_rfl) rfl ?_
     intro ac224 En225
     rw [Go.Dbr.wr64 (e := ((i0 : Nat) : Int) + (1 : Int)) (x := ((i0 + 1 : Nat) : Int)) (by omega) (by omega) (by omega)] at En225
     refine d_pures [(1, .slice ax (List.length lx) cx), (2, pt bk1), (4, pt bk6), (5, pt bk11), (6, .int .i64 ((i0 + 1 : Nat) : Int)), (7, bv c2)] [.int .i64 ((i0 + 1 : Nat) : Int)] 3 En225 (by kernel_rfl) (by kernel_rfl) rfl ?_
     intro ac226 En227
     refine from_end (by kernel_rfl) ?_
     refine then_normal ?_
     refine ⟨_, ⟨i0 + 1, (List.set rd (i0 / 2) ((List.getD rd (i0 / 2) 0) ||| ((UInt8.toUInt64 c2) <<< UInt64.ofNat (8 * (i0 % 2))))), rfl, En227.sub (by kernel_rfl), Hv223.pick [0, 1, 2] (by kernel_rfl) (by decide), by omega, (List.length_set.trans hlrd), by first | (rw [herd]; rfl) | (rw [herd, hc2]; rfl) | rfl⟩, ?_⟩
     omega
 ·
  replace hc27 : ¬ (((i0 : Nat) : Int) < (16 : Int)) := of_decide_eq_false hc27
  refine wp_exit ?_
  refine then_exit ?_
  refine then_exit ?_
  refine block_exit ?_
  refine then_normal ?_
  refine wp_seq ?_
  have hnrd : i0 = 16 := by omega
  have hfrd : rd = rDF lk 16 := by rw [herd, hnrd] <;> rfl
  rw [show rd = (rDF lk 16) from hfrd] at Hv23
  refine region_from ?_
  refine from_op (by kernel_rfl) ?_
  refine op_alloc (d := some 8) (T := 59) (x := .tuple #[]) (z := .agg (List.toArray (u64s (List.replicate 9 0)))) (cs := u64s (List.replicate 9 0)) En26 (by kernel_rfl) (by kernel_rfl) (by kernel_rfl) Hv23 ?_
  intro ac229 wo230 bk228 En231 Hv232
  refine from_end (by kernel_rfl) ?_
  refine then_normal ?_
  refine wp_seq ?_
  refine wp_seq ?_
  refine region_from ?_
  refine d_pures [(1, .slice ax (List.length lx) cx), (2, pt bk1), (4, pt bk6), (5, pt bk11), (6, ni i0), (8, pt bk228), (9, .int .i64 0)] [.int .i64 0] 1 En231 (by kernel_rfl) (by kernel_rfl) rfl ?_
  intro ac233 En234
  refine from_end (by kernel_rfl) ?_
  refine then_normal ?_
  refine wp_block ?_
  refine loop_m (fun ms235 ac wo => ∃ (q : Nat) (v : List UInt64), ms235 = (List.length lx + 16 - 16 * q : Nat) ∧ Env ac 139 [(1, .slice ax (List.length lx) cx), (2, pt bk1), (4, pt bk6), (5, pt bk11), (6, ni i0), (8, pt bk228), (9, .int .i64 ((16 * q : Nat) : Int))] ∧ Ev w [] wo [.box bk228 (u64s v) 59, .box bk11 (u64s (rDF lk 16)) 58, .box bk1 (bys lk) 22, .box bk6 (bys (List.replicate 16 0)) 31] ∧ (16 * q < List.length lx + 16) ∧ (List.length v = 9) ∧ (∀ j, UInt64.toNat (List.getD v j 0) < 65536) ∧ (dv B16 v < 1361129467683753853853498429727072845834) ∧ (dv B16 v % 1361129467683753853853498429727072845819 = macQ (dv B64 (rF lk)) lx q)) ⟨_, 0, List.replicate 9 0, rfl, En234.sub (by kernel_rfl), Hv232.pick [3, 0, 1, 2] (by kernel_rfl) (by decide), by omega, (List.length_replicate), fun j => by rw [getD_replicate]; decide, by rw [dv_replicate]; decide, by rw [dv_replicate]; rfl⟩ ?_
  rintro mm241 ac237 wo238 ⟨q, v, rfl, En239, Hv240, hq, hl, hd, hb, hm⟩
  refine wp_seq ?_
  refine wp_seq ?_
  refine region_from ?_
  refine d_pures [(1, .slice ax (List.length lx) cx), (2, pt bk1), (4, pt bk6), (5, pt bk11), (6, ni i0), (8, pt bk228), (9, .int .i64 ((16 * q : Nat) : Int)), (54, .bool (decide (((16 * q : Nat) : Int) < ((List.length lx : Nat) : Int))))] [.int .i64 ((16 * q : Nat) : Int), .slice ax (List.length lx) cx, .int .i64 ((List.length lx : Nat) : Int), .bool (decide (((16 * q : Nat) : Int) < ((List.length lx : Nat) : Int)))] 4 En239 (by kernel_rfl) (by kernel_rfl) rfl ?_
  intro ac242 En243
  refine from_end (by kernel_rfl) ?_
  refine then_normal ?_
  refine cond_at En243 (t := decide (((16 * q : Nat) : Int) < ((List.length lx : Nat) : Int))) (by kernel_rfl) (fun hc244 => ?_) (fun hc244 => ?_)
  ·
   replace hc244 : ((16 * q : Nat) : Int) < ((List.length lx : Nat) : Int) := of_decide_eq_true hc244
   refine wp_skip ?_
   refine then_normal ?_
   refine wp_seq ?_
   refine wp_block ?_
   refine wp_seq ?_
   refine wp_seq ?_
   refine region_from ?_
   refine d_pures [(1, .slice ax (List.length lx) cx), (2, pt bk1), (4, pt bk6), (5, pt bk11), (6, ni i0), (8, pt bk228), (9, .int .i64 ((16 * q : Nat) : Int)), (10, .int .i64 0)] [.int .i64 0] 1 En243 (by kernel_rfl) (by kernel_rfl) rfl ?_
   intro ac245 En246
   refine from_end (by kernel_rfl) ?_
   refine then_normal ?_
   refine region_cut (F := fun ac wo => ∃ (ch : List UInt64), Env ac 139 [(1, .slice ax (List.length lx) cx), (2, pt bk1), (4, pt bk6), (5, pt bk11), (6, ni i0), (8, pt bk228), (9, .int .i64 ((16 * q : Nat) : Int))] ∧ Ev w [] wo [.box bk228 (u64s ch) 59, .box bk11 (u64s (rDF lk 16)) 58, .box bk1 (bys lk) 22, .box bk6 (bys (List.replicate 16 0)) 31] ∧ (List.length ch = 9) ∧ (ch = chunkF v lx (16 * q) (min 16 (List.length lx - 16 * q)))) ?_ ?_
   ·
    refine wp_block ?_
    refine loop_m (fun ms247 ac wo => ∃ (i2 : Nat) (ch : List UInt64), ms247 = (16 - i2 : Nat) ∧ Env ac 139 [(1, .slice ax (List.length lx) cx), (2, pt bk1), (4, pt bk6), (5, pt bk11), (6, ni i0), (8, pt bk228), (9, .int .i64 ((16 * q : Nat) : Int)), (10, ni i2)] ∧ Ev w [] wo [.box bk228 (u64s ch) 59, .box bk11 (u64s (rDF lk 16)) 58, .box bk1 (bys lk) 22, .box bk6 (bys (List.replicate 16 0)) 31] ∧ (i2 ≤ min 16 (List.length lx - 16 * q)) ∧ (List.length ch = 9) ∧ (ch = chunkF v lx (16 * q) i2)) ⟨_, 0, v, rfl, En246.sub (by kernel_rfl), Hv240.pick [0, 1, 2, 3] (by kernel_rfl) (by decide), by omega, hl, rfl⟩ ?_
    rintro mm253 ac249 wo250 ⟨i2, ch, rfl, En251, Hv252, hi, hlch, hech⟩
    refine wp_seq ?_
    refine wp_seq ?_
    refine region_from ?_
    refine d_pures [(1, .slice ax (List.length lx) cx), (2, pt bk1), (4, pt bk6), (5, pt bk11), (6, ni i0), (8, pt bk228), (9, .int .i64 ((16 * q : Nat) : Int)), (10, ni i2), (59, .bool (decide (((i2 : Nat) : Int) < (16 : Int))))] [ni i2, .bool (decide (((i2 : Nat) : Int) < (16 : Int))), .bool (decide (((i2 : Nat) : Int) < (16 : Int)))] 3 En251 (by kernel_rfl) (by kernel_rfl) rfl ?_
    intro ac254 En255
    rcases Bool.eq_false_or_eq_true (decide (((i2 : Nat) : Int) < (16 : Int))) with hb256 | hb256
    ·
     rw [hb256] at En255
     have hp257 : ((i2 : Nat) : Int) < (16 : Int) := of_decide_eq_true hb256
     refine d_pures [(1, .slice ax (List.length lx) cx), (2, pt bk1), (4, pt bk6), (5, pt bk11), (6, ni i0), (8, pt bk228), (9, .int .i64 ((16 * q : Nat) : Int)), (10, ni i2), (59, .bool true), (62, .int .i64 (IntKind.wrap .i64 (((16 * q : Nat) : Int) + ((i2 : Nat) : Int))))] [.int .i64 ((16 * q : Nat) : Int), ni i2, .int .i64 (IntKind.wrap .i64 (((16 * q : Nat) : Int) + ((i2 : Nat) : Int)))] 6 En255 (by kernel_rfl) (by kernel_rfl) rfl ?_
     intro ac258 En259
     rw [Go.Dbr.wr64 (e := ((16 * q : Nat) : Int) + ((i2 : Nat) : Int)) (x := (((16 * q) + i2 : Nat) : Int)) (by omega) (by omega) (by omega)] at En259
     refine d_pures [(1, .slice ax (List.length lx) cx), (2, pt bk1), (4, pt bk6), (5, pt bk11), (6, ni i0), (8, pt bk228), (9, .int .i64 ((16 * q : Nat) : Int)), (10, ni i2), (66, .bool (decide ((((16 * q) + i2 : Nat) : Int) < ((List.length lx : Nat) : Int))))] [.slice ax (List.length lx) cx, .int .i64 ((List.length lx : Nat) : Int), .bool (decide ((((16 * q) + i2 : Nat) : Int) < ((List.length lx : Nat) : Int))), .bool (decide ((((16 * q) + i2 : Nat) : Int) < ((List.length lx : Nat) : Int)))] 10 En259 (by kernel_rfl) (by kernel_rfl) rfl ?_
     intro ac260 En261
     refine from_end (by kernel_rfl) ?_
     refine then_normal ?_
     refine cond_at En261 (t := decide ((((16 * q) + i2 : Nat) : Int) < ((List.length lx : Nat) : Int))) (by kernel_rfl) (fun hc262 => ?_) (fun hc262 => ?_)
     ·
      replace hc262 : (((16 * q) + i2 : Nat) : Int) < ((List.length lx : Nat) : Int) := of_decide_eq_true hc262
      refine wp_skip ?_
      refine then_normal ?_
      refine wp_seq ?_
      refine wp_block ?_
      refine region_cut (F := fun ac wo => Env ac 139 [(1, .slice ax (List.length lx) cx), (2, pt bk1), (4, pt bk6), (5, pt bk11), (6, ni i0), (8, pt bk228), (9, .int .i64 ((16 * q : Nat) : Int)), (10, ni i2)] ∧ Ev w [] wo [.box bk228 (u64s (List.set ch (i2 / 2) ((List.getD ch (i2 / 2) 0) + ((UInt8.toUInt64 (List.getD lx ((16 * q) + i2) 0)) <<< UInt64.ofNat (8 * (i2 % 2)))))) 59, .box bk11 (u64s (rDF lk 16)) 58, .box bk1 (bys lk) 22, .box bk6 (bys (List.replicate 16 0)) 31]) ?_ ?_
      ·
       refine h_start (fun wv => Ev w [] wv [.box bk228 (u64s ch) 59]) [19] (by kernel_rfl) 20 (by kernel_rfl) ?_
       have wo263 := Hv252.trans (Ev.drew Hv252.heap)
       refine h_pureR (d := some 69) En261 (v := ni i2) 0 (by kernel_rfl) (by kernel_rfl) rfl (fun _ => wo263.pick [0] (by kernel_rfl) (by decide)) ?_
       intro ac379 En380
       refine h_pureR (d := some 70) En380 (v := .int .i64 (IntKind.wrap .i64 (Int.tdiv ((i2 : Nat) : Int) (2 : Int)))) 1 (by kernel_rfl) (by kernel_rfl) rfl (fun _ => wo263.pick [0] (by kernel_rfl) (by decide)) ?_
       intro ac381 En382
       rw [show IntKind.wrap .i64 (Int.tdiv ((i2 : Nat) : Int) (2 : Int)) = ((i2 / 2 : Nat) : Int) from Go.Dbr.i64_quo_nat (a := ((i2 : Nat) : Int)) (n := i2) (m := 2) rfl (by omega)] at En382
       refine h_pureR (d := some 71) En382 (v := ni i2) 2 (by kernel_rfl) (by kernel_rfl) rfl (fun _ => wo263.pick [0] (by kernel_rfl) (by decide)) ?_
       intro ac383 En384
       refine h_pureR (d := some 72) En384 (v := .int .i64 (IntKind.wrap .i64 (Int.tdiv ((i2 : Nat) : Int) (2 : Int)))) 3 (by kernel_rfl) (by kernel_rfl) rfl (fun _ => wo263.pick [0] (by kernel_rfl) (by decide)) ?_
       intro ac385 En386
       rw [show IntKind.wrap .i64 (Int.tdiv ((i2 : Nat) : Int) (2 : Int)) = ((i2 / 2 : Nat) : Int) from Go.Dbr.i64_quo_nat (a := ((i2 : Nat) : Int)) (n := i2) (m := 2) rfl (by omega)] at En386
       refine h_free (d := some 73) (s := nv (Instr.indexAt 59 (pt bk228) (.int .i64 ((i2 / 2 : Nat) : Int)))) En386 (v := .pointer (some ⟨bk228, i2 / 2, none⟩)) 4 (by kernel_rfl) (fun _ => run_nv (Go.Dbr.run_indexarr (e := 49) (sz := 1) (m := 9) (j := i2 / 2) (o := i2 / 2) (by kernel_rfl) (by kernel_rfl) (by omega) (by omega) (by omega) _)) (by kernel_rfl) rfl (fun _ => wo263.pick [0] (by kernel_rfl) (by decide)) ?_
       intro ac387 En388
       have hb389 : i2 / 2 < List.length ch := by rw [hlch]; omega
       refine h_read (d := some 74) (s := nv (Instr.loadAt 49 (.pointer (some ⟨bk228, i2 / 2, none⟩)))) En388 (v := .int .u64 ((UInt64.toNat (List.getD ch (i2 / 2) 0) : Nat) : Int)) 5 (by kernel_rfl) (fun w hS => run_nv (run_load1 (by kernel_rfl) (hS.heap.cell (k := 0) rfl (u64s_getD hb389)))) (by kernel_rfl) rfl (wo263.pick [0] (by kernel_rfl) (by decide)) ?_
       intro ac390 En391
       refine h_pureR (d := some 75) En391 (v := .slice ax (List.length lx) cx) 6 (by kernel_rfl) (by kernel_rfl) rfl (fun _ => wo263.pick [0] (by kernel_rfl) (by decide)) ?_
       intro ac392 En393
       refine h_pureR (d := some 76) En393 (v := .int .i64 ((16 * q : Nat) : Int)) 7 (by kernel_rfl) (by kernel_rfl) rfl (fun _ => wo263.pick [0] (by kernel_rfl) (by decide)) ?_
       intro ac394 En395
       refine h_pureR (d := some 77) En395 (v := ni i2) 8 (by kernel_rfl) (by kernel_rfl) rfl (fun _ => wo263.pick [0] (by kernel_rfl) (by decide)) ?_
       intro ac396 En397
       refine h_pureR (d := some 78) En397 (v := .int .i64 (IntKind.wrap .i64 (((16 * q : Nat) : Int) + ((i2 : Nat) : Int)))) 9 (by kernel_rfl) (by kernel_rfl) rfl (fun _ => wo263.pick [0] (by kernel_rfl) (by decide)) ?_
       intro ac398 En399
       rw [Go.Dbr.wr64 (e := ((16 * q : Nat) : Int) + ((i2 : Nat) : Int)) (x := (((16 * q) + i2 : Nat) : Int)) (by omega) (by omega) (by omega)] at En399
       have hb402 : (16 * q) + i2 < List.length lx := (by omega)
       obtain ⟨adr400, had401⟩ := some_of ix.nz hb402
       refine h_free (d := some 79) (s := nv (Instr.indexAt 25 (.slice ax (List.length lx) cx) (.int .i64 (((16 * q) + i2 : Nat) : Int)))) En399 (v := .pointer (some (Addr.add adr400 ((16 * q) + i2)))) 10 (by kernel_rfl) (fun _ => run_nv (Go.Dbr.run_indexsl (e := 5) (sz := 1) (j := (16 * q) + i2) (jo := (16 * q) + i2) had401 (by kernel_rfl) (by kernel_rfl) (by omega) hb402 (Nat.mul_one _) _)) (by kernel_rfl) rfl (fun _ => wo263.pick [0] (by kernel_rfl) (by decide)) ?_
       intro ac403 En404
       have hb405 : (16 * q) + i2 < List.length lx := by omega
       refine h_read (d := some 80) (s := nv (Instr.loadAt 5 (.pointer (some (Addr.add adr400 ((16 * q) + i2)))))) En404 (v := .int .u8 ((UInt8.toNat (List.getD lx ((16 * q) + i2) 0) : Nat) : Int)) 11 (by kernel_rfl) (fun w hS => run_nv (run_loadel (ad := adr400) (o := (16 * q) + i2) rfl (ix.ev hS).reads had401 (bys_getD hb405) (by kernel_rfl))) (by kernel_rfl) rfl (wo263.pick [0] (by kernel_rfl) (by decide)) ?_
       intro ac406 En407
       refine h_pureR (d := some 81) En407 (v := .int .u64 (IntKind.wrap .u64 ((UInt8.toNat (List.getD lx ((16 * q) + i2) 0) : Nat) : Int))) 12 (by kernel_rfl) (by kernel_rfl) rfl (fun _ => wo263.pick [0] (by kernel_rfl) (by decide)) ?_
       intro ac408 En409
       rw [Go.Dbr.u8_to_u64 (a := ((UInt8.toNat (List.getD lx ((16 * q) + i2) 0) : Nat) : Int)) (x := List.getD lx ((16 * q) + i2) 0) rfl] at En409
       refine h_pureR (d := some 82) En409 (v := ni i2) 13 (by kernel_rfl) (by kernel_rfl) rfl (fun _ => wo263.pick [0] (by kernel_rfl) (by decide)) ?_
       intro ac410 En411
       refine h_pureR (d := some 83) En411 (v := .int .i64 (Int.tmod ((i2 : Nat) : Int) (2 : Int))) 14 (by kernel_rfl) (by kernel_rfl) rfl (fun _ => wo263.pick [0] (by kernel_rfl) (by decide)) ?_
       intro ac412 En413
       rw [show Int.tmod ((i2 : Nat) : Int) (2 : Int) = ((i2 % 2 : Nat) : Int) from Go.Dbr.i64_rem_nat (a := ((i2 : Nat) : Int)) (n := i2) (m := 2) rfl (by omega)] at En413
       refine h_pureR (d := some 84) En413 (v := .int .i64 (IntKind.wrap .i64 ((8 : Int) * ((i2 % 2 : Nat) : Int)))) 15 (by kernel_rfl) (by kernel_rfl) rfl (fun _ => wo263.pick [0] (by kernel_rfl) (by decide)) ?_
       intro ac414 En415
       rw [Go.Dbr.wr64 (e := (8 : Int) * ((i2 % 2 : Nat) : Int)) (x := ((8 * (i2 % 2) : Nat) : Int)) (by omega) (by omega) (by omega)] at En415
       refine h_free (d := some 85) (s := nv (Op.shift .shl .u64 ((UInt64.toNat (UInt8.toUInt64 (List.getD lx ((16 * q) + i2) 0)) : Nat) : Int) .i64 ((8 * (i2 % 2) : Nat) : Int))) En415 (v := .int .u64 ((UInt64.toNat ((UInt8.toUInt64 (List.getD lx ((16 * q) + i2) 0)) <<< UInt64.ofNat (8 * (i2 % 2))) : Nat) : Int)) 16 (by kernel_rfl) (fun _ => run_nv (Go.Dbr.run_shl_u64 (UInt8.toUInt64 (List.getD lx ((16 * q) + i2) 0)) .i64 (8 * (i2 % 2)) (by omega) _)) (by kernel_rfl) rfl (fun _ => wo263.pick [0] (by kernel_rfl) (by decide)) ?_
       intro ac416 En417
       refine h_pureR (d := some 86) En417 (v := .int .u64 (IntKind.wrap .u64 (((UInt64.toNat (List.getD ch (i2 / 2) 0) : Nat) : Int) + ((UInt64.toNat ((UInt8.toUInt64 (List.getD lx ((16 * q) + i2) 0)) <<< UInt64.ofNat (8 * (i2 % 2))) : Nat) : Int)))) 17 (by kernel_rfl) (by kernel_rfl) rfl (fun _ => wo263.pick [0] (by kernel_rfl) (by decide)) ?_
       intro ac418 En419
       rw [Go.Dbr.u64_add (a := ((UInt64.toNat (List.getD ch (i2 / 2) 0) : Nat) : Int)) (b := ((UInt64.toNat ((UInt8.toUInt64 (List.getD lx ((16 * q) + i2) 0)) <<< UInt64.ofNat (8 * (i2 % 2))) : Nat) : Int)) (x := List.getD ch (i2 / 2) 0) (y := (UInt8.toUInt64 (List.getD lx ((16 * q) + i2) 0)) <<< UInt64.ofNat (8 * (i2 % 2))) rfl rfl] at En419
       refine h_free (d := some 87) (s := nv (Instr.indexAt 59 (pt bk228) (.int .i64 ((i2 / 2 : Nat) : Int)))) En419 (v := .pointer (some ⟨bk228, i2 / 2, none⟩)) 18 (by kernel_rfl) (fun _ => run_nv (Go.Dbr.run_indexarr (e := 49) (sz := 1) (m := 9) (j := i2 / 2) (o := i2 / 2) (by kernel_rfl) (by kernel_rfl) (by omega) (by omega) (by omega) _)) (by kernel_rfl) rfl (fun _ => wo263.pick [0] (by kernel_rfl) (by decide)) ?_
       intro ac420 En421
       refine h_at 19 (by kernel_rfl) rfl ?_
       have hb422 : i2 / 2 < List.length ch := by rw [hlch]; omega
       refine op_storebox2 (d := none) (t := 49) (b := bk228) (off := i2 / 2) (k := 0) (v := .int .u64 ((UInt64.toNat ((List.getD ch (i2 / 2) 0) + ((UInt8.toUInt64 (List.getD lx ((16 * q) + i2) 0)) <<< UInt64.ofNat (8 * (i2 % 2)))) : Nat) : Int)) En421 (by kernel_rfl) wo263 rfl (u64s_getD hb422) (by kernel_rfl) rfl (u64s_set _ _ _) rfl ?_
       intro ac423 wo424  En425 Hv426
       refine ⟨not_yet (by kernel_rfl), ?_⟩
       exact h_end (by kernel_rfl) ⟨En425.sub (by kernel_rfl), Hv426.pick [0, 1, 2, 3] (by kernel_rfl) (by decide)⟩
      rintro ac427 wo428 ⟨En429, Hv430⟩
      refine block_normal ?_
      refine then_normal ?_
      refine region_from ?_
      refine d_pures [(1, .slice ax (List.length lx) cx), (2, pt bk1), (4, pt bk6), (5, pt bk11), (6, ni i0), (8, pt bk228), (9, .int .i64 ((16 * q : Nat) : Int)), (10, ni i2), (68, .int .i64 (IntKind.wrap .i64 (((i2 : Nat) : Int) + (1 : Int))))] [ni i2, .int .i64 (IntKind.wrap .i64 (((i2 : Nat) : Int) + (1 : Int)))] 2 En429 (by kernel_rfl) (by kernel_rfl) rfl ?_
      intro ac431 En432
      rw [Go.Dbr.wr64 (e := ((i2 : Nat) : Int) + (1 : Int)) (x := ((i2 + 1 : Nat) : Int)) (by omega) (by omega) (by omega)] at En432
      refine d_pures [(1, .slice ax (List.length lx) cx), (2, pt bk1), (4, pt bk6), (5, pt bk11), (6, ni i0), (8, pt bk228), (9, .int .i64 ((16 * q : Nat) : Int)), (10, .int .i64 ((i2 + 1 : Nat) : Int))] [.int .i64 ((i2 + 1 : Nat) : Int)] 3 En432 (by kernel_rfl) (by kernel_rfl) rfl ?_
      intro ac433 En434
      refine from_end (by kernel_rfl) ?_
      refine then_normal ?_
      refine ⟨_, ⟨i2 + 1, (List.set ch (i2 / 2) ((List.getD ch (i2 / 2) 0) + ((UInt8.toUInt64 (List.getD lx ((16 * q) + i2) 0)) <<< UInt64.ofNat (8 * (i2 % 2))))), rfl, En434.sub (by kernel_rfl), Hv430.pick [0, 1, 2, 3] (by kernel_rfl) (by decide), by omega, (List.length_set.trans hlch), by first | (rw [hech]; rfl) | rfl⟩, ?_⟩
      omega
     ·
      replace hc262 : ¬ ((((16 * q) + i2 : Nat) : Int) < ((List.length lx : Nat) : Int)) := of_decide_eq_false hc262
      refine wp_exit ?_
      refine then_exit ?_
      refine then_exit ?_
      refine block_exit ?_
      have hin : i2 = min 16 (List.length lx - 16 * q) := by omega
      exact ⟨rfl, ⟨ch, En261.sub (by kernel_rfl), Hv252.pick [0, 1, 2, 3] (by kernel_rfl) (by decide), hlch, by rw [hech, hin]⟩⟩
    ·
     rw [hb256] at En255
     have hp435 : ¬ (((i2 : Nat) : Int) < (16 : Int)) := of_decide_eq_false hb256
     refine d_pures [(1, .slice ax (List.length lx) cx), (2, pt bk1), (4, pt bk6), (5, pt bk11), (6, ni i0), (8, pt bk228), (9, .int .i64 ((16 * q : Nat) : Int)), (10, ni i2), (66, .bool false)] [undef, undef, undef, undef, undef, undef, .bool false] 10 En255 (by kernel_rfl) (by kernel_rfl) rfl ?_
     intro ac436 En437
     refine from_end (by kernel_rfl) ?_
     refine then_normal ?_
     refine cond_false En437 (t := false) (by kernel_rfl) rfl ?_
     refine wp_exit ?_
     refine then_exit ?_
     refine then_exit ?_
     refine block_exit ?_
     have hin : i2 = min 16 (List.length lx - 16 * q) := by omega
     exact ⟨rfl, ⟨ch, En437.sub (by kernel_rfl), Hv252.pick [0, 1, 2, 3] (by kernel_rfl) (by decide), hlch, by rw [hech, hin]⟩⟩
   ·
    rintro ac438 wo439 ⟨ch, En440, Hv441, hlch, hech⟩
    refine then_normal ?_
    refine wp_seq ?_
    refine region_from ?_
    refine d_pures [(1, .slice ax (List.length lx) cx), (2, pt bk1), (4, pt bk6), (5, pt bk11), (6, ni i0), (8, pt bk228), (9, .int .i64 ((16 * q : Nat) : Int)), (91, .int .i64 (IntKind.wrap .i64 (((List.length lx : Nat) : Int) - ((16 * q : Nat) : Int))))] [.slice ax (List.length lx) cx, .int .i64 ((List.length lx : Nat) : Int), .int .i64 ((16 * q : Nat) : Int), .int .i64 (IntKind.wrap .i64 (((List.length lx : Nat) : Int) - ((16 * q : Nat) : Int)))] 4 En440 (by kernel_rfl) (by kernel_rfl) rfl ?_
    intro ac442 En443
    rw [Go.Dbr.wr64 (e := ((List.length lx : Nat) : Int) - ((16 * q : Nat) : Int)) (x := ((List.length lx - 16 * q : Nat) : Int)) (by omega) (by omega) (by omega)] at En443
    refine d_pures [(1, .slice ax (List.length lx) cx), (2, pt bk1), (4, pt bk6), (5, pt bk11), (6, ni i0), (8, pt bk228), (9, .int .i64 ((16 * q : Nat) : Int)), (11, .int .i64 ((List.length lx - 16 * q : Nat) : Int))] [.int .i64 ((List.length lx - 16 * q : Nat) : Int)] 5 En443 (by kernel_rfl) (by kernel_rfl) rfl ?_
    intro ac444 En445
    refine from_end (by kernel_rfl) ?_
    refine then_normal ?_
    refine wp_seq ?_
    refine wp_seq ?_
    refine region_from ?_
    refine d_pures [(1, .slice ax (List.length lx) cx), (2, pt bk1), (4, pt bk6), (5, pt bk11), (6, ni i0), (8, pt bk228), (9, .int .i64 ((16 * q : Nat) : Int)), (11, .int .i64 ((List.length lx - 16 * q : Nat) : Int)), (93, .bool (decide (((List.length lx - 16 * q : Nat) : Int) > (16 : Int))))] [.int .i64 ((List.length lx - 16 * q : Nat) : Int), .bool (decide (((List.length lx - 16 * q : Nat) : Int) > (16 : Int)))] 2 En445 (by kernel_rfl) (by kernel_rfl) rfl ?_
    intro ac446 En447
    refine from_end (by kernel_rfl) ?_
    refine then_normal ?_
    refine region_cut (F := fun ac wo => ∃ (n : Nat), Env ac 139 [(1, .slice ax (List.length lx) cx), (2, pt bk1), (4, pt bk6), (5, pt bk11), (6, ni i0), (8, pt bk228), (9, .int .i64 ((16 * q : Nat) : Int)), (11, ni n)] ∧ Ev w [] wo [.box bk228 (u64s ch) 59, .box bk11 (u64s (rDF lk 16)) 58, .box bk1 (bys lk) 22, .box bk6 (bys (List.replicate 16 0)) 31] ∧ (n = min 16 (List.length lx - 16 * q))) ?_ ?_
    ·
     refine cond_at En447 (t := decide (((List.length lx - 16 * q : Nat) : Int) > (16 : Int))) (by kernel_rfl) (fun hc448 => ?_) (fun hc448 => ?_)
     ·
      replace hc448 : ((List.length lx - 16 * q : Nat) : Int) > (16 : Int) := of_decide_eq_true hc448
      refine region_from ?_
      refine d_pures [(1, .slice ax (List.length lx) cx), (2, pt bk1), (4, pt bk6), (5, pt bk11), (6, ni i0), (8, pt bk228), (9, .int .i64 ((16 * q : Nat) : Int)), (11, .int .i64 16)] [.int .i64 16] 1 En447 (by kernel_rfl) (by kernel_rfl) rfl ?_
      intro ac449 En450
      refine from_end (by kernel_rfl) ?_
      exact ⟨rfl, ⟨16, En450.sub (by kernel_rfl), Hv441.pick [0, 1, 2, 3] (by kernel_rfl) (by decide), by omega⟩⟩
     ·
      replace hc448 : ¬ (((List.length lx - 16 * q : Nat) : Int) > (16 : Int)) := of_decide_eq_false hc448
      refine wp_skip ?_
      exact ⟨rfl, ⟨(List.length lx - 16 * q), En447.sub (by kernel_rfl), Hv441.pick [0, 1, 2, 3] (by kernel_rfl) (by decide), by omega⟩⟩
    ·
     rintro ac451 wo452 ⟨n, En453, Hv454, hn⟩
     refine then_normal ?_
     refine wp_seq ?_
     refine region_cut (F := fun ac wo => Env ac 139 [(1, .slice ax (List.length lx) cx), (2, pt bk1), (4, pt bk6), (5, pt bk11), (6, ni i0), (8, pt bk228), (9, .int .i64 ((16 * q : Nat) : Int)), (11, ni n)] ∧ Ev w [] wo [.box bk228 (u64s (List.set ch (n / 2) ((List.getD ch (n / 2) 0) + ((1 : UInt64) <<< UInt64.ofNat (8 * (n % 2)))))) 59, .box bk11 (u64s (rDF lk 16)) 58, .box bk1 (bys lk) 22, .box bk6 (bys (List.replicate 16 0)) 31]) ?_ ?_
     ·
      refine draw_any (by kernel_rfl) 13 (by kernel_rfl) ?_
      have wo455 := Hv454.trans (Ev.drew Hv454.heap)
      refine any_pureR (d := some 94) En453 (v := ni n) 0 (by kernel_rfl) (by kernel_rfl) rfl ?_
      intro ac486 En487
      refine any_pureR (d := some 95) En487 (v := .int .i64 (IntKind.wrap .i64 (Int.tdiv ((n : Nat) : Int) (2 : Int)))) 1 (by kernel_rfl) (by kernel_rfl) rfl ?_
      intro ac488 En489
      rw [show IntKind.wrap .i64 (Int.tdiv ((n : Nat) : Int) (2 : Int)) = ((n / 2 : Nat) : Int) from Go.Dbr.i64_quo_nat (a := ((n : Nat) : Int)) (n := n) (m := 2) rfl (by omega)] at En489
      refine any_pureR (d := some 96) En489 (v := ni n) 2 (by kernel_rfl) (by kernel_rfl) rfl ?_
      intro ac490 En491
      refine any_pureR (d := some 97) En491 (v := .int .i64 (IntKind.wrap .i64 (Int.tdiv ((n : Nat) : Int) (2 : Int)))) 3 (by kernel_rfl) (by kernel_rfl) rfl ?_
      intro ac492 En493
      rw [show IntKind.wrap .i64 (Int.tdiv ((n : Nat) : Int) (2 : Int)) = ((n / 2 : Nat) : Int) from Go.Dbr.i64_quo_nat (a := ((n : Nat) : Int)) (n := n) (m := 2) rfl (by omega)] at En493
      refine any_pure (d := some 98) (s := nv (Instr.indexAt 59 (pt bk228) (.int .i64 ((n / 2 : Nat) : Int)))) En493 (v := .pointer (some ⟨bk228, n / 2, none⟩)) 4 (by kernel_rfl) (funext fun _ => run_nv (Go.Dbr.run_indexarr (e := 49) (sz := 1) (m := 9) (j := n / 2) (o := n / 2) (by kernel_rfl) (by kernel_rfl) (by omega) (by omega) (by omega) _)) (by kernel_rfl) rfl ?_
      intro ac494 En495
      refine any_pureR (d := some 100) En495 (v := ni n) 6 (by kernel_rfl) (by kernel_rfl) rfl ?_
      intro ac496 En497
      refine any_pureR (d := some 101) En497 (v := .int .i64 (Int.tmod ((n : Nat) : Int) (2 : Int))) 7 (by kernel_rfl) (by kernel_rfl) rfl ?_
      intro ac498 En499
      rw [show Int.tmod ((n : Nat) : Int) (2 : Int) = ((n % 2 : Nat) : Int) from Go.Dbr.i64_rem_nat (a := ((n : Nat) : Int)) (n := n) (m := 2) rfl (by omega)] at En499
      refine any_pureR (d := some 102) En499 (v := .int .i64 (IntKind.wrap .i64 ((8 : Int) * ((n % 2 : Nat) : Int)))) 8 (by kernel_rfl) (by kernel_rfl) rfl ?_
      intro ac500 En501
      rw [Go.Dbr.wr64 (e := (8 : Int) * ((n % 2 : Nat) : Int)) (x := ((8 * (n % 2) : Nat) : Int)) (by omega) (by omega) (by omega)] at En501
      refine any_pure (d := some 103) (s := nv (Op.shift .shl .u64 ((UInt64.toNat (1 : UInt64) : Nat) : Int) .i64 ((8 * (n % 2) : Nat) : Int))) En501 (v := .int .u64 ((UInt64.toNat ((1 : UInt64) <<< UInt64.ofNat (8 * (n % 2))) : Nat) : Int)) 9 (by kernel_rfl) (funext fun _ => run_nv (Go.Dbr.run_shl_u64 (1 : UInt64) .i64 (8 * (n % 2)) (by omega) _)) (by kernel_rfl) rfl ?_
      intro ac502 En503
      refine any_at 5 (by kernel_rfl) rfl ?_
      have hb504 : n / 2 < List.length ch := by rw [hlch]; omega
      refine op_loadbox (d := some 99) (t := 49) (b := bk228) (off := n / 2) (k := 0) (v := .int .u64 ((UInt64.toNat (List.getD ch (n / 2) 0) : Nat) : Int)) En503 (by kernel_rfl) wo455 rfl (u64s_getD hb504) (by kernel_rfl) ?_
      intro ac505 En506
      refine any_pureR (d := some 104) En506 (v := .int .u64 (IntKind.wrap .u64 (((UInt64.toNat (List.getD ch (n / 2) 0) : Nat) : Int) + ((UInt64.toNat ((1 : UInt64) <<< UInt64.ofNat (8 * (n % 2))) : Nat) : Int)))) 10 (by kernel_rfl) (by kernel_rfl) rfl ?_
      intro ac507 En508
      rw [Go.Dbr.u64_add (a := ((UInt64.toNat (List.getD ch (n / 2) 0) : Nat) : Int)) (b := ((UInt64.toNat ((1 : UInt64) <<< UInt64.ofNat (8 * (n % 2))) : Nat) : Int)) (x := List.getD ch (n / 2) 0) (y := (1 : UInt64) <<< UInt64.ofNat (8 * (n % 2))) rfl rfl] at En508
      refine any_pure (d := some 105) (s := nv (Instr.indexAt 59 (pt bk228) (.int .i64 ((n / 2 : Nat) : Int)))) En508 (v := .pointer (some ⟨bk228, n / 2, none⟩)) 11 (by kernel_rfl) (funext fun _ => run_nv (Go.Dbr.run_indexarr (e := 49) (sz := 1) (m := 9) (j := n / 2) (o := n / 2) (by kernel_rfl) (by kernel_rfl) (by omega) (by omega) (by omega) _)) (by kernel_rfl) rfl ?_
      intro ac509 En510
      refine any_at 12 (by kernel_rfl) rfl ?_
      have hb511 : n / 2 < List.length ch := by rw [hlch]; omega
      refine op_storebox2 (d := none) (t := 49) (b := bk228) (off := n / 2) (k := 0) (v := .int .u64 ((UInt64.toNat ((List.getD ch (n / 2) 0) + ((1 : UInt64) <<< UInt64.ofNat (8 * (n % 2)))) : Nat) : Int)) En510 (by kernel_rfl) wo455 rfl (u64s_getD hb511) (by kernel_rfl) rfl (u64s_set _ _ _) rfl ?_
      intro ac512 wo513  En514 Hv515
      exact any_end (by kernel_rfl) ⟨En514.sub (by kernel_rfl), Hv515.pick [0, 1, 2, 3] (by kernel_rfl) (by decide)⟩
     rintro ac516 wo517 ⟨En518, Hv519⟩
     rw [show (List.set ch (n / 2) ((List.getD ch (n / 2) 0) + ((1 : UInt64) <<< UInt64.ofNat (8 * (n % 2))))) = (blockD v lx q n) from (by rw [hech, ← hn]; rfl)] at Hv519
     refine then_normal ?_
     refine region_from ?_
     refine from_op (by kernel_rfl) ?_
     refine op_loadaggbox (d := some 106) (t := 59) (b := bk228) (off := 0) (k := 0) (m := 9) (xs := u64s (blockD v lx q n)) En518 (by kernel_rfl) Hv519 rfl (load_whole (u64s_lenh (blockD_len hl lx q n))) (u64s_lenh (blockD_len hl lx q n)) (by kernel_rfl) (by kernel_rfl) ?_
     intro ac520 En521
     refine from_op (by kernel_rfl) ?_
     refine op_loadaggbox (d := some 107) (t := 58) (b := bk11) (off := 0) (k := 1) (m := 8) (xs := u64s (rDF lk 16)) En521 (by kernel_rfl) Hv519 rfl (load_whole (u64s_lenh (rDF_len lk 16))) (u64s_lenh (rDF_len lk 16)) (by kernel_rfl) (by kernel_rfl) ?_
     intro ac522 En523
     refine from_op (by kernel_rfl) ?_
     have hM524 : Heap wo517 [] := Hv519.heap.pick [] (by kernel_rfl) (by decide)
     refine op_call (d := some 108) (f := 28) (args := #[.agg (List.toArray (u64s (blockD v lx q n))), .agg (List.toArray (u64s (rDF lk 16)))]) En523 (by kernel_rfl) ((product_ref _ (blockD v lx q n) (blockD_len hl lx q n) (rDF lk 16) (rDF_len lk 16)).mono ?_)
     rintro _ wo526 ⟨rfl, he529⟩
     refine ⟨_, rfl, ?_⟩
     intro ac525 En527
     have Hv528 : Ev w [] wo526 [.box bk228 (u64s (blockD v lx q n)) 59, .box bk11 (u64s (rDF lk 16)) 58, .box bk1 (bys lk) 22, .box bk6 (bys (List.replicate 16 0)) 31] := Hv519.trans (Ev.call (R := [.box bk228 (u64s (blockD v lx q n)) 59, .box bk11 (u64s (rDF lk 16)) 58, .box bk1 (bys lk) 22, .box bk6 (bys (List.replicate 16 0)) 31]) Hv519.heap [0, 1, 2, 3] (by kernel_rfl) (by decide) he529)
     clear hM524 he529
     refine from_op (by kernel_rfl) ?_
     refine op_storeaggbox (d := none) (t := 59) (b := bk228) (off := 0) (k := 0) (m := 9) (xs := u64s (productF (blockD v lx q n) (rDF lk 16))) (v := .agg (List.toArray (u64s (productF (blockD v lx q n) (rDF lk 16))))) (cs' := u64s (productF (blockD v lx q n) (rDF lk 16))) En527 (by kernel_rfl) Hv528 rfl rfl (u64s_lenh (productF_len _ _)) (by rw [(u64s_lenh (blockD_len hl lx q n))]; decide) (by kernel_rfl) (u64s_one _) (store_whole (u64s_lenh (blockD_len hl lx q n))) (L' := [.box bk228 (u64s (productF (blockD v lx q n) (rDF lk 16))) 59, .box bk11 (u64s (rDF lk 16)) 58, .box bk1 (bys lk) 22, .box bk6 (bys (List.replicate 16 0)) 31]) rfl ?_
     intro ac530 wo531  En532 Hv533
     refine from_end (by kernel_rfl) ?_
     refine block_normal ?_
     refine then_normal ?_
     refine region_from ?_
     refine d_pures [(1, .slice ax (List.length lx) cx), (2, pt bk1), (4, pt bk6), (5, pt bk11), (6, ni i0), (8, pt bk228), (9, .int .i64 ((16 * q : Nat) : Int)), (11, ni n), (56, .int .i64 (IntKind.wrap .i64 (((16 * q : Nat) : Int) + (16 : Int))))] [.int .i64 ((16 * q : Nat) : Int), .int .i64 (IntKind.wrap .i64 (((16 * q : Nat) : Int) + (16 : Int)))] 2 En532 (by kernel_rfl) (by kernel_rfl) rfl ?_
     intro ac534 En535
     rw [Go.Dbr.wr64 (e := ((16 * q : Nat) : Int) + (16 : Int)) (x := (((16 * q) + 16 : Nat) : Int)) (by omega) (by omega) (by omega)] at En535
     refine d_pures [(1, .slice ax (List.length lx) cx), (2, pt bk1), (4, pt bk6), (5, pt bk11), (6, ni i0), (8, pt bk228), (9, .int .i64 (((16 * q) + 16 : Nat) : Int)), (11, ni n)] [.int .i64 (((16 * q) + 16 : Nat) : Int)] 3 En535 (by kernel_rfl) (by kernel_rfl) rfl ?_
     intro ac536 En537
     refine from_end (by kernel_rfl) ?_
     refine then_normal ?_
     obtain ⟨hs1, hs2, hs3⟩ := mac_step16 hk hl hd hb hm (by omega) hn
     refine ⟨_, ⟨q + 1, (productF (blockD v lx q n) (rDF lk 16)), rfl, En537.sub (by kernel_rfl), Hv533.pick [0, 1, 2, 3] (by kernel_rfl) (by decide), by omega, (productF_len _ _), hs3, hs2, hs1⟩, ?_⟩
     omega
  ·
   replace hc244 : ¬ (((16 * q : Nat) : Int) < ((List.length lx : Nat) : Int)) := of_decide_eq_false hc244
   refine wp_exit ?_
   refine then_exit ?_
   refine then_exit ?_
   refine block_exit ?_
   refine then_normal ?_
   refine wp_seq ?_
   have hqe : q = (List.length lx + 15) / 16 := by omega
   refine region_from ?_
   refine from_op (by kernel_rfl) ?_
   refine op_loadaggbox (d := some 109) (t := 59) (b := bk228) (off := 0) (k := 0) (m := 9) (xs := u64s v) En243 (by kernel_rfl) Hv240 rfl (load_whole (u64s_lenh hl)) (u64s_lenh hl) (by kernel_rfl) (by kernel_rfl) ?_
   intro ac538 En539
   refine from_op (by kernel_rfl) ?_
   have hM541 : Heap wo238 [] := Hv240.heap.pick [] (by kernel_rfl) (by decide)
   refine op_call (d := some 110) (f := 29) (args := #[.agg (List.toArray (u64s v))]) En539 (by kernel_rfl) ((ended_ref _ v hl hd (by omega)).mono ?_)
   rintro _ wo543 ⟨leq540, rfl, he546, hlq540, hdq540, hvq540⟩
   refine ⟨_, rfl, ?_⟩
   intro ac542 En544
   have Hv545 : Ev w [] wo543 [.box bk228 (u64s v) 59, .box bk11 (u64s (rDF lk 16)) 58, .box bk1 (bys lk) 22, .box bk6 (bys (List.replicate 16 0)) 31] := Hv240.trans (Ev.call (R := [.box bk228 (u64s v) 59, .box bk11 (u64s (rDF lk 16)) 58, .box bk1 (bys lk) 22, .box bk6 (bys (List.replicate 16 0)) 31]) Hv240.heap [0, 1, 2, 3] (by kernel_rfl) (by decide) he546)
   clear hM541 he546
   refine from_op (by kernel_rfl) ?_
   refine op_storeaggbox (d := none) (t := 59) (b := bk228) (off := 0) (k := 0) (m := 9) (xs := u64s leq540) (v := .agg (List.toArray (u64s leq540))) (cs' := u64s leq540) En544 (by kernel_rfl) Hv545 rfl rfl (u64s_lenh hlq540) (by rw [(u64s_lenh hl)]; decide) (by kernel_rfl) (u64s_one _) (store_whole (u64s_lenh hl)) (L' := [.box bk228 (u64s leq540) 59, .box bk11 (u64s (rDF lk 16)) 58, .box bk1 (bys lk) 22, .box bk6 (bys (List.replicate 16 0)) 31]) rfl ?_
   intro ac547 wo548  En549 Hv550
   refine from_end (by kernel_rfl) ?_
   refine then_normal ?_
   refine wp_seq ?_
   refine region_from ?_
   refine from_op (by kernel_rfl) ?_
   refine op_alloc (d := some 12) (T := 31) (x := .tuple #[]) (z := .agg (List.toArray (bys (List.replicate 16 0)))) (cs := bys (List.replicate 16 0)) En549 (by kernel_rfl) (by kernel_rfl) (by kernel_rfl) Hv550 ?_
   intro ac552 wo553 bk551 En554 Hv555
   refine from_end (by kernel_rfl) ?_
   refine then_normal ?_
   refine wp_seq ?_
   refine region_from ?_
   refine d_pures [(1, .slice ax (List.length lx) cx), (2, pt bk1), (4, pt bk6), (5, pt bk11), (6, ni i0), (8, pt bk228), (9, .int .i64 ((16 * q : Nat) : Int)), (12, pt bk551), (13, .int .u64 0)] [.int .u64 0] 1 En554 (by kernel_rfl) (by kernel_rfl) rfl ?_
   intro ac556 En557
   refine from_end (by kernel_rfl) ?_
   refine then_normal ?_
   refine wp_seq ?_
   refine wp_seq ?_
   refine region_from ?_
   refine d_pures [(1, .slice ax (List.length lx) cx), (2, pt bk1), (4, pt bk6), (5, pt bk11), (6, ni i0), (8, pt bk228), (9, .int .i64 ((16 * q : Nat) : Int)), (12, pt bk551), (13, .int .u64 0), (14, .int .i64 0)] [.int .i64 0] 1 En557 (by kernel_rfl) (by kernel_rfl) rfl ?_
   intro ac558 En559
   refine from_end (by kernel_rfl) ?_
   refine then_normal ?_
   refine wp_block ?_
   refine loop_m (fun ms560 ac wo => ∃ (i : Nat) (o : List UInt8) (cy : UInt64), ms560 = (16 - i : Nat) ∧ Env ac 139 [(1, .slice ax (List.length lx) cx), (2, pt bk1), (4, pt bk6), (5, pt bk11), (6, ni i0), (8, pt bk228), (9, .int .i64 ((16 * q : Nat) : Int)), (12, pt bk551), (13, uv64 cy), (14, ni i)] ∧ Ev w [] wo [.box bk551 (bys o) 31, .box bk228 (u64s leq540) 59, .box bk11 (u64s (rDF lk 16)) 58, .box bk1 (bys lk) 22, .box bk6 (bys (List.replicate 16 0)) 31] ∧ (i ≤ 16) ∧ (List.length o = 16) ∧ (∀ j, j < 16 → List.getD o j 0 = if j < i then UInt8.ofNat ((dv B16 leq540 + leN (List.drop 16 lk)) / 256 ^ j) else 0) ∧ ((dv B16 leq540 + leN (List.drop 16 lk)) / 256 ^ i = dv B16 leq540 / 256 ^ i + leN (List.drop 16 lk) / 256 ^ i + UInt64.toNat cy) ∧ (UInt64.toNat cy ≤ 1)) ⟨_, 0, List.replicate 16 0, 0, rfl, En559.sub (by kernel_rfl), Hv555.pick [4, 0, 1, 2, 3] (by kernel_rfl) (by decide), by omega, (List.length_replicate), fun j hj => by rw [getD_replicate, if_neg (by omega)], by rw [Nat.pow_zero, Nat.div_one, Nat.div_one, Nat.div_one]; rfl, by decide⟩ ?_
   rintro mm566 ac562 wo563 ⟨i, o, cy, rfl, En564, Hv565, hi, ho, hpo, hcy, hcy1⟩
   refine wp_seq ?_
   refine wp_seq ?_
   refine region_from ?_
   refine d_pures [(1, .slice ax (List.length lx) cx), (2, pt bk1), (4, pt bk6), (5, pt bk11), (6, ni i0), (8, pt bk228), (9, .int .i64 ((16 * q : Nat) : Int)), (12, pt bk551), (13, uv64 cy), (14, ni i), (112, .bool (decide (((i : Nat) : Int) < (16 : Int))))] [ni i, .bool (decide (((i : Nat) : Int) < (16 : Int)))] 2 En564 (by kernel_rfl) (by kernel_rfl) rfl ?_
   intro ac567 En568
   refine from_end (by kernel_rfl) ?_
   refine then_normal ?_
   refine cond_at En568 (t := decide (((i : Nat) : Int) < (16 : Int))) (by kernel_rfl) (fun hc569 => ?_) (fun hc569 => ?_)
   ·
    replace hc569 : ((i : Nat) : Int) < (16 : Int) := of_decide_eq_true hc569
    refine wp_skip ?_
    refine then_normal ?_
    refine wp_seq ?_
    refine wp_block ?_
    refine wp_seq ?_
    refine region_cut (F := fun ac wo => Env ac 139 [(1, .slice ax (List.length lx) cx), (2, pt bk1), (4, pt bk6), (5, pt bk11), (6, ni i0), (8, pt bk228), (9, .int .i64 ((16 * q : Nat) : Int)), (12, pt bk551), (13, uv64 cy), (14, ni i), (15, .int .u64 ((UInt64.toNat (((((List.getD leq540 (i / 2) 0) >>> UInt64.ofNat (8 * (i % 2))) &&& (255 : UInt64)) + (UInt8.toUInt64 (List.getD lk (16 + i) 0))) + cy) : Nat) : Int))] ∧ Ev w [] wo [.box bk551 (bys o) 31, .box bk228 (u64s leq540) 59, .box bk11 (u64s (rDF lk 16)) 58, .box bk1 (bys lk) 22, .box bk6 (bys (List.replicate 16 0)) 31]) ?_ ?_
    ·
     refine h_start (fun wv => Ev w [] wv [.box bk228 (u64s leq540) 59, .box bk1 (bys lk) 22]) [] (by kernel_rfl) 18 (by kernel_rfl) ?_
     have wo570 := Hv565.trans (Ev.drew Hv565.heap)
     refine h_pureR (d := some 115) En568 (v := ni i) 0 (by kernel_rfl) (by kernel_rfl) rfl (fun _ => wo570.pick [1, 3] (by kernel_rfl) (by decide)) ?_
     intro ac665 En666
     refine h_pureR (d := some 116) En666 (v := .int .i64 (IntKind.wrap .i64 (Int.tdiv ((i : Nat) : Int) (2 : Int)))) 1 (by kernel_rfl) (by kernel_rfl) rfl (fun _ => wo570.pick [1, 3] (by kernel_rfl) (by decide)) ?_
     intro ac667 En668
     rw [show IntKind.wrap .i64 (Int.tdiv ((i : Nat) : Int) (2 : Int)) = ((i / 2 : Nat) : Int) from Go.Dbr.i64_quo_nat (a := ((i : Nat) : Int)) (n := i) (m := 2) rfl (by omega)] at En668
     refine h_free (d := some 117) (s := nv (Instr.indexAt 59 (pt bk228) (.int .i64 ((i / 2 : Nat) : Int)))) En668 (v := .pointer (some ⟨bk228, i / 2, none⟩)) 2 (by kernel_rfl) (fun _ => run_nv (Go.Dbr.run_indexarr (e := 49) (sz := 1) (m := 9) (j := i / 2) (o := i / 2) (by kernel_rfl) (by kernel_rfl) (by omega) (by omega) (by omega) _)) (by kernel_rfl) rfl (fun _ => wo570.pick [1, 3] (by kernel_rfl) (by decide)) ?_
     intro ac669 En670
     have hb671 : i / 2 < List.length leq540 := by rw [hlq540]; omega
     refine h_read (d := some 118) (s := nv (Instr.loadAt 49 (.pointer (some ⟨bk228, i / 2, none⟩)))) En670 (v := .int .u64 ((UInt64.toNat (List.getD leq540 (i / 2) 0) : Nat) : Int)) 3 (by kernel_rfl) (fun w hS => run_nv (run_load1 (by kernel_rfl) (hS.heap.cell (k := 0) rfl (u64s_getD hb671)))) (by kernel_rfl) rfl (wo570.pick [1, 3] (by kernel_rfl) (by decide)) ?_
     intro ac672 En673
     refine h_pureR (d := some 119) En673 (v := ni i) 4 (by kernel_rfl) (by kernel_rfl) rfl (fun _ => wo570.pick [1, 3] (by kernel_rfl) (by decide)) ?_
     intro ac674 En675
     refine h_pureR (d := some 120) En675 (v := .int .i64 (Int.tmod ((i : Nat) : Int) (2 : Int))) 5 (by kernel_rfl) (by kernel_rfl) rfl (fun _ => wo570.pick [1, 3] (by kernel_rfl) (by decide)) ?_
     intro ac676 En677
     rw [show Int.tmod ((i : Nat) : Int) (2 : Int) = ((i % 2 : Nat) : Int) from Go.Dbr.i64_rem_nat (a := ((i : Nat) : Int)) (n := i) (m := 2) rfl (by omega)] at En677
     refine h_pureR (d := some 121) En677 (v := .int .i64 (IntKind.wrap .i64 ((8 : Int) * ((i % 2 : Nat) : Int)))) 6 (by kernel_rfl) (by kernel_rfl) rfl (fun _ => wo570.pick [1, 3] (by kernel_rfl) (by decide)) ?_
     intro ac678 En679
     rw [Go.Dbr.wr64 (e := (8 : Int) * ((i % 2 : Nat) : Int)) (x := ((8 * (i % 2) : Nat) : Int)) (by omega) (by omega) (by omega)] at En679
     refine h_free (d := some 122) (s := nv (Op.shift .shr .u64 ((UInt64.toNat (List.getD leq540 (i / 2) 0) : Nat) : Int) .i64 ((8 * (i % 2) : Nat) : Int))) En679 (v := .int .u64 ((UInt64.toNat ((List.getD leq540 (i / 2) 0) >>> UInt64.ofNat (8 * (i % 2))) : Nat) : Int)) 7 (by kernel_rfl) (fun _ => run_nv (Go.Dbr.run_shr_u64 (List.getD leq540 (i / 2) 0) .i64 (8 * (i % 2)) (by omega) _)) (by kernel_rfl) rfl (fun _ => wo570.pick [1, 3] (by kernel_rfl) (by decide)) ?_
     intro ac680 En681
     refine h_pureR (d := some 123) En681 (v := .int .u64 (IntKind.wrap .u64 ((BitVec.ofInt (IntKind.bits .u64) ((UInt64.toNat ((List.getD leq540 (i / 2) 0) >>> UInt64.ofNat (8 * (i % 2))) : Nat) : Int) &&& BitVec.ofInt (IntKind.bits .u64) (255 : Int)).toNat : Int))) 8 (by kernel_rfl) (by kernel_rfl) rfl (fun _ => wo570.pick [1, 3] (by kernel_rfl) (by decide)) ?_
     intro ac682 En683
     rw [Go.Dbr.u64_and (a := ((UInt64.toNat ((List.getD leq540 (i / 2) 0) >>> UInt64.ofNat (8 * (i % 2))) : Nat) : Int)) (b := (255 : Int)) (x := (List.getD leq540 (i / 2) 0) >>> UInt64.ofNat (8 * (i % 2))) (y := (255 : UInt64)) rfl rfl] at En683
     refine h_pureR (d := some 124) En683 (v := ni i) 9 (by kernel_rfl) (by kernel_rfl) rfl (fun _ => wo570.pick [1, 3] (by kernel_rfl) (by decide)) ?_
     intro ac684 En685
     refine h_pureR (d := some 125) En685 (v := .int .i64 (IntKind.wrap .i64 ((16 : Int) + ((i : Nat) : Int)))) 10 (by kernel_rfl) (by kernel_rfl) rfl (fun _ => wo570.pick [1, 3] (by kernel_rfl) (by decide)) ?_
     intro ac686 En687
     rw [Go.Dbr.wr64 (e := (16 : Int) + ((i : Nat) : Int)) (x := ((16 + i : Nat) : Int)) (by omega) (by omega) (by omega)] at En687
     refine h_free (d := some 126) (s := nv (Instr.indexAt 22 (pt bk1) (.int .i64 ((16 + i : Nat) : Int)))) En687 (v := .pointer (some ⟨bk1, 16 + i, none⟩)) 11 (by kernel_rfl) (fun _ => run_nv (Go.Dbr.run_indexarr (e := 5) (sz := 1) (m := 32) (j := 16 + i) (o := 16 + i) (by kernel_rfl) (by kernel_rfl) (by omega) (by omega) (by omega) _)) (by kernel_rfl) rfl (fun _ => wo570.pick [1, 3] (by kernel_rfl) (by decide)) ?_
     intro ac688 En689
     have hb690 : 16 + i < List.length lk := by rw [hk]; omega
     refine h_read (d := some 127) (s := nv (Instr.loadAt 5 (.pointer (some ⟨bk1, 16 + i, none⟩)))) En689 (v := .int .u8 ((UInt8.toNat (List.getD lk (16 + i) 0) : Nat) : Int)) 12 (by kernel_rfl) (fun w hS => run_nv (run_load1 (by kernel_rfl) (hS.heap.cell (k := 1) rfl (bys_getD hb690)))) (by kernel_rfl) rfl (wo570.pick [1, 3] (by kernel_rfl) (by decide)) ?_
     intro ac691 En692
     refine h_pureR (d := some 128) En692 (v := .int .u64 (IntKind.wrap .u64 ((UInt8.toNat (List.getD lk (16 + i) 0) : Nat) : Int))) 13 (by kernel_rfl) (by kernel_rfl) rfl (fun _ => wo570.pick [1, 3] (by kernel_rfl) (by decide)) ?_
     intro ac693 En694
     rw [Go.Dbr.u8_to_u64 (a := ((UInt8.toNat (List.getD lk (16 + i) 0) : Nat) : Int)) (x := List.getD lk (16 + i) 0) rfl] at En694
     refine h_pureR (d := some 129) En694 (v := .int .u64 (IntKind.wrap .u64 (((UInt64.toNat (((List.getD leq540 (i / 2) 0) >>> UInt64.ofNat (8 * (i % 2))) &&& (255 : UInt64)) : Nat) : Int) + ((UInt64.toNat (UInt8.toUInt64 (List.getD lk (16 + i) 0)) : Nat) : Int)))) 14 (by kernel_rfl) (by kernel_rfl) rfl (fun _ => wo570.pick [1, 3] (by kernel_rfl) (by decide)) ?_
     intro ac695 En696
     rw [Go.Dbr.u64_add (a := ((UInt64.toNat (((List.getD leq540 (i / 2) 0) >>> UInt64.ofNat (8 * (i % 2))) &&& (255 : UInt64)) : Nat) : Int)) (b := ((UInt64.toNat (UInt8.toUInt64 (List.getD lk (16 + i) 0)) : Nat) : Int)) (x := ((List.getD leq540 (i / 2) 0) >>> UInt64.ofNat (8 * (i % 2))) &&& (255 : UInt64)) (y := UInt8.toUInt64 (List.getD lk (16 + i) 0)) rfl rfl] at En696
     refine h_pureR (d := some 130) En696 (v := uv64 cy) 15 (by kernel_rfl) (by kernel_rfl) rfl (fun _ => wo570.pick [1, 3] (by kernel_rfl) (by decide)) ?_
     intro ac697 En698
     refine h_pureR (d := some 131) En698 (v := .int .u64 (IntKind.wrap .u64 (((UInt64.toNat ((((List.getD leq540 (i / 2) 0) >>> UInt64.ofNat (8 * (i % 2))) &&& (255 : UInt64)) + (UInt8.toUInt64 (List.getD lk (16 + i) 0))) : Nat) : Int) + ((UInt64.toNat cy : Nat) : Int)))) 16 (by kernel_rfl) (by kernel_rfl) rfl (fun _ => wo570.pick [1, 3] (by kernel_rfl) (by decide)) ?_
     intro ac699 En700
     rw [Go.Dbr.u64_add (a := ((UInt64.toNat ((((List.getD leq540 (i / 2) 0) >>> UInt64.ofNat (8 * (i % 2))) &&& (255 : UInt64)) + (UInt8.toUInt64 (List.getD lk (16 + i) 0))) : Nat) : Int)) (b := ((UInt64.toNat cy : Nat) : Int)) (x := (((List.getD leq540 (i / 2) 0) >>> UInt64.ofNat (8 * (i % 2))) &&& (255 : UInt64)) + (UInt8.toUInt64 (List.getD lk (16 + i) 0))) (y := cy) rfl rfl] at En700
     refine h_pureR (d := some 15) En700 (v := .int .u64 ((UInt64.toNat (((((List.getD leq540 (i / 2) 0) >>> UInt64.ofNat (8 * (i % 2))) &&& (255 : UInt64)) + (UInt8.toUInt64 (List.getD lk (16 + i) 0))) + cy) : Nat) : Int)) 17 (by kernel_rfl) (by kernel_rfl) rfl (fun _ => wo570.pick [1, 3] (by kernel_rfl) (by decide)) ?_
     intro ac701 En702
     exact h_end (by kernel_rfl) ⟨En702.sub (by kernel_rfl), wo570.pick [0, 1, 2, 3, 4] (by kernel_rfl) (by decide)⟩
    rintro ac703 wo704 ⟨En705, Hv706⟩
    refine then_normal ?_
    refine wp_seq ?_
    refine region_from ?_
    refine d_pures [(1, .slice ax (List.length lx) cx), (2, pt bk1), (4, pt bk6), (5, pt bk11), (6, ni i0), (8, pt bk228), (9, .int .i64 ((16 * q : Nat) : Int)), (12, pt bk551), (13, uv64 cy), (14, ni i), (15, .int .u64 ((UInt64.toNat (((((List.getD leq540 (i / 2) 0) >>> UInt64.ofNat (8 * (i % 2))) &&& (255 : UInt64)) + (UInt8.toUInt64 (List.getD lk (16 + i) 0))) + cy) : Nat) : Int)), (132, ni i), (134, .int .u8 (IntKind.wrap .u8 ((UInt64.toNat (((((List.getD leq540 (i / 2) 0) >>> UInt64.ofNat (8 * (i % 2))) &&& (255 : UInt64)) + (UInt8.toUInt64 (List.getD lk (16 + i) 0))) + cy) : Nat) : Int)))] [ni i, .int .u64 ((UInt64.toNat (((((List.getD leq540 (i / 2) 0) >>> UInt64.ofNat (8 * (i % 2))) &&& (255 : UInt64)) + (UInt8.toUInt64 (List.getD lk (16 + i) 0))) + cy) : Nat) : Int), .int .u8 (IntKind.wrap .u8 ((UInt64.toNat (((((List.getD leq540 (i / 2) 0) >>> UInt64.ofNat (8 * (i % 2))) &&& (255 : UInt64)) + (UInt8.toUInt64 (List.getD lk (16 + i) 0))) + cy) : Nat) : Int))] 3 En705 (by kernel_rfl) (by kernel_rfl) rfl ?_
    intro ac707 En708
    rw [Go.Dbr.u64_to_u8 (a := ((UInt64.toNat (((((List.getD leq540 (i / 2) 0) >>> UInt64.ofNat (8 * (i % 2))) &&& (255 : UInt64)) + (UInt8.toUInt64 (List.getD lk (16 + i) 0))) + cy) : Nat) : Int)) (x := ((((List.getD leq540 (i / 2) 0) >>> UInt64.ofNat (8 * (i % 2))) &&& (255 : UInt64)) + (UInt8.toUInt64 (List.getD lk (16 + i) 0))) + cy) rfl] at En708
    refine from_op (by kernel_rfl) ?_
    refine op_val (d := some 135) (x := Instr.indexAt 31 (pt bk551) (ni i)) (v := .pointer (some ⟨bk551, i, none⟩)) En708 (by kernel_rfl) (Go.Dbr.run_indexarr (e := 5) (sz := 1) (m := 16) (j := i) (o := i) (by kernel_rfl) (by kernel_rfl) (by omega) (by omega) (by omega) _) ?_
    intro ac709 En710
    refine from_op (by kernel_rfl) ?_
    have hb711 : i < List.length o := by rw [ho]; omega
    refine op_storebox2 (d := none) (t := 5) (b := bk551) (off := i) (k := 0) (v := .int .u8 ((UInt8.toNat (UInt64.toUInt8 (((((List.getD leq540 (i / 2) 0) >>> UInt64.ofNat (8 * (i % 2))) &&& (255 : UInt64)) + (UInt8.toUInt64 (List.getD lk (16 + i) 0))) + cy)) : Nat) : Int)) En710 (by kernel_rfl) Hv706 rfl (bys_getD hb711) (by kernel_rfl) rfl (bys_set _ _ _) (L' := [.box bk551 (bys (List.set o i (UInt64.toUInt8 (((((List.getD leq540 (i / 2) 0) >>> UInt64.ofNat (8 * (i % 2))) &&& (255 : UInt64)) + (UInt8.toUInt64 (List.getD lk (16 + i) 0))) + cy)))) 31, .box bk228 (u64s leq540) 59, .box bk11 (u64s (rDF lk 16)) 58, .box bk1 (bys lk) 22, .box bk6 (bys (List.replicate 16 0)) 31]) rfl ?_
    intro ac712 wo713  En714 Hv715
    refine from_end (by kernel_rfl) ?_
    refine then_normal ?_
    refine region_from ?_
    refine d_pures [(1, .slice ax (List.length lx) cx), (2, pt bk1), (4, pt bk6), (5, pt bk11), (6, ni i0), (8, pt bk228), (9, .int .i64 ((16 * q : Nat) : Int)), (12, pt bk551), (13, uv64 cy), (14, ni i), (15, .int .u64 ((UInt64.toNat (((((List.getD leq540 (i / 2) 0) >>> UInt64.ofNat (8 * (i % 2))) &&& (255 : UInt64)) + (UInt8.toUInt64 (List.getD lk (16 + i) 0))) + cy) : Nat) : Int)), (137, .int .u64 (Int.fdiv ((UInt64.toNat (((((List.getD leq540 (i / 2) 0) >>> UInt64.ofNat (8 * (i % 2))) &&& (255 : UInt64)) + (UInt8.toUInt64 (List.getD lk (16 + i) 0))) + cy) : Nat) : Int) (2 ^ 8)))] [.int .u64 ((UInt64.toNat (((((List.getD leq540 (i / 2) 0) >>> UInt64.ofNat (8 * (i % 2))) &&& (255 : UInt64)) + (UInt8.toUInt64 (List.getD lk (16 + i) 0))) + cy) : Nat) : Int), .int .u64 (Int.fdiv ((UInt64.toNat (((((List.getD leq540 (i / 2) 0) >>> UInt64.ofNat (8 * (i % 2))) &&& (255 : UInt64)) + (UInt8.toUInt64 (List.getD lk (16 + i) 0))) + cy) : Nat) : Int) (2 ^ 8))] 2 En714 (by kernel_rfl) (by kernel_rfl) rfl ?_
    intro ac716 En717
    rw [Go.Dbr.u64_shr (a := ((UInt64.toNat (((((List.getD leq540 (i / 2) 0) >>> UInt64.ofNat (8 * (i % 2))) &&& (255 : UInt64)) + (UInt8.toUInt64 (List.getD lk (16 + i) 0))) + cy) : Nat) : Int)) (x := ((((List.getD leq540 (i / 2) 0) >>> UInt64.ofNat (8 * (i % 2))) &&& (255 : UInt64)) + (UInt8.toUInt64 (List.getD lk (16 + i) 0))) + cy) (n := 8) rfl (by decide)] at En717
    refine d_pures [(1, .slice ax (List.length lx) cx), (2, pt bk1), (4, pt bk6), (5, pt bk11), (6, ni i0), (8, pt bk228), (9, .int .i64 ((16 * q : Nat) : Int)), (12, pt bk551), (13, .int .u64 ((UInt64.toNat ((((((List.getD leq540 (i / 2) 0) >>> UInt64.ofNat (8 * (i % 2))) &&& (255 : UInt64)) + (UInt8.toUInt64 (List.getD lk (16 + i) 0))) + cy) >>> UInt64.ofNat 8) : Nat) : Int)), (14, ni i), (15, .int .u64 ((UInt64.toNat (((((List.getD leq540 (i / 2) 0) >>> UInt64.ofNat (8 * (i % 2))) &&& (255 : UInt64)) + (UInt8.toUInt64 (List.getD lk (16 + i) 0))) + cy) : Nat) : Int))] [.int .u64 ((UInt64.toNat ((((((List.getD leq540 (i / 2) 0) >>> UInt64.ofNat (8 * (i % 2))) &&& (255 : UInt64)) + (UInt8.toUInt64 (List.getD lk (16 + i) 0))) + cy) >>> UInt64.ofNat 8) : Nat) : Int)] 3 En717 (by kernel_rfl) (by kernel_rfl) rfl ?_
    intro ac718 En719
    refine from_end (by kernel_rfl) ?_
    refine block_normal ?_
    refine then_normal ?_
    refine region_from ?_
    refine d_pures [(1, .slice ax (List.length lx) cx), (2, pt bk1), (4, pt bk6), (5, pt bk11), (6, ni i0), (8, pt bk228), (9, .int .i64 ((16 * q : Nat) : Int)), (12, pt bk551), (13, .int .u64 ((UInt64.toNat ((((((List.getD leq540 (i / 2) 0) >>> UInt64.ofNat (8 * (i % 2))) &&& (255 : UInt64)) + (UInt8.toUInt64 (List.getD lk (16 + i) 0))) + cy) >>> UInt64.ofNat 8) : Nat) : Int)), (14, ni i), (15, .int .u64 ((UInt64.toNat (((((List.getD leq540 (i / 2) 0) >>> UInt64.ofNat (8 * (i % 2))) &&& (255 : UInt64)) + (UInt8.toUInt64 (List.getD lk (16 + i) 0))) + cy) : Nat) : Int)), (114, .int .i64 (IntKind.wrap .i64 (((i : Nat) : Int) + (1 : Int))))] [ni i, .int .i64 (IntKind.wrap .i64 (((i : Nat) : Int) + (1 : Int)))] 2 En719 (by kernel_rfl) (by kernel_rfl) rfl ?_
    intro ac720 En721
    rw [Go.Dbr.wr64 (e := ((i : Nat) : Int) + (1 : Int)) (x := ((i + 1 : Nat) : Int)) (by omega) (by omega) (by omega)] at En721
    refine d_pures [(1, .slice ax (List.length lx) cx), (2, pt bk1), (4, pt bk6), (5, pt bk11), (6, ni i0), (8, pt bk228), (9, .int .i64 ((16 * q : Nat) : Int)), (12, pt bk551), (13, .int .u64 ((UInt64.toNat ((((((List.getD leq540 (i / 2) 0) >>> UInt64.ofNat (8 * (i % 2))) &&& (255 : UInt64)) + (UInt8.toUInt64 (List.getD lk (16 + i) 0))) + cy) >>> UInt64.ofNat 8) : Nat) : Int)), (14, .int .i64 ((i + 1 : Nat) : Int)), (15, .int .u64 ((UInt64.toNat (((((List.getD leq540 (i / 2) 0) >>> UInt64.ofNat (8 * (i % 2))) &&& (255 : UInt64)) + (UInt8.toUInt64 (List.getD lk (16 + i) 0))) + cy) : Nat) : Int))] [.int .i64 ((i + 1 : Nat) : Int)] 3 En721 (by kernel_rfl) (by kernel_rfl) rfl ?_
    intro ac722 En723
    refine from_end (by kernel_rfl) ?_
    refine then_normal ?_
    obtain ⟨hz1, hz2, hz3⟩ := sum_byte (A := dv B16 leq540) (S := leN (List.drop 16 lk)) (x := ((List.getD leq540 (i / 2) 0 >>> UInt64.ofNat (8 * (i % 2))) &&& 255)) (y := (UInt8.toUInt64 (List.getD lk (16 + i) 0))) (c := cy) (dig_byte hdq540) (by rw [UInt8.toNat_toUInt64, drop_byte]) hcy hcy1
    refine ⟨_, ⟨i + 1, (List.set o i (UInt64.toUInt8 (((((List.getD leq540 (i / 2) 0) >>> UInt64.ofNat (8 * (i % 2))) &&& (255 : UInt64)) + (UInt8.toUInt64 (List.getD lk (16 + i) 0))) + cy))), ((((((List.getD leq540 (i / 2) 0) >>> UInt64.ofNat (8 * (i % 2))) &&& (255 : UInt64)) + (UInt8.toUInt64 (List.getD lk (16 + i) 0))) + cy) >>> UInt64.ofNat 8), rfl, En723.sub (by kernel_rfl), Hv715.pick [0, 1, 2, 3, 4] (by kernel_rfl) (by decide), by omega, (List.length_set.trans ho), by rw [hz1]; exact upto_set (f := fun j => UInt8.ofNat ((dv B16 leq540 + leN (List.drop 16 lk)) / 256 ^ j)) (g := fun _ => 0) ho hpo (by omega), hz2, hz3⟩, ?_⟩
    omega
   ·
    replace hc569 : ¬ (((i : Nat) : Int) < (16 : Int)) := of_decide_eq_false hc569
    refine wp_exit ?_
    refine then_exit ?_
    refine then_exit ?_
    refine block_exit ?_
    refine then_normal ?_
    refine wp_seq ?_
    have hi16 : i = 16 := by omega
    have hAv : dv B16 leq540 = macN lk lx := by rw [hvq540, hm, macN, ← hqe]
    have eo : o = polyF lk lx := eq_range_map 0 ho (fun j hj => by rw [hpo j hj, if_pos (by omega), hAv, key_add hk]; rfl)
    rw [show o = (polyF lk lx) from eo] at Hv565
    refine region_from ?_
    refine from_op (by kernel_rfl) ?_
    refine op_loadaggbox (d := some 138) (t := 31) (b := bk551) (off := 0) (k := 0) (m := 16) (xs := bys (polyF lk lx)) En568 (by kernel_rfl) Hv565 rfl (load_whole (bys_lenh (polyF_len lk lx))) (bys_lenh (polyF_len lk lx)) (by kernel_rfl) (by kernel_rfl) ?_
    intro ac724 En725
    refine from_op (by kernel_rfl) ?_
    refine op_storeaggbox (d := none) (t := 31) (b := bk6) (off := 0) (k := 4) (m := 16) (xs := bys (polyF lk lx)) (v := .agg (List.toArray (bys (polyF lk lx)))) (cs' := bys (polyF lk lx)) En725 (by kernel_rfl) Hv565 rfl rfl (bys_lenh (polyF_len lk lx)) (by rw [(bys_lenh (List.length_replicate))]; decide) (by kernel_rfl) (bys_one _) (store_whole (bys_lenh (List.length_replicate))) (L' := [.box bk551 (bys (polyF lk lx)) 31, .box bk228 (u64s leq540) 59, .box bk11 (u64s (rDF lk 16)) 58, .box bk1 (bys lk) 22, .box bk6 (bys (polyF lk lx)) 31]) rfl ?_
    intro ac726 wo727  En728 Hv729
    refine from_end (by kernel_rfl) ?_
    refine then_normal ?_
    refine wp_ret ?_
    refine d_cell1 (v := .agg (List.toArray (bys (polyF lk lx)))) (t := 4) (T := 31) (ad := ⟨bk6, 0, none⟩) En728 (by kernel_rfl) (by kernel_rfl) (Ev.cellAgg (t := 31) (k := 4) (off := 0) (m := 16) (xs := bys (polyF lk lx)) Hv729 rfl (load_whole (bys_lenh (polyF_len lk lx))) (bys_lenh (polyF_len lk lx)) (by kernel_rfl) (by kernel_rfl)) ?_
    exact ⟨rfl, Hv729.pick [] (by kernel_rfl) (by decide)⟩

end Go.Proofs.Ytnahplggflhdaaa
