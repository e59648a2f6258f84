/- Layer 9: a block of the reference; the live question. -/
import Derived.Test.YtnahplggflhdaaaC3
namespace Go.Proofs.Ytnahplggflhdaaa
open Go.Dbr
set_option maxRecDepth 100000
set_option maxHeartbeats 2000000
set_option linter.unusedVariables false
set_option linter.unusedSimpArgs false

theorem block_ref (w : World) (lk : List UInt8) (hk : List.length lk = 32) (c : UInt32) (ln : List UInt8) (hn : List.length ln = 12) : Calls Try.prog 12 #[.agg (List.toArray (bys lk)), .int .u32 ((UInt32.toNat c : Nat) : Int), .agg (List.toArray (bys ln))] w fun e w' => e = .returned (.agg (List.toArray (bys (blockF lk c ln)))) ∧ Ev w [] w' [] := by
  refine d_start [(0, .agg (List.toArray (bys lk))), (1, .int .u32 ((UInt32.toNat c : Nat) : Int)), (2, .agg (List.toArray (bys ln)))] 107 Go.Proofs.Try.func12 Go.Proofs.Try.ntmps12 rfl (by kernel_rfl) (by kernel_rfl) ?_
  intro act0 En0
  have Hv0 : Ev w [] w [] := Ev.refl (Heap.nil _)
  refine wp_seq ?_
  refine region_from ?_  -- region 0
  refine from_op (by kernel_rfl) ?_
  refine op_newbox (d := some 3) (T := 22) (v := .agg (List.toArray (bys lk))) (cs := bys lk) En0 (by kernel_rfl) rfl Hv0 ?_
  intro ac2 wo3 bk1 En4 Hv5
  refine from_op (by kernel_rfl) ?_
  refine op_newbox (d := some 5) (T := 24) (v := .agg (List.toArray (bys ln))) (cs := bys ln) En4 (by kernel_rfl) rfl Hv5 ?_
  intro ac7 wo8 bk6 En9 Hv10
  refine from_op (by kernel_rfl) ?_
  refine op_alloc (d := some 6) (T := 28) (x := .tuple #[]) (z := .agg (List.toArray (bys (List.replicate 64 0)))) (cs := bys (List.replicate 64 0)) En9 (by kernel_rfl) (by kernel_rfl) (by kernel_rfl) Hv10 ?_
  intro ac12 wo13 bk11 En14 Hv15
  refine from_end (by kernel_rfl) ?_
  refine then_normal ?_
  refine wp_seq ?_
  refine region_from ?_  -- region 1
  refine d_pures [(1, .int .u32 ((UInt32.toNat c : Nat) : Int)), (3, .pointer (some ⟨bk1, 0, none⟩)), (5, .pointer (some ⟨bk6, 0, none⟩)), (6, .pointer (some ⟨bk11, 0, none⟩)), (17, .agg (List.toArray (u32s ([1634760805, 857760878, 2036477234, 1797285236, 0, 0, 0, 0, 0, 0, 0, 0, 0, 0, 0, 0] : List UInt32))))] [.agg (List.toArray (u32s ([1634760805, 857760878, 2036477234, 1797285236, 0, 0, 0, 0, 0, 0, 0, 0, 0, 0, 0, 0] : List UInt32)))] 1 En14 (by kernel_rfl) (by kernel_rfl) rfl ?_
  intro ac16 En17
  refine from_op (by kernel_rfl) ?_
  refine op_alloc (d := some 7) (T := 42) (x := .tuple #[]) (z := .agg (List.toArray (u32s (List.replicate 16 0)))) (cs := u32s (List.replicate 16 0)) En17 (by kernel_rfl) (by kernel_rfl) (by kernel_rfl) Hv15 ?_
  intro ac19 wo20 bk18 En21 Hv22
  refine from_op (by kernel_rfl) ?_
  refine op_storeaggbox (d := none) (t := 42) (b := bk18) (off := 0) (k := 3) (m := 16) (xs := u32s ([1634760805, 857760878, 2036477234, 1797285236, 0, 0, 0, 0, 0, 0, 0, 0, 0, 0, 0, 0] : List UInt32)) (v := .agg (List.toArray (u32s ([1634760805, 857760878, 2036477234, 1797285236, 0, 0, 0, 0, 0, 0, 0, 0, 0, 0, 0, 0] : List UInt32)))) (cs' := u32s ([1634760805, 857760878, 2036477234, 1797285236, 0, 0, 0, 0, 0, 0, 0, 0, 0, 0, 0, 0] : List UInt32)) En21 (by kernel_rfl) Hv22 rfl rfl (u32s_lenh (show List.length ([1634760805, 857760878, 2036477234, 1797285236, 0, 0, 0, 0, 0, 0, 0, 0, 0, 0, 0, 0] : List UInt32) = 16 from rfl)) (by rw [(u32s_lenh (List.length_replicate))]; decide) (by kernel_rfl) (u32s_one _) (store_whole (u32s_lenh (List.length_replicate))) (L' := [.box bk1 (bys lk) 22, .box bk6 (bys ln) 24, .box bk11 (bys (List.replicate 64 0)) 28, .box bk18 (u32s ([1634760805, 857760878, 2036477234, 1797285236, 0, 0, 0, 0, 0, 0, 0, 0, 0, 0, 0, 0] : List UInt32)) 42]) rfl ?_
  intro ac23 wo24  En25 Hv26
  refine from_end (by kernel_rfl) ?_
  refine then_normal ?_
  refine wp_seq ?_
  refine wp_seq ?_
  refine region_from ?_  -- region 2
  refine d_pures [(1, .int .u32 ((UInt32.toNat c : Nat) : Int)), (3, .pointer (some ⟨bk1, 0, none⟩)), (5, .pointer (some ⟨bk6, 0, none⟩)), (6, .pointer (some ⟨bk11, 0, none⟩)), (7, .pointer (some ⟨bk18, 0, none⟩)), (8, .int .i64 0)] [.int .i64 0] 1 En25 (by kernel_rfl) (by kernel_rfl) rfl ?_
  intro ac27 En28
  refine from_end (by kernel_rfl) ?_
  refine then_normal ?_
  refine wp_block ?_
  refine loop_enter ?_
  refine loop_once ?_
  refine wp_seq ?_
  refine wp_seq ?_
  refine region_from ?_  -- region 3
  refine d_pures [(1, .int .u32 ((UInt32.toNat c : Nat) : Int)), (3, .pointer (some ⟨bk1, 0, none⟩)), (5, .pointer (some ⟨bk6, 0, none⟩)), (6, .pointer (some ⟨bk11, 0, none⟩)), (7, .pointer (some ⟨bk18, 0, none⟩)), (8, .int .i64 0), (19, .bool true)] [.int .i64 0, .bool true] 2 En28 (by kernel_rfl) (by kernel_rfl) rfl ?_
  intro ac29 En30
  refine from_end (by kernel_rfl) ?_
  refine then_normal ?_
  refine cond_true En30 (t := true) (by kernel_rfl) rfl ?_
  refine wp_skip ?_
  refine then_normal ?_
  refine wp_seq ?_
  refine wp_block ?_
  refine region_from ?_  -- region 5
  refine d_pures [(1, .int .u32 ((UInt32.toNat c : Nat) : Int)), (3, .pointer (some ⟨bk1, 0, none⟩)), (5, .pointer (some ⟨bk6, 0, none⟩)), (6, .pointer (some ⟨bk11, 0, none⟩)), (7, .pointer (some ⟨bk18, 0, none⟩)), (8, .int .i64 0), (23, .int .i64 4), (25, .int .i64 0), (28, .int .i64 4)] [.int .i64 0, .int .i64 4, .int .i64 0, .int .i64 0, .int .i64 0, .int .i64 0, .int .i64 4] 7 En30 (by kernel_rfl) (by kernel_rfl) rfl ?_
  intro ac31 En32
  refine from_op (by kernel_rfl) ?_
  refine op_slicearr (d := some 29) (t := 22) (e := 5) (sz := 1) (m := 32) (lo := 0) (hi := 4) (b := bk1) (off := 0) (lov := (some (.int .i64 0))) (hiv := (some (.int .i64 4))) (o := 0) En32 (by kernel_rfl) (by kernel_rfl) (by kernel_rfl) (by omega) (by omega) (by omega) (.inr ⟨.i64, rfl⟩) (.inr ⟨.i64, rfl⟩) (by omega) ?_
  intro ac33 En34
  refine from_op (by kernel_rfl) ?_
  have hM35 : Heap wo24 [] := Hv26.heap.pick [] (by kernel_rfl) (by decide)
  refine op_call (d := some 30) (f := 23) (args := #[.slice (some ⟨bk1, 0, none⟩) 4 32]) En34 (by kernel_rfl) ((word_ref _ (some ⟨bk1, 0, none⟩) 4 32 (List.take 4 lk) (by first | rfl | (simp; done) | (simp; omega) | omega) ((bys_inbox (Hv26.heap.roBox (k := 0) (m := 32) rfl (load_whole (bys_lenh hk)) [] (by kernel_rfl) rfl) hk (by decide)).take 4) (by first | omega | (simp; omega))).mono ?_)
  rintro _ wo37 ⟨rfl, he40⟩
  refine ⟨_, rfl, ?_⟩
  intro ac36 En38
  have Hv39 : Ev w [] wo37 [.box bk1 (bys lk) 22, .box bk6 (bys ln) 24, .box bk11 (bys (List.replicate 64 0)) 28, .box bk18 (u32s ([1634760805, 857760878, 2036477234, 1797285236, 0, 0, 0, 0, 0, 0, 0, 0, 0, 0, 0, 0] : List UInt32)) 42] := Hv26.trans (Ev.call (R := [.box bk1 (bys lk) 22, .box bk6 (bys ln) 24, .box bk11 (bys (List.replicate 64 0)) 28, .box bk18 (u32s ([1634760805, 857760878, 2036477234, 1797285236, 0, 0, 0, 0, 0, 0, 0, 0, 0, 0, 0, 0] : List UInt32)) 42]) Hv26.heap [0, 1, 2, 3] (by kernel_rfl) (by decide) he40)
  clear hM35 he40
  refine from_op (by kernel_rfl) ?_
  refine op_val (d := some 31) (x := Instr.indexAt 42 (.pointer (some ⟨bk18, 0, none⟩)) (.int .i64 4)) (v := .pointer (some ⟨bk18, 4, none⟩)) En38 (by kernel_rfl) (Go.Dbr.run_indexarr (e := 23) (sz := 1) (m := 16) (j := 4) (o := 4) (by kernel_rfl) (by kernel_rfl) (by omega) (by omega) (by omega) _) ?_
  intro ac41 En42
  refine from_op (by kernel_rfl) ?_
  have hb43 : 4 < List.length ([1634760805, 857760878, 2036477234, 1797285236, 0, 0, 0, 0, 0, 0, 0, 0, 0, 0, 0, 0] : List UInt32) := by rw [(show List.length ([1634760805, 857760878, 2036477234, 1797285236, 0, 0, 0, 0, 0, 0, 0, 0, 0, 0, 0, 0] : List UInt32) = 16 from rfl)]; omega
  refine op_storebox2 (d := none) (t := 23) (b := bk18) (off := 4) (k := 3) (v := .int .u32 ((UInt32.toNat (partW (List.take 4 lk) 0 4) : Nat) : Int)) En42 (by kernel_rfl) Hv39 rfl (u32s_getD hb43) (by kernel_rfl) rfl (u32s_set _ _ _) (L' := [.box bk1 (bys lk) 22, .box bk6 (bys ln) 24, .box bk11 (bys (List.replicate 64 0)) 28, .box bk18 (u32s (List.set ([1634760805, 857760878, 2036477234, 1797285236, 0, 0, 0, 0, 0, 0, 0, 0, 0, 0, 0, 0] : List UInt32) 4 (partW (List.take 4 lk) 0 4))) 42]) rfl ?_
  intro ac44 wo45  En46 Hv47
  refine from_end (by kernel_rfl) ?_
  refine block_normal ?_
  refine then_normal ?_
  refine region_from ?_  -- region 4
  refine d_pures [(1, .int .u32 ((UInt32.toNat c : Nat) : Int)), (3, .pointer (some ⟨bk1, 0, none⟩)), (5, .pointer (some ⟨bk6, 0, none⟩)), (6, .pointer (some ⟨bk11, 0, none⟩)), (7, .pointer (some ⟨bk18, 0, none⟩)), (8, .int .i64 1)] [.int .i64 0, .int .i64 1, .int .i64 1] 3 En46 (by kernel_rfl) (by kernel_rfl) rfl ?_
  intro ac48 En49
  refine from_end (by kernel_rfl) ?_
  refine then_normal ?_
  refine loop_once ?_
  refine wp_seq ?_
  refine wp_seq ?_
  refine region_from ?_  -- region 3
  refine d_pures [(1, .int .u32 ((UInt32.toNat c : Nat) : Int)), (3, .pointer (some ⟨bk1, 0, none⟩)), (5, .pointer (some ⟨bk6, 0, none⟩)), (6, .pointer (some ⟨bk11, 0, none⟩)), (7, .pointer (some ⟨bk18, 0, none⟩)), (8, .int .i64 1), (19, .bool true)] [.int .i64 1, .bool true] 2 En49 (by kernel_rfl) (by kernel_rfl) rfl ?_
  intro ac50 En51
  refine from_end (by kernel_rfl) ?_
  refine then_normal ?_
  refine cond_true En51 (t := true) (by kernel_rfl) rfl ?_
  refine wp_skip ?_
  refine then_normal ?_
  refine wp_seq ?_
  refine wp_block ?_
  refine region_from ?_  -- region 5
  refine d_pures [(1, .int .u32 ((UInt32.toNat c : Nat) : Int)), (3, .pointer (some ⟨bk1, 0, none⟩)), (5, .pointer (some ⟨bk6, 0, none⟩)), (6, .pointer (some ⟨bk11, 0, none⟩)), (7, .pointer (some ⟨bk18, 0, none⟩)), (8, .int .i64 1), (23, .int .i64 5), (25, .int .i64 4), (28, .int .i64 8)] [.int .i64 1, .int .i64 5, .int .i64 1, .int .i64 4, .int .i64 1, .int .i64 4, .int .i64 8] 7 En51 (by kernel_rfl) (by kernel_rfl) rfl ?_
  intro ac52 En53
  refine from_op (by kernel_rfl) ?_
  refine op_slicearr (d := some 29) (t := 22) (e := 5) (sz := 1) (m := 32) (lo := 4) (hi := 8) (b := bk1) (off := 0) (lov := (some (.int .i64 4))) (hiv := (some (.int .i64 8))) (o := 4) En53 (by kernel_rfl) (by kernel_rfl) (by kernel_rfl) (by omega) (by omega) (by omega) (.inr ⟨.i64, rfl⟩) (.inr ⟨.i64, rfl⟩) (by omega) ?_
  intro ac54 En55
  refine from_op (by kernel_rfl) ?_
  have hM56 : Heap wo45 [] := Hv47.heap.pick [] (by kernel_rfl) (by decide)
  refine op_call (d := some 30) (f := 23) (args := #[.slice (some ⟨bk1, 4, none⟩) 4 28]) En55 (by kernel_rfl) ((word_ref _ (some ⟨bk1, 4, none⟩) 4 28 (List.take 4 (List.drop 4 lk)) (by first | rfl | (simp; done) | (simp; omega) | omega) (bys_cutbox (bys_inbox (Hv47.heap.roBox (k := 0) (m := 32) rfl (load_whole (bys_lenh hk)) [] (by kernel_rfl) rfl) hk (by decide)) 4 8 (by omega) (by omega)) (by first | omega | (simp; omega))).mono ?_)
  rintro _ wo58 ⟨rfl, he61⟩
  refine ⟨_, rfl, ?_⟩
  intro ac57 En59
  have Hv60 : Ev w [] wo58 [.box bk1 (bys lk) 22, .box bk6 (bys ln) 24, .box bk11 (bys (List.replicate 64 0)) 28, .box bk18 (u32s (List.set ([1634760805, 857760878, 2036477234, 1797285236, 0, 0, 0, 0, 0, 0, 0, 0, 0, 0, 0, 0] : List UInt32) 4 (partW (List.take 4 lk) 0 4))) 42] := Hv47.trans (Ev.call (R := [.box bk1 (bys lk) 22, .box bk6 (bys ln) 24, .box bk11 (bys (List.replicate 64 0)) 28, .box bk18 (u32s (List.set ([1634760805, 857760878, 2036477234, 1797285236, 0, 0, 0, 0, 0, 0, 0, 0, 0, 0, 0, 0] : List UInt32) 4 (partW (List.take 4 lk) 0 4))) 42]) Hv47.heap [0, 1, 2, 3] (by kernel_rfl) (by decide) he61)
  clear hM56 he61
  refine from_op (by kernel_rfl) ?_
  refine op_val (d := some 31) (x := Instr.indexAt 42 (.pointer (some ⟨bk18, 0, none⟩)) (.int .i64 5)) (v := .pointer (some ⟨bk18, 5, none⟩)) En59 (by kernel_rfl) (Go.Dbr.run_indexarr (e := 23) (sz := 1) (m := 16) (j := 5) (o := 5) (by kernel_rfl) (by kernel_rfl) (by omega) (by omega) (by omega) _) ?_
  intro ac62 En63
  refine from_op (by kernel_rfl) ?_
  have hb64 : 5 < List.length (List.set ([1634760805, 857760878, 2036477234, 1797285236, 0, 0, 0, 0, 0, 0, 0, 0, 0, 0, 0, 0] : List UInt32) 4 (partW (List.take 4 lk) 0 4)) := by rw [(List.length_set.trans (show List.length ([1634760805, 857760878, 2036477234, 1797285236, 0, 0, 0, 0, 0, 0, 0, 0, 0, 0, 0, 0] : List UInt32) = 16 from rfl))]; omega
  refine op_storebox2 (d := none) (t := 23) (b := bk18) (off := 5) (k := 3) (v := .int .u32 ((UInt32.toNat (partW (List.take 4 (List.drop 4 lk)) 0 4) : Nat) : Int)) En63 (by kernel_rfl) Hv60 rfl (u32s_getD hb64) (by kernel_rfl) rfl (u32s_set _ _ _) (L' := [.box bk1 (bys lk) 22, .box bk6 (bys ln) 24, .box bk11 (bys (List.replicate 64 0)) 28, .box bk18 (u32s (List.set (List.set ([1634760805, 857760878, 2036477234, 1797285236, 0, 0, 0, 0, 0, 0, 0, 0, 0, 0, 0, 0] : List UInt32) 4 (partW (List.take 4 lk) 0 4)) 5 (partW (List.take 4 (List.drop 4 lk)) 0 4))) 42]) rfl ?_
  intro ac65 wo66  En67 Hv68
  refine from_end (by kernel_rfl) ?_
  refine block_normal ?_
  refine then_normal ?_
  refine region_from ?_  -- region 4
  refine d_pures [(1, .int .u32 ((UInt32.toNat c : Nat) : Int)), (3, .pointer (some ⟨bk1, 0, none⟩)), (5, .pointer (some ⟨bk6, 0, none⟩)), (6, .pointer (some ⟨bk11, 0, none⟩)), (7, .pointer (some ⟨bk18, 0, none⟩)), (8, .int .i64 2)] [.int .i64 1, .int .i64 2, .int .i64 2] 3 En67 (by kernel_rfl) (by kernel_rfl) rfl ?_
  intro ac69 En70
  refine from_end (by kernel_rfl) ?_
  refine then_normal ?_
  refine loop_once ?_
  refine wp_seq ?_
  refine wp_seq ?_
  refine region_from ?_  -- region 3
  refine d_pures [(1, .int .u32 ((UInt32.toNat c : Nat) : Int)), (3, .pointer (some ⟨bk1, 0, none⟩)), (5, .pointer (some ⟨bk6, 0, none⟩)), (6, .pointer (some ⟨bk11, 0, none⟩)), (7, .pointer (some ⟨bk18, 0, none⟩)), (8, .int .i64 2), (19, .bool true)] [.int .i64 2, .bool true] 2 En70 (by kernel_rfl) (by kernel_rfl) rfl ?_
  intro ac71 En72
  refine from_end (by kernel_rfl) ?_
  refine then_normal ?_
  refine cond_true En72 (t := true) (by kernel_rfl) rfl ?_
  refine wp_skip ?_
  refine then_normal ?_
  refine wp_seq ?_
  refine wp_block ?_
  refine region_from ?_  -- region 5
  refine d_pures [(1, .int .u32 ((UInt32.toNat c : Nat) : Int)), (3, .pointer (some ⟨bk1, 0, none⟩)), (5, .pointer (some ⟨bk6, 0, none⟩)), (6, .pointer (some ⟨bk11, 0, none⟩)), (7, .pointer (some ⟨bk18, 0, none⟩)), (8, .int .i64 2), (23, .int .i64 6), (25, .int .i64 8), (28, .int .i64 12)] [.int .i64 2, .int .i64 6, .int .i64 2, .int .i64 8, .int .i64 2, .int .i64 8, .int .i64 12] 7 En72 (by kernel_rfl) (by kernel_rfl) rfl ?_
  intro ac73 En74
  refine from_op (by kernel_rfl) ?_
  refine op_slicearr (d := some 29) (t := 22) (e := 5) (sz := 1) (m := 32) (lo := 8) (hi := 12) (b := bk1) (off := 0) (lov := (some (.int .i64 8))) (hiv := (some (.int .i64 12))) (o := 8) En74 (by kernel_rfl) (by kernel_rfl) (by kernel_rfl) (by omega) (by omega) (by omega) (.inr ⟨.i64, rfl⟩) (.inr ⟨.i64, rfl⟩) (by omega) ?_
  intro ac75 En76
  refine from_op (by kernel_rfl) ?_
  have hM77 : Heap wo66 [] := Hv68.heap.pick [] (by kernel_rfl) (by decide)
  refine op_call (d := some 30) (f := 23) (args := #[.slice (some ⟨bk1, 8, none⟩) 4 24]) En76 (by kernel_rfl) ((word_ref _ (some ⟨bk1, 8, none⟩) 4 24 (List.take 4 (List.drop 8 lk)) (by first | rfl | (simp; done) | (simp; omega) | omega) (bys_cutbox (bys_inbox (Hv68.heap.roBox (k := 0) (m := 32) rfl (load_whole (bys_lenh hk)) [] (by kernel_rfl) rfl) hk (by decide)) 8 12 (by omega) (by omega)) (by first | omega | (simp; omega))).mono ?_)
  rintro _ wo79 ⟨rfl, he82⟩
  refine ⟨_, rfl, ?_⟩
  intro ac78 En80
  have Hv81 : Ev w [] wo79 [.box bk1 (bys lk) 22, .box bk6 (bys ln) 24, .box bk11 (bys (List.replicate 64 0)) 28, .box bk18 (u32s (List.set (List.set ([1634760805, 857760878, 2036477234, 1797285236, 0, 0, 0, 0, 0, 0, 0, 0, 0, 0, 0, 0] : List UInt32) 4 (partW (List.take 4 lk) 0 4)) 5 (partW (List.take 4 (List.drop 4 lk)) 0 4))) 42] := Hv68.trans (Ev.call (R := [.box bk1 (bys lk) 22, .box bk6 (bys ln) 24, .box bk11 (bys (List.replicate 64 0)) 28, .box bk18 (u32s (List.set (List.set ([1634760805, 857760878, 2036477234, 1797285236, 0, 0, 0, 0, 0, 0, 0, 0, 0, 0, 0, 0] : List UInt32) 4 (partW (List.take 4 lk) 0 4)) 5 (partW (List.take 4 (List.drop 4 lk)) 0 4))) 42]) Hv68.heap [0, 1, 2, 3] (by kernel_rfl) (by decide) he82)
  clear hM77 he82
  refine from_op (by kernel_rfl) ?_
  refine op_val (d := some 31) (x := Instr.indexAt 42 (.pointer (some ⟨bk18, 0, none⟩)) (.int .i64 6)) (v := .pointer (some ⟨bk18, 6, none⟩)) En80 (by kernel_rfl) (Go.Dbr.run_indexarr (e := 23) (sz := 1) (m := 16) (j := 6) (o := 6) (by kernel_rfl) (by kernel_rfl) (by omega) (by omega) (by omega) _) ?_
  intro ac83 En84
  refine from_op (by kernel_rfl) ?_
  have hb85 : 6 < List.length (List.set (List.set ([1634760805, 857760878, 2036477234, 1797285236, 0, 0, 0, 0, 0, 0, 0, 0, 0, 0, 0, 0] : List UInt32) 4 (partW (List.take 4 lk) 0 4)) 5 (partW (List.take 4 (List.drop 4 lk)) 0 4)) := by rw [(List.length_set.trans (List.length_set.trans (show List.length ([1634760805, 857760878, 2036477234, 1797285236, 0, 0, 0, 0, 0, 0, 0, 0, 0, 0, 0, 0] : List UInt32) = 16 from rfl)))]; omega
  refine op_storebox2 (d := none) (t := 23) (b := bk18) (off := 6) (k := 3) (v := .int .u32 ((UInt32.toNat (partW (List.take 4 (List.drop 8 lk)) 0 4) : Nat) : Int)) En84 (by kernel_rfl) Hv81 rfl (u32s_getD hb85) (by kernel_rfl) rfl (u32s_set _ _ _) (L' := [.box bk1 (bys lk) 22, .box bk6 (bys ln) 24, .box bk11 (bys (List.replicate 64 0)) 28, .box bk18 (u32s (List.set (List.set (List.set ([1634760805, 857760878, 2036477234, 1797285236, 0, 0, 0, 0, 0, 0, 0, 0, 0, 0, 0, 0] : List UInt32) 4 (partW (List.take 4 lk) 0 4)) 5 (partW (List.take 4 (List.drop 4 lk)) 0 4)) 6 (partW (List.take 4 (List.drop 8 lk)) 0 4))) 42]) rfl ?_
  intro ac86 wo87  En88 Hv89
  refine from_end (by kernel_rfl) ?_
  refine block_normal ?_
  refine then_normal ?_
  refine region_from ?_  -- region 4
  refine d_pures [(1, .int .u32 ((UInt32.toNat c : Nat) : Int)), (3, .pointer (some ⟨bk1, 0, none⟩)), (5, .pointer (some ⟨bk6, 0, none⟩)), (6, .pointer (some ⟨bk11, 0, none⟩)), (7, .pointer (some ⟨bk18, 0, none⟩)), (8, .int .i64 3)] [.int .i64 2, .int .i64 3, .int .i64 3] 3 En88 (by kernel_rfl) (by kernel_rfl) rfl ?_
  intro ac90 En91
  refine from_end (by kernel_rfl) ?_
  refine then_normal ?_
  refine loop_once ?_
  refine wp_seq ?_
  refine wp_seq ?_
  refine region_from ?_  -- region 3
  refine d_pures [(1, .int .u32 ((UInt32.toNat c : Nat) : Int)), (3, .pointer (some ⟨bk1, 0, none⟩)), (5, .pointer (some ⟨bk6, 0, none⟩)), (6, .pointer (some ⟨bk11, 0, none⟩)), (7, .pointer (some ⟨bk18, 0, none⟩)), (8, .int .i64 3), (19, .bool true)] [.int .i64 3, .bool true] 2 En91 (by kernel_rfl) (by kernel_rfl) rfl ?_
  intro ac92 En93
  refine from_end (by kernel_rfl) ?_
  refine then_normal ?_
  refine cond_true En93 (t := true) (by kernel_rfl) rfl ?_
  refine wp_skip ?_
  refine then_normal ?_
  refine wp_seq ?_
  refine wp_block ?_
  refine region_from ?_  -- region 5
  refine d_pures [(1, .int .u32 ((UInt32.toNat c : Nat) : Int)), (3, .pointer (some ⟨bk1, 0, none⟩)), (5, .pointer (some ⟨bk6, 0, none⟩)), (6, .pointer (some ⟨bk11, 0, none⟩)), (7, .pointer (some ⟨bk18, 0, none⟩)), (8, .int .i64 3), (23, .int .i64 7), (25, .int .i64 12), (28, .int .i64 16)] [.int .i64 3, .int .i64 7, .int .i64 3, .int .i64 12, .int .i64 3, .int .i64 12, .int .i64 16] 7 En93 (by kernel_rfl) (by kernel_rfl) rfl ?_
  intro ac94 En95
  refine from_op (by kernel_rfl) ?_
  refine op_slicearr (d := some 29) (t := 22) (e := 5) (sz := 1) (m := 32) (lo := 12) (hi := 16) (b := bk1) (off := 0) (lov := (some (.int .i64 12))) (hiv := (some (.int .i64 16))) (o := 12) En95 (by kernel_rfl) (by kernel_rfl) (by kernel_rfl) (by omega) (by omega) (by omega) (.inr ⟨.i64, rfl⟩) (.inr ⟨.i64, rfl⟩) (by omega) ?_
  intro ac96 En97
  refine from_op (by kernel_rfl) ?_
  have hM98 : Heap wo87 [] := Hv89.heap.pick [] (by kernel_rfl) (by decide)
  refine op_call (d := some 30) (f := 23) (args := #[.slice (some ⟨bk1, 12, none⟩) 4 20]) En97 (by kernel_rfl) ((word_ref _ (some ⟨bk1, 12, none⟩) 4 20 (List.take 4 (List.drop 12 lk)) (by first | rfl | (simp; done) | (simp; omega) | omega) (bys_cutbox (bys_inbox (Hv89.heap.roBox (k := 0) (m := 32) rfl (load_whole (bys_lenh hk)) [] (by kernel_rfl) rfl) hk (by decide)) 12 16 (by omega) (by omega)) (by first | omega | (simp; omega))).mono ?_)
  rintro _ wo100 ⟨rfl, he103⟩
  refine ⟨_, rfl, ?_⟩
  intro ac99 En101
  have Hv102 : Ev w [] wo100 [.box bk1 (bys lk) 22, .box bk6 (bys ln) 24, .box bk11 (bys (List.replicate 64 0)) 28, .box bk18 (u32s (List.set (List.set (List.set ([1634760805, 857760878, 2036477234, 1797285236, 0, 0, 0, 0, 0, 0, 0, 0, 0, 0, 0, 0] : List UInt32) 4 (partW (List.take 4 lk) 0 4)) 5 (partW (List.take 4 (List.drop 4 lk)) 0 4)) 6 (partW (List.take 4 (List.drop 8 lk)) 0 4))) 42] := Hv89.trans (Ev.call (R := [.box bk1 (bys lk) 22, .box bk6 (bys ln) 24, .box bk11 (bys (List.replicate 64 0)) 28, .box bk18 (u32s (List.set (List.set (List.set ([1634760805, 857760878, 2036477234, 1797285236, 0, 0, 0, 0, 0, 0, 0, 0, 0, 0, 0, 0] : List UInt32) 4 (partW (List.take 4 lk) 0 4)) 5 (partW (List.take 4 (List.drop 4 lk)) 0 4)) 6 (partW (List.take 4 (List.drop 8 lk)) 0 4))) 42]) Hv89.heap [0, 1, 2, 3] (by kernel_rfl) (by decide) he103)
  clear hM98 he103
  refine from_op (by kernel_rfl) ?_
  refine op_val (d := some 31) (x := Instr.indexAt 42 (.pointer (some ⟨bk18, 0, none⟩)) (.int .i64 7)) (v := .pointer (some ⟨bk18, 7, none⟩)) En101 (by kernel_rfl) (Go.Dbr.run_indexarr (e := 23) (sz := 1) (m := 16) (j := 7) (o := 7) (by kernel_rfl) (by kernel_rfl) (by omega) (by omega) (by omega) _) ?_
  intro ac104 En105
  refine from_op (by kernel_rfl) ?_
  have hb106 : 7 < List.length (List.set (List.set (List.set ([1634760805, 857760878, 2036477234, 1797285236, 0, 0, 0, 0, 0, 0, 0, 0, 0, 0, 0, 0] : List UInt32) 4 (partW (List.take 4 lk) 0 4)) 5 (partW (List.take 4 (List.drop 4 lk)) 0 4)) 6 (partW (List.take 4 (List.drop 8 lk)) 0 4)) := by rw [(List.length_set.trans (List.length_set.trans (List.length_set.trans (show List.length ([1634760805, 857760878, 2036477234, 1797285236, 0, 0, 0, 0, 0, 0, 0, 0, 0, 0, 0, 0] : List UInt32) = 16 from rfl))))]; omega
  refine op_storebox2 (d := none) (t := 23) (b := bk18) (off := 7) (k := 3) (v := .int .u32 ((UInt32.toNat (partW (List.take 4 (List.drop 12 lk)) 0 4) : Nat) : Int)) En105 (by kernel_rfl) Hv102 rfl (u32s_getD hb106) (by kernel_rfl) rfl (u32s_set _ _ _) (L' := [.box bk1 (bys lk) 22, .box bk6 (bys ln) 24, .box bk11 (bys (List.replicate 64 0)) 28, .box bk18 (u32s (List.set (List.set (List.set (List.set ([1634760805, 857760878, 2036477234, 1797285236, 0, 0, 0, 0, 0, 0, 0, 0, 0, 0, 0, 0] : List UInt32) 4 (partW (List.take 4 lk) 0 4)) 5 (partW (List.take 4 (List.drop 4 lk)) 0 4)) 6 (partW (List.take 4 (List.drop 8 lk)) 0 4)) 7 (partW (List.take 4 (List.drop 12 lk)) 0 4))) 42]) rfl ?_
  intro ac107 wo108  En109 Hv110
  refine from_end (by kernel_rfl) ?_
  refine block_normal ?_
  refine then_normal ?_
  refine region_from ?_  -- region 4
  refine d_pures [(1, .int .u32 ((UInt32.toNat c : Nat) : Int)), (3, .pointer (some ⟨bk1, 0, none⟩)), (5, .pointer (some ⟨bk6, 0, none⟩)), (6, .pointer (some ⟨bk11, 0, none⟩)), (7, .pointer (some ⟨bk18, 0, none⟩)), (8, .int .i64 4)] [.int .i64 3, .int .i64 4, .int .i64 4] 3 En109 (by kernel_rfl) (by kernel_rfl) rfl ?_
  intro ac111 En112
  refine from_end (by kernel_rfl) ?_
  refine then_normal ?_
  refine loop_once ?_
  refine wp_seq ?_
  refine wp_seq ?_
  refine region_from ?_  -- region 3
  refine d_pures [(1, .int .u32 ((UInt32.toNat c : Nat) : Int)), (3, .pointer (some ⟨bk1, 0, none⟩)), (5, .pointer (some ⟨bk6, 0, none⟩)), (6, .pointer (some ⟨bk11, 0, none⟩)), (7, .pointer (some ⟨bk18, 0, none⟩)), (8, .int .i64 4), (19, .bool true)] [.int .i64 4, .bool true] 2 En112 (by kernel_rfl) (by kernel_rfl) rfl ?_
  intro ac113 En114
  refine from_end (by kernel_rfl) ?_
  refine then_normal ?_
  refine cond_true En114 (t := true) (by kernel_rfl) rfl ?_
  refine wp_skip ?_
  refine then_normal ?_
  refine wp_seq ?_
  refine wp_block ?_
  refine region_from ?_  -- region 5
  refine d_pures [(1, .int .u32 ((UInt32.toNat c : Nat) : Int)), (3, .pointer (some ⟨bk1, 0, none⟩)), (5, .pointer (some ⟨bk6, 0, none⟩)), (6, .pointer (some ⟨bk11, 0, none⟩)), (7, .pointer (some ⟨bk18, 0, none⟩)), (8, .int .i64 4), (23, .int .i64 8), (25, .int .i64 16), (28, .int .i64 20)] [.int .i64 4, .int .i64 8, .int .i64 4, .int .i64 16, .int .i64 4, .int .i64 16, .int .i64 20] 7 En114 (by kernel_rfl) (by kernel_rfl) rfl ?_
  intro ac115 En116
  refine from_op (by kernel_rfl) ?_
  refine op_slicearr (d := some 29) (t := 22) (e := 5) (sz := 1) (m := 32) (lo := 16) (hi := 20) (b := bk1) (off := 0) (lov := (some (.int .i64 16))) (hiv := (some (.int .i64 20))) (o := 16) En116 (by kernel_rfl) (by kernel_rfl) (by kernel_rfl) (by omega) (by omega) (by omega) (.inr ⟨.i64, rfl⟩) (.inr ⟨.i64, rfl⟩) (by omega) ?_
  intro ac117 En118
  refine from_op (by kernel_rfl) ?_
  have hM119 : Heap wo108 [] := Hv110.heap.pick [] (by kernel_rfl) (by decide)
  refine op_call (d := some 30) (f := 23) (args := #[.slice (some ⟨bk1, 16, none⟩) 4 16]) En118 (by kernel_rfl) ((word_ref _ (some ⟨bk1, 16, none⟩) 4 16 (List.take 4 (List.drop 16 lk)) (by first | rfl | (simp; done) | (simp; omega) | omega) (bys_cutbox (bys_inbox (Hv110.heap.roBox (k := 0) (m := 32) rfl (load_whole (bys_lenh hk)) [] (by kernel_rfl) rfl) hk (by decide)) 16 20 (by omega) (by omega)) (by first | omega | (simp; omega))).mono ?_)
  rintro _ wo121 ⟨rfl, he124⟩
  refine ⟨_, rfl, ?_⟩
  intro ac120 En122
  have Hv123 : Ev w [] wo121 [.box bk1 (bys lk) 22, .box bk6 (bys ln) 24, .box bk11 (bys (List.replicate 64 0)) 28, .box bk18 (u32s (List.set (List.set (List.set (List.set ([1634760805, 857760878, 2036477234, 1797285236, 0, 0, 0, 0, 0, 0, 0, 0, 0, 0, 0, 0] : List UInt32) 4 (partW (List.take 4 lk) 0 4)) 5 (partW (List.take 4 (List.drop 4 lk)) 0 4)) 6 (partW (List.take 4 (List.drop 8 lk)) 0 4)) 7 (partW (List.take 4 (List.drop 12 lk)) 0 4))) 42] := Hv110.trans (Ev.call (R := [.box bk1 (bys lk) 22, .box bk6 (bys ln) 24, .box bk11 (bys (List.replicate 64 0)) 28, .box bk18 (u32s (List.set (List.set (List.set (List.set ([1634760805, 857760878, 2036477234, 1797285236, 0, 0, 0, 0, 0, 0, 0, 0, 0, 0, 0, 0] : List UInt32) 4 (partW (List.take 4 lk) 0 4)) 5 (partW (List.take 4 (List.drop 4 lk)) 0 4)) 6 (partW (List.take 4 (List.drop 8 lk)) 0 4)) 7 (partW (List.take 4 (List.drop 12 lk)) 0 4))) 42]) Hv110.heap [0, 1, 2, 3] (by kernel_rfl) (by decide) he124)
  clear hM119 he124
  refine from_op (by kernel_rfl) ?_
  refine op_val (d := some 31) (x := Instr.indexAt 42 (.pointer (some ⟨bk18, 0, none⟩)) (.int .i64 8)) (v := .pointer (some ⟨bk18, 8, none⟩)) En122 (by kernel_rfl) (Go.Dbr.run_indexarr (e := 23) (sz := 1) (m := 16) (j := 8) (o := 8) (by kernel_rfl) (by kernel_rfl) (by omega) (by omega) (by omega) _) ?_
  intro ac125 En126
  refine from_op (by kernel_rfl) ?_
  have hb127 : 8 < List.length (List.set (List.set (List.set (List.set ([1634760805, 857760878, 2036477234, 1797285236, 0, 0, 0, 0, 0, 0, 0, 0, 0, 0, 0, 0] : List UInt32) 4 (partW (List.take 4 lk) 0 4)) 5 (partW (List.take 4 (List.drop 4 lk)) 0 4)) 6 (partW (List.take 4 (List.drop 8 lk)) 0 4)) 7 (partW (List.take 4 (List.drop 12 lk)) 0 4)) := by rw [(List.length_set.trans (List.length_set.trans (List.length_set.trans (List.length_set.trans (show List.length ([1634760805, 857760878, 2036477234, 1797285236, 0, 0, 0, 0, 0, 0, 0, 0, 0, 0, 0, 0] : List UInt32) = 16 from rfl)))))]; omega
  refine op_storebox2 (d := none) (t := 23) (b := bk18) (off := 8) (k := 3) (v := .int .u32 ((UInt32.toNat (partW (List.take 4 (List.drop 16 lk)) 0 4) : Nat) : Int)) En126 (by kernel_rfl) Hv123 rfl (u32s_getD hb127) (by kernel_rfl) rfl (u32s_set _ _ _) (L' := [.box bk1 (bys lk) 22, .box bk6 (bys ln) 24, .box bk11 (bys (List.replicate 64 0)) 28, .box bk18 (u32s (List.set (List.set (List.set (List.set (List.set ([1634760805, 857760878, 2036477234, 1797285236, 0, 0, 0, 0, 0, 0, 0, 0, 0, 0, 0, 0] : List UInt32) 4 (partW (List.take 4 lk) 0 4)) 5 (partW (List.take 4 (List.drop 4 lk)) 0 4)) 6 (partW (List.take 4 (List.drop 8 lk)) 0 4)) 7 (partW (List.take 4 (List.drop 12 lk)) 0 4)) 8 (partW (List.take 4 (List.drop 16 lk)) 0 4))) 42]) rfl ?_
  intro ac128 wo129  En130 Hv131
  refine from_end (by kernel_rfl) ?_
  refine block_normal ?_
  refine then_normal ?_
  refine region_from ?_  -- region 4
  refine d_pures [(1, .int .u32 ((UInt32.toNat c : Nat) : Int)), (3, .pointer (some ⟨bk1, 0, none⟩)), (5, .pointer (some ⟨bk6, 0, none⟩)), (6, .pointer (some ⟨bk11, 0, none⟩)), (7, .pointer (some ⟨bk18, 0, none⟩)), (8, .int .i64 5)] [.int .i64 4, .int .i64 5, .int .i64 5] 3 En130 (by kernel_rfl) (by kernel_rfl) rfl ?_
  intro ac132 En133
  refine from_end (by kernel_rfl) ?_
  refine then_normal ?_
  refine loop_once ?_
  refine wp_seq ?_
  refine wp_seq ?_
  refine region_from ?_  -- region 3
  refine d_pures [(1, .int .u32 ((UInt32.toNat c : Nat) : Int)), (3, .pointer (some ⟨bk1, 0, none⟩)), (5, .pointer (some ⟨bk6, 0, none⟩)), (6, .pointer (some ⟨bk11, 0, none⟩)), (7, .pointer (some ⟨bk18, 0, none⟩)), (8, .int .i64 5), (19, .bool true)] [.int .i64 5, .bool true] 2 En133 (by kernel_rfl) (by kernel_rfl) rfl ?_
  intro ac134 En135
  refine from_end (by kernel_rfl) ?_
  refine then_normal ?_
  refine cond_true En135 (t := true) (by kernel_rfl) rfl ?_
  refine wp_skip ?_
  refine then_normal ?_
  refine wp_seq ?_
  refine wp_block ?_
  refine region_from ?_  -- region 5
  refine d_pures [(1, .int .u32 ((UInt32.toNat c : Nat) : Int)), (3, .pointer (some ⟨bk1, 0, none⟩)), (5, .pointer (some ⟨bk6, 0, none⟩)), (6, .pointer (some ⟨bk11, 0, none⟩)), (7, .pointer (some ⟨bk18, 0, none⟩)), (8, .int .i64 5), (23, .int .i64 9), (25, .int .i64 20), (28, .int .i64 24)] [.int .i64 5, .int .i64 9, .int .i64 5, .int .i64 20, .int .i64 5, .int .i64 20, .int .i64 24] 7 En135 (by kernel_rfl) (by kernel_rfl) rfl ?_
  intro ac136 En137
  refine from_op (by kernel_rfl) ?_
  refine op_slicearr (d := some 29) (t := 22) (e := 5) (sz := 1) (m := 32) (lo := 20) (hi := 24) (b := bk1) (off := 0) (lov := (some (.int .i64 20))) (hiv := (some (.int .i64 24))) (o := 20) En137 (by kernel_rfl) (by kernel_rfl) (by kernel_rfl) (by omega) (by omega) (by omega) (.inr ⟨.i64, rfl⟩) (.inr ⟨.i64, rfl⟩) (by omega) ?_
  intro ac138 En139
  refine from_op (by kernel_rfl) ?_
  have hM140 : Heap wo129 [] := Hv131.heap.pick [] (by kernel_rfl) (by decide)
  refine op_call (d := some 30) (f := 23) (args := #[.slice (some ⟨bk1, 20, none⟩) 4 12]) En139 (by kernel_rfl) ((word_ref _ (some ⟨bk1, 20, none⟩) 4 12 (List.take 4 (List.drop 20 lk)) (by first | rfl | (simp; done) | (simp; omega) | omega) (bys_cutbox (bys_inbox (Hv131.heap.roBox (k := 0) (m := 32) rfl (load_whole (bys_lenh hk)) [] (by kernel_rfl) rfl) hk (by decide)) 20 24 (by omega) (by omega)) (by first | omega | (simp; omega))).mono ?_)
  rintro _ wo142 ⟨rfl, he145⟩
  refine ⟨_, rfl, ?_⟩
  intro ac141 En143
  have Hv144 : Ev w [] wo142 [.box bk1 (bys lk) 22, .box bk6 (bys ln) 24, .box bk11 (bys (List.replicate 64 0)) 28, .box bk18 (u32s (List.set (List.set (List.set (List.set (List.set ([1634760805, 857760878, 2036477234, 1797285236, 0, 0, 0, 0, 0, 0, 0, 0, 0, 0, 0, 0] : List UInt32) 4 (partW (List.take 4 lk) 0 4)) 5 (partW (List.take 4 (List.drop 4 lk)) 0 4)) 6 (partW (List.take 4 (List.drop 8 lk)) 0 4)) 7 (partW (List.take 4 (List.drop 12 lk)) 0 4)) 8 (partW (List.take 4 (List.drop 16 lk)) 0 4))) 42] := Hv131.trans (Ev.call (R := [.box bk1 (bys lk) 22, .box bk6 (bys ln) 24, .box bk11 (bys (List.replicate 64 0)) 28, .box bk18 (u32s (List.set (List.set (List.set (List.set (List.set ([1634760805, 857760878, 2036477234, 1797285236, 0, 0, 0, 0, 0, 0, 0, 0, 0, 0, 0, 0] : List UInt32) 4 (partW (List.take 4 lk) 0 4)) 5 (partW (List.take 4 (List.drop 4 lk)) 0 4)) 6 (partW (List.take 4 (List.drop 8 lk)) 0 4)) 7 (partW (List.take 4 (List.drop 12 lk)) 0 4)) 8 (partW (List.take 4 (List.drop 16 lk)) 0 4))) 42]) Hv131.heap [0, 1, 2, 3] (by kernel_rfl) (by decide) he145)
  clear hM140 he145
  refine from_op (by kernel_rfl) ?_
  refine op_val (d := some 31) (x := Instr.indexAt 42 (.pointer (some ⟨bk18, 0, none⟩)) (.int .i64 9)) (v := .pointer (some ⟨bk18, 9, none⟩)) En143 (by kernel_rfl) (Go.Dbr.run_indexarr (e := 23) (sz := 1) (m := 16) (j := 9) (o := 9) (by kernel_rfl) (by kernel_rfl) (by omega) (by omega) (by omega) _) ?_
  intro ac146 En147
  refine from_op (by kernel_rfl) ?_
  have hb148 : 9 < List.length (List.set (List.set (List.set (List.set (List.set ([1634760805, 857760878, 2036477234, 1797285236, 0, 0, 0, 0, 0, 0, 0, 0, 0, 0, 0, 0] : List UInt32) 4 (partW (List.take 4 lk) 0 4)) 5 (partW (List.take 4 (List.drop 4 lk)) 0 4)) 6 (partW (List.take 4 (List.drop 8 lk)) 0 4)) 7 (partW (List.take 4 (List.drop 12 lk)) 0 4)) 8 (partW (List.take 4 (List.drop 16 lk)) 0 4)) := by rw [(List.length_set.trans (List.length_set.trans (List.length_set.trans (List.length_set.trans (List.length_set.trans (show List.length ([1634760805, 857760878, 2036477234, 1797285236, 0, 0, 0, 0, 0, 0, 0, 0, 0, 0, 0, 0] : List UInt32) = 16 from rfl))))))]; omega
  refine op_storebox2 (d := none) (t := 23) (b := bk18) (off := 9) (k := 3) (v := .int .u32 ((UInt32.toNat (partW (List.take 4 (List.drop 20 lk)) 0 4) : Nat) : Int)) En147 (by kernel_rfl) Hv144 rfl (u32s_getD hb148) (by kernel_rfl) rfl (u32s_set _ _ _) (L' := [.box bk1 (bys lk) 22, .box bk6 (bys ln) 24, .box bk11 (bys (List.replicate 64 0)) 28, .box bk18 (u32s (List.set (List.set (List.set (List.set (List.set (List.set ([1634760805, 857760878, 2036477234, 1797285236, 0, 0, 0, 0, 0, 0, 0, 0, 0, 0, 0, 0] : List UInt32) 4 (partW (List.take 4 lk) 0 4)) 5 (partW (List.take 4 (List.drop 4 lk)) 0 4)) 6 (partW (List.take 4 (List.drop 8 lk)) 0 4)) 7 (partW (List.take 4 (List.drop 12 lk)) 0 4)) 8 (partW (List.take 4 (List.drop 16 lk)) 0 4)) 9 (partW (List.take 4 (List.drop 20 lk)) 0 4))) 42]) rfl ?_
  intro ac149 wo150  En151 Hv152
  refine from_end (by kernel_rfl) ?_
  refine block_normal ?_
  refine then_normal ?_
  refine region_from ?_  -- region 4
  refine d_pures [(1, .int .u32 ((UInt32.toNat c : Nat) : Int)), (3, .pointer (some ⟨bk1, 0, none⟩)), (5, .pointer (some ⟨bk6, 0, none⟩)), (6, .pointer (some ⟨bk11, 0, none⟩)), (7, .pointer (some ⟨bk18, 0, none⟩)), (8, .int .i64 6)] [.int .i64 5, .int .i64 6, .int .i64 6] 3 En151 (by kernel_rfl) (by kernel_rfl) rfl ?_
  intro ac153 En154
  refine from_end (by kernel_rfl) ?_
  refine then_normal ?_
  refine loop_once ?_
  refine wp_seq ?_
  refine wp_seq ?_
  refine region_from ?_  -- region 3
  refine d_pures [(1, .int .u32 ((UInt32.toNat c : Nat) : Int)), (3, .pointer (some ⟨bk1, 0, none⟩)), (5, .pointer (some ⟨bk6, 0, none⟩)), (6, .pointer (some ⟨bk11, 0, none⟩)), (7, .pointer (some ⟨bk18, 0, none⟩)), (8, .int .i64 6), (19, .bool true)] [.int .i64 6, .bool true] 2 En154 (by kernel_rfl) (by kernel_rfl) rfl ?_
  intro ac155 En156
  refine from_end (by kernel_rfl) ?_
  refine then_normal ?_
  refine cond_true En156 (t := true) (by kernel_rfl) rfl ?_
  refine wp_skip ?_
  refine then_normal ?_
  refine wp_seq ?_
  refine wp_block ?_
  refine region_from ?_  -- region 5
  refine d_pures [(1, .int .u32 ((UInt32.toNat c : Nat) : Int)), (3, .pointer (some ⟨bk1, 0, none⟩)), (5, .pointer (some ⟨bk6, 0, none⟩)), (6, .pointer (some ⟨bk11, 0, none⟩)), (7, .pointer (some ⟨bk18, 0, none⟩)), (8, .int .i64 6), (23, .int .i64 10), (25, .int .i64 24), (28, .int .i64 28)] [.int .i64 6, .int .i64 10, .int .i64 6, .int .i64 24, .int .i64 6, .int .i64 24, .int .i64 28] 7 En156 (by kernel_rfl) (by kernel_rfl) rfl ?_
  intro ac157 En158
  refine from_op (by kernel_rfl) ?_
  refine op_slicearr (d := some 29) (t := 22) (e := 5) (sz := 1) (m := 32) (lo := 24) (hi := 28) (b := bk1) (off := 0) (lov := (some (.int .i64 24))) (hiv := (some (.int .i64 28))) (o := 24) En158 (by kernel_rfl) (by kernel_rfl) (by kernel_rfl) (by omega) (by omega) (by omega) (.inr ⟨.i64, rfl⟩) (.inr ⟨.i64, rfl⟩) (by omega) ?_
  intro ac159 En160
  refine from_op (by kernel_rfl) ?_
  have hM161 : Heap wo150 [] := Hv152.heap.pick [] (by kernel_rfl) (by decide)
  refine op_call (d := some 30) (f := 23) (args := #[.slice (some ⟨bk1, 24, none⟩) 4 8]) En160 (by kernel_rfl) ((word_ref _ (some ⟨bk1, 24, none⟩) 4 8 (List.take 4 (List.drop 24 lk)) (by first | rfl | (simp; done) | (simp; omega) | omega) (bys_cutbox (bys_inbox (Hv152.heap.roBox (k := 0) (m := 32) rfl (load_whole (bys_lenh hk)) [] (by kernel_rfl) rfl) hk (by decide)) 24 28 (by omega) (by omega)) (by first | omega | (simp; omega))).mono ?_)
  rintro _ wo163 ⟨rfl, he166⟩
  refine ⟨_, rfl, ?_⟩
  intro ac162 En164
  have Hv165 : Ev w [] wo163 [.box bk1 (bys lk) 22, .box bk6 (bys ln) 24, .box bk11 (bys (List.replicate 64 0)) 28, .box bk18 (u32s (List.set (List.set (List.set (List.set (List.set (List.set ([1634760805, 857760878, 2036477234, 1797285236, 0, 0, 0, 0, 0, 0, 0, 0, 0, 0, 0, 0] : List UInt32) 4 (partW (List.take 4 lk) 0 4)) 5 (partW (List.take 4 (List.drop 4 lk)) 0 4)) 6 (partW (List.take 4 (List.drop 8 lk)) 0 4)) 7 (partW (List.take 4 (List.drop 12 lk)) 0 4)) 8 (partW (List.take 4 (List.drop 16 lk)) 0 4)) 9 (partW (List.take 4 (List.drop 20 lk)) 0 4))) 42] := Hv152.trans (Ev.call (R := [.box bk1 (bys lk) 22, .box bk6 (bys ln) 24, .box bk11 (bys (List.replicate 64 0)) 28, .box bk18 (u32s (List.set (List.set (List.set (List.set (List.set (List.set ([1634760805, 857760878, 2036477234, 1797285236, 0, 0, 0, 0, 0, 0, 0, 0, 0, 0, 0, 0] : List UInt32) 4 (partW (List.take 4 lk) 0 4)) 5 (partW (List.take 4 (List.drop 4 lk)) 0 4)) 6 (partW (List.take 4 (List.drop 8 lk)) 0 4)) 7 (partW (List.take 4 (List.drop 12 lk)) 0 4)) 8 (partW (List.take 4 (List.drop 16 lk)) 0 4)) 9 (partW (List.take 4 (List.drop 20 lk)) 0 4))) 42]) Hv152.heap [0, 1, 2, 3] (by kernel_rfl) (by decide) he166)
  clear hM161 he166
  refine from_op (by kernel_rfl) ?_
  refine op_val (d := some 31) (x := Instr.indexAt 42 (.pointer (some ⟨bk18, 0, none⟩)) (.int .i64 10)) (v := .pointer (some ⟨bk18, 10, none⟩)) En164 (by kernel_rfl) (Go.Dbr.run_indexarr (e := 23) (sz := 1) (m := 16) (j := 10) (o := 10) (by kernel_rfl) (by kernel_rfl) (by omega) (by omega) (by omega) _) ?_
  intro ac167 En168
  refine from_op (by kernel_rfl) ?_
  have hb169 : 10 < List.length (List.set (List.set (List.set (List.set (List.set (List.set ([1634760805, 857760878, 2036477234, 1797285236, 0, 0, 0, 0, 0, 0, 0, 0, 0, 0, 0, 0] : List UInt32) 4 (partW (List.take 4 lk) 0 4)) 5 (partW (List.take 4 (List.drop 4 lk)) 0 4)) 6 (partW (List.take 4 (List.drop 8 lk)) 0 4)) 7 (partW (List.take 4 (List.drop 12 lk)) 0 4)) 8 (partW (List.take 4 (List.drop 16 lk)) 0 4)) 9 (partW (List.take 4 (List.drop 20 lk)) 0 4)) := by rw [(List.length_set.trans (List.length_set.trans (List.length_set.trans (List.length_set.trans (List.length_set.trans (List.length_set.trans (show List.length ([1634760805, 857760878, 2036477234, 1797285236, 0, 0, 0, 0, 0, 0, 0, 0, 0, 0, 0, 0] : List UInt32) = 16 from rfl)))))))]; omega
  refine op_storebox2 (d := none) (t := 23) (b := bk18) (off := 10) (k := 3) (v := .int .u32 ((UInt32.toNat (partW (List.take 4 (List.drop 24 lk)) 0 4) : Nat) : Int)) En168 (by kernel_rfl) Hv165 rfl (u32s_getD hb169) (by kernel_rfl) rfl (u32s_set _ _ _) (L' := [.box bk1 (bys lk) 22, .box bk6 (bys ln) 24, .box bk11 (bys (List.replicate 64 0)) 28, .box bk18 (u32s (List.set (List.set (List.set (List.set (List.set (List.set (List.set ([1634760805, 857760878, 2036477234, 1797285236, 0, 0, 0, 0, 0, 0, 0, 0, 0, 0, 0, 0] : List UInt32) 4 (partW (List.take 4 lk) 0 4)) 5 (partW (List.take 4 (List.drop 4 lk)) 0 4)) 6 (partW (List.take 4 (List.drop 8 lk)) 0 4)) 7 (partW (List.take 4 (List.drop 12 lk)) 0 4)) 8 (partW (List.take 4 (List.drop 16 lk)) 0 4)) 9 (partW (List.take 4 (List.drop 20 lk)) 0 4)) 10 (partW (List.take 4 (List.drop 24 lk)) 0 4))) 42]) rfl ?_
  intro ac170 wo171  En172 Hv173
  refine from_end (by kernel_rfl) ?_
  refine block_normal ?_
  refine then_normal ?_
  refine region_from ?_  -- region 4
  refine d_pures [(1, .int .u32 ((UInt32.toNat c : Nat) : Int)), (3, .pointer (some ⟨bk1, 0, none⟩)), (5, .pointer (some ⟨bk6, 0, none⟩)), (6, .pointer (some ⟨bk11, 0, none⟩)), (7, .pointer (some ⟨bk18, 0, none⟩)), (8, .int .i64 7)] [.int .i64 6, .int .i64 7, .int .i64 7] 3 En172 (by kernel_rfl) (by kernel_rfl) rfl ?_
  intro ac174 En175
  refine from_end (by kernel_rfl) ?_
  refine then_normal ?_
  refine loop_once ?_
  refine wp_seq ?_
  refine wp_seq ?_
  refine region_from ?_  -- region 3
  refine d_pures [(1, .int .u32 ((UInt32.toNat c : Nat) : Int)), (3, .pointer (some ⟨bk1, 0, none⟩)), (5, .pointer (some ⟨bk6, 0, none⟩)), (6, .pointer (some ⟨bk11, 0, none⟩)), (7, .pointer (some ⟨bk18, 0, none⟩)), (8, .int .i64 7), (19, .bool true)] [.int .i64 7, .bool true] 2 En175 (by kernel_rfl) (by kernel_rfl) rfl ?_
  intro ac176 En177
  refine from_end (by kernel_rfl) ?_
  refine then_normal ?_
  refine cond_true En177 (t := true) (by kernel_rfl) rfl ?_
  refine wp_skip ?_
  refine then_normal ?_
  refine wp_seq ?_
  refine wp_block ?_
  refine region_from ?_  -- region 5
  refine d_pures [(1, .int .u32 ((UInt32.toNat c : Nat) : Int)), (3, .pointer (some ⟨bk1, 0, none⟩)), (5, .pointer (some ⟨bk6, 0, none⟩)), (6, .pointer (some ⟨bk11, 0, none⟩)), (7, .pointer (some ⟨bk18, 0, none⟩)), (8, .int .i64 7), (23, .int .i64 11), (25, .int .i64 28), (28, .int .i64 32)] [.int .i64 7, .int .i64 11, .int .i64 7, .int .i64 28, .int .i64 7, .int .i64 28, .int .i64 32] 7 En177 (by kernel_rfl) (by kernel_rfl) rfl ?_
  intro ac178 En179
  refine from_op (by kernel_rfl) ?_
  refine op_slicearr (d := some 29) (t := 22) (e := 5) (sz := 1) (m := 32) (lo := 28) (hi := 32) (b := bk1) (off := 0) (lov := (some (.int .i64 28))) (hiv := (some (.int .i64 32))) (o := 28) En179 (by kernel_rfl) (by kernel_rfl) (by kernel_rfl) (by omega) (by omega) (by omega) (.inr ⟨.i64, rfl⟩) (.inr ⟨.i64, rfl⟩) (by omega) ?_
  intro ac180 En181
  refine from_op (by kernel_rfl) ?_
  have hM182 : Heap wo171 [] := Hv173.heap.pick [] (by kernel_rfl) (by decide)
  refine op_call (d := some 30) (f := 23) (args := #[.slice (some ⟨bk1, 28, none⟩) 4 4]) En181 (by kernel_rfl) ((word_ref _ (some ⟨bk1, 28, none⟩) 4 4 (List.take 4 (List.drop 28 lk)) (by first | rfl | (simp; done) | (simp; omega) | omega) (bys_cutbox (bys_inbox (Hv173.heap.roBox (k := 0) (m := 32) rfl (load_whole (bys_lenh hk)) [] (by kernel_rfl) rfl) hk (by decide)) 28 32 (by omega) (by omega)) (by first | omega | (simp; omega))).mono ?_)
  rintro _ wo184 ⟨rfl, he187⟩
  refine ⟨_, rfl, ?_⟩
  intro ac183 En185
  have Hv186 : Ev w [] wo184 [.box bk1 (bys lk) 22, .box bk6 (bys ln) 24, .box bk11 (bys (List.replicate 64 0)) 28, .box bk18 (u32s (List.set (List.set (List.set (List.set (List.set (List.set (List.set ([1634760805, 857760878, 2036477234, 1797285236, 0, 0, 0, 0, 0, 0, 0, 0, 0, 0, 0, 0] : List UInt32) 4 (partW (List.take 4 lk) 0 4)) 5 (partW (List.take 4 (List.drop 4 lk)) 0 4)) 6 (partW (List.take 4 (List.drop 8 lk)) 0 4)) 7 (partW (List.take 4 (List.drop 12 lk)) 0 4)) 8 (partW (List.take 4 (List.drop 16 lk)) 0 4)) 9 (partW (List.take 4 (List.drop 20 lk)) 0 4)) 10 (partW (List.take 4 (List.drop 24 lk)) 0 4))) 42] := Hv173.trans (Ev.call (R := [.box bk1 (bys lk) 22, .box bk6 (bys ln) 24, .box bk11 (bys (List.replicate 64 0)) 28, .box bk18 (u32s (List.set (List.set (List.set (List.set (List.set (List.set (List.set ([1634760805, 857760878, 2036477234, 1797285236, 0, 0, 0, 0, 0, 0, 0, 0, 0, 0, 0, 0] : List UInt32) 4 (partW (List.take 4 lk) 0 4)) 5 (partW (List.take 4 (List.drop 4 lk)) 0 4)) 6 (partW (List.take 4 (List.drop 8 lk)) 0 4)) 7 (partW (List.take 4 (List.drop 12 lk)) 0 4)) 8 (partW (List.take 4 (List.drop 16 lk)) 0 4)) 9 (partW (List.take 4 (List.drop 20 lk)) 0 4)) 10 (partW (List.take 4 (List.drop 24 lk)) 0 4))) 42]) Hv173.heap [0, 1, 2, 3] (by kernel_rfl) (by decide) he187)
  clear hM182 he187
  refine from_op (by kernel_rfl) ?_
  refine op_val (d := some 31) (x := Instr.indexAt 42 (.pointer (some ⟨bk18, 0, none⟩)) (.int .i64 11)) (v := .pointer (some ⟨bk18, 11, none⟩)) En185 (by kernel_rfl) (Go.Dbr.run_indexarr (e := 23) (sz := 1) (m := 16) (j := 11) (o := 11) (by kernel_rfl) (by kernel_rfl) (by omega) (by omega) (by omega) _) ?_
  intro ac188 En189
  refine from_op (by kernel_rfl) ?_
  have hb190 : 11 < List.length (List.set (List.set (List.set (List.set (List.set (List.set (List.set ([1634760805, 857760878, 2036477234, 1797285236, 0, 0, 0, 0, 0, 0, 0, 0, 0, 0, 0, 0] : List UInt32) 4 (partW (List.take 4 lk) 0 4)) 5 (partW (List.take 4 (List.drop 4 lk)) 0 4)) 6 (partW (List.take 4 (List.drop 8 lk)) 0 4)) 7 (partW (List.take 4 (List.drop 12 lk)) 0 4)) 8 (partW (List.take 4 (List.drop 16 lk)) 0 4)) 9 (partW (List.take 4 (List.drop 20 lk)) 0 4)) 10 (partW (List.take 4 (List.drop 24 lk)) 0 4)) := by rw [(List.length_set.trans (List.length_set.trans (List.length_set.trans (List.length_set.trans (List.length_set.trans (List.length_set.trans (List.length_set.trans (show List.length ([1634760805, 857760878, 2036477234, 1797285236, 0, 0, 0, 0, 0, 0, 0, 0, 0, 0, 0, 0] : List UInt32) = 16 from rfl))))))))]; omega
  refine op_storebox2 (d := none) (t := 23) (b := bk18) (off := 11) (k := 3) (v := .int .u32 ((UInt32.toNat (partW (List.take 4 (List.drop 28 lk)) 0 4) : Nat) : Int)) En189 (by kernel_rfl) Hv186 rfl (u32s_getD hb190) (by kernel_rfl) rfl (u32s_set _ _ _) (L' := [.box bk1 (bys lk) 22, .box bk6 (bys ln) 24, .box bk11 (bys (List.replicate 64 0)) 28, .box bk18 (u32s (List.set (List.set (List.set (List.set (List.set (List.set (List.set (List.set ([1634760805, 857760878, 2036477234, 1797285236, 0, 0, 0, 0, 0, 0, 0, 0, 0, 0, 0, 0] : List UInt32) 4 (partW (List.take 4 lk) 0 4)) 5 (partW (List.take 4 (List.drop 4 lk)) 0 4)) 6 (partW (List.take 4 (List.drop 8 lk)) 0 4)) 7 (partW (List.take 4 (List.drop 12 lk)) 0 4)) 8 (partW (List.take 4 (List.drop 16 lk)) 0 4)) 9 (partW (List.take 4 (List.drop 20 lk)) 0 4)) 10 (partW (List.take 4 (List.drop 24 lk)) 0 4)) 11 (partW (List.take 4 (List.drop 28 lk)) 0 4))) 42]) rfl ?_
  intro ac191 wo192  En193 Hv194
  refine from_end (by kernel_rfl) ?_
  refine block_normal ?_
  refine then_normal ?_
  refine region_from ?_  -- region 4
  refine d_pures [(1, .int .u32 ((UInt32.toNat c : Nat) : Int)), (3, .pointer (some ⟨bk1, 0, none⟩)), (5, .pointer (some ⟨bk6, 0, none⟩)), (6, .pointer (some ⟨bk11, 0, none⟩)), (7, .pointer (some ⟨bk18, 0, none⟩)), (8, .int .i64 8)] [.int .i64 7, .int .i64 8, .int .i64 8] 3 En193 (by kernel_rfl) (by kernel_rfl) rfl ?_
  intro ac195 En196
  refine from_end (by kernel_rfl) ?_
  refine then_normal ?_
  refine loop_once ?_
  refine wp_seq ?_
  refine wp_seq ?_
  refine region_from ?_  -- region 3
  refine d_pures [(1, .int .u32 ((UInt32.toNat c : Nat) : Int)), (3, .pointer (some ⟨bk1, 0, none⟩)), (5, .pointer (some ⟨bk6, 0, none⟩)), (6, .pointer (some ⟨bk11, 0, none⟩)), (7, .pointer (some ⟨bk18, 0, none⟩)), (8, .int .i64 8), (19, .bool false)] [.int .i64 8, .bool false] 2 En196 (by kernel_rfl) (by kernel_rfl) rfl ?_
  intro ac197 En198
  refine from_end (by kernel_rfl) ?_
  refine then_normal ?_
  refine cond_false En198 (t := false) (by kernel_rfl) rfl ?_
  refine wp_exit ?_
  refine then_exit ?_
  refine then_exit ?_
  refine block_exit ?_
  refine then_normal ?_
  refine wp_seq ?_
  refine region_from ?_  -- region 6
  refine d_pures [(3, .pointer (some ⟨bk1, 0, none⟩)), (5, .pointer (some ⟨bk6, 0, none⟩)), (6, .pointer (some ⟨bk11, 0, none⟩)), (7, .pointer (some ⟨bk18, 0, none⟩)), (8, .int .i64 8), (32, .int .u32 ((UInt32.toNat c : Nat) : Int))] [.int .u32 ((UInt32.toNat c : Nat) : Int)] 1 En198 (by kernel_rfl) (by kernel_rfl) rfl ?_
  intro ac199 En200
  refine from_op (by kernel_rfl) ?_
  refine op_val (d := some 33) (x := Instr.indexAt 42 (.pointer (some ⟨bk18, 0, none⟩)) (.int .i64 12)) (v := .pointer (some ⟨bk18, 12, none⟩)) En200 (by kernel_rfl) (Go.Dbr.run_indexarr (e := 23) (sz := 1) (m := 16) (j := 12) (o := 12) (by kernel_rfl) (by kernel_rfl) (by omega) (by omega) (by omega) _) ?_
  intro ac201 En202
  refine from_op (by kernel_rfl) ?_
  have hb203 : 12 < List.length (List.set (List.set (List.set (List.set (List.set (List.set (List.set (List.set ([1634760805, 857760878, 2036477234, 1797285236, 0, 0, 0, 0, 0, 0, 0, 0, 0, 0, 0, 0] : List UInt32) 4 (partW (List.take 4 lk) 0 4)) 5 (partW (List.take 4 (List.drop 4 lk)) 0 4)) 6 (partW (List.take 4 (List.drop 8 lk)) 0 4)) 7 (partW (List.take 4 (List.drop 12 lk)) 0 4)) 8 (partW (List.take 4 (List.drop 16 lk)) 0 4)) 9 (partW (List.take 4 (List.drop 20 lk)) 0 4)) 10 (partW (List.take 4 (List.drop 24 lk)) 0 4)) 11 (partW (List.take 4 (List.drop 28 lk)) 0 4)) := by rw [(List.length_set.trans (List.length_set.trans (List.length_set.trans (List.length_set.trans (List.length_set.trans (List.length_set.trans (List.length_set.trans (List.length_set.trans (show List.length ([1634760805, 857760878, 2036477234, 1797285236, 0, 0, 0, 0, 0, 0, 0, 0, 0, 0, 0, 0] : List UInt32) = 16 from rfl)))))))))]; omega
  refine op_storebox2 (d := none) (t := 23) (b := bk18) (off := 12) (k := 3) (v := .int .u32 ((UInt32.toNat c : Nat) : Int)) En202 (by kernel_rfl) Hv194 rfl (u32s_getD hb203) (by kernel_rfl) rfl (u32s_set _ _ _) (L' := [.box bk1 (bys lk) 22, .box bk6 (bys ln) 24, .box bk11 (bys (List.replicate 64 0)) 28, .box bk18 (u32s (List.set (List.set (List.set (List.set (List.set (List.set (List.set (List.set (List.set ([1634760805, 857760878, 2036477234, 1797285236, 0, 0, 0, 0, 0, 0, 0, 0, 0, 0, 0, 0] : List UInt32) 4 (partW (List.take 4 lk) 0 4)) 5 (partW (List.take 4 (List.drop 4 lk)) 0 4)) 6 (partW (List.take 4 (List.drop 8 lk)) 0 4)) 7 (partW (List.take 4 (List.drop 12 lk)) 0 4)) 8 (partW (List.take 4 (List.drop 16 lk)) 0 4)) 9 (partW (List.take 4 (List.drop 20 lk)) 0 4)) 10 (partW (List.take 4 (List.drop 24 lk)) 0 4)) 11 (partW (List.take 4 (List.drop 28 lk)) 0 4)) 12 c)) 42]) rfl ?_
  intro ac204 wo205  En206 Hv207
  refine from_end (by kernel_rfl) ?_
  refine then_normal ?_
  refine wp_seq ?_
  refine wp_seq ?_
  refine region_from ?_  -- region 7
  refine d_pures [(3, .pointer (some ⟨bk1, 0, none⟩)), (5, .pointer (some ⟨bk6, 0, none⟩)), (6, .pointer (some ⟨bk11, 0, none⟩)), (7, .pointer (some ⟨bk18, 0, none⟩)), (8, .int .i64 8), (9, .int .i64 0)] [.int .i64 0] 1 En206 (by kernel_rfl) (by kernel_rfl) rfl ?_
  intro ac208 En209
  refine from_end (by kernel_rfl) ?_
  refine then_normal ?_
  refine wp_block ?_
  refine loop_enter ?_
  refine loop_once ?_
  refine wp_seq ?_
  refine wp_seq ?_
  refine region_from ?_  -- region 8
  refine d_pures [(3, .pointer (some ⟨bk1, 0, none⟩)), (5, .pointer (some ⟨bk6, 0, none⟩)), (6, .pointer (some ⟨bk11, 0, none⟩)), (7, .pointer (some ⟨bk18, 0, none⟩)), (8, .int .i64 8), (9, .int .i64 0), (35, .bool true)] [.int .i64 0, .bool true] 2 En209 (by kernel_rfl) (by kernel_rfl) rfl ?_
  intro ac210 En211
  refine from_end (by kernel_rfl) ?_
  refine then_normal ?_
  refine cond_true En211 (t := true) (by kernel_rfl) rfl ?_
  refine wp_skip ?_
  refine then_normal ?_
  refine wp_seq ?_
  refine wp_block ?_
  refine region_from ?_  -- region 10
  refine d_pures [(3, .pointer (some ⟨bk1, 0, none⟩)), (5, .pointer (some ⟨bk6, 0, none⟩)), (6, .pointer (some ⟨bk11, 0, none⟩)), (7, .pointer (some ⟨bk18, 0, none⟩)), (8, .int .i64 8), (9, .int .i64 0), (39, .int .i64 13), (41, .int .i64 0), (44, .int .i64 4)] [.int .i64 0, .int .i64 13, .int .i64 0, .int .i64 0, .int .i64 0, .int .i64 0, .int .i64 4] 7 En211 (by kernel_rfl) (by kernel_rfl) rfl ?_
  intro ac212 En213
  refine from_op (by kernel_rfl) ?_
  refine op_slicearr (d := some 45) (t := 24) (e := 5) (sz := 1) (m := 12) (lo := 0) (hi := 4) (b := bk6) (off := 0) (lov := (some (.int .i64 0))) (hiv := (some (.int .i64 4))) (o := 0) En213 (by kernel_rfl) (by kernel_rfl) (by kernel_rfl) (by omega) (by omega) (by omega) (.inr ⟨.i64, rfl⟩) (.inr ⟨.i64, rfl⟩) (by omega) ?_
  intro ac214 En215
  refine from_op (by kernel_rfl) ?_
  have hM216 : Heap wo205 [] := Hv207.heap.pick [] (by kernel_rfl) (by decide)
  refine op_call (d := some 46) (f := 23) (args := #[.slice (some ⟨bk6, 0, none⟩) 4 12]) En215 (by kernel_rfl) ((word_ref _ (some ⟨bk6, 0, none⟩) 4 12 (List.take 4 ln) (by first | rfl | (simp; done) | (simp; omega) | omega) ((bys_inbox (Hv207.heap.roBox (k := 1) (m := 12) rfl (load_whole (bys_lenh hn)) [] (by kernel_rfl) rfl) hn (by decide)).take 4) (by first | omega | (simp; omega))).mono ?_)
  rintro _ wo218 ⟨rfl, he221⟩
  refine ⟨_, rfl, ?_⟩
  intro ac217 En219
  have Hv220 : Ev w [] wo218 [.box bk1 (bys lk) 22, .box bk6 (bys ln) 24, .box bk11 (bys (List.replicate 64 0)) 28, .box bk18 (u32s (List.set (List.set (List.set (List.set (List.set (List.set (List.set (List.set (List.set ([1634760805, 857760878, 2036477234, 1797285236, 0, 0, 0, 0, 0, 0, 0, 0, 0, 0, 0, 0] : List UInt32) 4 (partW (List.take 4 lk) 0 4)) 5 (partW (List.take 4 (List.drop 4 lk)) 0 4)) 6 (partW (List.take 4 (List.drop 8 lk)) 0 4)) 7 (partW (List.take 4 (List.drop 12 lk)) 0 4)) 8 (partW (List.take 4 (List.drop 16 lk)) 0 4)) 9 (partW (List.take 4 (List.drop 20 lk)) 0 4)) 10 (partW (List.take 4 (List.drop 24 lk)) 0 4)) 11 (partW (List.take 4 (List.drop 28 lk)) 0 4)) 12 c)) 42] := Hv207.trans (Ev.call (R := [.box bk1 (bys lk) 22, .box bk6 (bys ln) 24, .box bk11 (bys (List.replicate 64 0)) 28, .box bk18 (u32s (List.set (List.set (List.set (List.set (List.set (List.set (List.set (List.set (List.set ([1634760805, 857760878, 2036477234, 1797285236, 0, 0, 0, 0, 0, 0, 0, 0, 0, 0, 0, 0] : List UInt32) 4 (partW (List.take 4 lk) 0 4)) 5 (partW (List.take 4 (List.drop 4 lk)) 0 4)) 6 (partW (List.take 4 (List.drop 8 lk)) 0 4)) 7 (partW (List.take 4 (List.drop 12 lk)) 0 4)) 8 (partW (List.take 4 (List.drop 16 lk)) 0 4)) 9 (partW (List.take 4 (List.drop 20 lk)) 0 4)) 10 (partW (List.take 4 (List.drop 24 lk)) 0 4)) 11 (partW (List.take 4 (List.drop 28 lk)) 0 4)) 12 c)) 42]) Hv207.heap [0, 1, 2, 3] (by kernel_rfl) (by decide) he221)
  clear hM216 he221
  refine from_op (by kernel_rfl) ?_
  refine op_val (d := some 47) (x := Instr.indexAt 42 (.pointer (some ⟨bk18, 0, none⟩)) (.int .i64 13)) (v := .pointer (some ⟨bk18, 13, none⟩)) En219 (by kernel_rfl) (Go.Dbr.run_indexarr (e := 23) (sz := 1) (m := 16) (j := 13) (o := 13) (by kernel_rfl) (by kernel_rfl) (by omega) (by omega) (by omega) _) ?_
  intro ac222 En223
  refine from_op (by kernel_rfl) ?_
  have hb224 : 13 < List.length (List.set (List.set (List.set (List.set (List.set (List.set (List.set (List.set (List.set ([1634760805, 857760878, 2036477234, 1797285236, 0, 0, 0, 0, 0, 0, 0, 0, 0, 0, 0, 0] : List UInt32) 4 (partW (List.take 4 lk) 0 4)) 5 (partW (List.take 4 (List.drop 4 lk)) 0 4)) 6 (partW (List.take 4 (List.drop 8 lk)) 0 4)) 7 (partW (List.take 4 (List.drop 12 lk)) 0 4)) 8 (partW (List.take 4 (List.drop 16 lk)) 0 4)) 9 (partW (List.take 4 (List.drop 20 lk)) 0 4)) 10 (partW (List.take 4 (List.drop 24 lk)) 0 4)) 11 (partW (List.take 4 (List.drop 28 lk)) 0 4)) 12 c) := by rw [(List.length_set.trans (List.length_set.trans (List.length_set.trans (List.length_set.trans (List.length_set.trans (List.length_set.trans (List.length_set.trans (List.length_set.trans (List.length_set.trans (show List.length ([1634760805, 857760878, 2036477234, 1797285236, 0, 0, 0, 0, 0, 0, 0, 0, 0, 0, 0, 0] : List UInt32) = 16 from rfl))))))))))]; omega
  refine op_storebox2 (d := none) (t := 23) (b := bk18) (off := 13) (k := 3) (v := .int .u32 ((UInt32.toNat (partW (List.take 4 ln) 0 4) : Nat) : Int)) En223 (by kernel_rfl) Hv220 rfl (u32s_getD hb224) (by kernel_rfl) rfl (u32s_set _ _ _) (L' := [.box bk1 (bys lk) 22, .box bk6 (bys ln) 24, .box bk11 (bys (List.replicate 64 0)) 28, .box bk18 (u32s (List.set (List.set (List.set (List.set (List.set (List.set (List.set (List.set (List.set (List.set ([1634760805, 857760878, 2036477234, 1797285236, 0, 0, 0, 0, 0, 0, 0, 0, 0, 0, 0, 0] : List UInt32) 4 (partW (List.take 4 lk) 0 4)) 5 (partW (List.take 4 (List.drop 4 lk)) 0 4)) 6 (partW (List.take 4 (List.drop 8 lk)) 0 4)) 7 (partW (List.take 4 (List.drop 12 lk)) 0 4)) 8 (partW (List.take 4 (List.drop 16 lk)) 0 4)) 9 (partW (List.take 4 (List.drop 20 lk)) 0 4)) 10 (partW (List.take 4 (List.drop 24 lk)) 0 4)) 11 (partW (List.take 4 (List.drop 28 lk)) 0 4)) 12 c) 13 (partW (List.take 4 ln) 0 4))) 42]) rfl ?_
  intro ac225 wo226  En227 Hv228
  refine from_end (by kernel_rfl) ?_
  refine block_normal ?_
  refine then_normal ?_
  refine region_from ?_  -- region 9
  refine d_pures [(3, .pointer (some ⟨bk1, 0, none⟩)), (5, .pointer (some ⟨bk6, 0, none⟩)), (6, .pointer (some ⟨bk11, 0, none⟩)), (7, .pointer (some ⟨bk18, 0, none⟩)), (8, .int .i64 8), (9, .int .i64 1)] [.int .i64 0, .int .i64 1, .int .i64 1] 3 En227 (by kernel_rfl) (by kernel_rfl) rfl ?_
  intro ac229 En230
  refine from_end (by kernel_rfl) ?_
  refine then_normal ?_
  refine loop_once ?_
  refine wp_seq ?_
  refine wp_seq ?_
  refine region_from ?_  -- region 8
  refine d_pures [(3, .pointer (some ⟨bk1, 0, none⟩)), (5, .pointer (some ⟨bk6, 0, none⟩)), (6, .pointer (some ⟨bk11, 0, none⟩)), (7, .pointer (some ⟨bk18, 0, none⟩)), (8, .int .i64 8), (9, .int .i64 1), (35, .bool true)] [.int .i64 1, .bool true] 2 En230 (by kernel_rfl) (by kernel_rfl) rfl ?_
  intro ac231 En232
  refine from_end (by kernel_rfl) ?_
  refine then_normal ?_
  refine cond_true En232 (t := true) (by kernel_rfl) rfl ?_
  refine wp_skip ?_
  refine then_normal ?_
  refine wp_seq ?_
  refine wp_block ?_
  refine region_from ?_  -- region 10
  refine d_pures [(3, .pointer (some ⟨bk1, 0, none⟩)), (5, .pointer (some ⟨bk6, 0, none⟩)), (6, .pointer (some ⟨bk11, 0, none⟩)), (7, .pointer (some ⟨bk18, 0, none⟩)), (8, .int .i64 8), (9, .int .i64 1), (39, .int .i64 14), (41, .int .i64 4), (44, .int .i64 8)] [.int .i64 1, .int .i64 14, .int .i64 1, .int .i64 4, .int .i64 1, .int .i64 4, .int .i64 8] 7 En232 (by kernel_rfl) (by kernel_rfl) rfl ?_
  intro ac233 En234
  refine from_op (by kernel_rfl) ?_
  refine op_slicearr (d := some 45) (t := 24) (e := 5) (sz := 1) (m := 12) (lo := 4) (hi := 8) (b := bk6) (off := 0) (lov := (some (.int .i64 4))) (hiv := (some (.int .i64 8))) (o := 4) En234 (by kernel_rfl) (by kernel_rfl) (by kernel_rfl) (by omega) (by omega) (by omega) (.inr ⟨.i64, rfl⟩) (.inr ⟨.i64, rfl⟩) (by omega) ?_
  intro ac235 En236
  refine from_op (by kernel_rfl) ?_
  have hM237 : Heap wo226 [] := Hv228.heap.pick [] (by kernel_rfl) (by decide)
  refine op_call (d := some 46) (f := 23) (args := #[.slice (some ⟨bk6, 4, none⟩) 4 8]) En236 (by kernel_rfl) ((word_ref _ (some ⟨bk6, 4, none⟩) 4 8 (List.take 4 (List.drop 4 ln)) (by first | rfl | (simp; done) | (simp; omega) | omega) (bys_cutbox (bys_inbox (Hv228.heap.roBox (k := 1) (m := 12) rfl (load_whole (bys_lenh hn)) [] (by kernel_rfl) rfl) hn (by decide)) 4 8 (by omega) (by omega)) (by first | omega | (simp; omega))).mono ?_)
  rintro _ wo239 ⟨rfl, he242⟩
  refine ⟨_, rfl, ?_⟩
  intro ac238 En240
  have Hv241 : Ev w [] wo239 [.box bk1 (bys lk) 22, .box bk6 (bys ln) 24, .box bk11 (bys (List.replicate 64 0)) 28, .box bk18 (u32s (List.set (List.set (List.set (List.set (List.set (List.set (List.set (List.set (List.set (List.set ([1634760805, 857760878, 2036477234, 1797285236, 0, 0, 0, 0, 0, 0, 0, 0, 0, 0, 0, 0] : List UInt32) 4 (partW (List.take 4 lk) 0 4)) 5 (partW (List.take 4 (List.drop 4 lk)) 0 4)) 6 (partW (List.take 4 (List.drop 8 lk)) 0 4)) 7 (partW (List.take 4 (List.drop 12 lk)) 0 4)) 8 (partW (List.take 4 (List.drop 16 lk)) 0 4)) 9 (partW (List.take 4 (List.drop 20 lk)) 0 4)) 10 (partW (List.take 4 (List.drop 24 lk)) 0 4)) 11 (partW (List.take 4 (List.drop 28 lk)) 0 4)) 12 c) 13 (partW (List.take 4 ln) 0 4))) 42] := Hv228.trans (Ev.call (R := [.box bk1 (bys lk) 22, .box bk6 (bys ln) 24, .box bk11 (bys (List.replicate 64 0)) 28, .box bk18 (u32s (List.set (List.set (List.set (List.set (List.set (List.set (List.set (List.set (List.set (List.set ([1634760805, 857760878, 2036477234, 1797285236, 0, 0, 0, 0, 0, 0, 0, 0, 0, 0, 0, 0] : List UInt32) 4 (partW (List.take 4 lk) 0 4)) 5 (partW (List.take 4 (List.drop 4 lk)) 0 4)) 6 (partW (List.take 4 (List.drop 8 lk)) 0 4)) 7 (partW (List.take 4 (List.drop 12 lk)) 0 4)) 8 (partW (List.take 4 (List.drop 16 lk)) 0 4)) 9 (partW (List.take 4 (List.drop 20 lk)) 0 4)) 10 (partW (List.take 4 (List.drop 24 lk)) 0 4)) 11 (partW (List.take 4 (List.drop 28 lk)) 0 4)) 12 c) 13 (partW (List.take 4 ln) 0 4))) 42]) Hv228.heap [0, 1, 2, 3] (by kernel_rfl) (by decide) he242)
  clear hM237 he242
  refine from_op (by kernel_rfl) ?_
  refine op_val (d := some 47) (x := Instr.indexAt 42 (.pointer (some ⟨bk18, 0, none⟩)) (.int .i64 14)) (v := .pointer (some ⟨bk18, 14, none⟩)) En240 (by kernel_rfl) (Go.Dbr.run_indexarr (e := 23) (sz := 1) (m := 16) (j := 14) (o := 14) (by kernel_rfl) (by kernel_rfl) (by omega) (by omega) (by omega) _) ?_
  intro ac243 En244
  refine from_op (by kernel_rfl) ?_
  have hb245 : 14 < List.length (List.set (List.set (List.set (List.set (List.set (List.set (List.set (List.set (List.set (List.set ([1634760805, 857760878, 2036477234, 1797285236, 0, 0, 0, 0, 0, 0, 0, 0, 0, 0, 0, 0] : List UInt32) 4 (partW (List.take 4 lk) 0 4)) 5 (partW (List.take 4 (List.drop 4 lk)) 0 4)) 6 (partW (List.take 4 (List.drop 8 lk)) 0 4)) 7 (partW (List.take 4 (List.drop 12 lk)) 0 4)) 8 (partW (List.take 4 (List.drop 16 lk)) 0 4)) 9 (partW (List.take 4 (List.drop 20 lk)) 0 4)) 10 (partW (List.take 4 (List.drop 24 lk)) 0 4)) 11 (partW (List.take 4 (List.drop 28 lk)) 0 4)) 12 c) 13 (partW (List.take 4 ln) 0 4)) := by rw [(List.length_set.trans (List.length_set.trans (List.length_set.trans (List.length_set.trans (List.length_set.trans (List.length_set.trans (List.length_set.trans (List.length_set.trans (List.length_set.trans (List.length_set.trans (show List.length ([1634760805, 857760878, 2036477234, 1797285236, 0, 0, 0, 0, 0, 0, 0, 0, 0, 0, 0, 0] : List UInt32) = 16 from rfl)))))))))))]; omega
  refine op_storebox2 (d := none) (t := 23) (b := bk18) (off := 14) (k := 3) (v := .int .u32 ((UInt32.toNat (partW (List.take 4 (List.drop 4 ln)) 0 4) : Nat) : Int)) En244 (by kernel_rfl) Hv241 rfl (u32s_getD hb245) (by kernel_rfl) rfl (u32s_set _ _ _) (L' := [.box bk1 (bys lk) 22, .box bk6 (bys ln) 24, .box bk11 (bys (List.replicate 64 0)) 28, .box bk18 (u32s (List.set (List.set (List.set (List.set (List.set (List.set (List.set (List.set (List.set (List.set (List.set ([1634760805, 857760878, 2036477234, 1797285236, 0, 0, 0, 0, 0, 0, 0, 0, 0, 0, 0, 0] : List UInt32) 4 (partW (List.take 4 lk) 0 4)) 5 (partW (List.take 4 (List.drop 4 lk)) 0 4)) 6 (partW (List.take 4 (List.drop 8 lk)) 0 4)) 7 (partW (List.take 4 (List.drop 12 lk)) 0 4)) 8 (partW (List.take 4 (List.drop 16 lk)) 0 4)) 9 (partW (List.take 4 (List.drop 20 lk)) 0 4)) 10 (partW (List.take 4 (List.drop 24 lk)) 0 4)) 11 (partW (List.take 4 (List.drop 28 lk)) 0 4)) 12 c) 13 (partW (List.take 4 ln) 0 4)) 14 (partW (List.take 4 (List.drop 4 ln)) 0 4))) 42]) rfl ?_
  intro ac246 wo247  En248 Hv249
  refine from_end (by kernel_rfl) ?_
  refine block_normal ?_
  refine then_normal ?_
  refine region_from ?_  -- region 9
  refine d_pures [(3, .pointer (some ⟨bk1, 0, none⟩)), (5, .pointer (some ⟨bk6, 0, none⟩)), (6, .pointer (some ⟨bk11, 0, none⟩)), (7, .pointer (some ⟨bk18, 0, none⟩)), (8, .int .i64 8), (9, .int .i64 2)] [.int .i64 1, .int .i64 2, .int .i64 2] 3 En248 (by kernel_rfl) (by kernel_rfl) rfl ?_
  intro ac250 En251
  refine from_end (by kernel_rfl) ?_
  refine then_normal ?_
  refine loop_once ?_
  refine wp_seq ?_
  refine wp_seq ?_
  refine region_from ?_  -- region 8
  refine d_pures [(3, .pointer (some ⟨bk1, 0, none⟩)), (5, .pointer (some ⟨bk6, 0, none⟩)), (6, .pointer (some ⟨bk11, 0, none⟩)), (7, .pointer (some ⟨bk18, 0, none⟩)), (8, .int .i64 8), (9, .int .i64 2), (35, .bool true)] [.int .i64 2, .bool true] 2 En251 (by kernel_rfl) (by kernel_rfl) rfl ?_
  intro ac252 En253
  refine from_end (by kernel_rfl) ?_
  refine then_normal ?_
  refine cond_true En253 (t := true) (by kernel_rfl) rfl ?_
  refine wp_skip ?_
  refine then_normal ?_
  refine wp_seq ?_
  refine wp_block ?_
  refine region_from ?_  -- region 10
  refine d_pures [(3, .pointer (some ⟨bk1, 0, none⟩)), (5, .pointer (some ⟨bk6, 0, none⟩)), (6, .pointer (some ⟨bk11, 0, none⟩)), (7, .pointer (some ⟨bk18, 0, none⟩)), (8, .int .i64 8), (9, .int .i64 2), (39, .int .i64 15), (41, .int .i64 8), (44, .int .i64 12)] [.int .i64 2, .int .i64 15, .int .i64 2, .int .i64 8, .int .i64 2, .int .i64 8, .int .i64 12] 7 En253 (by kernel_rfl) (by kernel_rfl) rfl ?_
  intro ac254 En255
  refine from_op (by kernel_rfl) ?_
  refine op_slicearr (d := some 45) (t := 24) (e := 5) (sz := 1) (m := 12) (lo := 8) (hi := 12) (b := bk6) (off := 0) (lov := (some (.int .i64 8))) (hiv := (some (.int .i64 12))) (o := 8) En255 (by kernel_rfl) (by kernel_rfl) (by kernel_rfl) (by omega) (by omega) (by omega) (.inr ⟨.i64, rfl⟩) (.inr ⟨.i64, rfl⟩) (by omega) ?_
  intro ac256 En257
  refine from_op (by kernel_rfl) ?_
  have hM258 : Heap wo247 [] := Hv249.heap.pick [] (by kernel_rfl) (by decide)
  refine op_call (d := some 46) (f := 23) (args := #[.slice (some ⟨bk6, 8, none⟩) 4 4]) En257 (by kernel_rfl) ((word_ref _ (some ⟨bk6, 8, none⟩) 4 4 (List.take 4 (List.drop 8 ln)) (by first | rfl | (simp; done) | (simp; omega) | omega) (bys_cutbox (bys_inbox (Hv249.heap.roBox (k := 1) (m := 12) rfl (load_whole (bys_lenh hn)) [] (by kernel_rfl) rfl) hn (by decide)) 8 12 (by omega) (by omega)) (by first | omega | (simp; omega))).mono ?_)
  rintro _ wo260 ⟨rfl, he263⟩
  refine ⟨_, rfl, ?_⟩
  intro ac259 En261
  have Hv262 : Ev w [] wo260 [.box bk1 (bys lk) 22, .box bk6 (bys ln) 24, .box bk11 (bys (List.replicate 64 0)) 28, .box bk18 (u32s (List.set (List.set (List.set (List.set (List.set (List.set (List.set (List.set (List.set (List.set (List.set ([1634760805, 857760878, 2036477234, 1797285236, 0, 0, 0, 0, 0, 0, 0, 0, 0, 0, 0, 0] : List UInt32) 4 (partW (List.take 4 lk) 0 4)) 5 (partW (List.take 4 (List.drop 4 lk)) 0 4)) 6 (partW (List.take 4 (List.drop 8 lk)) 0 4)) 7 (partW (List.take 4 (List.drop 12 lk)) 0 4)) 8 (partW (List.take 4 (List.drop 16 lk)) 0 4)) 9 (partW (List.take 4 (List.drop 20 lk)) 0 4)) 10 (partW (List.take 4 (List.drop 24 lk)) 0 4)) 11 (partW (List.take 4 (List.drop 28 lk)) 0 4)) 12 c) 13 (partW (List.take 4 ln) 0 4)) 14 (partW (List.take 4 (List.drop 4 ln)) 0 4))) 42] := Hv249.trans (Ev.call (R := [.box bk1 (bys lk) 22, .box bk6 (bys ln) 24, .box bk11 (bys (List.replicate 64 0)) 28, .box bk18 (u32s (List.set (List.set (List.set (List.set (List.set (List.set (List.set (List.set (List.set (List.set (List.set ([1634760805, 857760878, 2036477234, 1797285236, 0, 0, 0, 0, 0, 0, 0, 0, 0, 0, 0, 0] : List UInt32) 4 (partW (List.take 4 lk) 0 4)) 5 (partW (List.take 4 (List.drop 4 lk)) 0 4)) 6 (partW (List.take 4 (List.drop 8 lk)) 0 4)) 7 (partW (List.take 4 (List.drop 12 lk)) 0 4)) 8 (partW (List.take 4 (List.drop 16 lk)) 0 4)) 9 (partW (List.take 4 (List.drop 20 lk)) 0 4)) 10 (partW (List.take 4 (List.drop 24 lk)) 0 4)) 11 (partW (List.take 4 (List.drop 28 lk)) 0 4)) 12 c) 13 (partW (List.take 4 ln) 0 4)) 14 (partW (List.take 4 (List.drop 4 ln)) 0 4))) 42]) Hv249.heap [0, 1, 2, 3] (by kernel_rfl) (by decide) he263)
  clear hM258 he263
  refine from_op (by kernel_rfl) ?_
  refine op_val (d := some 47) (x := Instr.indexAt 42 (.pointer (some ⟨bk18, 0, none⟩)) (.int .i64 15)) (v := .pointer (some ⟨bk18, 15, none⟩)) En261 (by kernel_rfl) (Go.Dbr.run_indexarr (e := 23) (sz := 1) (m := 16) (j := 15) (o := 15) (by kernel_rfl) (by kernel_rfl) (by omega) (by omega) (by omega) _) ?_
  intro ac264 En265
  refine from_op (by kernel_rfl) ?_
  have hb266 : 15 < List.length (List.set (List.set (List.set (List.set (List.set (List.set (List.set (List.set (List.set (List.set (List.set ([1634760805, 857760878, 2036477234, 1797285236, 0, 0, 0, 0, 0, 0, 0, 0, 0, 0, 0, 0] : List UInt32) 4 (partW (List.take 4 lk) 0 4)) 5 (partW (List.take 4 (List.drop 4 lk)) 0 4)) 6 (partW (List.take 4 (List.drop 8 lk)) 0 4)) 7 (partW (List.take 4 (List.drop 12 lk)) 0 4)) 8 (partW (List.take 4 (List.drop 16 lk)) 0 4)) 9 (partW (List.take 4 (List.drop 20 lk)) 0 4)) 10 (partW (List.take 4 (List.drop 24 lk)) 0 4)) 11 (partW (List.take 4 (List.drop 28 lk)) 0 4)) 12 c) 13 (partW (List.take 4 ln) 0 4)) 14 (partW (List.take 4 (List.drop 4 ln)) 0 4)) := by rw [(List.length_set.trans (List.length_set.trans (List.length_set.trans (List.length_set.trans (List.length_set.trans (List.length_set.trans (List.length_set.trans (List.length_set.trans (List.length_set.trans (List.length_set.trans (List.length_set.trans (show List.length ([1634760805, 857760878, 2036477234, 1797285236, 0, 0, 0, 0, 0, 0, 0, 0, 0, 0, 0, 0] : List UInt32) = 16 from rfl))))))))))))]; omega
  refine op_storebox2 (d := none) (t := 23) (b := bk18) (off := 15) (k := 3) (v := .int .u32 ((UInt32.toNat (partW (List.take 4 (List.drop 8 ln)) 0 4) : Nat) : Int)) En265 (by kernel_rfl) Hv262 rfl (u32s_getD hb266) (by kernel_rfl) rfl (u32s_set _ _ _) (L' := [.box bk1 (bys lk) 22, .box bk6 (bys ln) 24, .box bk11 (bys (List.replicate 64 0)) 28, .box bk18 (u32s (List.set (List.set (List.set (List.set (List.set (List.set (List.set (List.set (List.set (List.set (List.set (List.set ([1634760805, 857760878, 2036477234, 1797285236, 0, 0, 0, 0, 0, 0, 0, 0, 0, 0, 0, 0] : List UInt32) 4 (partW (List.take 4 lk) 0 4)) 5 (partW (List.take 4 (List.drop 4 lk)) 0 4)) 6 (partW (List.take 4 (List.drop 8 lk)) 0 4)) 7 (partW (List.take 4 (List.drop 12 lk)) 0 4)) 8 (partW (List.take 4 (List.drop 16 lk)) 0 4)) 9 (partW (List.take 4 (List.drop 20 lk)) 0 4)) 10 (partW (List.take 4 (List.drop 24 lk)) 0 4)) 11 (partW (List.take 4 (List.drop 28 lk)) 0 4)) 12 c) 13 (partW (List.take 4 ln) 0 4)) 14 (partW (List.take 4 (List.drop 4 ln)) 0 4)) 15 (partW (List.take 4 (List.drop 8 ln)) 0 4))) 42]) rfl ?_
  intro ac267 wo268  En269 Hv270
  refine from_end (by kernel_rfl) ?_
  refine block_normal ?_
  refine then_normal ?_
  refine region_from ?_  -- region 9
  refine d_pures [(3, .pointer (some ⟨bk1, 0, none⟩)), (5, .pointer (some ⟨bk6, 0, none⟩)), (6, .pointer (some ⟨bk11, 0, none⟩)), (7, .pointer (some ⟨bk18, 0, none⟩)), (8, .int .i64 8), (9, .int .i64 3)] [.int .i64 2, .int .i64 3, .int .i64 3] 3 En269 (by kernel_rfl) (by kernel_rfl) rfl ?_
  intro ac271 En272
  refine from_end (by kernel_rfl) ?_
  refine then_normal ?_
  refine loop_once ?_
  refine wp_seq ?_
  refine wp_seq ?_
  refine region_from ?_  -- region 8
  refine d_pures [(3, .pointer (some ⟨bk1, 0, none⟩)), (5, .pointer (some ⟨bk6, 0, none⟩)), (6, .pointer (some ⟨bk11, 0, none⟩)), (7, .pointer (some ⟨bk18, 0, none⟩)), (8, .int .i64 8), (9, .int .i64 3), (35, .bool false)] [.int .i64 3, .bool false] 2 En272 (by kernel_rfl) (by kernel_rfl) rfl ?_
  intro ac273 En274
  refine from_end (by kernel_rfl) ?_
  refine then_normal ?_
  refine cond_false En274 (t := false) (by kernel_rfl) rfl ?_
  refine wp_exit ?_
  refine then_exit ?_
  refine then_exit ?_
  refine block_exit ?_
  refine then_normal ?_
  refine wp_seq ?_
  rw [show (List.set (List.set (List.set (List.set (List.set (List.set (List.set (List.set (List.set (List.set (List.set (List.set ([1634760805, 857760878, 2036477234, 1797285236, 0, 0, 0, 0, 0, 0, 0, 0, 0, 0, 0, 0] : List UInt32) 4 (partW (List.take 4 lk) 0 4)) 5 (partW (List.take 4 (List.drop 4 lk)) 0 4)) 6 (partW (List.take 4 (List.drop 8 lk)) 0 4)) 7 (partW (List.take 4 (List.drop 12 lk)) 0 4)) 8 (partW (List.take 4 (List.drop 16 lk)) 0 4)) 9 (partW (List.take 4 (List.drop 20 lk)) 0 4)) 10 (partW (List.take 4 (List.drop 24 lk)) 0 4)) 11 (partW (List.take 4 (List.drop 28 lk)) 0 4)) 12 c) 13 (partW (List.take 4 ln) 0 4)) 14 (partW (List.take 4 (List.drop 4 ln)) 0 4)) 15 (partW (List.take 4 (List.drop 8 ln)) 0 4)) = (initW lk c ln) from by rw [(show partW (List.take 4 lk) 0 4 = partW lk 0 4 from partW_cut lk 0), (show partW (List.take 4 (List.drop 4 lk)) 0 4 = partW lk 1 4 from partW_cut lk 1), (show partW (List.take 4 (List.drop 8 lk)) 0 4 = partW lk 2 4 from partW_cut lk 2), (show partW (List.take 4 (List.drop 12 lk)) 0 4 = partW lk 3 4 from partW_cut lk 3), (show partW (List.take 4 (List.drop 16 lk)) 0 4 = partW lk 4 4 from partW_cut lk 4), (show partW (List.take 4 (List.drop 20 lk)) 0 4 = partW lk 5 4 from partW_cut lk 5), (show partW (List.take 4 (List.drop 24 lk)) 0 4 = partW lk 6 4 from partW_cut lk 6), (show partW (List.take 4 (List.drop 28 lk)) 0 4 = partW lk 7 4 from partW_cut lk 7), (show partW (List.take 4 ln) 0 4 = partW ln 0 4 from partW_cut ln 0), (show partW (List.take 4 (List.drop 4 ln)) 0 4 = partW ln 1 4 from partW_cut ln 1), (show partW (List.take 4 (List.drop 8 ln)) 0 4 = partW ln 2 4 from partW_cut ln 2)]; rfl] at Hv270
  refine region_from ?_  -- region 11
  refine from_op (by kernel_rfl) ?_
  refine op_loadaggbox (d := some 48) (t := 42) (b := bk18) (off := 0) (k := 3) (m := 16) (xs := u32s (initW lk c ln)) En274 (by kernel_rfl) Hv270 rfl (load_whole (u32s_lenh (initW_len lk c ln))) (u32s_lenh (initW_len lk c ln)) (by kernel_rfl) (by kernel_rfl) ?_
  intro ac275 En276
  refine from_op (by kernel_rfl) ?_
  refine op_alloc (d := some 10) (T := 42) (x := .tuple #[]) (z := .agg (List.toArray (u32s (List.replicate 16 0)))) (cs := u32s (List.replicate 16 0)) En276 (by kernel_rfl) (by kernel_rfl) (by kernel_rfl) Hv270 ?_
  intro ac278 wo279 bk277 En280 Hv281
  refine from_op (by kernel_rfl) ?_
  refine op_storeaggbox (d := none) (t := 42) (b := bk277) (off := 0) (k := 4) (m := 16) (xs := u32s (initW lk c ln)) (v := .agg (List.toArray (u32s (initW lk c ln)))) (cs' := u32s (initW lk c ln)) En280 (by kernel_rfl) Hv281 rfl rfl (u32s_lenh (initW_len lk c ln)) (by rw [(u32s_lenh (List.length_replicate))]; decide) (by kernel_rfl) (u32s_one _) (store_whole (u32s_lenh (List.length_replicate))) (L' := [.box bk1 (bys lk) 22, .box bk6 (bys ln) 24, .box bk11 (bys (List.replicate 64 0)) 28, .box bk18 (u32s (initW lk c ln)) 42, .box bk277 (u32s (initW lk c ln)) 42]) rfl ?_
  intro ac282 wo283  En284 Hv285
  refine from_end (by kernel_rfl) ?_
  refine then_normal ?_
  refine wp_seq ?_
  refine wp_seq ?_
  refine region_from ?_  -- region 12
  refine d_pures [(3, .pointer (some ⟨bk1, 0, none⟩)), (5, .pointer (some ⟨bk6, 0, none⟩)), (6, .pointer (some ⟨bk11, 0, none⟩)), (7, .pointer (some ⟨bk18, 0, none⟩)), (8, .int .i64 8), (9, .int .i64 3), (10, .pointer (some ⟨bk277, 0, none⟩)), (11, .int .i64 0)] [.int .i64 0] 1 En284 (by kernel_rfl) (by kernel_rfl) rfl ?_
  intro ac286 En287
  refine from_end (by kernel_rfl) ?_
  refine then_normal ?_
  refine wp_block ?_
  refine loop_m (fun ms288 ac wo => ∃ (i : Nat) (v : List UInt32), ms288 = (10 - i : Nat) ∧ Env ac 107 [(3, .pointer (some ⟨bk1, 0, none⟩)), (5, .pointer (some ⟨bk6, 0, none⟩)), (6, .pointer (some ⟨bk11, 0, none⟩)), (7, .pointer (some ⟨bk18, 0, none⟩)), (8, .int .i64 8), (9, .int .i64 3), (10, .pointer (some ⟨bk277, 0, none⟩)), (11, .int .i64 ((i : Nat) : Int))] ∧ Ev w [] wo [.box bk18 (u32s v) 42, .box bk277 (u32s (initW lk c ln)) 42, .box bk1 (bys lk) 22, .box bk6 (bys ln) 24, .box bk11 (bys (List.replicate 64 0)) 28] ∧ (i ≤ 10) ∧ (v = rounds (initW lk c ln) i) ∧ (List.length v = 16)) ⟨_, 0, initW lk c ln, rfl, En287.sub (by kernel_rfl), Hv285.pick [3, 4, 0, 1, 2] (by kernel_rfl) (by decide), by omega, rfl, (initW_len lk c ln)⟩ ?_
  rintro mm294 ac290 wo291 ⟨i, v, rfl, En292, Hv293, hi, hv, hl⟩
  refine wp_seq ?_
  refine wp_seq ?_
  refine region_from ?_  -- region 13
  refine d_pures [(3, .pointer (some ⟨bk1, 0, none⟩)), (5, .pointer (some ⟨bk6, 0, none⟩)), (6, .pointer (some ⟨bk11, 0, none⟩)), (7, .pointer (some ⟨bk18, 0, none⟩)), (8, .int .i64 8), (9, .int .i64 3), (10, .pointer (some ⟨bk277, 0, none⟩)), (11, .int .i64 ((i : Nat) : Int)), (50, .bool (decide (((i : Nat) : Int) < (10 : Int))))] [.int .i64 ((i : Nat) : Int), .bool (decide (((i : Nat) : Int) < (10 : Int)))] 2 En292 (by kernel_rfl) (by kernel_rfl) rfl ?_
  intro ac295 En296
  refine from_end (by kernel_rfl) ?_
  refine then_normal ?_
  refine cond_at En296 (t := decide (((i : Nat) : Int) < (10 : Int))) (by kernel_rfl) (fun hc297 => ?_) (fun hc297 => ?_)
  ·
    replace hc297 : ((i : Nat) : Int) < (10 : Int) := of_decide_eq_true hc297
    refine wp_skip ?_
    refine then_normal ?_
    refine wp_seq ?_
    refine wp_block ?_
    refine wp_seq ?_
    refine wp_seq ?_
    refine region_from ?_  -- region 15
    refine d_pures [(3, .pointer (some ⟨bk1, 0, none⟩)), (5, .pointer (some ⟨bk6, 0, none⟩)), (6, .pointer (some ⟨bk11, 0, none⟩)), (7, .pointer (some ⟨bk18, 0, none⟩)), (8, .int .i64 8), (9, .int .i64 3), (10, .pointer (some ⟨bk277, 0, none⟩)), (11, .int .i64 ((i : Nat) : Int)), (12, .int .i64 0)] [.int .i64 0] 1 En296 (by kernel_rfl) (by kernel_rfl) rfl ?_
    intro ac298 En299
    refine from_end (by kernel_rfl) ?_
    refine then_normal ?_
    refine wp_block ?_
    refine loop_enter ?_
    refine loop_once ?_
    refine wp_seq ?_
    refine wp_seq ?_
    refine region_from ?_  -- region 16
    refine d_pures [(3, .pointer (some ⟨bk1, 0, none⟩)), (5, .pointer (some ⟨bk6, 0, none⟩)), (6, .pointer (some ⟨bk11, 0, none⟩)), (7, .pointer (some ⟨bk18, 0, none⟩)), (8, .int .i64 8), (9, .int .i64 3), (10, .pointer (some ⟨bk277, 0, none⟩)), (11, .int .i64 ((i : Nat) : Int)), (12, .int .i64 0), (54, .bool true)] [.int .i64 0, .bool true] 2 En299 (by kernel_rfl) (by kernel_rfl) rfl ?_
    intro ac300 En301
    refine from_end (by kernel_rfl) ?_
    refine then_normal ?_
    refine cond_true En301 (t := true) (by kernel_rfl) rfl ?_
    refine wp_skip ?_
    refine then_normal ?_
    refine wp_seq ?_
    refine wp_block ?_
    refine region_from ?_  -- region 18
    refine from_op (by kernel_rfl) ?_
    refine op_loadaggbox (d := some 57) (t := 42) (b := bk18) (off := 0) (k := 0) (m := 16) (xs := u32s v) En301 (by kernel_rfl) Hv293 rfl (load_whole (u32s_lenh hl)) (u32s_lenh hl) (by kernel_rfl) (by kernel_rfl) ?_
    intro ac302 En303
    refine d_pures [(3, .pointer (some ⟨bk1, 0, none⟩)), (5, .pointer (some ⟨bk6, 0, none⟩)), (6, .pointer (some ⟨bk11, 0, none⟩)), (7, .pointer (some ⟨bk18, 0, none⟩)), (8, .int .i64 8), (9, .int .i64 3), (10, .pointer (some ⟨bk277, 0, none⟩)), (11, .int .i64 ((i : Nat) : Int)), (12, .int .i64 0), (57, .agg (List.toArray (u32s v))), (58, .int .i64 0), (60, .int .i64 4), (62, .int .i64 8), (64, .int .i64 12)] [.int .i64 0, .int .i64 0, .int .i64 4, .int .i64 0, .int .i64 8, .int .i64 0, .int .i64 12] 8 En303 (by kernel_rfl) (by kernel_rfl) rfl ?_
    intro ac304 En305
    refine from_op (by kernel_rfl) ?_
    have hM306 : Heap wo291 [] := Hv293.heap.pick [] (by kernel_rfl) (by decide)
    refine op_call (d := some 65) (f := 24) (args := #[.agg (List.toArray (u32s v)), .int .i64 0, .int .i64 4, .int .i64 8, .int .i64 12]) En305 (by kernel_rfl) ((quart_ref _ v hl 0 4 8 12 (by omega) (by omega) (by omega) (by omega)).mono ?_)
    rintro _ wo308 ⟨rfl, he311⟩
    refine ⟨_, rfl, ?_⟩
    intro ac307 En309
    have Hv310 : Ev w [] wo308 [.box bk18 (u32s v) 42, .box bk277 (u32s (initW lk c ln)) 42, .box bk1 (bys lk) 22, .box bk6 (bys ln) 24, .box bk11 (bys (List.replicate 64 0)) 28] := Hv293.trans (Ev.call (R := [.box bk18 (u32s v) 42, .box bk277 (u32s (initW lk c ln)) 42, .box bk1 (bys lk) 22, .box bk6 (bys ln) 24, .box bk11 (bys (List.replicate 64 0)) 28]) Hv293.heap [0, 1, 2, 3, 4] (by kernel_rfl) (by decide) he311)
    clear hM306 he311
    refine from_op (by kernel_rfl) ?_
    refine op_storeaggbox (d := none) (t := 42) (b := bk18) (off := 0) (k := 0) (m := 16) (xs := u32s (quart v 0 4 8 12)) (v := .agg (List.toArray (u32s (quart v 0 4 8 12)))) (cs' := u32s (quart v 0 4 8 12)) En309 (by kernel_rfl) Hv310 rfl rfl (u32s_lenh (quart_len hl _ _ _ _)) (by rw [(u32s_lenh hl)]; decide) (by kernel_rfl) (u32s_one _) (store_whole (u32s_lenh hl)) (L' := [.box bk18 (u32s (quart v 0 4 8 12)) 42, .box bk277 (u32s (initW lk c ln)) 42, .box bk1 (bys lk) 22, .box bk6 (bys ln) 24, .box bk11 (bys (List.replicate 64 0)) 28]) rfl ?_
    intro ac312 wo313  En314 Hv315
    refine from_end (by kernel_rfl) ?_
    refine block_normal ?_
    refine then_normal ?_
    refine region_from ?_  -- region 17
    refine d_pures [(3, .pointer (some ⟨bk1, 0, none⟩)), (5, .pointer (some ⟨bk6, 0, none⟩)), (6, .pointer (some ⟨bk11, 0, none⟩)), (7, .pointer (some ⟨bk18, 0, none⟩)), (8, .int .i64 8), (9, .int .i64 3), (10, .pointer (some ⟨bk277, 0, none⟩)), (11, .int .i64 ((i : Nat) : Int)), (12, .int .i64 1)] [.int .i64 0, .int .i64 1, .int .i64 1] 3 En314 (by kernel_rfl) (by kernel_rfl) rfl ?_
    intro ac316 En317
    refine from_end (by kernel_rfl) ?_
    refine then_normal ?_
    refine loop_once ?_
    refine wp_seq ?_
    refine wp_seq ?_
    refine region_from ?_  -- region 16
    refine d_pures [(3, .pointer (some ⟨bk1, 0, none⟩)), (5, .pointer (some ⟨bk6, 0, none⟩)), (6, .pointer (some ⟨bk11, 0, none⟩)), (7, .pointer (some ⟨bk18, 0, none⟩)), (8, .int .i64 8), (9, .int .i64 3), (10, .pointer (some ⟨bk277, 0, none⟩)), (11, .int .i64 ((i : Nat) : Int)), (12, .int .i64 1), (54, .bool true)] [.int .i64 1, .bool true] 2 En317 (by kernel_rfl) (by kernel_rfl) rfl ?_
    intro ac318 En319
    refine from_end (by kernel_rfl) ?_
    refine then_normal ?_
    refine cond_true En319 (t := true) (by kernel_rfl) rfl ?_
    refine wp_skip ?_
    refine then_normal ?_
    refine wp_seq ?_
    refine wp_block ?_
    refine region_from ?_  -- region 18
    refine from_op (by kernel_rfl) ?_
    refine op_loadaggbox (d := some 57) (t := 42) (b := bk18) (off := 0) (k := 0) (m := 16) (xs := u32s (quart v 0 4 8 12)) En319 (by kernel_rfl) Hv315 rfl (load_whole (u32s_lenh (quart_len hl _ _ _ _))) (u32s_lenh (quart_len hl _ _ _ _)) (by kernel_rfl) (by kernel_rfl) ?_
    intro ac320 En321
    refine d_pures [(3, .pointer (some ⟨bk1, 0, none⟩)), (5, .pointer (some ⟨bk6, 0, none⟩)), (6, .pointer (some ⟨bk11, 0, none⟩)), (7, .pointer (some ⟨bk18, 0, none⟩)), (8, .int .i64 8), (9, .int .i64 3), (10, .pointer (some ⟨bk277, 0, none⟩)), (11, .int .i64 ((i : Nat) : Int)), (12, .int .i64 1), (57, .agg (List.toArray (u32s (quart v 0 4 8 12)))), (58, .int .i64 1), (60, .int .i64 5), (62, .int .i64 9), (64, .int .i64 13)] [.int .i64 1, .int .i64 1, .int .i64 5, .int .i64 1, .int .i64 9, .int .i64 1, .int .i64 13] 8 En321 (by kernel_rfl) (by kernel_rfl) rfl ?_
    intro ac322 En323
    refine from_op (by kernel_rfl) ?_
    have hM324 : Heap wo313 [] := Hv315.heap.pick [] (by kernel_rfl) (by decide)
    refine op_call (d := some 65) (f := 24) (args := #[.agg (List.toArray (u32s (quart v 0 4 8 12))), .int .i64 1, .int .i64 5, .int .i64 9, .int .i64 13]) En323 (by kernel_rfl) ((quart_ref _ (quart v 0 4 8 12) (quart_len hl _ _ _ _) 1 5 9 13 (by omega) (by omega) (by omega) (by omega)).mono ?_)
    rintro _ wo326 ⟨rfl, he329⟩
    refine ⟨_, rfl, ?_⟩
    intro ac325 En327
    have Hv328 : Ev w [] wo326 [.box bk18 (u32s (quart v 0 4 8 12)) 42, .box bk277 (u32s (initW lk c ln)) 42, .box bk1 (bys lk) 22, .box bk6 (bys ln) 24, .box bk11 (bys (List.replicate 64 0)) 28] := Hv315.trans (Ev.call (R := [.box bk18 (u32s (quart v 0 4 8 12)) 42, .box bk277 (u32s (initW lk c ln)) 42, .box bk1 (bys lk) 22, .box bk6 (bys ln) 24, .box bk11 (bys (List.replicate 64 0)) 28]) Hv315.heap [0, 1, 2, 3, 4] (by kernel_rfl) (by decide) he329)
    clear hM324 he329
    refine from_op (by kernel_rfl) ?_
    refine op_storeaggbox (d := none) (t := 42) (b := bk18) (off := 0) (k := 0) (m := 16) (xs := u32s (quart (quart v 0 4 8 12) 1 5 9 13)) (v := .agg (List.toArray (u32s (quart (quart v 0 4 8 12) 1 5 9 13)))) (cs' := u32s (quart (quart v 0 4 8 12) 1 5 9 13)) En327 (by kernel_rfl) Hv328 rfl rfl (u32s_lenh (quart_len (quart_len hl _ _ _ _) _ _ _ _)) (by rw [(u32s_lenh (quart_len hl _ _ _ _))]; decide) (by kernel_rfl) (u32s_one _) (store_whole (u32s_lenh (quart_len hl _ _ _ _))) (L' := [.box bk18 (u32s (quart (quart v 0 4 8 12) 1 5 9 13)) 42, .box bk277 (u32s (initW lk c ln)) 42, .box bk1 (bys lk) 22, .box bk6 (bys ln) 24, .box bk11 (bys (List.replicate 64 0)) 28]) rfl ?_
    intro ac330 wo331  En332 Hv333
    refine from_end (by kernel_rfl) ?_
    refine block_normal ?_
    refine then_normal ?_
    refine region_from ?_  -- region 17
    refine d_pures [(3, .pointer (some ⟨bk1, 0, none⟩)), (5, .pointer (some ⟨bk6, 0, none⟩)), (6, .pointer (some ⟨bk11, 0, none⟩)), (7, .pointer (some ⟨bk18, 0, none⟩)), (8, .int .i64 8), (9, .int .i64 3), (10, .pointer (some ⟨bk277, 0, none⟩)), (11, .int .i64 ((i : Nat) : Int)), (12, .int .i64 2)] [.int .i64 1, .int .i64 2, .int .i64 2] 3 En332 (by kernel_rfl) (by kernel_rfl) rfl ?_
    intro ac334 En335
    refine from_end (by kernel_rfl) ?_
    refine then_normal ?_
    refine loop_once ?_
    refine wp_seq ?_
    refine wp_seq ?_
    refine region_from ?_  -- region 16
    refine d_pures [(3, .pointer (some ⟨bk1, 0, none⟩)), (5, .pointer (some ⟨bk6, 0, none⟩)), (6, .pointer (some ⟨bk11, 0, none⟩)), (7, .pointer (some ⟨bk18, 0, none⟩)), (8, .int .i64 8), (9, .int .i64 3), (10, .pointer (some ⟨bk277, 0, none⟩)), (11, .int .i64 ((i : Nat) : Int)), (12, .int .i64 2), (54, .bool true)] [.int .i64 2, .bool true] 2 En335 (by kernel_rfl) (by kernel_rfl) rfl ?_
    intro ac336 En337
    refine from_end (by kernel_rfl) ?_
    refine then_normal ?_
    refine cond_true En337 (t := true) (by kernel_rfl) rfl ?_
    refine wp_skip ?_
    refine then_normal ?_
    refine wp_seq ?_
    refine wp_block ?_
    refine region_from ?_  -- region 18
    refine from_op (by kernel_rfl) ?_
    refine op_loadaggbox (d := some 57) (t := 42) (b := bk18) (off := 0) (k := 0) (m := 16) (xs := u32s (quart (quart v 0 4 8 12) 1 5 9 13)) En337 (by kernel_rfl) Hv333 rfl (load_whole (u32s_lenh (quart_len (quart_len hl _ _ _ _) _ _ _ _))) (u32s_lenh (quart_len (quart_len hl _ _ _ _) _ _ _ _)) (by kernel_rfl) (by kernel_rfl) ?_
    intro ac338 En339
    refine d_pures [(3, .pointer (some ⟨bk1, 0, none⟩)), (5, .pointer (some ⟨bk6, 0, none⟩)), (6, .pointer (some ⟨bk11, 0, none⟩)), (7, .pointer (some ⟨bk18, 0, none⟩)), (8, .int .i64 8), (9, .int .i64 3), (10, .pointer (some ⟨bk277, 0, none⟩)), (11, .int .i64 ((i : Nat) : Int)), (12, .int .i64 2), (57, .agg (List.toArray (u32s (quart (quart v 0 4 8 12) 1 5 9 13)))), (58, .int .i64 2), (60, .int .i64 6), (62, .int .i64 10), (64, .int .i64 14)] [.int .i64 2, .int .i64 2, .int .i64 6, .int .i64 2, .int .i64 10, .int .i64 2, .int .i64 14] 8 En339 (by kernel_rfl) (by kernel_rfl) rfl ?_
    intro ac340 En341
    refine from_op (by kernel_rfl) ?_
    have hM342 : Heap wo331 [] := Hv333.heap.pick [] (by kernel_rfl) (by decide)
    refine op_call (d := some 65) (f := 24) (args := #[.agg (List.toArray (u32s (quart (quart v 0 4 8 12) 1 5 9 13))), .int .i64 2, .int .i64 6, .int .i64 10, .int .i64 14]) En341 (by kernel_rfl) ((quart_ref _ (quart (quart v 0 4 8 12) 1 5 9 13) (quart_len (quart_len hl _ _ _ _) _ _ _ _) 2 6 10 14 (by omega) (by omega) (by omega) (by omega)).mono ?_)
    rintro _ wo344 ⟨rfl, he347⟩
    refine ⟨_, rfl, ?_⟩
    intro ac343 En345
    have Hv346 : Ev w [] wo344 [.box bk18 (u32s (quart (quart v 0 4 8 12) 1 5 9 13)) 42, .box bk277 (u32s (initW lk c ln)) 42, .box bk1 (bys lk) 22, .box bk6 (bys ln) 24, .box bk11 (bys (List.replicate 64 0)) 28] := Hv333.trans (Ev.call (R := [.box bk18 (u32s (quart (quart v 0 4 8 12) 1 5 9 13)) 42, .box bk277 (u32s (initW lk c ln)) 42, .box bk1 (bys lk) 22, .box bk6 (bys ln) 24, .box bk11 (bys (List.replicate 64 0)) 28]) Hv333.heap [0, 1, 2, 3, 4] (by kernel_rfl) (by decide) he347)
    clear hM342 he347
    refine from_op (by kernel_rfl) ?_
    refine op_storeaggbox (d := none) (t := 42) (b := bk18) (off := 0) (k := 0) (m := 16) (xs := u32s (quart (quart (quart v 0 4 8 12) 1 5 9 13) 2 6 10 14)) (v := .agg (List.toArray (u32s (quart (quart (quart v 0 4 8 12) 1 5 9 13) 2 6 10 14)))) (cs' := u32s (quart (quart (quart v 0 4 8 12) 1 5 9 13) 2 6 10 14)) En345 (by kernel_rfl) Hv346 rfl rfl (u32s_lenh (quart_len (quart_len (quart_len hl _ _ _ _) _ _ _ _) _ _ _ _)) (by rw [(u32s_lenh (quart_len (quart_len hl _ _ _ _) _ _ _ _))]; decide) (by kernel_rfl) (u32s_one _) (store_whole (u32s_lenh (quart_len (quart_len hl _ _ _ _) _ _ _ _))) (L' := [.box bk18 (u32s (quart (quart (quart v 0 4 8 12) 1 5 9 13) 2 6 10 14)) 42, .box bk277 (u32s (initW lk c ln)) 42, .box bk1 (bys lk) 22, .box bk6 (bys ln) 24, .box bk11 (bys (List.replicate 64 0)) 28]) rfl ?_
    intro ac348 wo349  En350 Hv351
    refine from_end (by kernel_rfl) ?_
    refine block_normal ?_
    refine then_normal ?_
    refine region_from ?_  -- region 17
    refine d_pures [(3, .pointer (some ⟨bk1, 0, none⟩)), (5, .pointer (some ⟨bk6, 0, none⟩)), (6, .pointer (some ⟨bk11, 0, none⟩)), (7, .pointer (some ⟨bk18, 0, none⟩)), (8, .int .i64 8), (9, .int .i64 3), (10, .pointer (some ⟨bk277, 0, none⟩)), (11, .int .i64 ((i : Nat) : Int)), (12, .int .i64 3)] [.int .i64 2, .int .i64 3, .int .i64 3] 3 En350 (by kernel_rfl) (by kernel_rfl) rfl ?_
    intro ac352 En353
    refine from_end (by kernel_rfl) ?_
    refine then_normal ?_
    refine loop_once ?_
    refine wp_seq ?_
    refine wp_seq ?_
    refine region_from ?_  -- region 16
    refine d_pures [(3, .pointer (some ⟨bk1, 0, none⟩)), (5, .pointer (some ⟨bk6, 0, none⟩)), (6, .pointer (some ⟨bk11, 0, none⟩)), (7, .pointer (some ⟨bk18, 0, none⟩)), (8, .int .i64 8), (9, .int .i64 3), (10, .pointer (some ⟨bk277, 0, none⟩)), (11, .int .i64 ((i : Nat) : Int)), (12, .int .i64 3), (54, .bool true)] [.int .i64 3, .bool true] 2 En353 (by kernel_rfl) (by kernel_rfl) rfl ?_
    intro ac354 En355
    refine from_end (by kernel_rfl) ?_
    refine then_normal ?_
    refine cond_true En355 (t := true) (by kernel_rfl) rfl ?_
    refine wp_skip ?_
    refine then_normal ?_
    refine wp_seq ?_
    refine wp_block ?_
    refine region_from ?_  -- region 18
    refine from_op (by kernel_rfl) ?_
    refine op_loadaggbox (d := some 57) (t := 42) (b := bk18) (off := 0) (k := 0) (m := 16) (xs := u32s (quart (quart (quart v 0 4 8 12) 1 5 9 13) 2 6 10 14)) En355 (by kernel_rfl) Hv351 rfl (load_whole (u32s_lenh (quart_len (quart_len (quart_len hl _ _ _ _) _ _ _ _) _ _ _ _))) (u32s_lenh (quart_len (quart_len (quart_len hl _ _ _ _) _ _ _ _) _ _ _ _)) (by kernel_rfl) (by kernel_rfl) ?_
    intro ac356 En357
    refine d_pures [(3, .pointer (some ⟨bk1, 0, none⟩)), (5, .pointer (some ⟨bk6, 0, none⟩)), (6, .pointer (some ⟨bk11, 0, none⟩)), (7, .pointer (some ⟨bk18, 0, none⟩)), (8, .int .i64 8), (9, .int .i64 3), (10, .pointer (some ⟨bk277, 0, none⟩)), (11, .int .i64 ((i : Nat) : Int)), (12, .int .i64 3), (57, .agg (List.toArray (u32s (quart (quart (quart v 0 4 8 12) 1 5 9 13) 2 6 10 14)))), (58, .int .i64 3), (60, .int .i64 7), (62, .int .i64 11), (64, .int .i64 15)] [.int .i64 3, .int .i64 3, .int .i64 7, .int .i64 3, .int .i64 11, .int .i64 3, .int .i64 15] 8 En357 (by kernel_rfl) (by kernel_rfl) rfl ?_
    intro ac358 En359
    refine from_op (by kernel_rfl) ?_
    have hM360 : Heap wo349 [] := Hv351.heap.pick [] (by kernel_rfl) (by decide)
    refine op_call (d := some 65) (f := 24) (args := #[.agg (List.toArray (u32s (quart (quart (quart v 0 4 8 12) 1 5 9 13) 2 6 10 14))), .int .i64 3, .int .i64 7, .int .i64 11, .int .i64 15]) En359 (by kernel_rfl) ((quart_ref _ (quart (quart (quart v 0 4 8 12) 1 5 9 13) 2 6 10 14) (quart_len (quart_len (quart_len hl _ _ _ _) _ _ _ _) _ _ _ _) 3 7 11 15 (by omega) (by omega) (by omega) (by omega)).mono ?_)
    rintro _ wo362 ⟨rfl, he365⟩
    refine ⟨_, rfl, ?_⟩
    intro ac361 En363
    have Hv364 : Ev w [] wo362 [.box bk18 (u32s (quart (quart (quart v 0 4 8 12) 1 5 9 13) 2 6 10 14)) 42, .box bk277 (u32s (initW lk c ln)) 42, .box bk1 (bys lk) 22, .box bk6 (bys ln) 24, .box bk11 (bys (List.replicate 64 0)) 28] := Hv351.trans (Ev.call (R := [.box bk18 (u32s (quart (quart (quart v 0 4 8 12) 1 5 9 13) 2 6 10 14)) 42, .box bk277 (u32s (initW lk c ln)) 42, .box bk1 (bys lk) 22, .box bk6 (bys ln) 24, .box bk11 (bys (List.replicate 64 0)) 28]) Hv351.heap [0, 1, 2, 3, 4] (by kernel_rfl) (by decide) he365)
    clear hM360 he365
    refine from_op (by kernel_rfl) ?_
    refine op_storeaggbox (d := none) (t := 42) (b := bk18) (off := 0) (k := 0) (m := 16) (xs := u32s (quart (quart (quart (quart v 0 4 8 12) 1 5 9 13) 2 6 10 14) 3 7 11 15)) (v := .agg (List.toArray (u32s (quart (quart (quart (quart v 0 4 8 12) 1 5 9 13) 2 6 10 14) 3 7 11 15)))) (cs' := u32s (quart (quart (quart (quart v 0 4 8 12) 1 5 9 13) 2 6 10 14) 3 7 11 15)) En363 (by kernel_rfl) Hv364 rfl rfl (u32s_lenh (quart_len (quart_len (quart_len (quart_len hl _ _ _ _) _ _ _ _) _ _ _ _) _ _ _ _)) (by rw [(u32s_lenh (quart_len (quart_len (quart_len hl _ _ _ _) _ _ _ _) _ _ _ _))]; decide) (by kernel_rfl) (u32s_one _) (store_whole (u32s_lenh (quart_len (quart_len (quart_len hl _ _ _ _) _ _ _ _) _ _ _ _))) (L' := [.box bk18 (u32s (quart (quart (quart (quart v 0 4 8 12) 1 5 9 13) 2 6 10 14) 3 7 11 15)) 42, .box bk277 (u32s (initW lk c ln)) 42, .box bk1 (bys lk) 22, .box bk6 (bys ln) 24, .box bk11 (bys (List.replicate 64 0)) 28]) rfl ?_
    intro ac366 wo367  En368 Hv369
    refine from_end (by kernel_rfl) ?_
    refine block_normal ?_
    refine then_normal ?_
    refine region_from ?_  -- region 17
    refine d_pures [(3, .pointer (some ⟨bk1, 0, none⟩)), (5, .pointer (some ⟨bk6, 0, none⟩)), (6, .pointer (some ⟨bk11, 0, none⟩)), (7, .pointer (some ⟨bk18, 0, none⟩)), (8, .int .i64 8), (9, .int .i64 3), (10, .pointer (some ⟨bk277, 0, none⟩)), (11, .int .i64 ((i : Nat) : Int)), (12, .int .i64 4)] [.int .i64 3, .int .i64 4, .int .i64 4] 3 En368 (by kernel_rfl) (by kernel_rfl) rfl ?_
    intro ac370 En371
    refine from_end (by kernel_rfl) ?_
    refine then_normal ?_
    refine loop_once ?_
    refine wp_seq ?_
    refine wp_seq ?_
    refine region_from ?_  -- region 16
    refine d_pures [(3, .pointer (some ⟨bk1, 0, none⟩)), (5, .pointer (some ⟨bk6, 0, none⟩)), (6, .pointer (some ⟨bk11, 0, none⟩)), (7, .pointer (some ⟨bk18, 0, none⟩)), (8, .int .i64 8), (9, .int .i64 3), (10, .pointer (some ⟨bk277, 0, none⟩)), (11, .int .i64 ((i : Nat) : Int)), (12, .int .i64 4), (54, .bool false)] [.int .i64 4, .bool false] 2 En371 (by kernel_rfl) (by kernel_rfl) rfl ?_
    intro ac372 En373
    refine from_end (by kernel_rfl) ?_
    refine then_normal ?_
    refine cond_false En373 (t := false) (by kernel_rfl) rfl ?_
    refine wp_exit ?_
    refine then_exit ?_
    refine then_exit ?_
    refine block_exit ?_
    refine then_normal ?_
    refine wp_seq ?_
    refine region_from ?_  -- region 19
    refine d_pures [(3, .pointer (some ⟨bk1, 0, none⟩)), (5, .pointer (some ⟨bk6, 0, none⟩)), (6, .pointer (some ⟨bk11, 0, none⟩)), (7, .pointer (some ⟨bk18, 0, none⟩)), (8, .int .i64 8), (9, .int .i64 3), (10, .pointer (some ⟨bk277, 0, none⟩)), (11, .int .i64 ((i : Nat) : Int)), (12, .int .i64 4), (13, .int .i64 0)] [.int .i64 0] 1 En373 (by kernel_rfl) (by kernel_rfl) rfl ?_
    intro ac374 En375
    refine from_end (by kernel_rfl) ?_
    refine then_normal ?_
    refine wp_block ?_
    refine loop_enter ?_
    refine loop_once ?_
    refine wp_seq ?_
    refine wp_seq ?_
    refine region_from ?_  -- region 20
    refine d_pures [(3, .pointer (some ⟨bk1, 0, none⟩)), (5, .pointer (some ⟨bk6, 0, none⟩)), (6, .pointer (some ⟨bk11, 0, none⟩)), (7, .pointer (some ⟨bk18, 0, none⟩)), (8, .int .i64 8), (9, .int .i64 3), (10, .pointer (some ⟨bk277, 0, none⟩)), (11, .int .i64 ((i : Nat) : Int)), (12, .int .i64 4), (13, .int .i64 0), (67, .bool true)] [.int .i64 0, .bool true] 2 En375 (by kernel_rfl) (by kernel_rfl) rfl ?_
    intro ac376 En377
    refine from_end (by kernel_rfl) ?_
    refine then_normal ?_
    refine cond_true En377 (t := true) (by kernel_rfl) rfl ?_
    refine wp_skip ?_
    refine then_normal ?_
    refine wp_seq ?_
    refine wp_block ?_
    refine region_from ?_  -- region 22
    refine from_op (by kernel_rfl) ?_
    refine op_loadaggbox (d := some 70) (t := 42) (b := bk18) (off := 0) (k := 0) (m := 16) (xs := u32s (quart (quart (quart (quart v 0 4 8 12) 1 5 9 13) 2 6 10 14) 3 7 11 15)) En377 (by kernel_rfl) Hv369 rfl (load_whole (u32s_lenh (quart_len (quart_len (quart_len (quart_len hl _ _ _ _) _ _ _ _) _ _ _ _) _ _ _ _))) (u32s_lenh (quart_len (quart_len (quart_len (quart_len hl _ _ _ _) _ _ _ _) _ _ _ _) _ _ _ _)) (by kernel_rfl) (by kernel_rfl) ?_
    intro ac378 En379
    refine d_pures [(3, .pointer (some ⟨bk1, 0, none⟩)), (5, .pointer (some ⟨bk6, 0, none⟩)), (6, .pointer (some ⟨bk11, 0, none⟩)), (7, .pointer (some ⟨bk18, 0, none⟩)), (8, .int .i64 8), (9, .int .i64 3), (10, .pointer (some ⟨bk277, 0, none⟩)), (11, .int .i64 ((i : Nat) : Int)), (12, .int .i64 4), (13, .int .i64 0), (70, .agg (List.toArray (u32s (quart (quart (quart (quart v 0 4 8 12) 1 5 9 13) 2 6 10 14) 3 7 11 15)))), (71, .int .i64 0), (75, .int .i64 5), (79, .int .i64 10), (83, .int .i64 15)] [.int .i64 0, .int .i64 0, .int .i64 1, .int .i64 1, .int .i64 5, .int .i64 0, .int .i64 2, .int .i64 2, .int .i64 10, .int .i64 0, .int .i64 3, .int .i64 3, .int .i64 15] 14 En379 (by kernel_rfl) (by kernel_rfl) rfl ?_
    intro ac380 En381
    refine from_op (by kernel_rfl) ?_
    have hM382 : Heap wo367 [] := Hv369.heap.pick [] (by kernel_rfl) (by decide)
    refine op_call (d := some 84) (f := 24) (args := #[.agg (List.toArray (u32s (quart (quart (quart (quart v 0 4 8 12) 1 5 9 13) 2 6 10 14) 3 7 11 15))), .int .i64 0, .int .i64 5, .int .i64 10, .int .i64 15]) En381 (by kernel_rfl) ((quart_ref _ (quart (quart (quart (quart v 0 4 8 12) 1 5 9 13) 2 6 10 14) 3 7 11 15) (quart_len (quart_len (quart_len (quart_len hl _ _ _ _) _ _ _ _) _ _ _ _) _ _ _ _) 0 5 10 15 (by omega) (by omega) (by omega) (by omega)).mono ?_)
    rintro _ wo384 ⟨rfl, he387⟩
    refine ⟨_, rfl, ?_⟩
    intro ac383 En385
    have Hv386 : Ev w [] wo384 [.box bk18 (u32s (quart (quart (quart (quart v 0 4 8 12) 1 5 9 13) 2 6 10 14) 3 7 11 15)) 42, .box bk277 (u32s (initW lk c ln)) 42, .box bk1 (bys lk) 22, .box bk6 (bys ln) 24, .box bk11 (bys (List.replicate 64 0)) 28] := Hv369.trans (Ev.call (R := [.box bk18 (u32s (quart (quart (quart (quart v 0 4 8 12) 1 5 9 13) 2 6 10 14) 3 7 11 15)) 42, .box bk277 (u32s (initW lk c ln)) 42, .box bk1 (bys lk) 22, .box bk6 (bys ln) 24, .box bk11 (bys (List.replicate 64 0)) 28]) Hv369.heap [0, 1, 2, 3, 4] (by kernel_rfl) (by decide) he387)
    clear hM382 he387
    refine from_op (by kernel_rfl) ?_
    refine op_storeaggbox (d := none) (t := 42) (b := bk18) (off := 0) (k := 0) (m := 16) (xs := u32s (quart (quart (quart (quart (quart v 0 4 8 12) 1 5 9 13) 2 6 10 14) 3 7 11 15) 0 5 10 15)) (v := .agg (List.toArray (u32s (quart (quart (quart (quart (quart v 0 4 8 12) 1 5 9 13) 2 6 10 14) 3 7 11 15) 0 5 10 15)))) (cs' := u32s (quart (quart (quart (quart (quart v 0 4 8 12) 1 5 9 13) 2 6 10 14) 3 7 11 15) 0 5 10 15)) En385 (by kernel_rfl) Hv386 rfl rfl (u32s_lenh (quart_len (quart_len (quart_len (quart_len (quart_len hl _ _ _ _) _ _ _ _) _ _ _ _) _ _ _ _) _ _ _ _)) (by rw [(u32s_lenh (quart_len (quart_len (quart_len (quart_len hl _ _ _ _) _ _ _ _) _ _ _ _) _ _ _ _))]; decide) (by kernel_rfl) (u32s_one _) (store_whole (u32s_lenh (quart_len (quart_len (quart_len (quart_len hl _ _ _ _) _ _ _ _) _ _ _ _) _ _ _ _))) (L' := [.box bk18 (u32s (quart (quart (quart (quart (quart v 0 4 8 12) 1 5 9 13) 2 6 10 14) 3 7 11 15) 0 5 10 15)) 42, .box bk277 (u32s (initW lk c ln)) 42, .box bk1 (bys lk) 22, .box bk6 (bys ln) 24, .box bk11 (bys (List.replicate 64 0)) 28]) rfl ?_
    intro ac388 wo389  En390 Hv391
    refine from_end (by kernel_rfl) ?_
    refine block_normal ?_
    refine then_normal ?_
    refine region_from ?_  -- region 21
    refine d_pures [(3, .pointer (some ⟨bk1, 0, none⟩)), (5, .pointer (some ⟨bk6, 0, none⟩)), (6, .pointer (some ⟨bk11, 0, none⟩)), (7, .pointer (some ⟨bk18, 0, none⟩)), (8, .int .i64 8), (9, .int .i64 3), (10, .pointer (some ⟨bk277, 0, none⟩)), (11, .int .i64 ((i : Nat) : Int)), (12, .int .i64 4), (13, .int .i64 1)] [.int .i64 0, .int .i64 1, .int .i64 1] 3 En390 (by kernel_rfl) (by kernel_rfl) rfl ?_
    intro ac392 En393
    refine from_end (by kernel_rfl) ?_
    refine then_normal ?_
    refine loop_once ?_
    refine wp_seq ?_
    refine wp_seq ?_
    refine region_from ?_  -- region 20
    refine d_pures [(3, .pointer (some ⟨bk1, 0, none⟩)), (5, .pointer (some ⟨bk6, 0, none⟩)), (6, .pointer (some ⟨bk11, 0, none⟩)), (7, .pointer (some ⟨bk18, 0, none⟩)), (8, .int .i64 8), (9, .int .i64 3), (10, .pointer (some ⟨bk277, 0, none⟩)), (11, .int .i64 ((i : Nat) : Int)), (12, .int .i64 4), (13, .int .i64 1), (67, .bool true)] [.int .i64 1, .bool true] 2 En393 (by kernel_rfl) (by kernel_rfl) rfl ?_
    intro ac394 En395
    refine from_end (by kernel_rfl) ?_
    refine then_normal ?_
    refine cond_true En395 (t := true) (by kernel_rfl) rfl ?_
    refine wp_skip ?_
    refine then_normal ?_
    refine wp_seq ?_
    refine wp_block ?_
    refine region_from ?_  -- region 22
    refine from_op (by kernel_rfl) ?_
    refine op_loadaggbox (d := some 70) (t := 42) (b := bk18) (off := 0) (k := 0) (m := 16) (xs := u32s (quart (quart (quart (quart (quart v 0 4 8 12) 1 5 9 13) 2 6 10 14) 3 7 11 15) 0 5 10 15)) En395 (by kernel_rfl) Hv391 rfl (load_whole (u32s_lenh (quart_len (quart_len (quart_len (quart_len (quart_len hl _ _ _ _) _ _ _ _) _ _ _ _) _ _ _ _) _ _ _ _))) (u32s_lenh (quart_len (quart_len (quart_len (quart_len (quart_len hl _ _ _ _) _ _ _ _) _ _ _ _) _ _ _ _) _ _ _ _)) (by kernel_rfl) (by kernel_rfl) ?_
    intro ac396 En397
    refine d_pures [(3, .pointer (some ⟨bk1, 0, none⟩)), (5, .pointer (some ⟨bk6, 0, none⟩)), (6, .pointer (some ⟨bk11, 0, none⟩)), (7, .pointer (some ⟨bk18, 0, none⟩)), (8, .int .i64 8), (9, .int .i64 3), (10, .pointer (some ⟨bk277, 0, none⟩)), (11, .int .i64 ((i : Nat) : Int)), (12, .int .i64 4), (13, .int .i64 1), (70, .agg (List.toArray (u32s (quart (quart (quart (quart (quart v 0 4 8 12) 1 5 9 13) 2 6 10 14) 3 7 11 15) 0 5 10 15)))), (71, .int .i64 1), (75, .int .i64 6), (79, .int .i64 11), (83, .int .i64 12)] [.int .i64 1, .int .i64 1, .int .i64 2, .int .i64 2, .int .i64 6, .int .i64 1, .int .i64 3, .int .i64 3, .int .i64 11, .int .i64 1, .int .i64 4, .int .i64 0, .int .i64 12] 14 En397 (by kernel_rfl) (by kernel_rfl) rfl ?_
    intro ac398 En399
    refine from_op (by kernel_rfl) ?_
    have hM400 : Heap wo389 [] := Hv391.heap.pick [] (by kernel_rfl) (by decide)
    refine op_call (d := some 84) (f := 24) (args := #[.agg (List.toArray (u32s (quart (quart (quart (quart (quart v 0 4 8 12) 1 5 9 13) 2 6 10 14) 3 7 11 15) 0 5 10 15))), .int .i64 1, .int .i64 6, .int .i64 11, .int .i64 12]) En399 (by kernel_rfl) ((quart_ref _ (quart (quart (quart (quart (quart v 0 4 8 12) 1 5 9 13) 2 6 10 14) 3 7 11 15) 0 5 10 15) (quart_len (quart_len (quart_len (quart_len (quart_len hl _ _ _ _) _ _ _ _) _ _ _ _) _ _ _ _) _ _ _ _) 1 6 11 12 (by omega) (by omega) (by omega) (by omega)).mono ?_)
    rintro _ wo402 ⟨rfl, he405⟩
    refine ⟨_, rfl, ?_⟩
    intro ac401 En403
    have Hv404 : Ev w [] wo402 [.box bk18 (u32s (quart (quart (quart (quart (quart v 0 4 8 12) 1 5 9 13) 2 6 10 14) 3 7 11 15) 0 5 10 15)) 42, .box bk277 (u32s (initW lk c ln)) 42, .box bk1 (bys lk) 22, .box bk6 (bys ln) 24, .box bk11 (bys (List.replicate 64 0)) 28] := Hv391.trans (Ev.call (R := [.box bk18 (u32s (quart (quart (quart (quart (quart v 0 4 8 12) 1 5 9 13) 2 6 10 14) 3 7 11 15) 0 5 10 15)) 42, .box bk277 (u32s (initW lk c ln)) 42, .box bk1 (bys lk) 22, .box bk6 (bys ln) 24, .box bk11 (bys (List.replicate 64 0)) 28]) Hv391.heap [0, 1, 2, 3, 4] (by kernel_rfl) (by decide) he405)
    clear hM400 he405
    refine from_op (by kernel_rfl) ?_
    refine op_storeaggbox (d := none) (t := 42) (b := bk18) (off := 0) (k := 0) (m := 16) (xs := u32s (quart (quart (quart (quart (quart (quart v 0 4 8 12) 1 5 9 13) 2 6 10 14) 3 7 11 15) 0 5 10 15) 1 6 11 12)) (v := .agg (List.toArray (u32s (quart (quart (quart (quart (quart (quart v 0 4 8 12) 1 5 9 13) 2 6 10 14) 3 7 11 15) 0 5 10 15) 1 6 11 12)))) (cs' := u32s (quart (quart (quart (quart (quart (quart v 0 4 8 12) 1 5 9 13) 2 6 10 14) 3 7 11 15) 0 5 10 15) 1 6 11 12)) En403 (by kernel_rfl) Hv404 rfl rfl (u32s_lenh (quart_len (quart_len (quart_len (quart_len (quart_len (quart_len hl _ _ _ _) _ _ _ _) _ _ _ _) _ _ _ _) _ _ _ _) _ _ _ _)) (by rw [(u32s_lenh (quart_len (quart_len (quart_len (quart_len (quart_len hl _ _ _ _) _ _ _ _) _ _ _ _) _ _ _ _) _ _ _ _))]; decide) (by kernel_rfl) (u32s_one _) (store_whole (u32s_lenh (quart_len (quart_len (quart_len (quart_len (quart_len hl _ _ _ _) _ _ _ _) _ _ _ _) _ _ _ _) _ _ _ _))) (L' := [.box bk18 (u32s (quart (quart (quart (quart (quart (quart v 0 4 8 12) 1 5 9 13) 2 6 10 14) 3 7 11 15) 0 5 10 15) 1 6 11 12)) 42, .box bk277 (u32s (initW lk c ln)) 42, .box bk1 (bys lk) 22, .box bk6 (bys ln) 24, .box bk11 (bys (List.replicate 64 0)) 28]) rfl ?_
    intro ac406 wo407  En408 Hv409
    refine from_end (by kernel_rfl) ?_
    refine block_normal ?_
    refine then_normal ?_
    refine region_from ?_  -- region 21
    refine d_pures [(3, .pointer (some ⟨bk1, 0, none⟩)), (5, .pointer (some ⟨bk6, 0, none⟩)), (6, .pointer (some ⟨bk11, 0, none⟩)), (7, .pointer (some ⟨bk18, 0, none⟩)), (8, .int .i64 8), (9, .int .i64 3), (10, .pointer (some ⟨bk277, 0, none⟩)), (11, .int .i64 ((i : Nat) : Int)), (12, .int .i64 4), (13, .int .i64 2)] [.int .i64 1, .int .i64 2, .int .i64 2] 3 En408 (by kernel_rfl) (by kernel_rfl) rfl ?_
    intro ac410 En411
    refine from_end (by kernel_rfl) ?_
    refine then_normal ?_
    refine loop_once ?_
    refine wp_seq ?_
    refine wp_seq ?_
    refine region_from ?_  -- region 20
    refine d_pures [(3, .pointer (some ⟨bk1, 0, none⟩)), (5, .pointer (some ⟨bk6, 0, none⟩)), (6, .pointer (some ⟨bk11, 0, none⟩)), (7, .pointer (some ⟨bk18, 0, none⟩)), (8, .int .i64 8), (9, .int .i64 3), (10, .pointer (some ⟨bk277, 0, none⟩)), (11, .int .i64 ((i : Nat) : Int)), (12, .int .i64 4), (13, .int .i64 2), (67, .bool true)] [.int .i64 2, .bool true] 2 En411 (by kernel_rfl) (by kernel_rfl) rfl ?_
    intro ac412 En413
    refine from_end (by kernel_rfl) ?_
    refine then_normal ?_
    refine cond_true En413 (t := true) (by kernel_rfl) rfl ?_
    refine wp_skip ?_
    refine then_normal ?_
    refine wp_seq ?_
    refine wp_block ?_
    refine region_from ?_  -- region 22
    refine from_op (by kernel_rfl) ?_
    refine op_loadaggbox (d := some 70) (t := 42) (b := bk18) (off := 0) (k := 0) (m := 16) (xs := u32s (quart (quart (quart (quart (quart (quart v 0 4 8 12) 1 5 9 13) 2 6 10 14) 3 7 11 15) 0 5 10 15) 1 6 11 12)) En413 (by kernel_rfl) Hv409 rfl (load_whole (u32s_lenh (quart_len (quart_len (quart_len (quart_len (quart_len (quart_len hl _ _ _ _) _ _ _ _) _ _ _ _) _ _ _ _) _ _ _ _) _ _ _ _))) (u32s_lenh (quart_len (quart_len (quart_len (quart_len (quart_len (quart_len hl _ _ _ _) _ _ _ _) _ _ _ _) _ _ _ _) _ _ _ _) _ _ _ _)) (by kernel_rfl) (by kernel_rfl) ?_
    intro ac414 En415
    refine d_pures [(3, .pointer (some ⟨bk1, 0, none⟩)), (5, .pointer (some ⟨bk6, 0, none⟩)), (6, .pointer (some ⟨bk11, 0, none⟩)), (7, .pointer (some ⟨bk18, 0, none⟩)), (8, .int .i64 8), (9, .int .i64 3), (10, .pointer (some ⟨bk277, 0, none⟩)), (11, .int .i64 ((i : Nat) : Int)), (12, .int .i64 4), (13, .int .i64 2), (70, .agg (List.toArray (u32s (quart (quart (quart (quart (quart (quart v 0 4 8 12) 1 5 9 13) 2 6 10 14) 3 7 11 15) 0 5 10 15) 1 6 11 12)))), (71, .int .i64 2), (75, .int .i64 7), (79, .int .i64 8), (83, .int .i64 13)] [.int .i64 2, .int .i64 2, .int .i64 3, .int .i64 3, .int .i64 7, .int .i64 2, .int .i64 4, .int .i64 0, .int .i64 8, .int .i64 2, .int .i64 5, .int .i64 1, .int .i64 13] 14 En415 (by kernel_rfl) (by kernel_rfl) rfl ?_
    intro ac416 En417
    refine from_op (by kernel_rfl) ?_
    have hM418 : Heap wo407 [] := Hv409.heap.pick [] (by kernel_rfl) (by decide)
    refine op_call (d := some 84) (f := 24) (args := #[.agg (List.toArray (u32s (quart (quart (quart (quart (quart (quart v 0 4 8 12) 1 5 9 13) 2 6 10 14) 3 7 11 15) 0 5 10 15) 1 6 11 12))), .int .i64 2, .int .i64 7, .int .i64 8, .int .i64 13]) En417 (by kernel_rfl) ((quart_ref _ (quart (quart (quart (quart (quart (quart v 0 4 8 12) 1 5 9 13) 2 6 10 14) 3 7 11 15) 0 5 10 15) 1 6 11 12) (quart_len (quart_len (quart_len (quart_len (quart_len (quart_len hl _ _ _ _) _ _ _ _) _ _ _ _) _ _ _ _) _ _ _ _) _ _ _ _) 2 7 8 13 (by omega) (by omega) (by omega) (by omega)).mono ?_)
    rintro _ wo420 ⟨rfl, he423⟩
    refine ⟨_, rfl, ?_⟩
    intro ac419 En421
    have Hv422 : Ev w [] wo420 [.box bk18 (u32s (quart (quart (quart (quart (quart (quart v 0 4 8 12) 1 5 9 13) 2 6 10 14) 3 7 11 15) 0 5 10 15) 1 6 11 12)) 42, .box bk277 (u32s (initW lk c ln)) 42, .box bk1 (bys lk) 22, .box bk6 (bys ln) 24, .box bk11 (bys (List.replicate 64 0)) 28] := Hv409.trans (Ev.call (R := [.box bk18 (u32s (quart (quart (quart (quart (quart (quart v 0 4 8 12) 1 5 9 13) 2 6 10 14) 3 7 11 15) 0 5 10 15) 1 6 11 12)) 42, .box bk277 (u32s (initW lk c ln)) 42, .box bk1 (bys lk) 22, .box bk6 (bys ln) 24, .box bk11 (bys (List.replicate 64 0)) 28]) Hv409.heap [0, 1, 2, 3, 4] (by kernel_rfl) (by decide) he423)
    clear hM418 he423
    refine from_op (by kernel_rfl) ?_
    refine op_storeaggbox (d := none) (t := 42) (b := bk18) (off := 0) (k := 0) (m := 16) (xs := u32s (quart (quart (quart (quart (quart (quart (quart v 0 4 8 12) 1 5 9 13) 2 6 10 14) 3 7 11 15) 0 5 10 15) 1 6 11 12) 2 7 8 13)) (v := .agg (List.toArray (u32s (quart (quart (quart (quart (quart (quart (quart v 0 4 8 12) 1 5 9 13) 2 6 10 14) 3 7 11 15) 0 5 10 15) 1 6 11 12) 2 7 8 13)))) (cs' := u32s (quart (quart (quart (quart (quart (quart (quart v 0 4 8 12) 1 5 9 13) 2 6 10 14) 3 7 11 15) 0 5 10 15) 1 6 11 12) 2 7 8 13)) En421 (by kernel_rfl) Hv422 rfl rfl (u32s_lenh (quart_len (quart_len (quart_len (quart_len (quart_len (quart_len (quart_len hl _ _ _ _) _ _ _ _) _ _ _ _) _ _ _ _) _ _ _ _) _ _ _ _) _ _ _ _)) (by rw [(u32s_lenh (quart_len (quart_len (quart_len (quart_len (quart_len (quart_len hl _ _ _ _) _ _ _ _) _ _ _ _) _ _ _ _) _ _ _ _) _ _ _ _))]; decide) (by kernel_rfl) (u32s_one _) (store_whole (u32s_lenh (quart_len (quart_len (quart_len (quart_len (quart_len (quart_len hl _ _ _ _) _ _ _ _) _ _ _ _) _ _ _ _) _ _ _ _) _ _ _ _))) (L' := [.box bk18 (u32s (quart (quart (quart (quart (quart (quart (quart v 0 4 8 12) 1 5 9 13) 2 6 10 14) 3 7 11 15) 0 5 10 15) 1 6 11 12) 2 7 8 13)) 42, .box bk277 (u32s (initW lk c ln)) 42, .box bk1 (bys lk) 22, .box bk6 (bys ln) 24, .box bk11 (bys (List.replicate 64 0)) 28]) rfl ?_
    intro ac424 wo425  En426 Hv427
    refine from_end (by kernel_rfl) ?_
    refine block_normal ?_
    refine then_normal ?_
    refine region_from ?_  -- region 21
    refine d_pures [(3, .pointer (some ⟨bk1, 0, none⟩)), (5, .pointer (some ⟨bk6, 0, none⟩)), (6, .pointer (some ⟨bk11, 0, none⟩)), (7, .pointer (some ⟨bk18, 0, none⟩)), (8, .int .i64 8), (9, .int .i64 3), (10, .pointer (some ⟨bk277, 0, none⟩)), (11, .int .i64 ((i : Nat) : Int)), (12, .int .i64 4), (13, .int .i64 3)] [.int .i64 2, .int .i64 3, .int .i64 3] 3 En426 (by kernel_rfl) (by kernel_rfl) rfl ?_
    intro ac428 En429
    refine from_end (by kernel_rfl) ?_
    refine then_normal ?_
    refine loop_once ?_
    refine wp_seq ?_
    refine wp_seq ?_
    refine region_from ?_  -- region 20
    refine d_pures [(3, .pointer (some ⟨bk1, 0, none⟩)), (5, .pointer (some ⟨bk6, 0, none⟩)), (6, .pointer (some ⟨bk11, 0, none⟩)), (7, .pointer (some ⟨bk18, 0, none⟩)), (8, .int .i64 8), (9, .int .i64 3), (10, .pointer (some ⟨bk277, 0, none⟩)), (11, .int .i64 ((i : Nat) : Int)), (12, .int .i64 4), (13, .int .i64 3), (67, .bool true)] [.int .i64 3, .bool true] 2 En429 (by kernel_rfl) (by kernel_rfl) rfl ?_
    intro ac430 En431
    refine from_end (by kernel_rfl) ?_
    refine then_normal ?_
    refine cond_true En431 (t := true) (by kernel_rfl) rfl ?_
    refine wp_skip ?_
    refine then_normal ?_
    refine wp_seq ?_
    refine wp_block ?_
    refine region_from ?_  -- region 22
    refine from_op (by kernel_rfl) ?_
    refine op_loadaggbox (d := some 70) (t := 42) (b := bk18) (off := 0) (k := 0) (m := 16) (xs := u32s (quart (quart (quart (quart (quart (quart (quart v 0 4 8 12) 1 5 9 13) 2 6 10 14) 3 7 11 15) 0 5 10 15) 1 6 11 12) 2 7 8 13)) En431 (by kernel_rfl) Hv427 rfl (load_whole (u32s_lenh (quart_len (quart_len (quart_len (quart_len (quart_len (quart_len (quart_len hl _ _ _ _) _ _ _ _) _ _ _ _) _ _ _ _) _ _ _ _) _ _ _ _) _ _ _ _))) (u32s_lenh (quart_len (quart_len (quart_len (quart_len (quart_len (quart_len (quart_len hl _ _ _ _) _ _ _ _) _ _ _ _) _ _ _ _) _ _ _ _) _ _ _ _) _ _ _ _)) (by kernel_rfl) (by kernel_rfl) ?_
    intro ac432 En433
    refine d_pures [(3, .pointer (some ⟨bk1, 0, none⟩)), (5, .pointer (some ⟨bk6, 0, none⟩)), (6, .pointer (some ⟨bk11, 0, none⟩)), (7, .pointer (some ⟨bk18, 0, none⟩)), (8, .int .i64 8), (9, .int .i64 3), (10, .pointer (some ⟨bk277, 0, none⟩)), (11, .int .i64 ((i : Nat) : Int)), (12, .int .i64 4), (13, .int .i64 3), (70, .agg (List.toArray (u32s (quart (quart (quart (quart (quart (quart (quart v 0 4 8 12) 1 5 9 13) 2 6 10 14) 3 7 11 15) 0 5 10 15) 1 6 11 12) 2 7 8 13)))), (71, .int .i64 3), (75, .int .i64 4), (79, .int .i64 9), (83, .int .i64 14)] [.int .i64 3, .int .i64 3, .int .i64 4, .int .i64 0, .int .i64 4, .int .i64 3, .int .i64 5, .int .i64 1, .int .i64 9, .int .i64 3, .int .i64 6, .int .i64 2, .int .i64 14] 14 En433 (by kernel_rfl) (by kernel_rfl) rfl ?_
    intro ac434 En435
    refine from_op (by kernel_rfl) ?_
    have hM436 : Heap wo425 [] := Hv427.heap.pick [] (by kernel_rfl) (by decide)
    refine op_call (d := some 84) (f := 24) (args := #[.agg (List.toArray (u32s (quart (quart (quart (quart (quart (quart (quart v 0 4 8 12) 1 5 9 13) 2 6 10 14) 3 7 11 15) 0 5 10 15) 1 6 11 12) 2 7 8 13))), .int .i64 3, .int .i64 4, .int .i64 9, .int .i64 14]) En435 (by kernel_rfl) ((quart_ref _ (quart (quart (quart (quart (quart (quart (quart v 0 4 8 12) 1 5 9 13) 2 6 10 14) 3 7 11 15) 0 5 10 15) 1 6 11 12) 2 7 8 13) (quart_len (quart_len (quart_len (quart_len (quart_len (quart_len (quart_len hl _ _ _ _) _ _ _ _) _ _ _ _) _ _ _ _) _ _ _ _) _ _ _ _) _ _ _ _) 3 4 9 14 (by omega) (by omega) (by omega) (by omega)).mono ?_)
    rintro _ wo438 ⟨rfl, he441⟩
    refine ⟨_, rfl, ?_⟩
    intro ac437 En439
    have Hv440 : Ev w [] wo438 [.box bk18 (u32s (quart (quart (quart (quart (quart (quart (quart v 0 4 8 12) 1 5 9 13) 2 6 10 14) 3 7 11 15) 0 5 10 15) 1 6 11 12) 2 7 8 13)) 42, .box bk277 (u32s (initW lk c ln)) 42, .box bk1 (bys lk) 22, .box bk6 (bys ln) 24, .box bk11 (bys (List.replicate 64 0)) 28] := Hv427.trans (Ev.call (R := [.box bk18 (u32s (quart (quart (quart (quart (quart (quart (quart v 0 4 8 12) 1 5 9 13) 2 6 10 14) 3 7 11 15) 0 5 10 15) 1 6 11 12) 2 7 8 13)) 42, .box bk277 (u32s (initW lk c ln)) 42, .box bk1 (bys lk) 22, .box bk6 (bys ln) 24, .box bk11 (bys (List.replicate 64 0)) 28]) Hv427.heap [0, 1, 2, 3, 4] (by kernel_rfl) (by decide) he441)
    clear hM436 he441
    refine from_op (by kernel_rfl) ?_
    refine op_storeaggbox (d := none) (t := 42) (b := bk18) (off := 0) (k := 0) (m := 16) (xs := u32s (quart (quart (quart (quart (quart (quart (quart (quart v 0 4 8 12) 1 5 9 13) 2 6 10 14) 3 7 11 15) 0 5 10 15) 1 6 11 12) 2 7 8 13) 3 4 9 14)) (v := .agg (List.toArray (u32s (quart (quart (quart (quart (quart (quart (quart (quart v 0 4 8 12) 1 5 9 13) 2 6 10 14) 3 7 11 15) 0 5 10 15) 1 6 11 12) 2 7 8 13) 3 4 9 14)))) (cs' := u32s (quart (quart (quart (quart (quart (quart (quart (quart v 0 4 8 12) 1 5 9 13) 2 6 10 14) 3 7 11 15) 0 5 10 15) 1 6 11 12) 2 7 8 13) 3 4 9 14)) En439 (by kernel_rfl) Hv440 rfl rfl (u32s_lenh (quart_len (quart_len (quart_len (quart_len (quart_len (quart_len (quart_len (quart_len hl _ _ _ _) _ _ _ _) _ _ _ _) _ _ _ _) _ _ _ _) _ _ _ _) _ _ _ _) _ _ _ _)) (by rw [(u32s_lenh (quart_len (quart_len (quart_len (quart_len (quart_len (quart_len (quart_len hl _ _ _ _) _ _ _ _) _ _ _ _) _ _ _ _) _ _ _ _) _ _ _ _) _ _ _ _))]; decide) (by kernel_rfl) (u32s_one _) (store_whole (u32s_lenh (quart_len (quart_len (quart_len (quart_len (quart_len (quart_len (quart_len hl _ _ _ _) _ _ _ _) _ _ _ _) _ _ _ _) _ _ _ _) _ _ _ _) _ _ _ _))) (L' := [.box bk18 (u32s (quart (quart (quart (quart (quart (quart (quart (quart v 0 4 8 12) 1 5 9 13) 2 6 10 14) 3 7 11 15) 0 5 10 15) 1 6 11 12) 2 7 8 13) 3 4 9 14)) 42, .box bk277 (u32s (initW lk c ln)) 42, .box bk1 (bys lk) 22, .box bk6 (bys ln) 24, .box bk11 (bys (List.replicate 64 0)) 28]) rfl ?_
    intro ac442 wo443  En444 Hv445
    refine from_end (by kernel_rfl) ?_
    refine block_normal ?_
    refine then_normal ?_
    refine region_from ?_  -- region 21
    refine d_pures [(3, .pointer (some ⟨bk1, 0, none⟩)), (5, .pointer (some ⟨bk6, 0, none⟩)), (6, .pointer (some ⟨bk11, 0, none⟩)), (7, .pointer (some ⟨bk18, 0, none⟩)), (8, .int .i64 8), (9, .int .i64 3), (10, .pointer (some ⟨bk277, 0, none⟩)), (11, .int .i64 ((i : Nat) : Int)), (12, .int .i64 4), (13, .int .i64 4)] [.int .i64 3, .int .i64 4, .int .i64 4] 3 En444 (by kernel_rfl) (by kernel_rfl) rfl ?_
    intro ac446 En447
    refine from_end (by kernel_rfl) ?_
    refine then_normal ?_
    refine loop_once ?_
    refine wp_seq ?_
    refine wp_seq ?_
    refine region_from ?_  -- region 20
    refine d_pures [(3, .pointer (some ⟨bk1, 0, none⟩)), (5, .pointer (some ⟨bk6, 0, none⟩)), (6, .pointer (some ⟨bk11, 0, none⟩)), (7, .pointer (some ⟨bk18, 0, none⟩)), (8, .int .i64 8), (9, .int .i64 3), (10, .pointer (some ⟨bk277, 0, none⟩)), (11, .int .i64 ((i : Nat) : Int)), (12, .int .i64 4), (13, .int .i64 4), (67, .bool false)] [.int .i64 4, .bool false] 2 En447 (by kernel_rfl) (by kernel_rfl) rfl ?_
    intro ac448 En449
    refine from_end (by kernel_rfl) ?_
    refine then_normal ?_
    refine cond_false En449 (t := false) (by kernel_rfl) rfl ?_
    refine wp_exit ?_
    refine then_exit ?_
    refine then_exit ?_
    refine block_exit ?_
    refine block_normal ?_
    refine then_normal ?_
    refine region_from ?_  -- region 14
    refine d_pures [(3, .pointer (some ⟨bk1, 0, none⟩)), (5, .pointer (some ⟨bk6, 0, none⟩)), (6, .pointer (some ⟨bk11, 0, none⟩)), (7, .pointer (some ⟨bk18, 0, none⟩)), (8, .int .i64 8), (9, .int .i64 3), (10, .pointer (some ⟨bk277, 0, none⟩)), (11, .int .i64 ((i : Nat) : Int)), (12, .int .i64 4), (13, .int .i64 4), (52, .int .i64 (IntKind.wrap .i64 (((i : Nat) : Int) + (1 : Int))))] [.int .i64 ((i : Nat) : Int), .int .i64 (IntKind.wrap .i64 (((i : Nat) : Int) + (1 : Int)))] 2 En449 (by kernel_rfl) (by kernel_rfl) rfl ?_
    intro ac450 En451
    rw [Go.Dbr.wr64 (e := ((i : Nat) : Int) + (1 : Int)) (x := ((i + 1 : Nat) : Int)) (by omega) (by omega) (by omega)] at En451
    refine d_pures [(3, .pointer (some ⟨bk1, 0, none⟩)), (5, .pointer (some ⟨bk6, 0, none⟩)), (6, .pointer (some ⟨bk11, 0, none⟩)), (7, .pointer (some ⟨bk18, 0, none⟩)), (8, .int .i64 8), (9, .int .i64 3), (10, .pointer (some ⟨bk277, 0, none⟩)), (11, .int .i64 ((i + 1 : Nat) : Int)), (12, .int .i64 4), (13, .int .i64 4)] [.int .i64 ((i + 1 : Nat) : Int)] 3 En451 (by kernel_rfl) (by kernel_rfl) rfl ?_
    intro ac452 En453
    refine from_end (by kernel_rfl) ?_
    refine then_normal ?_
    refine ⟨_, ⟨i + 1, quart (quart (quart (quart (quart (quart (quart (quart v 0 4 8 12) 1 5 9 13) 2 6 10 14) 3 7 11 15) 0 5 10 15) 1 6 11 12) 2 7 8 13) 3 4 9 14, rfl, En453.sub (by kernel_rfl), Hv445.pick [0, 1, 2, 3, 4] (by kernel_rfl) (by decide), by omega, by rw [hv]; rfl, (quart_len (quart_len (quart_len (quart_len (quart_len (quart_len (quart_len (quart_len hl _ _ _ _) _ _ _ _) _ _ _ _) _ _ _ _) _ _ _ _) _ _ _ _) _ _ _ _) _ _ _ _)⟩, ?_⟩
    omega
  ·
    replace hc297 : ¬ (((i : Nat) : Int) < (10 : Int)) := of_decide_eq_false hc297
    refine wp_exit ?_
    refine then_exit ?_
    refine then_exit ?_
    refine block_exit ?_
    refine then_normal ?_
    refine wp_seq ?_
    refine region_from ?_  -- region 23
    refine from_op (by kernel_rfl) ?_
    refine op_alloc (d := some 14) (T := 28) (x := .tuple #[]) (z := .agg (List.toArray (bys (List.replicate 64 0)))) (cs := bys (List.replicate 64 0)) En296 (by kernel_rfl) (by kernel_rfl) (by kernel_rfl) Hv293 ?_
    intro ac455 wo456 bk454 En457 Hv458
    refine from_end (by kernel_rfl) ?_
    refine then_normal ?_
    refine wp_seq ?_
    refine wp_seq ?_
    refine region_from ?_  -- region 24
    refine d_pures [(3, .pointer (some ⟨bk1, 0, none⟩)), (5, .pointer (some ⟨bk6, 0, none⟩)), (6, .pointer (some ⟨bk11, 0, none⟩)), (7, .pointer (some ⟨bk18, 0, none⟩)), (8, .int .i64 8), (9, .int .i64 3), (10, .pointer (some ⟨bk277, 0, none⟩)), (11, .int .i64 ((i : Nat) : Int)), (14, .pointer (some ⟨bk454, 0, none⟩)), (15, .int .i64 0)] [.int .i64 0] 1 En457 (by kernel_rfl) (by kernel_rfl) rfl ?_
    intro ac459 En460
    refine from_end (by kernel_rfl) ?_
    refine then_normal ?_
    refine wp_block ?_
    have hi10 : i = 10 := by omega
    refine loop_m (fun ms461 ac wo => ∃ (q : Nat) (o : List UInt8), ms461 = (64 - q : Nat) ∧ Env ac 107 [(3, .pointer (some ⟨bk1, 0, none⟩)), (5, .pointer (some ⟨bk6, 0, none⟩)), (6, .pointer (some ⟨bk11, 0, none⟩)), (7, .pointer (some ⟨bk18, 0, none⟩)), (8, .int .i64 8), (9, .int .i64 3), (10, .pointer (some ⟨bk277, 0, none⟩)), (11, .int .i64 ((i : Nat) : Int)), (14, .pointer (some ⟨bk454, 0, none⟩)), (15, .int .i64 ((q : Nat) : Int))] ∧ Ev w [] wo [.box bk18 (u32s v) 42, .box bk277 (u32s (initW lk c ln)) 42, .box bk454 (bys o) 28, .box bk1 (bys lk) 22, .box bk6 (bys ln) 24, .box bk11 (bys (List.replicate 64 0)) 28] ∧ (q ≤ 64) ∧ (List.length o = 64) ∧ (∀ j, j < 64 → List.getD o j 0 = if j < q then byteAt v (initW lk c ln) j else 0)) ⟨_, 0, List.replicate 64 0, rfl, En460.sub (by kernel_rfl), Hv458.pick [0, 1, 5, 2, 3, 4] (by kernel_rfl) (by decide), by omega, by simp, fun j hj => by rw [getD_replicate, if_neg (by omega)]⟩ ?_
    rintro mm467 ac463 wo464 ⟨q, o, rfl, En465, Hv466, hq, ho, hp⟩
    refine wp_seq ?_
    refine wp_seq ?_
    refine region_from ?_  -- region 25
    refine d_pures [(3, .pointer (some ⟨bk1, 0, none⟩)), (5, .pointer (some ⟨bk6, 0, none⟩)), (6, .pointer (some ⟨bk11, 0, none⟩)), (7, .pointer (some ⟨bk18, 0, none⟩)), (8, .int .i64 8), (9, .int .i64 3), (10, .pointer (some ⟨bk277, 0, none⟩)), (11, .int .i64 ((i : Nat) : Int)), (14, .pointer (some ⟨bk454, 0, none⟩)), (15, .int .i64 ((q : Nat) : Int)), (86, .bool (decide (((q : Nat) : Int) < (64 : Int))))] [.int .i64 ((q : Nat) : Int), .bool (decide (((q : Nat) : Int) < (64 : Int)))] 2 En465 (by kernel_rfl) (by kernel_rfl) rfl ?_
    intro ac468 En469
    refine from_end (by kernel_rfl) ?_
    refine then_normal ?_
    refine cond_at En469 (t := decide (((q : Nat) : Int) < (64 : Int))) (by kernel_rfl) (fun hc470 => ?_) (fun hc470 => ?_)
    ·
      replace hc470 : ((q : Nat) : Int) < (64 : Int) := of_decide_eq_true hc470
      refine wp_skip ?_
      refine then_normal ?_
      refine wp_seq ?_
      refine wp_block ?_
      refine wp_seq ?_
      refine region_cut (F := fun ac wo => Env ac 107 [(3, .pointer (some ⟨bk1, 0, none⟩)), (5, .pointer (some ⟨bk6, 0, none⟩)), (6, .pointer (some ⟨bk11, 0, none⟩)), (7, .pointer (some ⟨bk18, 0, none⟩)), (8, .int .i64 8), (9, .int .i64 3), (10, .pointer (some ⟨bk277, 0, none⟩)), (11, .int .i64 ((i : Nat) : Int)), (14, .pointer (some ⟨bk454, 0, none⟩)), (15, .int .i64 ((q : Nat) : Int)), (16, .int .u32 ((UInt32.toNat ((List.getD v (q / 4) 0) + (List.getD (initW lk c ln) (q / 4) 0)) : Nat) : Int))] ∧ Ev w [] wo [.box bk18 (u32s v) 42, .box bk277 (u32s (initW lk c ln)) 42, .box bk454 (bys o) 28, .box bk1 (bys lk) 22, .box bk6 (bys ln) 24, .box bk11 (bys (List.replicate 64 0)) 28]) ?_ ?_
      ·
        refine h_start (fun wv => Ev w [] wv [.box bk18 (u32s v) 42, .box bk277 (u32s (initW lk c ln)) 42]) [] (by kernel_rfl) 10 (by kernel_rfl) ?_  -- region 27
        have wo471 := Hv466.trans (Ev.drew Hv466.heap)
        refine h_pureR (d := some 89) En469 (v := .int .i64 ((q : Nat) : Int)) 0 (by kernel_rfl) (by kernel_rfl) rfl (fun _ => wo471.pick [0, 1] (by kernel_rfl) (by decide)) ?_
        intro ac526 En527
        refine h_pureR (d := some 90) En527 (v := .int .i64 (IntKind.wrap .i64 (Int.tdiv ((q : Nat) : Int) (4 : Int)))) 1 (by kernel_rfl) (by kernel_rfl) rfl (fun _ => wo471.pick [0, 1] (by kernel_rfl) (by decide)) ?_
        intro ac528 En529
        rw [show IntKind.wrap .i64 (Int.tdiv ((q : Nat) : Int) (4 : Int)) = ((q / 4 : Nat) : Int) from Go.Dbr.i64_quo_nat (a := ((q : Nat) : Int)) (n := q) (m := 4) rfl (by omega)] at En529
        refine h_free (d := some 91) (s := nv (Instr.indexAt 42 (.pointer (some ⟨bk18, 0, none⟩)) (.int .i64 ((q / 4 : Nat) : Int)))) En529 (v := .pointer (some ⟨bk18, q / 4, none⟩)) 2 (by kernel_rfl) (fun _ => run_nv (Go.Dbr.run_indexarr (e := 23) (sz := 1) (m := 16) (j := q / 4) (o := q / 4) (by kernel_rfl) (by kernel_rfl) (by omega) (by omega) (by omega) _)) (by kernel_rfl) rfl (fun _ => wo471.pick [0, 1] (by kernel_rfl) (by decide)) ?_
        intro ac530 En531
        have hb532 : q / 4 < List.length v := by rw [hl]; omega
        refine h_read (d := some 92) (s := nv (Instr.loadAt 23 (.pointer (some ⟨bk18, q / 4, none⟩)))) En531 (v := .int .u32 ((UInt32.toNat (List.getD v (q / 4) 0) : Nat) : Int)) 3 (by kernel_rfl) (fun w hS => run_nv (run_load1 (by kernel_rfl) (hS.heap.cell (k := 0) rfl (u32s_getD hb532)))) (by kernel_rfl) rfl (wo471.pick [0, 1] (by kernel_rfl) (by decide)) ?_
        intro ac533 En534
        refine h_pureR (d := some 93) En534 (v := .int .i64 ((q : Nat) : Int)) 4 (by kernel_rfl) (by kernel_rfl) rfl (fun _ => wo471.pick [0, 1] (by kernel_rfl) (by decide)) ?_
        intro ac535 En536
        refine h_pureR (d := some 94) En536 (v := .int .i64 (IntKind.wrap .i64 (Int.tdiv ((q : Nat) : Int) (4 : Int)))) 5 (by kernel_rfl) (by kernel_rfl) rfl (fun _ => wo471.pick [0, 1] (by kernel_rfl) (by decide)) ?_
        intro ac537 En538
        rw [show IntKind.wrap .i64 (Int.tdiv ((q : Nat) : Int) (4 : Int)) = ((q / 4 : Nat) : Int) from Go.Dbr.i64_quo_nat (a := ((q : Nat) : Int)) (n := q) (m := 4) rfl (by omega)] at En538
        refine h_free (d := some 95) (s := nv (Instr.indexAt 42 (.pointer (some ⟨bk277, 0, none⟩)) (.int .i64 ((q / 4 : Nat) : Int)))) En538 (v := .pointer (some ⟨bk277, q / 4, none⟩)) 6 (by kernel_rfl) (fun _ => run_nv (Go.Dbr.run_indexarr (e := 23) (sz := 1) (m := 16) (j := q / 4) (o := q / 4) (by kernel_rfl) (by kernel_rfl) (by omega) (by omega) (by omega) _)) (by kernel_rfl) rfl (fun _ => wo471.pick [0, 1] (by kernel_rfl) (by decide)) ?_
        intro ac539 En540
        have hb541 : q / 4 < List.length (initW lk c ln) := by rw [(initW_len lk c ln)]; omega
        refine h_read (d := some 96) (s := nv (Instr.loadAt 23 (.pointer (some ⟨bk277, q / 4, none⟩)))) En540 (v := .int .u32 ((UInt32.toNat (List.getD (initW lk c ln) (q / 4) 0) : Nat) : Int)) 7 (by kernel_rfl) (fun w hS => run_nv (run_load1 (by kernel_rfl) (hS.heap.cell (k := 1) rfl (u32s_getD hb541)))) (by kernel_rfl) rfl (wo471.pick [0, 1] (by kernel_rfl) (by decide)) ?_
        intro ac542 En543
        refine h_pureR (d := some 97) En543 (v := .int .u32 (IntKind.wrap .u32 (((UInt32.toNat (List.getD v (q / 4) 0) : Nat) : Int) + ((UInt32.toNat (List.getD (initW lk c ln) (q / 4) 0) : Nat) : Int)))) 8 (by kernel_rfl) (by kernel_rfl) rfl (fun _ => wo471.pick [0, 1] (by kernel_rfl) (by decide)) ?_
        intro ac544 En545
        rw [Go.Dbr.u32_add (a := ((UInt32.toNat (List.getD v (q / 4) 0) : Nat) : Int)) (b := ((UInt32.toNat (List.getD (initW lk c ln) (q / 4) 0) : Nat) : Int)) (x := List.getD v (q / 4) 0) (y := List.getD (initW lk c ln) (q / 4) 0) rfl rfl] at En545
        refine h_pureR (d := some 16) En545 (v := .int .u32 ((UInt32.toNat ((List.getD v (q / 4) 0) + (List.getD (initW lk c ln) (q / 4) 0)) : Nat) : Int)) 9 (by kernel_rfl) (by kernel_rfl) rfl (fun _ => wo471.pick [0, 1] (by kernel_rfl) (by decide)) ?_
        intro ac546 En547
        exact h_end (by kernel_rfl) ⟨En547.sub (by kernel_rfl), wo471.pick [0, 1, 2, 3, 4, 5] (by kernel_rfl) (by decide)⟩
      rintro ac548 wo549 ⟨En550, Hv551⟩
      refine then_normal ?_
      refine region_from ?_  -- region 28
      refine d_pures [(3, .pointer (some ⟨bk1, 0, none⟩)), (5, .pointer (some ⟨bk6, 0, none⟩)), (6, .pointer (some ⟨bk11, 0, none⟩)), (7, .pointer (some ⟨bk18, 0, none⟩)), (8, .int .i64 8), (9, .int .i64 3), (10, .pointer (some ⟨bk277, 0, none⟩)), (11, .int .i64 ((i : Nat) : Int)), (14, .pointer (some ⟨bk454, 0, none⟩)), (15, .int .i64 ((q : Nat) : Int)), (98, .int .i64 ((q : Nat) : Int)), (99, .int .u32 ((UInt32.toNat ((List.getD v (q / 4) 0) + (List.getD (initW lk c ln) (q / 4) 0)) : Nat) : Int)), (101, .int .i64 (Int.tmod ((q : Nat) : Int) (4 : Int)))] [.int .i64 ((q : Nat) : Int), .int .u32 ((UInt32.toNat ((List.getD v (q / 4) 0) + (List.getD (initW lk c ln) (q / 4) 0)) : Nat) : Int), .int .i64 ((q : Nat) : Int), .int .i64 (Int.tmod ((q : Nat) : Int) (4 : Int))] 4 En550 (by kernel_rfl) (by kernel_rfl) rfl ?_
      intro ac552 En553
      rw [show Int.tmod ((q : Nat) : Int) (4 : Int) = ((q % 4 : Nat) : Int) from Go.Dbr.i64_rem_nat (a := ((q : Nat) : Int)) (n := q) (m := 4) rfl (by omega)] at En553
      refine d_pures [(3, .pointer (some ⟨bk1, 0, none⟩)), (5, .pointer (some ⟨bk6, 0, none⟩)), (6, .pointer (some ⟨bk11, 0, none⟩)), (7, .pointer (some ⟨bk18, 0, none⟩)), (8, .int .i64 8), (9, .int .i64 3), (10, .pointer (some ⟨bk277, 0, none⟩)), (11, .int .i64 ((i : Nat) : Int)), (14, .pointer (some ⟨bk454, 0, none⟩)), (15, .int .i64 ((q : Nat) : Int)), (98, .int .i64 ((q : Nat) : Int)), (99, .int .u32 ((UInt32.toNat ((List.getD v (q / 4) 0) + (List.getD (initW lk c ln) (q / 4) 0)) : Nat) : Int)), (102, .int .i64 (IntKind.wrap .i64 ((8 : Int) * ((q % 4 : Nat) : Int))))] [.int .i64 (IntKind.wrap .i64 ((8 : Int) * ((q % 4 : Nat) : Int)))] 5 En553 (by kernel_rfl) (by kernel_rfl) rfl ?_
      intro ac554 En555
      rw [Go.Dbr.wr64 (e := (8 : Int) * ((q % 4 : Nat) : Int)) (x := ((8 * (q % 4) : Nat) : Int)) (by omega) (by omega) (by omega)] at En555
      refine from_op (by kernel_rfl) ?_
      refine op_val (d := some 103) (x := Op.shift .shr .u32 ((UInt32.toNat ((List.getD v (q / 4) 0) + (List.getD (initW lk c ln) (q / 4) 0)) : Nat) : Int) .i64 ((8 * (q % 4) : Nat) : Int)) (v := .int .u32 ((UInt32.toNat (((List.getD v (q / 4) 0) + (List.getD (initW lk c ln) (q / 4) 0)) >>> UInt32.ofNat (8 * (q % 4))) : Nat) : Int)) En555 (by kernel_rfl) (Go.Dbr.run_shr_u32 ((List.getD v (q / 4) 0) + (List.getD (initW lk c ln) (q / 4) 0)) .i64 (8 * (q % 4)) (by omega) _) ?_
      intro ac556 En557
      refine d_pures [(3, .pointer (some ⟨bk1, 0, none⟩)), (5, .pointer (some ⟨bk6, 0, none⟩)), (6, .pointer (some ⟨bk11, 0, none⟩)), (7, .pointer (some ⟨bk18, 0, none⟩)), (8, .int .i64 8), (9, .int .i64 3), (10, .pointer (some ⟨bk277, 0, none⟩)), (11, .int .i64 ((i : Nat) : Int)), (14, .pointer (some ⟨bk454, 0, none⟩)), (15, .int .i64 ((q : Nat) : Int)), (98, .int .i64 ((q : Nat) : Int)), (104, .int .u8 (IntKind.wrap .u8 ((UInt32.toNat (((List.getD v (q / 4) 0) + (List.getD (initW lk c ln) (q / 4) 0)) >>> UInt32.ofNat (8 * (q % 4))) : Nat) : Int)))] [.int .u8 (IntKind.wrap .u8 ((UInt32.toNat (((List.getD v (q / 4) 0) + (List.getD (initW lk c ln) (q / 4) 0)) >>> UInt32.ofNat (8 * (q % 4))) : Nat) : Int))] 7 En557 (by kernel_rfl) (by kernel_rfl) rfl ?_
      intro ac558 En559
      rw [Go.Dbr.u32_to_u8 (a := ((UInt32.toNat (((List.getD v (q / 4) 0) + (List.getD (initW lk c ln) (q / 4) 0)) >>> UInt32.ofNat (8 * (q % 4))) : Nat) : Int)) (x := ((List.getD v (q / 4) 0) + (List.getD (initW lk c ln) (q / 4) 0)) >>> UInt32.ofNat (8 * (q % 4))) rfl] at En559
      refine from_op (by kernel_rfl) ?_
      refine op_val (d := some 105) (x := Instr.indexAt 28 (.pointer (some ⟨bk454, 0, none⟩)) (.int .i64 ((q : Nat) : Int))) (v := .pointer (some ⟨bk454, q, none⟩)) En559 (by kernel_rfl) (Go.Dbr.run_indexarr (e := 5) (sz := 1) (m := 64) (j := q) (o := q) (by kernel_rfl) (by kernel_rfl) (by omega) (by omega) (by omega) _) ?_
      intro ac560 En561
      refine from_op (by kernel_rfl) ?_
      have hb562 : q < List.length o := by rw [ho]; omega
      refine op_storebox2 (d := none) (t := 5) (b := bk454) (off := q) (k := 2) (v := .int .u8 ((UInt8.toNat (UInt32.toUInt8 (((List.getD v (q / 4) 0) + (List.getD (initW lk c ln) (q / 4) 0)) >>> UInt32.ofNat (8 * (q % 4)))) : Nat) : Int)) En561 (by kernel_rfl) Hv551 rfl (bys_getD hb562) (by kernel_rfl) rfl (bys_set _ _ _) (L' := [.box bk18 (u32s v) 42, .box bk277 (u32s (initW lk c ln)) 42, .box bk454 (bys (List.set o q (UInt32.toUInt8 (((List.getD v (q / 4) 0) + (List.getD (initW lk c ln) (q / 4) 0)) >>> UInt32.ofNat (8 * (q % 4)))))) 28, .box bk1 (bys lk) 22, .box bk6 (bys ln) 24, .box bk11 (bys (List.replicate 64 0)) 28]) rfl ?_
      intro ac563 wo564  En565 Hv566
      refine from_end (by kernel_rfl) ?_
      refine block_normal ?_
      refine then_normal ?_
      refine region_from ?_  -- region 26
      refine d_pures [(3, .pointer (some ⟨bk1, 0, none⟩)), (5, .pointer (some ⟨bk6, 0, none⟩)), (6, .pointer (some ⟨bk11, 0, none⟩)), (7, .pointer (some ⟨bk18, 0, none⟩)), (8, .int .i64 8), (9, .int .i64 3), (10, .pointer (some ⟨bk277, 0, none⟩)), (11, .int .i64 ((i : Nat) : Int)), (14, .pointer (some ⟨bk454, 0, none⟩)), (15, .int .i64 ((q : Nat) : Int)), (88, .int .i64 (IntKind.wrap .i64 (((q : Nat) : Int) + (1 : Int))))] [.int .i64 ((q : Nat) : Int), .int .i64 (IntKind.wrap .i64 (((q : Nat) : Int) + (1 : Int)))] 2 En565 (by kernel_rfl) (by kernel_rfl) rfl ?_
      intro ac567 En568
      rw [Go.Dbr.wr64 (e := ((q : Nat) : Int) + (1 : Int)) (x := ((q + 1 : Nat) : Int)) (by omega) (by omega) (by omega)] at En568
      refine d_pures [(3, .pointer (some ⟨bk1, 0, none⟩)), (5, .pointer (some ⟨bk6, 0, none⟩)), (6, .pointer (some ⟨bk11, 0, none⟩)), (7, .pointer (some ⟨bk18, 0, none⟩)), (8, .int .i64 8), (9, .int .i64 3), (10, .pointer (some ⟨bk277, 0, none⟩)), (11, .int .i64 ((i : Nat) : Int)), (14, .pointer (some ⟨bk454, 0, none⟩)), (15, .int .i64 ((q + 1 : Nat) : Int))] [.int .i64 ((q + 1 : Nat) : Int)] 3 En568 (by kernel_rfl) (by kernel_rfl) rfl ?_
      intro ac569 En570
      refine from_end (by kernel_rfl) ?_
      refine then_normal ?_
      refine ⟨_, ⟨q + 1, List.set o q (UInt32.toUInt8 (((List.getD v (q / 4) 0) + (List.getD (initW lk c ln) (q / 4) 0)) >>> UInt32.ofNat (8 * (q % 4)))), rfl, En570.sub (by kernel_rfl), Hv566.pick [0, 1, 2, 3, 4, 5] (by kernel_rfl) (by decide), by omega, by simp [ho], upto_set (f := byteAt v (initW lk c ln)) (g := fun _ => 0) ho hp (by omega)⟩, ?_⟩
      omega
    ·
      replace hc470 : ¬ (((q : Nat) : Int) < (64 : Int)) := of_decide_eq_false hc470
      refine wp_exit ?_
      refine then_exit ?_
      refine then_exit ?_
      refine block_exit ?_
      refine then_normal ?_
      refine wp_seq ?_
      have hq64 : q = 64 := by omega
      have eo : o = blockF lk c ln := eq_range_map 0 ho (fun j hj => by rw [hp j hj, if_pos (by omega), hv, hi10])
      rw [eo] at Hv466
      replace Hv466 : Ev w [] wo464 [.box bk18 (u32s v) 42, .box bk277 (u32s (initW lk c ln)) 42, .box bk454 (bys (blockF lk c ln)) 28, .box bk1 (bys lk) 22, .box bk6 (bys ln) 24, .box bk11 (bys (List.replicate 64 0)) 28] := Hv466
      refine region_from ?_  -- region 29
      refine from_op (by kernel_rfl) ?_
      refine op_loadaggbox (d := some 106) (t := 28) (b := bk454) (off := 0) (k := 2) (m := 64) (xs := bys (blockF lk c ln)) En469 (by kernel_rfl) Hv466 rfl (load_whole (bys_lenh (blockF_len lk c ln))) (bys_lenh (blockF_len lk c ln)) (by kernel_rfl) (by kernel_rfl) ?_
      intro ac571 En572
      refine from_op (by kernel_rfl) ?_
      refine op_storeaggbox (d := none) (t := 28) (b := bk11) (off := 0) (k := 5) (m := 64) (xs := bys (blockF lk c ln)) (v := .agg (List.toArray (bys (blockF lk c ln)))) (cs' := bys (blockF lk c ln)) En572 (by kernel_rfl) Hv466 rfl rfl (bys_lenh (blockF_len lk c ln)) (by rw [(bys_lenh (List.length_replicate))]; decide) (by kernel_rfl) (bys_one _) (store_whole (bys_lenh (List.length_replicate))) (L' := [.box bk18 (u32s v) 42, .box bk277 (u32s (initW lk c ln)) 42, .box bk454 (bys (blockF lk c ln)) 28, .box bk1 (bys lk) 22, .box bk6 (bys ln) 24, .box bk11 (bys (blockF lk c ln)) 28]) rfl ?_
      intro ac573 wo574  En575 Hv576
      refine from_end (by kernel_rfl) ?_
      refine then_normal ?_
      refine wp_ret ?_
      refine d_cell1 (v := .agg (List.toArray (bys (blockF lk c ln)))) (t := 6) (T := 28) (ad := ⟨bk11, 0, none⟩) En575 (by kernel_rfl) (by kernel_rfl) (Ev.cellAgg (t := 28) (k := 5) (off := 0) (m := 64) (xs := bys (blockF lk c ln)) Hv576 rfl (load_whole (bys_lenh (blockF_len lk c ln))) (bys_lenh (blockF_len lk c ln)) (by kernel_rfl) (by kernel_rfl)) ?_
      exact ⟨rfl, Hv576.pick [] (by kernel_rfl) (by decide)⟩

theorem head_bytes : List.getD (blockF ([0, 0, 0, 0, 0, 0, 0, 0, 0, 0, 0, 0, 0, 0, 0, 0, 0, 0, 0, 0, 0, 0, 0, 0, 0, 0, 0, 0, 0, 0, 0, 0] : List UInt8) 0 ([0, 0, 0, 0, 0, 0, 0, 0, 0, 0, 0, 0] : List UInt8)) 0 0 = 118 ∧ List.getD (blockF ([0, 0, 0, 0, 0, 0, 0, 0, 0, 0, 0, 0, 0, 0, 0, 0, 0, 0, 0, 0, 0, 0, 0, 0, 0, 0, 0, 0, 0, 0, 0, 0] : List UInt8) 0 ([0, 0, 0, 0, 0, 0, 0, 0, 0, 0, 0, 0] : List UInt8)) 1 0 = 184 ∧ List.getD (blockF ([0, 0, 0, 0, 0, 0, 0, 0, 0, 0, 0, 0, 0, 0, 0, 0, 0, 0, 0, 0, 0, 0, 0, 0, 0, 0, 0, 0, 0, 0, 0, 0] : List UInt8) 0 ([0, 0, 0, 0, 0, 0, 0, 0, 0, 0, 0, 0] : List UInt8)) 2 0 = 224 ∧ List.getD (blockF ([0, 0, 0, 0, 0, 0, 0, 0, 0, 0, 0, 0, 0, 0, 0, 0, 0, 0, 0, 0, 0, 0, 0, 0, 0, 0, 0, 0, 0, 0, 0, 0] : List UInt8) 0 ([0, 0, 0, 0, 0, 0, 0, 0, 0, 0, 0, 0] : List UInt8)) 3 0 = 173 ∧ List.getD (blockF ([0, 0, 0, 0, 0, 0, 0, 0, 0, 0, 0, 0, 0, 0, 0, 0, 0, 0, 0, 0, 0, 0, 0, 0, 0, 0, 0, 0, 0, 0, 0, 0] : List UInt8) 0 ([0, 0, 0, 0, 0, 0, 0, 0, 0, 0, 0, 0] : List UInt8)) 63 0 = 134 := by
  decide +kernel

theorem head_ok (w : World) : Calls Try.prog 8 #[] w fun e w' => e = .returned (.bool true) ∧ Ev w [] w' [] := by
  refine d_start [] 28 Go.Proofs.Try.func8 Go.Proofs.Try.ntmps8 rfl (by kernel_rfl) (by kernel_rfl) ?_
  intro act0 En0
  have Hv0 : Ev w [] w [] := Ev.refl (Heap.nil _)
  refine wp_seq ?_
  refine region_from ?_  -- region 0
  refine d_pures [(0, .bool false)] [.bool false] 1 En0 (by kernel_rfl) (by kernel_rfl) rfl ?_
  intro ac1 En2
  refine from_end (by kernel_rfl) ?_
  refine then_normal ?_
  refine wp_seq ?_
  refine region_from ?_  -- region 1
  refine d_pures [(0, .bool false), (2, .agg (List.toArray (bys ([0, 0, 0, 0, 0, 0, 0, 0, 0, 0, 0, 0, 0, 0, 0, 0, 0, 0, 0, 0, 0, 0, 0, 0, 0, 0, 0, 0, 0, 0, 0, 0] : List UInt8)))), (3, .agg (List.toArray (bys ([0, 0, 0, 0, 0, 0, 0, 0, 0, 0, 0, 0] : List UInt8))))] [.agg (List.toArray (bys ([0, 0, 0, 0, 0, 0, 0, 0, 0, 0, 0, 0, 0, 0, 0, 0, 0, 0, 0, 0, 0, 0, 0, 0, 0, 0, 0, 0, 0, 0, 0, 0] : List UInt8))), .agg (List.toArray (bys ([0, 0, 0, 0, 0, 0, 0, 0, 0, 0, 0, 0] : List UInt8)))] 2 En2 (by kernel_rfl) (by kernel_rfl) rfl ?_
  intro ac3 En4
  refine from_op (by kernel_rfl) ?_
  have hM5 : Heap w [] := Hv0.heap.pick [] (by kernel_rfl) (by decide)
  refine op_call (d := some 4) (f := 11) (args := #[.agg (List.toArray (bys ([0, 0, 0, 0, 0, 0, 0, 0, 0, 0, 0, 0, 0, 0, 0, 0, 0, 0, 0, 0, 0, 0, 0, 0, 0, 0, 0, 0, 0, 0, 0, 0] : List UInt8))), .int .u32 0, .agg (List.toArray (bys ([0, 0, 0, 0, 0, 0, 0, 0, 0, 0, 0, 0] : List UInt8)))]) En4 (by kernel_rfl) ((block_go _ ([0, 0, 0, 0, 0, 0, 0, 0, 0, 0, 0, 0, 0, 0, 0, 0, 0, 0, 0, 0, 0, 0, 0, 0, 0, 0, 0, 0, 0, 0, 0, 0] : List UInt8) (show List.length ([0, 0, 0, 0, 0, 0, 0, 0, 0, 0, 0, 0, 0, 0, 0, 0, 0, 0, 0, 0, 0, 0, 0, 0, 0, 0, 0, 0, 0, 0, 0, 0] : List UInt8) = 32 from rfl) (0 : UInt32) ([0, 0, 0, 0, 0, 0, 0, 0, 0, 0, 0, 0] : List UInt8) (show List.length ([0, 0, 0, 0, 0, 0, 0, 0, 0, 0, 0, 0] : List UInt8) = 12 from rfl)).mono ?_)
  rintro _ wo7 ⟨rfl, he10⟩
  refine ⟨_, rfl, ?_⟩
  intro ac6 En8
  have Hv9 : Ev w [] wo7 [] := Hv0.trans (Ev.call (R := []) Hv0.heap [] (by kernel_rfl) (by decide) he10)
  clear hM5 he10
  refine from_op (by kernel_rfl) ?_
  refine op_alloc (d := some 1) (T := 28) (x := .tuple #[]) (z := .agg (List.toArray (bys (List.replicate 64 0)))) (cs := bys (List.replicate 64 0)) En8 (by kernel_rfl) (by kernel_rfl) (by kernel_rfl) Hv9 ?_
  intro ac12 wo13 bk11 En14 Hv15
  refine from_op (by kernel_rfl) ?_
  refine op_storeaggbox (d := none) (t := 28) (b := bk11) (off := 0) (k := 0) (m := 64) (xs := bys (blockF ([0, 0, 0, 0, 0, 0, 0, 0, 0, 0, 0, 0, 0, 0, 0, 0, 0, 0, 0, 0, 0, 0, 0, 0, 0, 0, 0, 0, 0, 0, 0, 0] : List UInt8) (0 : UInt32) ([0, 0, 0, 0, 0, 0, 0, 0, 0, 0, 0, 0] : List UInt8))) (v := .agg (List.toArray (bys (blockF ([0, 0, 0, 0, 0, 0, 0, 0, 0, 0, 0, 0, 0, 0, 0, 0, 0, 0, 0, 0, 0, 0, 0, 0, 0, 0, 0, 0, 0, 0, 0, 0] : List UInt8) (0 : UInt32) ([0, 0, 0, 0, 0, 0, 0, 0, 0, 0, 0, 0] : List UInt8))))) (cs' := bys (blockF ([0, 0, 0, 0, 0, 0, 0, 0, 0, 0, 0, 0, 0, 0, 0, 0, 0, 0, 0, 0, 0, 0, 0, 0, 0, 0, 0, 0, 0, 0, 0, 0] : List UInt8) (0 : UInt32) ([0, 0, 0, 0, 0, 0, 0, 0, 0, 0, 0, 0] : List UInt8))) En14 (by kernel_rfl) Hv15 rfl rfl (bys_lenh (blockF_len _ _ _)) (by rw [(bys_lenh (List.length_replicate))]; decide) (by kernel_rfl) (bys_one _) (store_whole (bys_lenh (List.length_replicate))) (L' := [.box bk11 (bys (blockF ([0, 0, 0, 0, 0, 0, 0, 0, 0, 0, 0, 0, 0, 0, 0, 0, 0, 0, 0, 0, 0, 0, 0, 0, 0, 0, 0, 0, 0, 0, 0, 0] : List UInt8) (0 : UInt32) ([0, 0, 0, 0, 0, 0, 0, 0, 0, 0, 0, 0] : List UInt8))) 28]) rfl ?_
  intro ac16 wo17  En18 Hv19
  refine from_end (by kernel_rfl) ?_
  refine then_normal ?_
  refine wp_seq ?_
  refine region_from ?_  -- region 2
  refine from_op (by kernel_rfl) ?_
  refine op_val (d := some 5) (x := Instr.indexAt 28 (.pointer (some ⟨bk11, 0, none⟩)) (.int .i64 0)) (v := .pointer (some ⟨bk11, 0, none⟩)) En18 (by kernel_rfl) (Go.Dbr.run_indexarr (e := 5) (sz := 1) (m := 64) (j := 0) (o := 0) (by kernel_rfl) (by kernel_rfl) (by omega) (by omega) (by omega) _) ?_
  intro ac20 En21
  refine from_op (by kernel_rfl) ?_
  have hb22 : 0 < List.length (blockF ([0, 0, 0, 0, 0, 0, 0, 0, 0, 0, 0, 0, 0, 0, 0, 0, 0, 0, 0, 0, 0, 0, 0, 0, 0, 0, 0, 0, 0, 0, 0, 0] : List UInt8) (0 : UInt32) ([0, 0, 0, 0, 0, 0, 0, 0, 0, 0, 0, 0] : List UInt8)) := by rw [(blockF_len _ _ _)]; omega
  refine op_loadbox (d := some 6) (t := 5) (b := bk11) (off := 0) (k := 0) (v := .int .u8 ((UInt8.toNat (List.getD (blockF ([0, 0, 0, 0, 0, 0, 0, 0, 0, 0, 0, 0, 0, 0, 0, 0, 0, 0, 0, 0, 0, 0, 0, 0, 0, 0, 0, 0, 0, 0, 0, 0] : List UInt8) (0 : UInt32) ([0, 0, 0, 0, 0, 0, 0, 0, 0, 0, 0, 0] : List UInt8)) 0 0) : Nat) : Int)) En21 (by kernel_rfl) Hv19 rfl (bys_getD hb22) (by kernel_rfl) ?_
  intro ac23 En24
  refine d_pures [(0, .bool false), (1, .pointer (some ⟨bk11, 0, none⟩)), (7, .bool (((UInt8.toNat (List.getD (blockF ([0, 0, 0, 0, 0, 0, 0, 0, 0, 0, 0, 0, 0, 0, 0, 0, 0, 0, 0, 0, 0, 0, 0, 0, 0, 0, 0, 0, 0, 0, 0, 0] : List UInt8) (0 : UInt32) ([0, 0, 0, 0, 0, 0, 0, 0, 0, 0, 0, 0] : List UInt8)) 0 0) : Nat) : Int) == (118 : Int)))] [.bool (((UInt8.toNat (List.getD (blockF ([0, 0, 0, 0, 0, 0, 0, 0, 0, 0, 0, 0, 0, 0, 0, 0, 0, 0, 0, 0, 0, 0, 0, 0, 0, 0, 0, 0, 0, 0, 0, 0] : List UInt8) (0 : UInt32) ([0, 0, 0, 0, 0, 0, 0, 0, 0, 0, 0, 0] : List UInt8)) 0 0) : Nat) : Int) == (118 : Int))] 3 En24 (by kernel_rfl) (by kernel_rfl) rfl ?_
  intro ac25 En26
  rw [show (((UInt8.toNat (List.getD (blockF ([0, 0, 0, 0, 0, 0, 0, 0, 0, 0, 0, 0, 0, 0, 0, 0, 0, 0, 0, 0, 0, 0, 0, 0, 0, 0, 0, 0, 0, 0, 0, 0] : List UInt8) (0 : UInt32) ([0, 0, 0, 0, 0, 0, 0, 0, 0, 0, 0, 0] : List UInt8)) 0 0) : Nat) : Int) == (118 : Int)) = true from (by rw [head_bytes.1]; rfl)] at En26
  refine d_pures [(0, .bool false), (1, .pointer (some ⟨bk11, 0, none⟩)), (8, .bool true)] [.bool true] 4 En26 (by kernel_rfl) (by kernel_rfl) rfl ?_
  intro ac27 En28
  refine from_op (by kernel_rfl) ?_
  refine op_val (d := some 9) (x := Instr.indexAt 28 (.pointer (some ⟨bk11, 0, none⟩)) (.int .i64 1)) (v := .pointer (some ⟨bk11, 1, none⟩)) En28 (by kernel_rfl) (Go.Dbr.run_indexarr (e := 5) (sz := 1) (m := 64) (j := 1) (o := 1) (by kernel_rfl) (by kernel_rfl) (by omega) (by omega) (by omega) _) ?_
  intro ac29 En30
  refine from_op (by kernel_rfl) ?_
  have hb31 : 1 < List.length (blockF ([0, 0, 0, 0, 0, 0, 0, 0, 0, 0, 0, 0, 0, 0, 0, 0, 0, 0, 0, 0, 0, 0, 0, 0, 0, 0, 0, 0, 0, 0, 0, 0] : List UInt8) (0 : UInt32) ([0, 0, 0, 0, 0, 0, 0, 0, 0, 0, 0, 0] : List UInt8)) := by rw [(blockF_len _ _ _)]; omega
  refine op_loadbox (d := some 10) (t := 5) (b := bk11) (off := 1) (k := 0) (v := .int .u8 ((UInt8.toNat (List.getD (blockF ([0, 0, 0, 0, 0, 0, 0, 0, 0, 0, 0, 0, 0, 0, 0, 0, 0, 0, 0, 0, 0, 0, 0, 0, 0, 0, 0, 0, 0, 0, 0, 0] : List UInt8) (0 : UInt32) ([0, 0, 0, 0, 0, 0, 0, 0, 0, 0, 0, 0] : List UInt8)) 1 0) : Nat) : Int)) En30 (by kernel_rfl) Hv19 rfl (bys_getD hb31) (by kernel_rfl) ?_
  intro ac32 En33
  refine d_pures [(0, .bool false), (1, .pointer (some ⟨bk11, 0, none⟩)), (8, .bool true), (11, .bool (((UInt8.toNat (List.getD (blockF ([0, 0, 0, 0, 0, 0, 0, 0, 0, 0, 0, 0, 0, 0, 0, 0, 0, 0, 0, 0, 0, 0, 0, 0, 0, 0, 0, 0, 0, 0, 0, 0] : List UInt8) (0 : UInt32) ([0, 0, 0, 0, 0, 0, 0, 0, 0, 0, 0, 0] : List UInt8)) 1 0) : Nat) : Int) == (184 : Int)))] [.bool (((UInt8.toNat (List.getD (blockF ([0, 0, 0, 0, 0, 0, 0, 0, 0, 0, 0, 0, 0, 0, 0, 0, 0, 0, 0, 0, 0, 0, 0, 0, 0, 0, 0, 0, 0, 0, 0, 0] : List UInt8) (0 : UInt32) ([0, 0, 0, 0, 0, 0, 0, 0, 0, 0, 0, 0] : List UInt8)) 1 0) : Nat) : Int) == (184 : Int))] 7 En33 (by kernel_rfl) (by kernel_rfl) rfl ?_
  intro ac34 En35
  rw [show (((UInt8.toNat (List.getD (blockF ([0, 0, 0, 0, 0, 0, 0, 0, 0, 0, 0, 0, 0, 0, 0, 0, 0, 0, 0, 0, 0, 0, 0, 0, 0, 0, 0, 0, 0, 0, 0, 0] : List UInt8) (0 : UInt32) ([0, 0, 0, 0, 0, 0, 0, 0, 0, 0, 0, 0] : List UInt8)) 1 0) : Nat) : Int) == (184 : Int)) = true from (by rw [head_bytes.2.1]; rfl)] at En35
  refine d_pures [(0, .bool false), (1, .pointer (some ⟨bk11, 0, none⟩)), (13, .bool true)] [.bool true, .bool true] 9 En35 (by kernel_rfl) (by kernel_rfl) rfl ?_
  intro ac36 En37
  refine from_op (by kernel_rfl) ?_
  refine op_val (d := some 14) (x := Instr.indexAt 28 (.pointer (some ⟨bk11, 0, none⟩)) (.int .i64 2)) (v := .pointer (some ⟨bk11, 2, none⟩)) En37 (by kernel_rfl) (Go.Dbr.run_indexarr (e := 5) (sz := 1) (m := 64) (j := 2) (o := 2) (by kernel_rfl) (by kernel_rfl) (by omega) (by omega) (by omega) _) ?_
  intro ac38 En39
  refine from_op (by kernel_rfl) ?_
  have hb40 : 2 < List.length (blockF ([0, 0, 0, 0, 0, 0, 0, 0, 0, 0, 0, 0, 0, 0, 0, 0, 0, 0, 0, 0, 0, 0, 0, 0, 0, 0, 0, 0, 0, 0, 0, 0] : List UInt8) (0 : UInt32) ([0, 0, 0, 0, 0, 0, 0, 0, 0, 0, 0, 0] : List UInt8)) := by rw [(blockF_len _ _ _)]; omega
  refine op_loadbox (d := some 15) (t := 5) (b := bk11) (off := 2) (k := 0) (v := .int .u8 ((UInt8.toNat (List.getD (blockF ([0, 0, 0, 0, 0, 0, 0, 0, 0, 0, 0, 0, 0, 0, 0, 0, 0, 0, 0, 0, 0, 0, 0, 0, 0, 0, 0, 0, 0, 0, 0, 0] : List UInt8) (0 : UInt32) ([0, 0, 0, 0, 0, 0, 0, 0, 0, 0, 0, 0] : List UInt8)) 2 0) : Nat) : Int)) En39 (by kernel_rfl) Hv19 rfl (bys_getD hb40) (by kernel_rfl) ?_
  intro ac41 En42
  refine d_pures [(0, .bool false), (1, .pointer (some ⟨bk11, 0, none⟩)), (13, .bool true), (16, .bool (((UInt8.toNat (List.getD (blockF ([0, 0, 0, 0, 0, 0, 0, 0, 0, 0, 0, 0, 0, 0, 0, 0, 0, 0, 0, 0, 0, 0, 0, 0, 0, 0, 0, 0, 0, 0, 0, 0] : List UInt8) (0 : UInt32) ([0, 0, 0, 0, 0, 0, 0, 0, 0, 0, 0, 0] : List UInt8)) 2 0) : Nat) : Int) == (224 : Int)))] [.bool (((UInt8.toNat (List.getD (blockF ([0, 0, 0, 0, 0, 0, 0, 0, 0, 0, 0, 0, 0, 0, 0, 0, 0, 0, 0, 0, 0, 0, 0, 0, 0, 0, 0, 0, 0, 0, 0, 0] : List UInt8) (0 : UInt32) ([0, 0, 0, 0, 0, 0, 0, 0, 0, 0, 0, 0] : List UInt8)) 2 0) : Nat) : Int) == (224 : Int))] 12 En42 (by kernel_rfl) (by kernel_rfl) rfl ?_
  intro ac43 En44
  rw [show (((UInt8.toNat (List.getD (blockF ([0, 0, 0, 0, 0, 0, 0, 0, 0, 0, 0, 0, 0, 0, 0, 0, 0, 0, 0, 0, 0, 0, 0, 0, 0, 0, 0, 0, 0, 0, 0, 0] : List UInt8) (0 : UInt32) ([0, 0, 0, 0, 0, 0, 0, 0, 0, 0, 0, 0] : List UInt8)) 2 0) : Nat) : Int) == (224 : Int)) = true from (by rw [head_bytes.2.2.1]; rfl)] at En44
  refine d_pures [(0, .bool false), (1, .pointer (some ⟨bk11, 0, none⟩)), (18, .bool true)] [.bool true, .bool true] 14 En44 (by kernel_rfl) (by kernel_rfl) rfl ?_
  intro ac45 En46
  refine from_op (by kernel_rfl) ?_
  refine op_val (d := some 19) (x := Instr.indexAt 28 (.pointer (some ⟨bk11, 0, none⟩)) (.int .i64 3)) (v := .pointer (some ⟨bk11, 3, none⟩)) En46 (by kernel_rfl) (Go.Dbr.run_indexarr (e := 5) (sz := 1) (m := 64) (j := 3) (o := 3) (by kernel_rfl) (by kernel_rfl) (by omega) (by omega) (by omega) _) ?_
  intro ac47 En48
  refine from_op (by kernel_rfl) ?_
  have hb49 : 3 < List.length (blockF ([0, 0, 0, 0, 0, 0, 0, 0, 0, 0, 0, 0, 0, 0, 0, 0, 0, 0, 0, 0, 0, 0, 0, 0, 0, 0, 0, 0, 0, 0, 0, 0] : List UInt8) (0 : UInt32) ([0, 0, 0, 0, 0, 0, 0, 0, 0, 0, 0, 0] : List UInt8)) := by rw [(blockF_len _ _ _)]; omega
  refine op_loadbox (d := some 20) (t := 5) (b := bk11) (off := 3) (k := 0) (v := .int .u8 ((UInt8.toNat (List.getD (blockF ([0, 0, 0, 0, 0, 0, 0, 0, 0, 0, 0, 0, 0, 0, 0, 0, 0, 0, 0, 0, 0, 0, 0, 0, 0, 0, 0, 0, 0, 0, 0, 0] : List UInt8) (0 : UInt32) ([0, 0, 0, 0, 0, 0, 0, 0, 0, 0, 0, 0] : List UInt8)) 3 0) : Nat) : Int)) En48 (by kernel_rfl) Hv19 rfl (bys_getD hb49) (by kernel_rfl) ?_
  intro ac50 En51
  refine d_pures [(0, .bool false), (1, .pointer (some ⟨bk11, 0, none⟩)), (18, .bool true), (21, .bool (((UInt8.toNat (List.getD (blockF ([0, 0, 0, 0, 0, 0, 0, 0, 0, 0, 0, 0, 0, 0, 0, 0, 0, 0, 0, 0, 0, 0, 0, 0, 0, 0, 0, 0, 0, 0, 0, 0] : List UInt8) (0 : UInt32) ([0, 0, 0, 0, 0, 0, 0, 0, 0, 0, 0, 0] : List UInt8)) 3 0) : Nat) : Int) == (173 : Int)))] [.bool (((UInt8.toNat (List.getD (blockF ([0, 0, 0, 0, 0, 0, 0, 0, 0, 0, 0, 0, 0, 0, 0, 0, 0, 0, 0, 0, 0, 0, 0, 0, 0, 0, 0, 0, 0, 0, 0, 0] : List UInt8) (0 : UInt32) ([0, 0, 0, 0, 0, 0, 0, 0, 0, 0, 0, 0] : List UInt8)) 3 0) : Nat) : Int) == (173 : Int))] 17 En51 (by kernel_rfl) (by kernel_rfl) rfl ?_
  intro ac52 En53
  rw [show (((UInt8.toNat (List.getD (blockF ([0, 0, 0, 0, 0, 0, 0, 0, 0, 0, 0, 0, 0, 0, 0, 0, 0, 0, 0, 0, 0, 0, 0, 0, 0, 0, 0, 0, 0, 0, 0, 0] : List UInt8) (0 : UInt32) ([0, 0, 0, 0, 0, 0, 0, 0, 0, 0, 0, 0] : List UInt8)) 3 0) : Nat) : Int) == (173 : Int)) = true from (by rw [head_bytes.2.2.2.1]; rfl)] at En53
  refine d_pures [(0, .bool false), (1, .pointer (some ⟨bk11, 0, none⟩)), (23, .bool true)] [.bool true, .bool true] 19 En53 (by kernel_rfl) (by kernel_rfl) rfl ?_
  intro ac54 En55
  refine from_op (by kernel_rfl) ?_
  refine op_val (d := some 24) (x := Instr.indexAt 28 (.pointer (some ⟨bk11, 0, none⟩)) (.int .i64 63)) (v := .pointer (some ⟨bk11, 63, none⟩)) En55 (by kernel_rfl) (Go.Dbr.run_indexarr (e := 5) (sz := 1) (m := 64) (j := 63) (o := 63) (by kernel_rfl) (by kernel_rfl) (by omega) (by omega) (by omega) _) ?_
  intro ac56 En57
  refine from_op (by kernel_rfl) ?_
  have hb58 : 63 < List.length (blockF ([0, 0, 0, 0, 0, 0, 0, 0, 0, 0, 0, 0, 0, 0, 0, 0, 0, 0, 0, 0, 0, 0, 0, 0, 0, 0, 0, 0, 0, 0, 0, 0] : List UInt8) (0 : UInt32) ([0, 0, 0, 0, 0, 0, 0, 0, 0, 0, 0, 0] : List UInt8)) := by rw [(blockF_len _ _ _)]; omega
  refine op_loadbox (d := some 25) (t := 5) (b := bk11) (off := 63) (k := 0) (v := .int .u8 ((UInt8.toNat (List.getD (blockF ([0, 0, 0, 0, 0, 0, 0, 0, 0, 0, 0, 0, 0, 0, 0, 0, 0, 0, 0, 0, 0, 0, 0, 0, 0, 0, 0, 0, 0, 0, 0, 0] : List UInt8) (0 : UInt32) ([0, 0, 0, 0, 0, 0, 0, 0, 0, 0, 0, 0] : List UInt8)) 63 0) : Nat) : Int)) En57 (by kernel_rfl) Hv19 rfl (bys_getD hb58) (by kernel_rfl) ?_
  intro ac59 En60
  refine d_pures [(0, .bool false), (1, .pointer (some ⟨bk11, 0, none⟩)), (23, .bool true), (26, .bool (((UInt8.toNat (List.getD (blockF ([0, 0, 0, 0, 0, 0, 0, 0, 0, 0, 0, 0, 0, 0, 0, 0, 0, 0, 0, 0, 0, 0, 0, 0, 0, 0, 0, 0, 0, 0, 0, 0] : List UInt8) (0 : UInt32) ([0, 0, 0, 0, 0, 0, 0, 0, 0, 0, 0, 0] : List UInt8)) 63 0) : Nat) : Int) == (134 : Int)))] [.bool (((UInt8.toNat (List.getD (blockF ([0, 0, 0, 0, 0, 0, 0, 0, 0, 0, 0, 0, 0, 0, 0, 0, 0, 0, 0, 0, 0, 0, 0, 0, 0, 0, 0, 0, 0, 0, 0, 0] : List UInt8) (0 : UInt32) ([0, 0, 0, 0, 0, 0, 0, 0, 0, 0, 0, 0] : List UInt8)) 63 0) : Nat) : Int) == (134 : Int))] 22 En60 (by kernel_rfl) (by kernel_rfl) rfl ?_
  intro ac61 En62
  rw [show (((UInt8.toNat (List.getD (blockF ([0, 0, 0, 0, 0, 0, 0, 0, 0, 0, 0, 0, 0, 0, 0, 0, 0, 0, 0, 0, 0, 0, 0, 0, 0, 0, 0, 0, 0, 0, 0, 0] : List UInt8) (0 : UInt32) ([0, 0, 0, 0, 0, 0, 0, 0, 0, 0, 0, 0] : List UInt8)) 63 0) : Nat) : Int) == (134 : Int)) = true from (by rw [head_bytes.2.2.2.2]; rfl)] at En62
  refine d_pures [(0, .bool true), (1, .pointer (some ⟨bk11, 0, none⟩))] [.bool true, .bool true] 24 En62 (by kernel_rfl) (by kernel_rfl) rfl ?_
  intro ac63 En64
  refine from_end (by kernel_rfl) ?_
  refine then_normal ?_
  refine wp_ret ?_
  refine d_ret1 (t := 0) (v := .bool true) En64 (by kernel_rfl) (by kernel_rfl) ?_
  exact ⟨rfl, Hv19.pick [] (by kernel_rfl) (by decide)⟩

end Go.Proofs.Ytnahplggflhdaaa
