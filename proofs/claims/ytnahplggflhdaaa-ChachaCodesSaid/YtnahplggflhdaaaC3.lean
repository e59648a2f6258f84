/- Layer 9: a block of the program. -/
import Derived.Test.YtnahplggflhdaaaC2
namespace Go.Proofs.Ytnahplggflhdaaa
open Go.Dbr
set_option maxRecDepth 100000
set_option maxHeartbeats 2000000
set_option linter.unusedVariables false
set_option linter.unusedSimpArgs false

theorem init_go {lk ln : List UInt8} (hk : lk.length = 32) (hn : ln.length = 12) (c : UInt32) : List.take 13 (List.set (List.take 4 ([1634760805, 857760878, 2036477234, 1797285236, 0, 0, 0, 0, 0, 0, 0, 0, 0, 0, 0, 0] : List UInt32) ++ wordsF lk ++ List.drop (4 + (List.length (wordsF lk))) ([1634760805, 857760878, 2036477234, 1797285236, 0, 0, 0, 0, 0, 0, 0, 0, 0, 0, 0, 0] : List UInt32)) 12 c) ++ wordsF ln ++ List.drop (13 + (List.length (wordsF ln))) (List.set (List.take 4 ([1634760805, 857760878, 2036477234, 1797285236, 0, 0, 0, 0, 0, 0, 0, 0, 0, 0, 0, 0] : List UInt32) ++ wordsF lk ++ List.drop (4 + (List.length (wordsF lk))) ([1634760805, 857760878, 2036477234, 1797285236, 0, 0, 0, 0, 0, 0, 0, 0, 0, 0, 0, 0] : List UInt32)) 12 c) = initW lk c ln := by
  rw [wordsF8 hk, wordsF3 hn]
  rfl

theorem block_go (w : World) (lk : List UInt8) (hk : List.length lk = 32) (c : UInt32) (ln : List UInt8) (hn : List.length ln = 12) : Calls Try.prog 11 #[.agg (List.toArray (bys lk)), .int .u32 ((UInt32.toNat c : Nat) : Int), .agg (List.toArray (bys ln))] w fun e w' => e = .returned (.agg (List.toArray (bys (blockF lk c ln)))) ∧ Ev w [] w' [] := by
  have hwk := wordsF_len (l := lk) (m := 8) (by omega)
  have hwn := wordsF_len (l := ln) (m := 3) (by omega)
  refine d_start [(0, .agg (List.toArray (bys lk))), (1, .int .u32 ((UInt32.toNat c : Nat) : Int)), (2, .agg (List.toArray (bys ln)))] 85 Go.Proofs.Try.func11 Go.Proofs.Try.ntmps11 rfl (by kernel_rfl) (by kernel_rfl) ?_
  intro act0 En0
  have Hv0 : Ev w [] w [] := Ev.refl (Heap.nil _)
  refine wp_seq ?_
  refine region_from ?_  -- region 0
  refine from_op (by kernel_rfl) ?_
  refine op_newbox (d := some 3) (T := 22) (v := .agg (List.toArray (bys lk))) (cs := bys lk) En0 (by kernel_rfl) rfl Hv0 ?_
  intro ac2 wo3 bk1 En4 Hv5
  refine from_op (by kernel_rfl) ?_
  refine op_newbox (d := some 5) (T := 24) (v := .agg (List.toArray (bys ln))) (cs := bys ln) En4 (by kernel_rfl) rfl Hv5 ?_
  intro ac7 wo8 bk6 En9 Hv10
  refine from_op (by kernel_rfl) ?_
  refine op_alloc (d := some 6) (T := 28) (x := .tuple #[]) (z := .agg (List.toArray (bys (List.replicate 64 0)))) (cs := bys (List.replicate 64 0)) En9 (by kernel_rfl) (by kernel_rfl) (by kernel_rfl) Hv10 ?_
  intro ac12 wo13 bk11 En14 Hv15
  refine from_end (by kernel_rfl) ?_
  refine then_normal ?_
  refine wp_seq ?_
  refine region_from ?_  -- region 1
  refine d_pures [(1, .int .u32 ((UInt32.toNat c : Nat) : Int)), (3, .pointer (some ⟨bk1, 0, none⟩)), (5, .pointer (some ⟨bk6, 0, none⟩)), (6, .pointer (some ⟨bk11, 0, none⟩)), (15, .agg (List.toArray (u32s ([1634760805, 857760878, 2036477234, 1797285236, 0, 0, 0, 0, 0, 0, 0, 0, 0, 0, 0, 0] : List UInt32))))] [.agg (List.toArray (u32s ([1634760805, 857760878, 2036477234, 1797285236, 0, 0, 0, 0, 0, 0, 0, 0, 0, 0, 0, 0] : List UInt32)))] 1 En14 (by kernel_rfl) (by kernel_rfl) rfl ?_
  intro ac16 En17
  refine from_op (by kernel_rfl) ?_
  refine op_alloc (d := some 7) (T := 42) (x := .tuple #[]) (z := .agg (List.toArray (u32s (List.replicate 16 0)))) (cs := u32s (List.replicate 16 0)) En17 (by kernel_rfl) (by kernel_rfl) (by kernel_rfl) Hv15 ?_
  intro ac19 wo20 bk18 En21 Hv22
  refine from_op (by kernel_rfl) ?_
  refine op_storeaggbox (d := none) (t := 42) (b := bk18) (off := 0) (k := 3) (m := 16) (xs := u32s ([1634760805, 857760878, 2036477234, 1797285236, 0, 0, 0, 0, 0, 0, 0, 0, 0, 0, 0, 0] : List UInt32)) (v := .agg (List.toArray (u32s ([1634760805, 857760878, 2036477234, 1797285236, 0, 0, 0, 0, 0, 0, 0, 0, 0, 0, 0, 0] : List UInt32)))) (cs' := u32s ([1634760805, 857760878, 2036477234, 1797285236, 0, 0, 0, 0, 0, 0, 0, 0, 0, 0, 0, 0] : List UInt32)) En21 (by kernel_rfl) Hv22 rfl rfl (u32s_lenh (show List.length ([1634760805, 857760878, 2036477234, 1797285236, 0, 0, 0, 0, 0, 0, 0, 0, 0, 0, 0, 0] : List UInt32) = 16 from rfl)) (by rw [(u32s_lenh (List.length_replicate))]; decide) (by kernel_rfl) (u32s_one _) (store_whole (u32s_lenh (List.length_replicate))) (L' := [.box bk1 (bys lk) 22, .box bk6 (bys ln) 24, .box bk11 (bys (List.replicate 64 0)) 28, .box bk18 (u32s ([1634760805, 857760878, 2036477234, 1797285236, 0, 0, 0, 0, 0, 0, 0, 0, 0, 0, 0, 0] : List UInt32)) 42]) rfl ?_
  intro ac23 wo24  En25 Hv26
  refine from_end (by kernel_rfl) ?_
  refine then_normal ?_
  refine wp_seq ?_
  refine region_cut (F := fun ac wo => Env ac 85 [(1, .int .u32 ((UInt32.toNat c : Nat) : Int)), (5, .pointer (some ⟨bk6, 0, none⟩)), (6, .pointer (some ⟨bk11, 0, none⟩)), (7, .pointer (some ⟨bk18, 0, none⟩))] ∧ Ev w [] wo [.box bk6 (bys ln) 24, .box bk11 (bys (List.replicate 64 0)) 28, .box bk18 (u32s (List.take 4 ([1634760805, 857760878, 2036477234, 1797285236, 0, 0, 0, 0, 0, 0, 0, 0, 0, 0, 0, 0] : List UInt32) ++ (wordsF lk) ++ List.drop (4 + (List.length (wordsF lk))) ([1634760805, 857760878, 2036477234, 1797285236, 0, 0, 0, 0, 0, 0, 0, 0, 0, 0, 0, 0] : List UInt32))) 42]) ?_ ?_
  ·
    refine draw_any (by kernel_rfl) 4 (by kernel_rfl) ?_  -- region 2
    have wo27 := Hv26.trans (Ev.drew Hv26.heap)
    refine any_name fun G hG => ?_
    have nd74 : ∀ (ac : Act) (wo : World), Env ac 85 [(1, .int .u32 ((UInt32.toNat c : Nat) : Int)), (5, .pointer (some ⟨bk6, 0, none⟩)), (6, .pointer (some ⟨bk11, 0, none⟩)), (7, .pointer (some ⟨bk18, 0, none⟩)), (16, .slice (some ⟨bk18, 4, none⟩) 12 12), (17, .slice (some ⟨bk1, 0, none⟩) 32 32)] → Ev w [] wo [.box bk1 (bys lk) 22, .box bk6 (bys ln) 24, .box bk11 (bys (List.replicate 64 0)) 28, .box bk18 (u32s ([1634760805, 857760878, 2036477234, 1797285236, 0, 0, 0, 0, 0, 0, 0, 0, 0, 0, 0, 0] : List UInt32)) 42] → G 2 #[true, true, false, false] ac wo := by
      intro ac75 wo76 En77 Hv78
      refine any_from hG ?_
      refine any_at 2 (by kernel_rfl) rfl ?_
      have hM80 : Heap wo76 [] := Hv78.heap.pick [] (by kernel_rfl) (by decide)
      refine op_call (d := some 18) (f := 19) (args := #[.slice (some ⟨bk1, 0, none⟩) 32 32]) En77 (by kernel_rfl) ((words_go _ (some ⟨bk1, 0, none⟩) 32 32 lk (by first | rfl | (simp; done) | (simp; omega) | omega) (bys_inbox (Hv78.heap.roBox (k := 0) (m := 32) rfl (load_whole (bys_lenh hk)) [] (by kernel_rfl) rfl) hk (by decide))).mono ?_)
      rintro _ wo82 ⟨aoq79, coq79, rfl, he85⟩
      refine ⟨_, rfl, ?_⟩
      intro ac81 En83
      have Hv84 : Ev w [] wo82 [.vec aoq79 coq79 1 (u32s (wordsF lk)) 23, .box bk1 (bys lk) 22, .box bk6 (bys ln) 24, .box bk11 (bys (List.replicate 64 0)) 28, .box bk18 (u32s ([1634760805, 857760878, 2036477234, 1797285236, 0, 0, 0, 0, 0, 0, 0, 0, 0, 0, 0, 0] : List UInt32)) 42] := Hv78.trans (Ev.call (R := [.box bk1 (bys lk) 22, .box bk6 (bys ln) 24, .box bk11 (bys (List.replicate 64 0)) 28, .box bk18 (u32s ([1634760805, 857760878, 2036477234, 1797285236, 0, 0, 0, 0, 0, 0, 0, 0, 0, 0, 0, 0] : List UInt32)) 42]) Hv78.heap [0, 1, 2, 3] (by kernel_rfl) (by decide) he85)
      clear hM80 he85
      refine any_at 3 (by kernel_rfl) rfl ?_
      have hcy86 : Nat.min (List.length (wordsF lk)) 12 = List.length (wordsF lk) := by show min _ _ = _; omega
      refine op_copybox (d := some 19) (dT := 43) (sT := 43) (ty := 3) (elem := 23) (b := bk18) (off := 4) (k := 4) (m := List.length (wordsF lk)) (xs := u32s (wordsF lk)) (ys := u32s (wordsF lk)) (dLen := 12) (dCap := 12) (so := aoq79) (sLen := List.length (wordsF lk)) (sCap := coq79) En83 (by kernel_rfl) Hv84 rfl (by kernel_rfl) (by kernel_rfl) (Hv84.heap.reads (k := 0) rfl) (u32s_vnz Hv84.heap (k := 0) rfl) hcy86 (List.take_of_length_le (by simp [u32s])) (u32s_lenh (rfl : List.length (wordsF lk) = List.length (wordsF lk))) (by rw [u32s_lenh (show List.length ([1634760805, 857760878, 2036477234, 1797285236, 0, 0, 0, 0, 0, 0, 0, 0, 0, 0, 0, 0] : List UInt32) = 16 from rfl)]; omega) (u32s_one _) (cs' := u32s (List.take 4 ([1634760805, 857760878, 2036477234, 1797285236, 0, 0, 0, 0, 0, 0, 0, 0, 0, 0, 0, 0] : List UInt32) ++ (wordsF lk) ++ List.drop (4 + (List.length (wordsF lk))) ([1634760805, 857760878, 2036477234, 1797285236, 0, 0, 0, 0, 0, 0, 0, 0, 0, 0, 0, 0] : List UInt32))) (by simp [u32s, List.map_append, List.map_take, List.map_drop]) (L' := [.vec aoq79 coq79 1 (u32s (wordsF lk)) 23, .box bk1 (bys lk) 22, .box bk6 (bys ln) 24, .box bk11 (bys (List.replicate 64 0)) 28, .box bk18 (u32s (List.take 4 ([1634760805, 857760878, 2036477234, 1797285236, 0, 0, 0, 0, 0, 0, 0, 0, 0, 0, 0, 0] : List UInt32) ++ (wordsF lk) ++ List.drop (4 + (List.length (wordsF lk))) ([1634760805, 857760878, 2036477234, 1797285236, 0, 0, 0, 0, 0, 0, 0, 0, 0, 0, 0, 0] : List UInt32))) 42]) rfl ?_
      intro ac87 wo88  En89 Hv90
      exact any_end (by kernel_rfl) ⟨En89.sub (by kernel_rfl), Hv90.pick [2, 3, 4] (by kernel_rfl) (by decide)⟩
    have nd91 : ∀ (ac : Act) (wo : World) (aoq60 : _) (coq60 : _), Env ac 85 [(1, .int .u32 ((UInt32.toNat c : Nat) : Int)), (5, .pointer (some ⟨bk6, 0, none⟩)), (6, .pointer (some ⟨bk11, 0, none⟩)), (7, .pointer (some ⟨bk18, 0, none⟩)), (18, .slice aoq60 (List.length (wordsF lk)) coq60)] → Ev w [] wo [.vec aoq60 coq60 1 (u32s (wordsF lk)) 23, .box bk6 (bys ln) 24, .box bk11 (bys (List.replicate 64 0)) 28, .box bk18 (u32s ([1634760805, 857760878, 2036477234, 1797285236, 0, 0, 0, 0, 0, 0, 0, 0, 0, 0, 0, 0] : List UInt32)) 42] → G 2 #[false, true, true, false] ac wo := by
      intro ac92 wo93 aoq60 coq60 En94 Hv95
      refine any_from hG ?_
      refine any_at 0 (by kernel_rfl) rfl ?_
      refine op_slicearr (d := some 16) (t := 42) (e := 23) (sz := 1) (m := 16) (lo := 4) (hi := 16) (b := bk18) (off := 0) (lov := (some (.int .i64 4))) (hiv := none) (o := 4) En94 (by kernel_rfl) (by kernel_rfl) (by kernel_rfl) (by omega) (by omega) (by omega) (.inr ⟨.i64, rfl⟩) (.inl ⟨rfl, rfl⟩) (by omega) ?_
      intro ac96 En97
      refine any_at 3 (by kernel_rfl) rfl ?_
      have hcy98 : Nat.min (List.length (wordsF lk)) 12 = List.length (wordsF lk) := by show min _ _ = _; omega
      refine op_copybox (d := some 19) (dT := 43) (sT := 43) (ty := 3) (elem := 23) (b := bk18) (off := 4) (k := 3) (m := List.length (wordsF lk)) (xs := u32s (wordsF lk)) (ys := u32s (wordsF lk)) (dLen := 12) (dCap := 12) (so := aoq60) (sLen := List.length (wordsF lk)) (sCap := coq60) En97 (by kernel_rfl) Hv95 rfl (by kernel_rfl) (by kernel_rfl) (Hv95.heap.reads (k := 0) rfl) (u32s_vnz Hv95.heap (k := 0) rfl) hcy98 (List.take_of_length_le (by simp [u32s])) (u32s_lenh (rfl : List.length (wordsF lk) = List.length (wordsF lk))) (by rw [u32s_lenh (show List.length ([1634760805, 857760878, 2036477234, 1797285236, 0, 0, 0, 0, 0, 0, 0, 0, 0, 0, 0, 0] : List UInt32) = 16 from rfl)]; omega) (u32s_one _) (cs' := u32s (List.take 4 ([1634760805, 857760878, 2036477234, 1797285236, 0, 0, 0, 0, 0, 0, 0, 0, 0, 0, 0, 0] : List UInt32) ++ (wordsF lk) ++ List.drop (4 + (List.length (wordsF lk))) ([1634760805, 857760878, 2036477234, 1797285236, 0, 0, 0, 0, 0, 0, 0, 0, 0, 0, 0, 0] : List UInt32))) (by simp [u32s, List.map_append, List.map_take, List.map_drop]) (L' := [.vec aoq60 coq60 1 (u32s (wordsF lk)) 23, .box bk6 (bys ln) 24, .box bk11 (bys (List.replicate 64 0)) 28, .box bk18 (u32s (List.take 4 ([1634760805, 857760878, 2036477234, 1797285236, 0, 0, 0, 0, 0, 0, 0, 0, 0, 0, 0, 0] : List UInt32) ++ (wordsF lk) ++ List.drop (4 + (List.length (wordsF lk))) ([1634760805, 857760878, 2036477234, 1797285236, 0, 0, 0, 0, 0, 0, 0, 0, 0, 0, 0, 0] : List UInt32))) 42]) rfl ?_
      intro ac99 wo100  En101 Hv102
      exact any_end (by kernel_rfl) ⟨En101.sub (by kernel_rfl), Hv102.pick [1, 2, 3] (by kernel_rfl) (by decide)⟩
    have nd103 : ∀ (ac : Act) (wo : World), Env ac 85 [(1, .int .u32 ((UInt32.toNat c : Nat) : Int)), (3, .pointer (some ⟨bk1, 0, none⟩)), (5, .pointer (some ⟨bk6, 0, none⟩)), (6, .pointer (some ⟨bk11, 0, none⟩)), (7, .pointer (some ⟨bk18, 0, none⟩)), (16, .slice (some ⟨bk18, 4, none⟩) 12 12)] → Ev w [] wo [.box bk1 (bys lk) 22, .box bk6 (bys ln) 24, .box bk11 (bys (List.replicate 64 0)) 28, .box bk18 (u32s ([1634760805, 857760878, 2036477234, 1797285236, 0, 0, 0, 0, 0, 0, 0, 0, 0, 0, 0, 0] : List UInt32)) 42] → G 3 #[true, false, false, false] ac wo := by
      intro ac104 wo105 En106 Hv107
      refine any_from hG ?_
      refine any_at 1 (by kernel_rfl) rfl ?_
      refine op_slicearr (d := some 17) (t := 22) (e := 5) (sz := 1) (m := 32) (lo := 0) (hi := 32) (b := bk1) (off := 0) (lov := none) (hiv := none) (o := 0) En106 (by kernel_rfl) (by kernel_rfl) (by kernel_rfl) (by omega) (by omega) (by omega) (.inl ⟨rfl, rfl⟩) (.inl ⟨rfl, rfl⟩) (by omega) ?_
      intro ac108 En109
      refine any_at 2 (by kernel_rfl) rfl ?_
      have hM111 : Heap wo105 [] := Hv107.heap.pick [] (by kernel_rfl) (by decide)
      refine op_call (d := some 18) (f := 19) (args := #[.slice (some ⟨bk1, 0, none⟩) 32 32]) En109 (by kernel_rfl) ((words_go _ (some ⟨bk1, 0, none⟩) 32 32 lk (by first | rfl | (simp; done) | (simp; omega) | omega) (bys_inbox (Hv107.heap.roBox (k := 0) (m := 32) rfl (load_whole (bys_lenh hk)) [] (by kernel_rfl) rfl) hk (by decide))).mono ?_)
      rintro _ wo113 ⟨aoq110, coq110, rfl, he116⟩
      refine ⟨_, rfl, ?_⟩
      intro ac112 En114
      have Hv115 : Ev w [] wo113 [.vec aoq110 coq110 1 (u32s (wordsF lk)) 23, .box bk1 (bys lk) 22, .box bk6 (bys ln) 24, .box bk11 (bys (List.replicate 64 0)) 28, .box bk18 (u32s ([1634760805, 857760878, 2036477234, 1797285236, 0, 0, 0, 0, 0, 0, 0, 0, 0, 0, 0, 0] : List UInt32)) 42] := Hv107.trans (Ev.call (R := [.box bk1 (bys lk) 22, .box bk6 (bys ln) 24, .box bk11 (bys (List.replicate 64 0)) 28, .box bk18 (u32s ([1634760805, 857760878, 2036477234, 1797285236, 0, 0, 0, 0, 0, 0, 0, 0, 0, 0, 0, 0] : List UInt32)) 42]) Hv107.heap [0, 1, 2, 3] (by kernel_rfl) (by decide) he116)
      clear hM111 he116
      refine any_at 3 (by kernel_rfl) rfl ?_
      have hcy117 : Nat.min (List.length (wordsF lk)) 12 = List.length (wordsF lk) := by show min _ _ = _; omega
      refine op_copybox (d := some 19) (dT := 43) (sT := 43) (ty := 3) (elem := 23) (b := bk18) (off := 4) (k := 4) (m := List.length (wordsF lk)) (xs := u32s (wordsF lk)) (ys := u32s (wordsF lk)) (dLen := 12) (dCap := 12) (so := aoq110) (sLen := List.length (wordsF lk)) (sCap := coq110) En114 (by kernel_rfl) Hv115 rfl (by kernel_rfl) (by kernel_rfl) (Hv115.heap.reads (k := 0) rfl) (u32s_vnz Hv115.heap (k := 0) rfl) hcy117 (List.take_of_length_le (by simp [u32s])) (u32s_lenh (rfl : List.length (wordsF lk) = List.length (wordsF lk))) (by rw [u32s_lenh (show List.length ([1634760805, 857760878, 2036477234, 1797285236, 0, 0, 0, 0, 0, 0, 0, 0, 0, 0, 0, 0] : List UInt32) = 16 from rfl)]; omega) (u32s_one _) (cs' := u32s (List.take 4 ([1634760805, 857760878, 2036477234, 1797285236, 0, 0, 0, 0, 0, 0, 0, 0, 0, 0, 0, 0] : List UInt32) ++ (wordsF lk) ++ List.drop (4 + (List.length (wordsF lk))) ([1634760805, 857760878, 2036477234, 1797285236, 0, 0, 0, 0, 0, 0, 0, 0, 0, 0, 0, 0] : List UInt32))) (by simp [u32s, List.map_append, List.map_take, List.map_drop]) (L' := [.vec aoq110 coq110 1 (u32s (wordsF lk)) 23, .box bk1 (bys lk) 22, .box bk6 (bys ln) 24, .box bk11 (bys (List.replicate 64 0)) 28, .box bk18 (u32s (List.take 4 ([1634760805, 857760878, 2036477234, 1797285236, 0, 0, 0, 0, 0, 0, 0, 0, 0, 0, 0, 0] : List UInt32) ++ (wordsF lk) ++ List.drop (4 + (List.length (wordsF lk))) ([1634760805, 857760878, 2036477234, 1797285236, 0, 0, 0, 0, 0, 0, 0, 0, 0, 0, 0, 0] : List UInt32))) 42]) rfl ?_
      intro ac118 wo119  En120 Hv121
      exact any_end (by kernel_rfl) ⟨En120.sub (by kernel_rfl), Hv121.pick [2, 3, 4] (by kernel_rfl) (by decide)⟩
    have nd122 : ∀ (ac : Act) (wo : World), Env ac 85 [(1, .int .u32 ((UInt32.toNat c : Nat) : Int)), (5, .pointer (some ⟨bk6, 0, none⟩)), (6, .pointer (some ⟨bk11, 0, none⟩)), (7, .pointer (some ⟨bk18, 0, none⟩)), (17, .slice (some ⟨bk1, 0, none⟩) 32 32)] → Ev w [] wo [.box bk1 (bys lk) 22, .box bk6 (bys ln) 24, .box bk11 (bys (List.replicate 64 0)) 28, .box bk18 (u32s ([1634760805, 857760878, 2036477234, 1797285236, 0, 0, 0, 0, 0, 0, 0, 0, 0, 0, 0, 0] : List UInt32)) 42] → G 3 #[false, true, false, false] ac wo := by
      intro ac123 wo124 En125 Hv126
      refine any_from hG ?_
      refine any_two 0 2 (by kernel_rfl) ?_ ?_
      · rintro _ rfl
        refine op_slicearr (d := some 16) (t := 42) (e := 23) (sz := 1) (m := 16) (lo := 4) (hi := 16) (b := bk18) (off := 0) (lov := (some (.int .i64 4))) (hiv := none) (o := 4) En125 (by kernel_rfl) (by kernel_rfl) (by kernel_rfl) (by omega) (by omega) (by omega) (.inr ⟨.i64, rfl⟩) (.inl ⟨rfl, rfl⟩) (by omega) ?_
        intro ac127 En128
        exact any_to hG (by kernel_rfl) (nd74 _ _ (En128.sub (by kernel_rfl)) (Hv126.pick [0, 1, 2, 3] (by kernel_rfl) (by decide)))
      · rintro _ rfl
        have hM130 : Heap wo124 [] := Hv126.heap.pick [] (by kernel_rfl) (by decide)
        refine op_call (d := some 18) (f := 19) (args := #[.slice (some ⟨bk1, 0, none⟩) 32 32]) En125 (by kernel_rfl) ((words_go _ (some ⟨bk1, 0, none⟩) 32 32 lk (by first | rfl | (simp; done) | (simp; omega) | omega) (bys_inbox (Hv126.heap.roBox (k := 0) (m := 32) rfl (load_whole (bys_lenh hk)) [] (by kernel_rfl) rfl) hk (by decide))).mono ?_)
        rintro _ wo132 ⟨aoq129, coq129, rfl, he135⟩
        refine ⟨_, rfl, ?_⟩
        intro ac131 En133
        have Hv134 : Ev w [] wo132 [.vec aoq129 coq129 1 (u32s (wordsF lk)) 23, .box bk1 (bys lk) 22, .box bk6 (bys ln) 24, .box bk11 (bys (List.replicate 64 0)) 28, .box bk18 (u32s ([1634760805, 857760878, 2036477234, 1797285236, 0, 0, 0, 0, 0, 0, 0, 0, 0, 0, 0, 0] : List UInt32)) 42] := Hv126.trans (Ev.call (R := [.box bk1 (bys lk) 22, .box bk6 (bys ln) 24, .box bk11 (bys (List.replicate 64 0)) 28, .box bk18 (u32s ([1634760805, 857760878, 2036477234, 1797285236, 0, 0, 0, 0, 0, 0, 0, 0, 0, 0, 0, 0] : List UInt32)) 42]) Hv126.heap [0, 1, 2, 3] (by kernel_rfl) (by decide) he135)
        clear hM130 he135
        exact any_to hG (by kernel_rfl) (nd91 _ _ aoq129 coq129 (En133.sub (by kernel_rfl)) (Hv134.pick [0, 2, 3, 4] (by kernel_rfl) (by decide)))
    refine any_from hG ?_
    refine any_two 0 1 (by kernel_rfl) ?_ ?_
    · rintro _ rfl
      refine op_slicearr (d := some 16) (t := 42) (e := 23) (sz := 1) (m := 16) (lo := 4) (hi := 16) (b := bk18) (off := 0) (lov := (some (.int .i64 4))) (hiv := none) (o := 4) En25 (by kernel_rfl) (by kernel_rfl) (by kernel_rfl) (by omega) (by omega) (by omega) (.inr ⟨.i64, rfl⟩) (.inl ⟨rfl, rfl⟩) (by omega) ?_
      intro ac136 En137
      exact any_to hG (by kernel_rfl) (nd103 _ _ (En137.sub (by kernel_rfl)) (wo27.pick [0, 1, 2, 3] (by kernel_rfl) (by decide)))
    · rintro _ rfl
      refine op_slicearr (d := some 17) (t := 22) (e := 5) (sz := 1) (m := 32) (lo := 0) (hi := 32) (b := bk1) (off := 0) (lov := none) (hiv := none) (o := 0) En25 (by kernel_rfl) (by kernel_rfl) (by kernel_rfl) (by omega) (by omega) (by omega) (.inl ⟨rfl, rfl⟩) (.inl ⟨rfl, rfl⟩) (by omega) ?_
      intro ac138 En139
      exact any_to hG (by kernel_rfl) (nd122 _ _ (En139.sub (by kernel_rfl)) (wo27.pick [0, 1, 2, 3] (by kernel_rfl) (by decide)))
  rintro ac140 wo141 ⟨En142, Hv143⟩
  refine then_normal ?_
  refine wp_seq ?_
  refine region_from ?_  -- region 3
  refine d_pures [(5, .pointer (some ⟨bk6, 0, none⟩)), (6, .pointer (some ⟨bk11, 0, none⟩)), (7, .pointer (some ⟨bk18, 0, none⟩)), (20, .int .u32 ((UInt32.toNat c : Nat) : Int))] [.int .u32 ((UInt32.toNat c : Nat) : Int)] 1 En142 (by kernel_rfl) (by kernel_rfl) rfl ?_
  intro ac144 En145
  refine from_op (by kernel_rfl) ?_
  refine op_val (d := some 21) (x := Instr.indexAt 42 (.pointer (some ⟨bk18, 0, none⟩)) (.int .i64 12)) (v := .pointer (some ⟨bk18, 12, none⟩)) En145 (by kernel_rfl) (Go.Dbr.run_indexarr (e := 23) (sz := 1) (m := 16) (j := 12) (o := 12) (by kernel_rfl) (by kernel_rfl) (by omega) (by omega) (by omega) _) ?_
  intro ac146 En147
  refine from_op (by kernel_rfl) ?_
  have hb148 : 12 < List.length (List.take 4 ([1634760805, 857760878, 2036477234, 1797285236, 0, 0, 0, 0, 0, 0, 0, 0, 0, 0, 0, 0] : List UInt32) ++ (wordsF lk) ++ List.drop (4 + (List.length (wordsF lk))) ([1634760805, 857760878, 2036477234, 1797285236, 0, 0, 0, 0, 0, 0, 0, 0, 0, 0, 0, 0] : List UInt32)) := by rw [(copy_len (show List.length ([1634760805, 857760878, 2036477234, 1797285236, 0, 0, 0, 0, 0, 0, 0, 0, 0, 0, 0, 0] : List UInt32) = 16 from rfl) (rfl : List.length (wordsF lk) = List.length (wordsF lk)) (by omega))]; omega
  refine op_storebox2 (d := none) (t := 23) (b := bk18) (off := 12) (k := 2) (v := .int .u32 ((UInt32.toNat c : Nat) : Int)) En147 (by kernel_rfl) Hv143 rfl (u32s_getD hb148) (by kernel_rfl) rfl (u32s_set _ _ _) (L' := [.box bk6 (bys ln) 24, .box bk11 (bys (List.replicate 64 0)) 28, .box bk18 (u32s (List.set (List.take 4 ([1634760805, 857760878, 2036477234, 1797285236, 0, 0, 0, 0, 0, 0, 0, 0, 0, 0, 0, 0] : List UInt32) ++ (wordsF lk) ++ List.drop (4 + (List.length (wordsF lk))) ([1634760805, 857760878, 2036477234, 1797285236, 0, 0, 0, 0, 0, 0, 0, 0, 0, 0, 0, 0] : List UInt32)) 12 c)) 42]) rfl ?_
  intro ac149 wo150  En151 Hv152
  refine from_end (by kernel_rfl) ?_
  refine then_normal ?_
  refine wp_seq ?_
  refine region_cut (F := fun ac wo => Env ac 85 [(6, .pointer (some ⟨bk11, 0, none⟩)), (7, .pointer (some ⟨bk18, 0, none⟩))] ∧ Ev w [] wo [.box bk11 (bys (List.replicate 64 0)) 28, .box bk18 (u32s (List.take 13 (List.set (List.take 4 ([1634760805, 857760878, 2036477234, 1797285236, 0, 0, 0, 0, 0, 0, 0, 0, 0, 0, 0, 0] : List UInt32) ++ (wordsF lk) ++ List.drop (4 + (List.length (wordsF lk))) ([1634760805, 857760878, 2036477234, 1797285236, 0, 0, 0, 0, 0, 0, 0, 0, 0, 0, 0, 0] : List UInt32)) 12 c) ++ (wordsF ln) ++ List.drop (13 + (List.length (wordsF ln))) (List.set (List.take 4 ([1634760805, 857760878, 2036477234, 1797285236, 0, 0, 0, 0, 0, 0, 0, 0, 0, 0, 0, 0] : List UInt32) ++ (wordsF lk) ++ List.drop (4 + (List.length (wordsF lk))) ([1634760805, 857760878, 2036477234, 1797285236, 0, 0, 0, 0, 0, 0, 0, 0, 0, 0, 0, 0] : List UInt32)) 12 c))) 42]) ?_ ?_
  ·
    refine draw_any (by kernel_rfl) 4 (by kernel_rfl) ?_  -- region 4
    have wo153 := Hv152.trans (Ev.drew Hv152.heap)
    refine any_name fun G hG => ?_
    have nd200 : ∀ (ac : Act) (wo : World), Env ac 85 [(6, .pointer (some ⟨bk11, 0, none⟩)), (7, .pointer (some ⟨bk18, 0, none⟩)), (22, .slice (some ⟨bk18, 13, none⟩) 3 3), (23, .slice (some ⟨bk6, 0, none⟩) 12 12)] → Ev w [] wo [.box bk6 (bys ln) 24, .box bk11 (bys (List.replicate 64 0)) 28, .box bk18 (u32s (List.set (List.take 4 ([1634760805, 857760878, 2036477234, 1797285236, 0, 0, 0, 0, 0, 0, 0, 0, 0, 0, 0, 0] : List UInt32) ++ (wordsF lk) ++ List.drop (4 + (List.length (wordsF lk))) ([1634760805, 857760878, 2036477234, 1797285236, 0, 0, 0, 0, 0, 0, 0, 0, 0, 0, 0, 0] : List UInt32)) 12 c)) 42] → G 2 #[true, true, false, false] ac wo := by
      intro ac201 wo202 En203 Hv204
      refine any_from hG ?_
      refine any_at 2 (by kernel_rfl) rfl ?_
      have hM206 : Heap wo202 [] := Hv204.heap.pick [] (by kernel_rfl) (by decide)
      refine op_call (d := some 24) (f := 19) (args := #[.slice (some ⟨bk6, 0, none⟩) 12 12]) En203 (by kernel_rfl) ((words_go _ (some ⟨bk6, 0, none⟩) 12 12 ln (by first | rfl | (simp; done) | (simp; omega) | omega) (bys_inbox (Hv204.heap.roBox (k := 0) (m := 12) rfl (load_whole (bys_lenh hn)) [] (by kernel_rfl) rfl) hn (by decide))).mono ?_)
      rintro _ wo208 ⟨aoq205, coq205, rfl, he211⟩
      refine ⟨_, rfl, ?_⟩
      intro ac207 En209
      have Hv210 : Ev w [] wo208 [.vec aoq205 coq205 1 (u32s (wordsF ln)) 23, .box bk6 (bys ln) 24, .box bk11 (bys (List.replicate 64 0)) 28, .box bk18 (u32s (List.set (List.take 4 ([1634760805, 857760878, 2036477234, 1797285236, 0, 0, 0, 0, 0, 0, 0, 0, 0, 0, 0, 0] : List UInt32) ++ (wordsF lk) ++ List.drop (4 + (List.length (wordsF lk))) ([1634760805, 857760878, 2036477234, 1797285236, 0, 0, 0, 0, 0, 0, 0, 0, 0, 0, 0, 0] : List UInt32)) 12 c)) 42] := Hv204.trans (Ev.call (R := [.box bk6 (bys ln) 24, .box bk11 (bys (List.replicate 64 0)) 28, .box bk18 (u32s (List.set (List.take 4 ([1634760805, 857760878, 2036477234, 1797285236, 0, 0, 0, 0, 0, 0, 0, 0, 0, 0, 0, 0] : List UInt32) ++ (wordsF lk) ++ List.drop (4 + (List.length (wordsF lk))) ([1634760805, 857760878, 2036477234, 1797285236, 0, 0, 0, 0, 0, 0, 0, 0, 0, 0, 0, 0] : List UInt32)) 12 c)) 42]) Hv204.heap [0, 1, 2] (by kernel_rfl) (by decide) he211)
      clear hM206 he211
      refine any_at 3 (by kernel_rfl) rfl ?_
      have hcy212 : Nat.min (List.length (wordsF ln)) 3 = List.length (wordsF ln) := by show min _ _ = _; omega
      refine op_copybox (d := some 25) (dT := 43) (sT := 43) (ty := 3) (elem := 23) (b := bk18) (off := 13) (k := 3) (m := List.length (wordsF ln)) (xs := u32s (wordsF ln)) (ys := u32s (wordsF ln)) (dLen := 3) (dCap := 3) (so := aoq205) (sLen := List.length (wordsF ln)) (sCap := coq205) En209 (by kernel_rfl) Hv210 rfl (by kernel_rfl) (by kernel_rfl) (Hv210.heap.reads (k := 0) rfl) (u32s_vnz Hv210.heap (k := 0) rfl) hcy212 (List.take_of_length_le (by simp [u32s])) (u32s_lenh (rfl : List.length (wordsF ln) = List.length (wordsF ln))) (by rw [u32s_lenh (List.length_set.trans (copy_len (show List.length ([1634760805, 857760878, 2036477234, 1797285236, 0, 0, 0, 0, 0, 0, 0, 0, 0, 0, 0, 0] : List UInt32) = 16 from rfl) (rfl : List.length (wordsF lk) = List.length (wordsF lk)) (by omega)))]; omega) (u32s_one _) (cs' := u32s (List.take 13 (List.set (List.take 4 ([1634760805, 857760878, 2036477234, 1797285236, 0, 0, 0, 0, 0, 0, 0, 0, 0, 0, 0, 0] : List UInt32) ++ (wordsF lk) ++ List.drop (4 + (List.length (wordsF lk))) ([1634760805, 857760878, 2036477234, 1797285236, 0, 0, 0, 0, 0, 0, 0, 0, 0, 0, 0, 0] : List UInt32)) 12 c) ++ (wordsF ln) ++ List.drop (13 + (List.length (wordsF ln))) (List.set (List.take 4 ([1634760805, 857760878, 2036477234, 1797285236, 0, 0, 0, 0, 0, 0, 0, 0, 0, 0, 0, 0] : List UInt32) ++ (wordsF lk) ++ List.drop (4 + (List.length (wordsF lk))) ([1634760805, 857760878, 2036477234, 1797285236, 0, 0, 0, 0, 0, 0, 0, 0, 0, 0, 0, 0] : List UInt32)) 12 c))) (by simp [u32s, List.map_append, List.map_take, List.map_drop]) (L' := [.vec aoq205 coq205 1 (u32s (wordsF ln)) 23, .box bk6 (bys ln) 24, .box bk11 (bys (List.replicate 64 0)) 28, .box bk18 (u32s (List.take 13 (List.set (List.take 4 ([1634760805, 857760878, 2036477234, 1797285236, 0, 0, 0, 0, 0, 0, 0, 0, 0, 0, 0, 0] : List UInt32) ++ (wordsF lk) ++ List.drop (4 + (List.length (wordsF lk))) ([1634760805, 857760878, 2036477234, 1797285236, 0, 0, 0, 0, 0, 0, 0, 0, 0, 0, 0, 0] : List UInt32)) 12 c) ++ (wordsF ln) ++ List.drop (13 + (List.length (wordsF ln))) (List.set (List.take 4 ([1634760805, 857760878, 2036477234, 1797285236, 0, 0, 0, 0, 0, 0, 0, 0, 0, 0, 0, 0] : List UInt32) ++ (wordsF lk) ++ List.drop (4 + (List.length (wordsF lk))) ([1634760805, 857760878, 2036477234, 1797285236, 0, 0, 0, 0, 0, 0, 0, 0, 0, 0, 0, 0] : List UInt32)) 12 c))) 42]) rfl ?_
      intro ac213 wo214  En215 Hv216
      exact any_end (by kernel_rfl) ⟨En215.sub (by kernel_rfl), Hv216.pick [2, 3] (by kernel_rfl) (by decide)⟩
    have nd217 : ∀ (ac : Act) (wo : World) (aoq186 : _) (coq186 : _), Env ac 85 [(6, .pointer (some ⟨bk11, 0, none⟩)), (7, .pointer (some ⟨bk18, 0, none⟩)), (24, .slice aoq186 (List.length (wordsF ln)) coq186)] → Ev w [] wo [.vec aoq186 coq186 1 (u32s (wordsF ln)) 23, .box bk11 (bys (List.replicate 64 0)) 28, .box bk18 (u32s (List.set (List.take 4 ([1634760805, 857760878, 2036477234, 1797285236, 0, 0, 0, 0, 0, 0, 0, 0, 0, 0, 0, 0] : List UInt32) ++ (wordsF lk) ++ List.drop (4 + (List.length (wordsF lk))) ([1634760805, 857760878, 2036477234, 1797285236, 0, 0, 0, 0, 0, 0, 0, 0, 0, 0, 0, 0] : List UInt32)) 12 c)) 42] → G 2 #[false, true, true, false] ac wo := by
      intro ac218 wo219 aoq186 coq186 En220 Hv221
      refine any_from hG ?_
      refine any_at 0 (by kernel_rfl) rfl ?_
      refine op_slicearr (d := some 22) (t := 42) (e := 23) (sz := 1) (m := 16) (lo := 13) (hi := 16) (b := bk18) (off := 0) (lov := (some (.int .i64 13))) (hiv := none) (o := 13) En220 (by kernel_rfl) (by kernel_rfl) (by kernel_rfl) (by omega) (by omega) (by omega) (.inr ⟨.i64, rfl⟩) (.inl ⟨rfl, rfl⟩) (by omega) ?_
      intro ac222 En223
      refine any_at 3 (by kernel_rfl) rfl ?_
      have hcy224 : Nat.min (List.length (wordsF ln)) 3 = List.length (wordsF ln) := by show min _ _ = _; omega
      refine op_copybox (d := some 25) (dT := 43) (sT := 43) (ty := 3) (elem := 23) (b := bk18) (off := 13) (k := 2) (m := List.length (wordsF ln)) (xs := u32s (wordsF ln)) (ys := u32s (wordsF ln)) (dLen := 3) (dCap := 3) (so := aoq186) (sLen := List.length (wordsF ln)) (sCap := coq186) En223 (by kernel_rfl) Hv221 rfl (by kernel_rfl) (by kernel_rfl) (Hv221.heap.reads (k := 0) rfl) (u32s_vnz Hv221.heap (k := 0) rfl) hcy224 (List.take_of_length_le (by simp [u32s])) (u32s_lenh (rfl : List.length (wordsF ln) = List.length (wordsF ln))) (by rw [u32s_lenh (List.length_set.trans (copy_len (show List.length ([1634760805, 857760878, 2036477234, 1797285236, 0, 0, 0, 0, 0, 0, 0, 0, 0, 0, 0, 0] : List UInt32) = 16 from rfl) (rfl : List.length (wordsF lk) = List.length (wordsF lk)) (by omega)))]; omega) (u32s_one _) (cs' := u32s (List.take 13 (List.set (List.take 4 ([1634760805, 857760878, 2036477234, 1797285236, 0, 0, 0, 0, 0, 0, 0, 0, 0, 0, 0, 0] : List UInt32) ++ (wordsF lk) ++ List.drop (4 + (List.length (wordsF lk))) ([1634760805, 857760878, 2036477234, 1797285236, 0, 0, 0, 0, 0, 0, 0, 0, 0, 0, 0, 0] : List UInt32)) 12 c) ++ (wordsF ln) ++ List.drop (13 + (List.length (wordsF ln))) (List.set (List.take 4 ([1634760805, 857760878, 2036477234, 1797285236, 0, 0, 0, 0, 0, 0, 0, 0, 0, 0, 0, 0] : List UInt32) ++ (wordsF lk) ++ List.drop (4 + (List.length (wordsF lk))) ([1634760805, 857760878, 2036477234, 1797285236, 0, 0, 0, 0, 0, 0, 0, 0, 0, 0, 0, 0] : List UInt32)) 12 c))) (by simp [u32s, List.map_append, List.map_take, List.map_drop]) (L' := [.vec aoq186 coq186 1 (u32s (wordsF ln)) 23, .box bk11 (bys (List.replicate 64 0)) 28, .box bk18 (u32s (List.take 13 (List.set (List.take 4 ([1634760805, 857760878, 2036477234, 1797285236, 0, 0, 0, 0, 0, 0, 0, 0, 0, 0, 0, 0] : List UInt32) ++ (wordsF lk) ++ List.drop (4 + (List.length (wordsF lk))) ([1634760805, 857760878, 2036477234, 1797285236, 0, 0, 0, 0, 0, 0, 0, 0, 0, 0, 0, 0] : List UInt32)) 12 c) ++ (wordsF ln) ++ List.drop (13 + (List.length (wordsF ln))) (List.set (List.take 4 ([1634760805, 857760878, 2036477234, 1797285236, 0, 0, 0, 0, 0, 0, 0, 0, 0, 0, 0, 0] : List UInt32) ++ (wordsF lk) ++ List.drop (4 + (List.length (wordsF lk))) ([1634760805, 857760878, 2036477234, 1797285236, 0, 0, 0, 0, 0, 0, 0, 0, 0, 0, 0, 0] : List UInt32)) 12 c))) 42]) rfl ?_
      intro ac225 wo226  En227 Hv228
      exact any_end (by kernel_rfl) ⟨En227.sub (by kernel_rfl), Hv228.pick [1, 2] (by kernel_rfl) (by decide)⟩
    have nd229 : ∀ (ac : Act) (wo : World), Env ac 85 [(5, .pointer (some ⟨bk6, 0, none⟩)), (6, .pointer (some ⟨bk11, 0, none⟩)), (7, .pointer (some ⟨bk18, 0, none⟩)), (22, .slice (some ⟨bk18, 13, none⟩) 3 3)] → Ev w [] wo [.box bk6 (bys ln) 24, .box bk11 (bys (List.replicate 64 0)) 28, .box bk18 (u32s (List.set (List.take 4 ([1634760805, 857760878, 2036477234, 1797285236, 0, 0, 0, 0, 0, 0, 0, 0, 0, 0, 0, 0] : List UInt32) ++ (wordsF lk) ++ List.drop (4 + (List.length (wordsF lk))) ([1634760805, 857760878, 2036477234, 1797285236, 0, 0, 0, 0, 0, 0, 0, 0, 0, 0, 0, 0] : List UInt32)) 12 c)) 42] → G 3 #[true, false, false, false] ac wo := by
      intro ac230 wo231 En232 Hv233
      refine any_from hG ?_
      refine any_at 1 (by kernel_rfl) rfl ?_
      refine op_slicearr (d := some 23) (t := 24) (e := 5) (sz := 1) (m := 12) (lo := 0) (hi := 12) (b := bk6) (off := 0) (lov := none) (hiv := none) (o := 0) En232 (by kernel_rfl) (by kernel_rfl) (by kernel_rfl) (by omega) (by omega) (by omega) (.inl ⟨rfl, rfl⟩) (.inl ⟨rfl, rfl⟩) (by omega) ?_
      intro ac234 En235
      refine any_at 2 (by kernel_rfl) rfl ?_
      have hM237 : Heap wo231 [] := Hv233.heap.pick [] (by kernel_rfl) (by decide)
      refine op_call (d := some 24) (f := 19) (args := #[.slice (some ⟨bk6, 0, none⟩) 12 12]) En235 (by kernel_rfl) ((words_go _ (some ⟨bk6, 0, none⟩) 12 12 ln (by first | rfl | (simp; done) | (simp; omega) | omega) (bys_inbox (Hv233.heap.roBox (k := 0) (m := 12) rfl (load_whole (bys_lenh hn)) [] (by kernel_rfl) rfl) hn (by decide))).mono ?_)
      rintro _ wo239 ⟨aoq236, coq236, rfl, he242⟩
      refine ⟨_, rfl, ?_⟩
      intro ac238 En240
      have Hv241 : Ev w [] wo239 [.vec aoq236 coq236 1 (u32s (wordsF ln)) 23, .box bk6 (bys ln) 24, .box bk11 (bys (List.replicate 64 0)) 28, .box bk18 (u32s (List.set (List.take 4 ([1634760805, 857760878, 2036477234, 1797285236, 0, 0, 0, 0, 0, 0, 0, 0, 0, 0, 0, 0] : List UInt32) ++ (wordsF lk) ++ List.drop (4 + (List.length (wordsF lk))) ([1634760805, 857760878, 2036477234, 1797285236, 0, 0, 0, 0, 0, 0, 0, 0, 0, 0, 0, 0] : List UInt32)) 12 c)) 42] := Hv233.trans (Ev.call (R := [.box bk6 (bys ln) 24, .box bk11 (bys (List.replicate 64 0)) 28, .box bk18 (u32s (List.set (List.take 4 ([1634760805, 857760878, 2036477234, 1797285236, 0, 0, 0, 0, 0, 0, 0, 0, 0, 0, 0, 0] : List UInt32) ++ (wordsF lk) ++ List.drop (4 + (List.length (wordsF lk))) ([1634760805, 857760878, 2036477234, 1797285236, 0, 0, 0, 0, 0, 0, 0, 0, 0, 0, 0, 0] : List UInt32)) 12 c)) 42]) Hv233.heap [0, 1, 2] (by kernel_rfl) (by decide) he242)
      clear hM237 he242
      refine any_at 3 (by kernel_rfl) rfl ?_
      have hcy243 : Nat.min (List.length (wordsF ln)) 3 = List.length (wordsF ln) := by show min _ _ = _; omega
      refine op_copybox (d := some 25) (dT := 43) (sT := 43) (ty := 3) (elem := 23) (b := bk18) (off := 13) (k := 3) (m := List.length (wordsF ln)) (xs := u32s (wordsF ln)) (ys := u32s (wordsF ln)) (dLen := 3) (dCap := 3) (so := aoq236) (sLen := List.length (wordsF ln)) (sCap := coq236) En240 (by kernel_rfl) Hv241 rfl (by kernel_rfl) (by kernel_rfl) (Hv241.heap.reads (k := 0) rfl) (u32s_vnz Hv241.heap (k := 0) rfl) hcy243 (List.take_of_length_le (by simp [u32s])) (u32s_lenh (rfl : List.length (wordsF ln) = List.length (wordsF ln))) (by rw [u32s_lenh (List.length_set.trans (copy_len (show List.length ([1634760805, 857760878, 2036477234, 1797285236, 0, 0, 0, 0, 0, 0, 0, 0, 0, 0, 0, 0] : List UInt32) = 16 from rfl) (rfl : List.length (wordsF lk) = List.length (wordsF lk)) (by omega)))]; omega) (u32s_one _) (cs' := u32s (List.take 13 (List.set (List.take 4 ([1634760805, 857760878, 2036477234, 1797285236, 0, 0, 0, 0, 0, 0, 0, 0, 0, 0, 0, 0] : List UInt32) ++ (wordsF lk) ++ List.drop (4 + (List.length (wordsF lk))) ([1634760805, 857760878, 2036477234, 1797285236, 0, 0, 0, 0, 0, 0, 0, 0, 0, 0, 0, 0] : List UInt32)) 12 c) ++ (wordsF ln) ++ List.drop (13 + (List.length (wordsF ln))) (List.set (List.take 4 ([1634760805, 857760878, 2036477234, 1797285236, 0, 0, 0, 0, 0, 0, 0, 0, 0, 0, 0, 0] : List UInt32) ++ (wordsF lk) ++ List.drop (4 + (List.length (wordsF lk))) ([1634760805, 857760878, 2036477234, 1797285236, 0, 0, 0, 0, 0, 0, 0, 0, 0, 0, 0, 0] : List UInt32)) 12 c))) (by simp [u32s, List.map_append, List.map_take, List.map_drop]) (L' := [.vec aoq236 coq236 1 (u32s (wordsF ln)) 23, .box bk6 (bys ln) 24, .box bk11 (bys (List.replicate 64 0)) 28, .box bk18 (u32s (List.take 13 (List.set (List.take 4 ([1634760805, 857760878, 2036477234, 1797285236, 0, 0, 0, 0, 0, 0, 0, 0, 0, 0, 0, 0] : List UInt32) ++ (wordsF lk) ++ List.drop (4 + (List.length (wordsF lk))) ([1634760805, 857760878, 2036477234, 1797285236, 0, 0, 0, 0, 0, 0, 0, 0, 0, 0, 0, 0] : List UInt32)) 12 c) ++ (wordsF ln) ++ List.drop (13 + (List.length (wordsF ln))) (List.set (List.take 4 ([1634760805, 857760878, 2036477234, 1797285236, 0, 0, 0, 0, 0, 0, 0, 0, 0, 0, 0, 0] : List UInt32) ++ (wordsF lk) ++ List.drop (4 + (List.length (wordsF lk))) ([1634760805, 857760878, 2036477234, 1797285236, 0, 0, 0, 0, 0, 0, 0, 0, 0, 0, 0, 0] : List UInt32)) 12 c))) 42]) rfl ?_
      intro ac244 wo245  En246 Hv247
      exact any_end (by kernel_rfl) ⟨En246.sub (by kernel_rfl), Hv247.pick [2, 3] (by kernel_rfl) (by decide)⟩
    have nd248 : ∀ (ac : Act) (wo : World), Env ac 85 [(6, .pointer (some ⟨bk11, 0, none⟩)), (7, .pointer (some ⟨bk18, 0, none⟩)), (23, .slice (some ⟨bk6, 0, none⟩) 12 12)] → Ev w [] wo [.box bk6 (bys ln) 24, .box bk11 (bys (List.replicate 64 0)) 28, .box bk18 (u32s (List.set (List.take 4 ([1634760805, 857760878, 2036477234, 1797285236, 0, 0, 0, 0, 0, 0, 0, 0, 0, 0, 0, 0] : List UInt32) ++ (wordsF lk) ++ List.drop (4 + (List.length (wordsF lk))) ([1634760805, 857760878, 2036477234, 1797285236, 0, 0, 0, 0, 0, 0, 0, 0, 0, 0, 0, 0] : List UInt32)) 12 c)) 42] → G 3 #[false, true, false, false] ac wo := by
      intro ac249 wo250 En251 Hv252
      refine any_from hG ?_
      refine any_two 0 2 (by kernel_rfl) ?_ ?_
      · rintro _ rfl
        refine op_slicearr (d := some 22) (t := 42) (e := 23) (sz := 1) (m := 16) (lo := 13) (hi := 16) (b := bk18) (off := 0) (lov := (some (.int .i64 13))) (hiv := none) (o := 13) En251 (by kernel_rfl) (by kernel_rfl) (by kernel_rfl) (by omega) (by omega) (by omega) (.inr ⟨.i64, rfl⟩) (.inl ⟨rfl, rfl⟩) (by omega) ?_
        intro ac253 En254
        exact any_to hG (by kernel_rfl) (nd200 _ _ (En254.sub (by kernel_rfl)) (Hv252.pick [0, 1, 2] (by kernel_rfl) (by decide)))
      · rintro _ rfl
        have hM256 : Heap wo250 [] := Hv252.heap.pick [] (by kernel_rfl) (by decide)
        refine op_call (d := some 24) (f := 19) (args := #[.slice (some ⟨bk6, 0, none⟩) 12 12]) En251 (by kernel_rfl) ((words_go _ (some ⟨bk6, 0, none⟩) 12 12 ln (by first | rfl | (simp; done) | (simp; omega) | omega) (bys_inbox (Hv252.heap.roBox (k := 0) (m := 12) rfl (load_whole (bys_lenh hn)) [] (by kernel_rfl) rfl) hn (by decide))).mono ?_)
        rintro _ wo258 ⟨aoq255, coq255, rfl, he261⟩
        refine ⟨_, rfl, ?_⟩
        intro ac257 En259
        have Hv260 : Ev w [] wo258 [.vec aoq255 coq255 1 (u32s (wordsF ln)) 23, .box bk6 (bys ln) 24, .box bk11 (bys (List.replicate 64 0)) 28, .box bk18 (u32s (List.set (List.take 4 ([1634760805, 857760878, 2036477234, 1797285236, 0, 0, 0, 0, 0, 0, 0, 0, 0, 0, 0, 0] : List UInt32) ++ (wordsF lk) ++ List.drop (4 + (List.length (wordsF lk))) ([1634760805, 857760878, 2036477234, 1797285236, 0, 0, 0, 0, 0, 0, 0, 0, 0, 0, 0, 0] : List UInt32)) 12 c)) 42] := Hv252.trans (Ev.call (R := [.box bk6 (bys ln) 24, .box bk11 (bys (List.replicate 64 0)) 28, .box bk18 (u32s (List.set (List.take 4 ([1634760805, 857760878, 2036477234, 1797285236, 0, 0, 0, 0, 0, 0, 0, 0, 0, 0, 0, 0] : List UInt32) ++ (wordsF lk) ++ List.drop (4 + (List.length (wordsF lk))) ([1634760805, 857760878, 2036477234, 1797285236, 0, 0, 0, 0, 0, 0, 0, 0, 0, 0, 0, 0] : List UInt32)) 12 c)) 42]) Hv252.heap [0, 1, 2] (by kernel_rfl) (by decide) he261)
        clear hM256 he261
        exact any_to hG (by kernel_rfl) (nd217 _ _ aoq255 coq255 (En259.sub (by kernel_rfl)) (Hv260.pick [0, 2, 3] (by kernel_rfl) (by decide)))
    refine any_from hG ?_
    refine any_two 0 1 (by kernel_rfl) ?_ ?_
    · rintro _ rfl
      refine op_slicearr (d := some 22) (t := 42) (e := 23) (sz := 1) (m := 16) (lo := 13) (hi := 16) (b := bk18) (off := 0) (lov := (some (.int .i64 13))) (hiv := none) (o := 13) En151 (by kernel_rfl) (by kernel_rfl) (by kernel_rfl) (by omega) (by omega) (by omega) (.inr ⟨.i64, rfl⟩) (.inl ⟨rfl, rfl⟩) (by omega) ?_
      intro ac262 En263
      exact any_to hG (by kernel_rfl) (nd229 _ _ (En263.sub (by kernel_rfl)) (wo153.pick [0, 1, 2] (by kernel_rfl) (by decide)))
    · rintro _ rfl
      refine op_slicearr (d := some 23) (t := 24) (e := 5) (sz := 1) (m := 12) (lo := 0) (hi := 12) (b := bk6) (off := 0) (lov := none) (hiv := none) (o := 0) En151 (by kernel_rfl) (by kernel_rfl) (by kernel_rfl) (by omega) (by omega) (by omega) (.inl ⟨rfl, rfl⟩) (.inl ⟨rfl, rfl⟩) (by omega) ?_
      intro ac264 En265
      exact any_to hG (by kernel_rfl) (nd248 _ _ (En265.sub (by kernel_rfl)) (wo153.pick [0, 1, 2] (by kernel_rfl) (by decide)))
  rintro ac266 wo267 ⟨En268, Hv269⟩
  rw [show (List.take 13 (List.set (List.take 4 ([1634760805, 857760878, 2036477234, 1797285236, 0, 0, 0, 0, 0, 0, 0, 0, 0, 0, 0, 0] : List UInt32) ++ (wordsF lk) ++ List.drop (4 + (List.length (wordsF lk))) ([1634760805, 857760878, 2036477234, 1797285236, 0, 0, 0, 0, 0, 0, 0, 0, 0, 0, 0, 0] : List UInt32)) 12 c) ++ (wordsF ln) ++ List.drop (13 + (List.length (wordsF ln))) (List.set (List.take 4 ([1634760805, 857760878, 2036477234, 1797285236, 0, 0, 0, 0, 0, 0, 0, 0, 0, 0, 0, 0] : List UInt32) ++ (wordsF lk) ++ List.drop (4 + (List.length (wordsF lk))) ([1634760805, 857760878, 2036477234, 1797285236, 0, 0, 0, 0, 0, 0, 0, 0, 0, 0, 0, 0] : List UInt32)) 12 c)) = (initW lk c ln) from init_go hk hn c] at Hv269
  refine then_normal ?_
  refine wp_seq ?_
  refine region_from ?_  -- region 5
  refine from_op (by kernel_rfl) ?_
  refine op_loadaggbox (d := some 26) (t := 42) (b := bk18) (off := 0) (k := 1) (m := 16) (xs := u32s (initW lk c ln)) En268 (by kernel_rfl) Hv269 rfl (load_whole (u32s_lenh (initW_len lk c ln))) (u32s_lenh (initW_len lk c ln)) (by kernel_rfl) (by kernel_rfl) ?_
  intro ac270 En271
  refine from_op (by kernel_rfl) ?_
  refine op_alloc (d := some 8) (T := 42) (x := .tuple #[]) (z := .agg (List.toArray (u32s (List.replicate 16 0)))) (cs := u32s (List.replicate 16 0)) En271 (by kernel_rfl) (by kernel_rfl) (by kernel_rfl) Hv269 ?_
  intro ac273 wo274 bk272 En275 Hv276
  refine from_op (by kernel_rfl) ?_
  refine op_storeaggbox (d := none) (t := 42) (b := bk272) (off := 0) (k := 2) (m := 16) (xs := u32s (initW lk c ln)) (v := .agg (List.toArray (u32s (initW lk c ln)))) (cs' := u32s (initW lk c ln)) En275 (by kernel_rfl) Hv276 rfl rfl (u32s_lenh (initW_len lk c ln)) (by rw [(u32s_lenh (List.length_replicate))]; decide) (by kernel_rfl) (u32s_one _) (store_whole (u32s_lenh (List.length_replicate))) (L' := [.box bk11 (bys (List.replicate 64 0)) 28, .box bk18 (u32s (initW lk c ln)) 42, .box bk272 (u32s (initW lk c ln)) 42]) rfl ?_
  intro ac277 wo278  En279 Hv280
  refine from_end (by kernel_rfl) ?_
  refine then_normal ?_
  refine wp_seq ?_
  refine region_from ?_  -- region 6
  refine d_pures [(6, .pointer (some ⟨bk11, 0, none⟩)), (7, .pointer (some ⟨bk18, 0, none⟩)), (8, .pointer (some ⟨bk272, 0, none⟩)), (27, .func (.func 20) #[] #[.pointer (some ⟨bk18, 0, none⟩)])] [.func (.func 20) #[] #[.pointer (some ⟨bk18, 0, none⟩)]] 1 En279 (by kernel_rfl) (by kernel_rfl) rfl ?_
  intro ac281 En282
  refine from_op (by kernel_rfl) ?_
  refine op_alloc (d := some 9) (T := 46) (x := .tuple #[]) (z := .nilFunc) (cs := [.nilFunc]) En282 (by kernel_rfl) (by kernel_rfl) (by kernel_rfl) Hv280 ?_
  intro ac284 wo285 bk283 En286 Hv287
  refine from_op (by kernel_rfl) ?_
  refine op_storebox2 (d := none) (t := 46) (b := bk283) (off := 0) (k := 3) (v := .func (.func 20) #[] #[.pointer (some ⟨bk18, 0, none⟩)]) En286 (by kernel_rfl) Hv287 rfl rfl (by kernel_rfl) rfl rfl (L' := [.box bk11 (bys (List.replicate 64 0)) 28, .box bk18 (u32s (initW lk c ln)) 42, .box bk272 (u32s (initW lk c ln)) 42, .box bk283 [.func (.func 20) #[] #[.pointer (some ⟨bk18, 0, none⟩)]] 46]) rfl ?_
  intro ac288 wo289  En290 Hv291
  refine from_end (by kernel_rfl) ?_
  refine then_normal ?_
  refine wp_seq ?_
  refine region_from ?_  -- region 7
  refine d_pures [(6, .pointer (some ⟨bk11, 0, none⟩)), (7, .pointer (some ⟨bk18, 0, none⟩)), (8, .pointer (some ⟨bk272, 0, none⟩)), (9, .pointer (some ⟨bk283, 0, none⟩)), (10, .func (.func 22) #[] #[.pointer (some ⟨bk283, 0, none⟩)])] [.func (.func 22) #[] #[.pointer (some ⟨bk283, 0, none⟩)], .func (.func 22) #[] #[.pointer (some ⟨bk283, 0, none⟩)]] 2 En290 (by kernel_rfl) (by kernel_rfl) rfl ?_
  intro ac292 En293
  refine from_end (by kernel_rfl) ?_
  refine then_normal ?_
  refine wp_seq ?_
  refine wp_seq ?_
  refine region_from ?_  -- region 8
  refine d_pures [(6, .pointer (some ⟨bk11, 0, none⟩)), (7, .pointer (some ⟨bk18, 0, none⟩)), (8, .pointer (some ⟨bk272, 0, none⟩)), (9, .pointer (some ⟨bk283, 0, none⟩)), (10, .func (.func 22) #[] #[.pointer (some ⟨bk283, 0, none⟩)]), (29, .int .i64 0)] [.int .i64 0] 1 En293 (by kernel_rfl) (by kernel_rfl) rfl ?_
  intro ac294 En295
  refine from_end (by kernel_rfl) ?_
  refine then_normal ?_
  refine wp_block ?_
  refine loop_m (fun ms296 ac wo => ∃ (i : Nat) (v : List UInt32), ms296 = (10 - i : Nat) ∧ Env ac 85 [(6, .pointer (some ⟨bk11, 0, none⟩)), (7, .pointer (some ⟨bk18, 0, none⟩)), (8, .pointer (some ⟨bk272, 0, none⟩)), (9, .pointer (some ⟨bk283, 0, none⟩)), (10, .func (.func 22) #[] #[.pointer (some ⟨bk283, 0, none⟩)]), (29, .int .i64 ((i : Nat) : Int))] ∧ Ev w [] wo [.box bk18 (u32s v) 42, .box bk272 (u32s (initW lk c ln)) 42, .box bk11 (bys (List.replicate 64 0)) 28, .box bk283 [.func (.func 20) #[] #[.pointer (some ⟨bk18, 0, none⟩)]] 46] ∧ (i ≤ 10) ∧ (v = rounds (initW lk c ln) i) ∧ (List.length v = 16)) ⟨_, 0, initW lk c ln, rfl, En295.sub (by kernel_rfl), Hv291.pick [1, 2, 0, 3] (by kernel_rfl) (by decide), by omega, rfl, (initW_len lk c ln)⟩ ?_
  rintro mm302 ac298 wo299 ⟨i, v, rfl, En300, Hv301, hi, hv, hl⟩
  refine wp_seq ?_
  refine region_from ?_  -- region 9
  refine d_pures [(6, .pointer (some ⟨bk11, 0, none⟩)), (7, .pointer (some ⟨bk18, 0, none⟩)), (8, .pointer (some ⟨bk272, 0, none⟩)), (9, .pointer (some ⟨bk283, 0, none⟩)), (10, .func (.func 22) #[] #[.pointer (some ⟨bk283, 0, none⟩)]), (29, .int .i64 ((i : Nat) : Int)), (30, .bool (decide (((i : Nat) : Int) < (10 : Int))))] [.bool (decide (((i : Nat) : Int) < (10 : Int)))] 1 En300 (by kernel_rfl) (by kernel_rfl) rfl ?_
  intro ac303 En304
  refine from_end (by kernel_rfl) ?_
  refine then_normal ?_
  refine wp_seq ?_
  refine cond_at En304 (t := decide (((i : Nat) : Int) < (10 : Int))) (by kernel_rfl) (fun hc305 => ?_) (fun hc305 => ?_)
  ·
    replace hc305 : ((i : Nat) : Int) < (10 : Int) := of_decide_eq_true hc305
    refine wp_skip ?_
    refine then_normal ?_
    refine wp_seq ?_
    refine wp_block ?_
    refine wp_seq ?_
    refine wp_seq ?_
    refine region_from ?_  -- region 10
    refine d_pures [(6, .pointer (some ⟨bk11, 0, none⟩)), (7, .pointer (some ⟨bk18, 0, none⟩)), (8, .pointer (some ⟨bk272, 0, none⟩)), (9, .pointer (some ⟨bk283, 0, none⟩)), (10, .func (.func 22) #[] #[.pointer (some ⟨bk283, 0, none⟩)]), (29, .int .i64 ((i : Nat) : Int)), (31, .int .i64 0)] [.int .i64 0] 1 En304 (by kernel_rfl) (by kernel_rfl) rfl ?_
    intro ac306 En307
    refine from_end (by kernel_rfl) ?_
    refine then_normal ?_
    refine wp_block ?_
    refine loop_enter ?_
    refine loop_once ?_
    refine wp_seq ?_
    refine region_from ?_  -- region 11
    refine d_pures [(6, .pointer (some ⟨bk11, 0, none⟩)), (7, .pointer (some ⟨bk18, 0, none⟩)), (8, .pointer (some ⟨bk272, 0, none⟩)), (9, .pointer (some ⟨bk283, 0, none⟩)), (10, .func (.func 22) #[] #[.pointer (some ⟨bk283, 0, none⟩)]), (29, .int .i64 ((i : Nat) : Int)), (31, .int .i64 0), (32, .bool true)] [.bool true] 1 En307 (by kernel_rfl) (by kernel_rfl) rfl ?_
    intro ac308 En309
    refine from_end (by kernel_rfl) ?_
    refine then_normal ?_
    refine wp_seq ?_
    refine cond_true En309 (t := true) (by kernel_rfl) rfl ?_
    refine wp_skip ?_
    refine then_normal ?_
    refine wp_seq ?_
    refine wp_block ?_
    refine wp_seq ?_
    refine region_from ?_  -- region 12
    refine d_pures [(6, .pointer (some ⟨bk11, 0, none⟩)), (7, .pointer (some ⟨bk18, 0, none⟩)), (8, .pointer (some ⟨bk272, 0, none⟩)), (9, .pointer (some ⟨bk283, 0, none⟩)), (10, .func (.func 22) #[] #[.pointer (some ⟨bk283, 0, none⟩)]), (11, .int .i64 0), (29, .int .i64 ((i : Nat) : Int)), (31, .int .i64 0)] [.int .i64 0, .int .i64 0] 2 En309 (by kernel_rfl) (by kernel_rfl) rfl ?_
    intro ac310 En311
    refine from_end (by kernel_rfl) ?_
    refine then_normal ?_
    refine region_from ?_  -- region 13
    refine d_pures [(6, .pointer (some ⟨bk11, 0, none⟩)), (7, .pointer (some ⟨bk18, 0, none⟩)), (8, .pointer (some ⟨bk272, 0, none⟩)), (9, .pointer (some ⟨bk283, 0, none⟩)), (10, .func (.func 22) #[] #[.pointer (some ⟨bk283, 0, none⟩)]), (29, .int .i64 ((i : Nat) : Int)), (31, .int .i64 0), (34, .func (.func 22) #[] #[.pointer (some ⟨bk283, 0, none⟩)]), (35, .int .i64 0), (37, .int .i64 4), (39, .int .i64 8), (41, .int .i64 12)] [.func (.func 22) #[] #[.pointer (some ⟨bk283, 0, none⟩)], .int .i64 0, .int .i64 0, .int .i64 4, .int .i64 0, .int .i64 8, .int .i64 0, .int .i64 12] 8 En311 (by kernel_rfl) (by kernel_rfl) rfl ?_
    intro ac312 En313
    refine from_op (by kernel_rfl) ?_
    have hM314 : Heap wo299 [.box bk18 (u32s v) 42, .box bk283 [.func (.func 20) #[] #[.pointer (some ⟨bk18, 0, none⟩)]] 46] := Hv301.heap.pick [0, 3] (by kernel_rfl) (by decide)
    refine op_call (d := some 42) (f := 22) (args := #[.int .i64 0, .int .i64 4, .int .i64 8, .int .i64 12, .pointer (some ⟨bk283, 0, none⟩)]) En313 (by kernel_rfl) ((quart_go _ bk18 bk283 v hl 0 4 8 12 (by omega) (by omega) (by omega) (by omega) hM314).mono ?_)
    rintro _ wo316 ⟨rfl, he319⟩
    refine ⟨_, rfl, ?_⟩
    intro ac315 En317
    have Hv318 : Ev w [] wo316 [.box bk18 (u32s (quart v 0 4 8 12)) 42, .box bk283 [.func (.func 20) #[] #[.pointer (some ⟨bk18, 0, none⟩)]] 46, .box bk272 (u32s (initW lk c ln)) 42, .box bk11 (bys (List.replicate 64 0)) 28] := Hv301.trans (Ev.call (R := [.box bk272 (u32s (initW lk c ln)) 42, .box bk11 (bys (List.replicate 64 0)) 28]) Hv301.heap [0, 3, 1, 2] (by kernel_rfl) (by decide) he319)
    clear hM314 he319
    refine from_end (by kernel_rfl) ?_
    refine block_normal ?_
    refine then_normal ?_
    refine region_from ?_  -- region 14
    refine d_pures [(6, .pointer (some ⟨bk11, 0, none⟩)), (7, .pointer (some ⟨bk18, 0, none⟩)), (8, .pointer (some ⟨bk272, 0, none⟩)), (9, .pointer (some ⟨bk283, 0, none⟩)), (10, .func (.func 22) #[] #[.pointer (some ⟨bk283, 0, none⟩)]), (29, .int .i64 ((i : Nat) : Int)), (31, .int .i64 1)] [.int .i64 1, .int .i64 1] 2 En317 (by kernel_rfl) (by kernel_rfl) rfl ?_
    intro ac320 En321
    refine from_end (by kernel_rfl) ?_
    refine then_normal ?_
    refine loop_once ?_
    refine wp_seq ?_
    refine region_from ?_  -- region 11
    refine d_pures [(6, .pointer (some ⟨bk11, 0, none⟩)), (7, .pointer (some ⟨bk18, 0, none⟩)), (8, .pointer (some ⟨bk272, 0, none⟩)), (9, .pointer (some ⟨bk283, 0, none⟩)), (10, .func (.func 22) #[] #[.pointer (some ⟨bk283, 0, none⟩)]), (29, .int .i64 ((i : Nat) : Int)), (31, .int .i64 1), (32, .bool true)] [.bool true] 1 En321 (by kernel_rfl) (by kernel_rfl) rfl ?_
    intro ac322 En323
    refine from_end (by kernel_rfl) ?_
    refine then_normal ?_
    refine wp_seq ?_
    refine cond_true En323 (t := true) (by kernel_rfl) rfl ?_
    refine wp_skip ?_
    refine then_normal ?_
    refine wp_seq ?_
    refine wp_block ?_
    refine wp_seq ?_
    refine region_from ?_  -- region 12
    refine d_pures [(6, .pointer (some ⟨bk11, 0, none⟩)), (7, .pointer (some ⟨bk18, 0, none⟩)), (8, .pointer (some ⟨bk272, 0, none⟩)), (9, .pointer (some ⟨bk283, 0, none⟩)), (10, .func (.func 22) #[] #[.pointer (some ⟨bk283, 0, none⟩)]), (11, .int .i64 1), (29, .int .i64 ((i : Nat) : Int)), (31, .int .i64 1)] [.int .i64 1, .int .i64 1] 2 En323 (by kernel_rfl) (by kernel_rfl) rfl ?_
    intro ac324 En325
    refine from_end (by kernel_rfl) ?_
    refine then_normal ?_
    refine region_from ?_  -- region 13
    refine d_pures [(6, .pointer (some ⟨bk11, 0, none⟩)), (7, .pointer (some ⟨bk18, 0, none⟩)), (8, .pointer (some ⟨bk272, 0, none⟩)), (9, .pointer (some ⟨bk283, 0, none⟩)), (10, .func (.func 22) #[] #[.pointer (some ⟨bk283, 0, none⟩)]), (29, .int .i64 ((i : Nat) : Int)), (31, .int .i64 1), (34, .func (.func 22) #[] #[.pointer (some ⟨bk283, 0, none⟩)]), (35, .int .i64 1), (37, .int .i64 5), (39, .int .i64 9), (41, .int .i64 13)] [.func (.func 22) #[] #[.pointer (some ⟨bk283, 0, none⟩)], .int .i64 1, .int .i64 1, .int .i64 5, .int .i64 1, .int .i64 9, .int .i64 1, .int .i64 13] 8 En325 (by kernel_rfl) (by kernel_rfl) rfl ?_
    intro ac326 En327
    refine from_op (by kernel_rfl) ?_
    have hM328 : Heap wo316 [.box bk18 (u32s (quart v 0 4 8 12)) 42, .box bk283 [.func (.func 20) #[] #[.pointer (some ⟨bk18, 0, none⟩)]] 46] := Hv318.heap.pick [0, 1] (by kernel_rfl) (by decide)
    refine op_call (d := some 42) (f := 22) (args := #[.int .i64 1, .int .i64 5, .int .i64 9, .int .i64 13, .pointer (some ⟨bk283, 0, none⟩)]) En327 (by kernel_rfl) ((quart_go _ bk18 bk283 (quart v 0 4 8 12) (quart_len hl _ _ _ _) 1 5 9 13 (by omega) (by omega) (by omega) (by omega) hM328).mono ?_)
    rintro _ wo330 ⟨rfl, he333⟩
    refine ⟨_, rfl, ?_⟩
    intro ac329 En331
    have Hv332 : Ev w [] wo330 [.box bk18 (u32s (quart (quart v 0 4 8 12) 1 5 9 13)) 42, .box bk283 [.func (.func 20) #[] #[.pointer (some ⟨bk18, 0, none⟩)]] 46, .box bk272 (u32s (initW lk c ln)) 42, .box bk11 (bys (List.replicate 64 0)) 28] := Hv318.trans (Ev.call (R := [.box bk272 (u32s (initW lk c ln)) 42, .box bk11 (bys (List.replicate 64 0)) 28]) Hv318.heap [0, 1, 2, 3] (by kernel_rfl) (by decide) he333)
    clear hM328 he333
    refine from_end (by kernel_rfl) ?_
    refine block_normal ?_
    refine then_normal ?_
    refine region_from ?_  -- region 14
    refine d_pures [(6, .pointer (some ⟨bk11, 0, none⟩)), (7, .pointer (some ⟨bk18, 0, none⟩)), (8, .pointer (some ⟨bk272, 0, none⟩)), (9, .pointer (some ⟨bk283, 0, none⟩)), (10, .func (.func 22) #[] #[.pointer (some ⟨bk283, 0, none⟩)]), (29, .int .i64 ((i : Nat) : Int)), (31, .int .i64 2)] [.int .i64 2, .int .i64 2] 2 En331 (by kernel_rfl) (by kernel_rfl) rfl ?_
    intro ac334 En335
    refine from_end (by kernel_rfl) ?_
    refine then_normal ?_
    refine loop_once ?_
    refine wp_seq ?_
    refine region_from ?_  -- region 11
    refine d_pures [(6, .pointer (some ⟨bk11, 0, none⟩)), (7, .pointer (some ⟨bk18, 0, none⟩)), (8, .pointer (some ⟨bk272, 0, none⟩)), (9, .pointer (some ⟨bk283, 0, none⟩)), (10, .func (.func 22) #[] #[.pointer (some ⟨bk283, 0, none⟩)]), (29, .int .i64 ((i : Nat) : Int)), (31, .int .i64 2), (32, .bool true)] [.bool true] 1 En335 (by kernel_rfl) (by kernel_rfl) rfl ?_
    intro ac336 En337
    refine from_end (by kernel_rfl) ?_
    refine then_normal ?_
    refine wp_seq ?_
    refine cond_true En337 (t := true) (by kernel_rfl) rfl ?_
    refine wp_skip ?_
    refine then_normal ?_
    refine wp_seq ?_
    refine wp_block ?_
    refine wp_seq ?_
    refine region_from ?_  -- region 12
    refine d_pures [(6, .pointer (some ⟨bk11, 0, none⟩)), (7, .pointer (some ⟨bk18, 0, none⟩)), (8, .pointer (some ⟨bk272, 0, none⟩)), (9, .pointer (some ⟨bk283, 0, none⟩)), (10, .func (.func 22) #[] #[.pointer (some ⟨bk283, 0, none⟩)]), (11, .int .i64 2), (29, .int .i64 ((i : Nat) : Int)), (31, .int .i64 2)] [.int .i64 2, .int .i64 2] 2 En337 (by kernel_rfl) (by kernel_rfl) rfl ?_
    intro ac338 En339
    refine from_end (by kernel_rfl) ?_
    refine then_normal ?_
    refine region_from ?_  -- region 13
    refine d_pures [(6, .pointer (some ⟨bk11, 0, none⟩)), (7, .pointer (some ⟨bk18, 0, none⟩)), (8, .pointer (some ⟨bk272, 0, none⟩)), (9, .pointer (some ⟨bk283, 0, none⟩)), (10, .func (.func 22) #[] #[.pointer (some ⟨bk283, 0, none⟩)]), (29, .int .i64 ((i : Nat) : Int)), (31, .int .i64 2), (34, .func (.func 22) #[] #[.pointer (some ⟨bk283, 0, none⟩)]), (35, .int .i64 2), (37, .int .i64 6), (39, .int .i64 10), (41, .int .i64 14)] [.func (.func 22) #[] #[.pointer (some ⟨bk283, 0, none⟩)], .int .i64 2, .int .i64 2, .int .i64 6, .int .i64 2, .int .i64 10, .int .i64 2, .int .i64 14] 8 En339 (by kernel_rfl) (by kernel_rfl) rfl ?_
    intro ac340 En341
    refine from_op (by kernel_rfl) ?_
    have hM342 : Heap wo330 [.box bk18 (u32s (quart (quart v 0 4 8 12) 1 5 9 13)) 42, .box bk283 [.func (.func 20) #[] #[.pointer (some ⟨bk18, 0, none⟩)]] 46] := Hv332.heap.pick [0, 1] (by kernel_rfl) (by decide)
    refine op_call (d := some 42) (f := 22) (args := #[.int .i64 2, .int .i64 6, .int .i64 10, .int .i64 14, .pointer (some ⟨bk283, 0, none⟩)]) En341 (by kernel_rfl) ((quart_go _ bk18 bk283 (quart (quart v 0 4 8 12) 1 5 9 13) (quart_len (quart_len hl _ _ _ _) _ _ _ _) 2 6 10 14 (by omega) (by omega) (by omega) (by omega) hM342).mono ?_)
    rintro _ wo344 ⟨rfl, he347⟩
    refine ⟨_, rfl, ?_⟩
    intro ac343 En345
    have Hv346 : Ev w [] wo344 [.box bk18 (u32s (quart (quart (quart v 0 4 8 12) 1 5 9 13) 2 6 10 14)) 42, .box bk283 [.func (.func 20) #[] #[.pointer (some ⟨bk18, 0, none⟩)]] 46, .box bk272 (u32s (initW lk c ln)) 42, .box bk11 (bys (List.replicate 64 0)) 28] := Hv332.trans (Ev.call (R := [.box bk272 (u32s (initW lk c ln)) 42, .box bk11 (bys (List.replicate 64 0)) 28]) Hv332.heap [0, 1, 2, 3] (by kernel_rfl) (by decide) he347)
    clear hM342 he347
    refine from_end (by kernel_rfl) ?_
    refine block_normal ?_
    refine then_normal ?_
    refine region_from ?_  -- region 14
    refine d_pures [(6, .pointer (some ⟨bk11, 0, none⟩)), (7, .pointer (some ⟨bk18, 0, none⟩)), (8, .pointer (some ⟨bk272, 0, none⟩)), (9, .pointer (some ⟨bk283, 0, none⟩)), (10, .func (.func 22) #[] #[.pointer (some ⟨bk283, 0, none⟩)]), (29, .int .i64 ((i : Nat) : Int)), (31, .int .i64 3)] [.int .i64 3, .int .i64 3] 2 En345 (by kernel_rfl) (by kernel_rfl) rfl ?_
    intro ac348 En349
    refine from_end (by kernel_rfl) ?_
    refine then_normal ?_
    refine loop_once ?_
    refine wp_seq ?_
    refine region_from ?_  -- region 11
    refine d_pures [(6, .pointer (some ⟨bk11, 0, none⟩)), (7, .pointer (some ⟨bk18, 0, none⟩)), (8, .pointer (some ⟨bk272, 0, none⟩)), (9, .pointer (some ⟨bk283, 0, none⟩)), (10, .func (.func 22) #[] #[.pointer (some ⟨bk283, 0, none⟩)]), (29, .int .i64 ((i : Nat) : Int)), (31, .int .i64 3), (32, .bool true)] [.bool true] 1 En349 (by kernel_rfl) (by kernel_rfl) rfl ?_
    intro ac350 En351
    refine from_end (by kernel_rfl) ?_
    refine then_normal ?_
    refine wp_seq ?_
    refine cond_true En351 (t := true) (by kernel_rfl) rfl ?_
    refine wp_skip ?_
    refine then_normal ?_
    refine wp_seq ?_
    refine wp_block ?_
    refine wp_seq ?_
    refine region_from ?_  -- region 12
    refine d_pures [(6, .pointer (some ⟨bk11, 0, none⟩)), (7, .pointer (some ⟨bk18, 0, none⟩)), (8, .pointer (some ⟨bk272, 0, none⟩)), (9, .pointer (some ⟨bk283, 0, none⟩)), (10, .func (.func 22) #[] #[.pointer (some ⟨bk283, 0, none⟩)]), (11, .int .i64 3), (29, .int .i64 ((i : Nat) : Int)), (31, .int .i64 3)] [.int .i64 3, .int .i64 3] 2 En351 (by kernel_rfl) (by kernel_rfl) rfl ?_
    intro ac352 En353
    refine from_end (by kernel_rfl) ?_
    refine then_normal ?_
    refine region_from ?_  -- region 13
    refine d_pures [(6, .pointer (some ⟨bk11, 0, none⟩)), (7, .pointer (some ⟨bk18, 0, none⟩)), (8, .pointer (some ⟨bk272, 0, none⟩)), (9, .pointer (some ⟨bk283, 0, none⟩)), (10, .func (.func 22) #[] #[.pointer (some ⟨bk283, 0, none⟩)]), (29, .int .i64 ((i : Nat) : Int)), (31, .int .i64 3), (34, .func (.func 22) #[] #[.pointer (some ⟨bk283, 0, none⟩)]), (35, .int .i64 3), (37, .int .i64 7), (39, .int .i64 11), (41, .int .i64 15)] [.func (.func 22) #[] #[.pointer (some ⟨bk283, 0, none⟩)], .int .i64 3, .int .i64 3, .int .i64 7, .int .i64 3, .int .i64 11, .int .i64 3, .int .i64 15] 8 En353 (by kernel_rfl) (by kernel_rfl) rfl ?_
    intro ac354 En355
    refine from_op (by kernel_rfl) ?_
    have hM356 : Heap wo344 [.box bk18 (u32s (quart (quart (quart v 0 4 8 12) 1 5 9 13) 2 6 10 14)) 42, .box bk283 [.func (.func 20) #[] #[.pointer (some ⟨bk18, 0, none⟩)]] 46] := Hv346.heap.pick [0, 1] (by kernel_rfl) (by decide)
    refine op_call (d := some 42) (f := 22) (args := #[.int .i64 3, .int .i64 7, .int .i64 11, .int .i64 15, .pointer (some ⟨bk283, 0, none⟩)]) En355 (by kernel_rfl) ((quart_go _ bk18 bk283 (quart (quart (quart v 0 4 8 12) 1 5 9 13) 2 6 10 14) (quart_len (quart_len (quart_len hl _ _ _ _) _ _ _ _) _ _ _ _) 3 7 11 15 (by omega) (by omega) (by omega) (by omega) hM356).mono ?_)
    rintro _ wo358 ⟨rfl, he361⟩
    refine ⟨_, rfl, ?_⟩
    intro ac357 En359
    have Hv360 : Ev w [] wo358 [.box bk18 (u32s (quart (quart (quart (quart v 0 4 8 12) 1 5 9 13) 2 6 10 14) 3 7 11 15)) 42, .box bk283 [.func (.func 20) #[] #[.pointer (some ⟨bk18, 0, none⟩)]] 46, .box bk272 (u32s (initW lk c ln)) 42, .box bk11 (bys (List.replicate 64 0)) 28] := Hv346.trans (Ev.call (R := [.box bk272 (u32s (initW lk c ln)) 42, .box bk11 (bys (List.replicate 64 0)) 28]) Hv346.heap [0, 1, 2, 3] (by kernel_rfl) (by decide) he361)
    clear hM356 he361
    refine from_end (by kernel_rfl) ?_
    refine block_normal ?_
    refine then_normal ?_
    refine region_from ?_  -- region 14
    refine d_pures [(6, .pointer (some ⟨bk11, 0, none⟩)), (7, .pointer (some ⟨bk18, 0, none⟩)), (8, .pointer (some ⟨bk272, 0, none⟩)), (9, .pointer (some ⟨bk283, 0, none⟩)), (10, .func (.func 22) #[] #[.pointer (some ⟨bk283, 0, none⟩)]), (29, .int .i64 ((i : Nat) : Int)), (31, .int .i64 4)] [.int .i64 4, .int .i64 4] 2 En359 (by kernel_rfl) (by kernel_rfl) rfl ?_
    intro ac362 En363
    refine from_end (by kernel_rfl) ?_
    refine then_normal ?_
    refine loop_once ?_
    refine wp_seq ?_
    refine region_from ?_  -- region 11
    refine d_pures [(6, .pointer (some ⟨bk11, 0, none⟩)), (7, .pointer (some ⟨bk18, 0, none⟩)), (8, .pointer (some ⟨bk272, 0, none⟩)), (9, .pointer (some ⟨bk283, 0, none⟩)), (10, .func (.func 22) #[] #[.pointer (some ⟨bk283, 0, none⟩)]), (29, .int .i64 ((i : Nat) : Int)), (31, .int .i64 4), (32, .bool false)] [.bool false] 1 En363 (by kernel_rfl) (by kernel_rfl) rfl ?_
    intro ac364 En365
    refine from_end (by kernel_rfl) ?_
    refine then_normal ?_
    refine wp_seq ?_
    refine cond_false En365 (t := false) (by kernel_rfl) rfl ?_
    refine wp_exit ?_
    refine then_exit ?_
    refine then_exit ?_
    refine block_exit ?_
    refine then_normal ?_
    refine wp_seq ?_
    refine region_from ?_  -- region 15
    refine d_pures [(6, .pointer (some ⟨bk11, 0, none⟩)), (7, .pointer (some ⟨bk18, 0, none⟩)), (8, .pointer (some ⟨bk272, 0, none⟩)), (9, .pointer (some ⟨bk283, 0, none⟩)), (10, .func (.func 22) #[] #[.pointer (some ⟨bk283, 0, none⟩)]), (29, .int .i64 ((i : Nat) : Int)), (31, .int .i64 4), (44, .int .i64 0)] [.int .i64 0] 1 En365 (by kernel_rfl) (by kernel_rfl) rfl ?_
    intro ac366 En367
    refine from_end (by kernel_rfl) ?_
    refine then_normal ?_
    refine wp_block ?_
    refine loop_enter ?_
    refine loop_once ?_
    refine wp_seq ?_
    refine region_from ?_  -- region 16
    refine d_pures [(6, .pointer (some ⟨bk11, 0, none⟩)), (7, .pointer (some ⟨bk18, 0, none⟩)), (8, .pointer (some ⟨bk272, 0, none⟩)), (9, .pointer (some ⟨bk283, 0, none⟩)), (10, .func (.func 22) #[] #[.pointer (some ⟨bk283, 0, none⟩)]), (29, .int .i64 ((i : Nat) : Int)), (31, .int .i64 4), (44, .int .i64 0), (45, .bool true)] [.bool true] 1 En367 (by kernel_rfl) (by kernel_rfl) rfl ?_
    intro ac368 En369
    refine from_end (by kernel_rfl) ?_
    refine then_normal ?_
    refine wp_seq ?_
    refine cond_true En369 (t := true) (by kernel_rfl) rfl ?_
    refine wp_skip ?_
    refine then_normal ?_
    refine wp_seq ?_
    refine wp_block ?_
    refine wp_seq ?_
    refine region_from ?_  -- region 17
    refine d_pures [(6, .pointer (some ⟨bk11, 0, none⟩)), (7, .pointer (some ⟨bk18, 0, none⟩)), (8, .pointer (some ⟨bk272, 0, none⟩)), (9, .pointer (some ⟨bk283, 0, none⟩)), (10, .func (.func 22) #[] #[.pointer (some ⟨bk283, 0, none⟩)]), (12, .int .i64 0), (29, .int .i64 ((i : Nat) : Int)), (31, .int .i64 4), (44, .int .i64 0)] [.int .i64 0, .int .i64 0] 2 En369 (by kernel_rfl) (by kernel_rfl) rfl ?_
    intro ac370 En371
    refine from_end (by kernel_rfl) ?_
    refine then_normal ?_
    refine region_from ?_  -- region 18
    refine d_pures [(6, .pointer (some ⟨bk11, 0, none⟩)), (7, .pointer (some ⟨bk18, 0, none⟩)), (8, .pointer (some ⟨bk272, 0, none⟩)), (9, .pointer (some ⟨bk283, 0, none⟩)), (10, .func (.func 22) #[] #[.pointer (some ⟨bk283, 0, none⟩)]), (29, .int .i64 ((i : Nat) : Int)), (31, .int .i64 4), (44, .int .i64 0), (47, .func (.func 22) #[] #[.pointer (some ⟨bk283, 0, none⟩)]), (48, .int .i64 0), (52, .int .i64 5), (56, .int .i64 10), (60, .int .i64 15)] [.func (.func 22) #[] #[.pointer (some ⟨bk283, 0, none⟩)], .int .i64 0, .int .i64 0, .int .i64 1, .int .i64 1, .int .i64 5, .int .i64 0, .int .i64 2, .int .i64 2, .int .i64 10, .int .i64 0, .int .i64 3, .int .i64 3, .int .i64 15] 14 En371 (by kernel_rfl) (by kernel_rfl) rfl ?_
    intro ac372 En373
    refine from_op (by kernel_rfl) ?_
    have hM374 : Heap wo358 [.box bk18 (u32s (quart (quart (quart (quart v 0 4 8 12) 1 5 9 13) 2 6 10 14) 3 7 11 15)) 42, .box bk283 [.func (.func 20) #[] #[.pointer (some ⟨bk18, 0, none⟩)]] 46] := Hv360.heap.pick [0, 1] (by kernel_rfl) (by decide)
    refine op_call (d := some 61) (f := 22) (args := #[.int .i64 0, .int .i64 5, .int .i64 10, .int .i64 15, .pointer (some ⟨bk283, 0, none⟩)]) En373 (by kernel_rfl) ((quart_go _ bk18 bk283 (quart (quart (quart (quart v 0 4 8 12) 1 5 9 13) 2 6 10 14) 3 7 11 15) (quart_len (quart_len (quart_len (quart_len hl _ _ _ _) _ _ _ _) _ _ _ _) _ _ _ _) 0 5 10 15 (by omega) (by omega) (by omega) (by omega) hM374).mono ?_)
    rintro _ wo376 ⟨rfl, he379⟩
    refine ⟨_, rfl, ?_⟩
    intro ac375 En377
    have Hv378 : Ev w [] wo376 [.box bk18 (u32s (quart (quart (quart (quart (quart v 0 4 8 12) 1 5 9 13) 2 6 10 14) 3 7 11 15) 0 5 10 15)) 42, .box bk283 [.func (.func 20) #[] #[.pointer (some ⟨bk18, 0, none⟩)]] 46, .box bk272 (u32s (initW lk c ln)) 42, .box bk11 (bys (List.replicate 64 0)) 28] := Hv360.trans (Ev.call (R := [.box bk272 (u32s (initW lk c ln)) 42, .box bk11 (bys (List.replicate 64 0)) 28]) Hv360.heap [0, 1, 2, 3] (by kernel_rfl) (by decide) he379)
    clear hM374 he379
    refine from_end (by kernel_rfl) ?_
    refine block_normal ?_
    refine then_normal ?_
    refine region_from ?_  -- region 19
    refine d_pures [(6, .pointer (some ⟨bk11, 0, none⟩)), (7, .pointer (some ⟨bk18, 0, none⟩)), (8, .pointer (some ⟨bk272, 0, none⟩)), (9, .pointer (some ⟨bk283, 0, none⟩)), (10, .func (.func 22) #[] #[.pointer (some ⟨bk283, 0, none⟩)]), (29, .int .i64 ((i : Nat) : Int)), (31, .int .i64 4), (44, .int .i64 1)] [.int .i64 1, .int .i64 1] 2 En377 (by kernel_rfl) (by kernel_rfl) rfl ?_
    intro ac380 En381
    refine from_end (by kernel_rfl) ?_
    refine then_normal ?_
    refine loop_once ?_
    refine wp_seq ?_
    refine region_from ?_  -- region 16
    refine d_pures [(6, .pointer (some ⟨bk11, 0, none⟩)), (7, .pointer (some ⟨bk18, 0, none⟩)), (8, .pointer (some ⟨bk272, 0, none⟩)), (9, .pointer (some ⟨bk283, 0, none⟩)), (10, .func (.func 22) #[] #[.pointer (some ⟨bk283, 0, none⟩)]), (29, .int .i64 ((i : Nat) : Int)), (31, .int .i64 4), (44, .int .i64 1), (45, .bool true)] [.bool true] 1 En381 (by kernel_rfl) (by kernel_rfl) rfl ?_
    intro ac382 En383
    refine from_end (by kernel_rfl) ?_
    refine then_normal ?_
    refine wp_seq ?_
    refine cond_true En383 (t := true) (by kernel_rfl) rfl ?_
    refine wp_skip ?_
    refine then_normal ?_
    refine wp_seq ?_
    refine wp_block ?_
    refine wp_seq ?_
    refine region_from ?_  -- region 17
    refine d_pures [(6, .pointer (some ⟨bk11, 0, none⟩)), (7, .pointer (some ⟨bk18, 0, none⟩)), (8, .pointer (some ⟨bk272, 0, none⟩)), (9, .pointer (some ⟨bk283, 0, none⟩)), (10, .func (.func 22) #[] #[.pointer (some ⟨bk283, 0, none⟩)]), (12, .int .i64 1), (29, .int .i64 ((i : Nat) : Int)), (31, .int .i64 4), (44, .int .i64 1)] [.int .i64 1, .int .i64 1] 2 En383 (by kernel_rfl) (by kernel_rfl) rfl ?_
    intro ac384 En385
    refine from_end (by kernel_rfl) ?_
    refine then_normal ?_
    refine region_from ?_  -- region 18
    refine d_pures [(6, .pointer (some ⟨bk11, 0, none⟩)), (7, .pointer (some ⟨bk18, 0, none⟩)), (8, .pointer (some ⟨bk272, 0, none⟩)), (9, .pointer (some ⟨bk283, 0, none⟩)), (10, .func (.func 22) #[] #[.pointer (some ⟨bk283, 0, none⟩)]), (29, .int .i64 ((i : Nat) : Int)), (31, .int .i64 4), (44, .int .i64 1), (47, .func (.func 22) #[] #[.pointer (some ⟨bk283, 0, none⟩)]), (48, .int .i64 1), (52, .int .i64 6), (56, .int .i64 11), (60, .int .i64 12)] [.func (.func 22) #[] #[.pointer (some ⟨bk283, 0, none⟩)], .int .i64 1, .int .i64 1, .int .i64 2, .int .i64 2, .int .i64 6, .int .i64 1, .int .i64 3, .int .i64 3, .int .i64 11, .int .i64 1, .int .i64 4, .int .i64 0, .int .i64 12] 14 En385 (by kernel_rfl) (by kernel_rfl) rfl ?_
    intro ac386 En387
    refine from_op (by kernel_rfl) ?_
    have hM388 : Heap wo376 [.box bk18 (u32s (quart (quart (quart (quart (quart v 0 4 8 12) 1 5 9 13) 2 6 10 14) 3 7 11 15) 0 5 10 15)) 42, .box bk283 [.func (.func 20) #[] #[.pointer (some ⟨bk18, 0, none⟩)]] 46] := Hv378.heap.pick [0, 1] (by kernel_rfl) (by decide)
    refine op_call (d := some 61) (f := 22) (args := #[.int .i64 1, .int .i64 6, .int .i64 11, .int .i64 12, .pointer (some ⟨bk283, 0, none⟩)]) En387 (by kernel_rfl) ((quart_go _ bk18 bk283 (quart (quart (quart (quart (quart v 0 4 8 12) 1 5 9 13) 2 6 10 14) 3 7 11 15) 0 5 10 15) (quart_len (quart_len (quart_len (quart_len (quart_len hl _ _ _ _) _ _ _ _) _ _ _ _) _ _ _ _) _ _ _ _) 1 6 11 12 (by omega) (by omega) (by omega) (by omega) hM388).mono ?_)
    rintro _ wo390 ⟨rfl, he393⟩
    refine ⟨_, rfl, ?_⟩
    intro ac389 En391
    have Hv392 : Ev w [] wo390 [.box bk18 (u32s (quart (quart (quart (quart (quart (quart v 0 4 8 12) 1 5 9 13) 2 6 10 14) 3 7 11 15) 0 5 10 15) 1 6 11 12)) 42, .box bk283 [.func (.func 20) #[] #[.pointer (some ⟨bk18, 0, none⟩)]] 46, .box bk272 (u32s (initW lk c ln)) 42, .box bk11 (bys (List.replicate 64 0)) 28] := Hv378.trans (Ev.call (R := [.box bk272 (u32s (initW lk c ln)) 42, .box bk11 (bys (List.replicate 64 0)) 28]) Hv378.heap [0, 1, 2, 3] (by kernel_rfl) (by decide) he393)
    clear hM388 he393
    refine from_end (by kernel_rfl) ?_
    refine block_normal ?_
    refine then_normal ?_
    refine region_from ?_  -- region 19
    refine d_pures [(6, .pointer (some ⟨bk11, 0, none⟩)), (7, .pointer (some ⟨bk18, 0, none⟩)), (8, .pointer (some ⟨bk272, 0, none⟩)), (9, .pointer (some ⟨bk283, 0, none⟩)), (10, .func (.func 22) #[] #[.pointer (some ⟨bk283, 0, none⟩)]), (29, .int .i64 ((i : Nat) : Int)), (31, .int .i64 4), (44, .int .i64 2)] [.int .i64 2, .int .i64 2] 2 En391 (by kernel_rfl) (by kernel_rfl) rfl ?_
    intro ac394 En395
    refine from_end (by kernel_rfl) ?_
    refine then_normal ?_
    refine loop_once ?_
    refine wp_seq ?_
    refine region_from ?_  -- region 16
    refine d_pures [(6, .pointer (some ⟨bk11, 0, none⟩)), (7, .pointer (some ⟨bk18, 0, none⟩)), (8, .pointer (some ⟨bk272, 0, none⟩)), (9, .pointer (some ⟨bk283, 0, none⟩)), (10, .func (.func 22) #[] #[.pointer (some ⟨bk283, 0, none⟩)]), (29, .int .i64 ((i : Nat) : Int)), (31, .int .i64 4), (44, .int .i64 2), (45, .bool true)] [.bool true] 1 En395 (by kernel_rfl) (by kernel_rfl) rfl ?_
    intro ac396 En397
    refine from_end (by kernel_rfl) ?_
    refine then_normal ?_
    refine wp_seq ?_
    refine cond_true En397 (t := true) (by kernel_rfl) rfl ?_
    refine wp_skip ?_
    refine then_normal ?_
    refine wp_seq ?_
    refine wp_block ?_
    refine wp_seq ?_
    refine region_from ?_  -- region 17
    refine d_pures [(6, .pointer (some ⟨bk11, 0, none⟩)), (7, .pointer (some ⟨bk18, 0, none⟩)), (8, .pointer (some ⟨bk272, 0, none⟩)), (9, .pointer (some ⟨bk283, 0, none⟩)), (10, .func (.func 22) #[] #[.pointer (some ⟨bk283, 0, none⟩)]), (12, .int .i64 2), (29, .int .i64 ((i : Nat) : Int)), (31, .int .i64 4), (44, .int .i64 2)] [.int .i64 2, .int .i64 2] 2 En397 (by kernel_rfl) (by kernel_rfl) rfl ?_
    intro ac398 En399
    refine from_end (by kernel_rfl) ?_
    refine then_normal ?_
    refine region_from ?_  -- region 18
    refine d_pures [(6, .pointer (some ⟨bk11, 0, none⟩)), (7, .pointer (some ⟨bk18, 0, none⟩)), (8, .pointer (some ⟨bk272, 0, none⟩)), (9, .pointer (some ⟨bk283, 0, none⟩)), (10, .func (.func 22) #[] #[.pointer (some ⟨bk283, 0, none⟩)]), (29, .int .i64 ((i : Nat) : Int)), (31, .int .i64 4), (44, .int .i64 2), (47, .func (.func 22) #[] #[.pointer (some ⟨bk283, 0, none⟩)]), (48, .int .i64 2), (52, .int .i64 7), (56, .int .i64 8), (60, .int .i64 13)] [.func (.func 22) #[] #[.pointer (some ⟨bk283, 0, none⟩)], .int .i64 2, .int .i64 2, .int .i64 3, .int .i64 3, .int .i64 7, .int .i64 2, .int .i64 4, .int .i64 0, .int .i64 8, .int .i64 2, .int .i64 5, .int .i64 1, .int .i64 13] 14 En399 (by kernel_rfl) (by kernel_rfl) rfl ?_
    intro ac400 En401
    refine from_op (by kernel_rfl) ?_
    have hM402 : Heap wo390 [.box bk18 (u32s (quart (quart (quart (quart (quart (quart v 0 4 8 12) 1 5 9 13) 2 6 10 14) 3 7 11 15) 0 5 10 15) 1 6 11 12)) 42, .box bk283 [.func (.func 20) #[] #[.pointer (some ⟨bk18, 0, none⟩)]] 46] := Hv392.heap.pick [0, 1] (by kernel_rfl) (by decide)
    refine op_call (d := some 61) (f := 22) (args := #[.int .i64 2, .int .i64 7, .int .i64 8, .int .i64 13, .pointer (some ⟨bk283, 0, none⟩)]) En401 (by kernel_rfl) ((quart_go _ bk18 bk283 (quart (quart (quart (quart (quart (quart v 0 4 8 12) 1 5 9 13) 2 6 10 14) 3 7 11 15) 0 5 10 15) 1 6 11 12) (quart_len (quart_len (quart_len (quart_len (quart_len (quart_len hl _ _ _ _) _ _ _ _) _ _ _ _) _ _ _ _) _ _ _ _) _ _ _ _) 2 7 8 13 (by omega) (by omega) (by omega) (by omega) hM402).mono ?_)
    rintro _ wo404 ⟨rfl, he407⟩
    refine ⟨_, rfl, ?_⟩
    intro ac403 En405
    have Hv406 : Ev w [] wo404 [.box bk18 (u32s (quart (quart (quart (quart (quart (quart (quart v 0 4 8 12) 1 5 9 13) 2 6 10 14) 3 7 11 15) 0 5 10 15) 1 6 11 12) 2 7 8 13)) 42, .box bk283 [.func (.func 20) #[] #[.pointer (some ⟨bk18, 0, none⟩)]] 46, .box bk272 (u32s (initW lk c ln)) 42, .box bk11 (bys (List.replicate 64 0)) 28] := Hv392.trans (Ev.call (R := [.box bk272 (u32s (initW lk c ln)) 42, .box bk11 (bys (List.replicate 64 0)) 28]) Hv392.heap [0, 1, 2, 3] (by kernel_rfl) (by decide) he407)
    clear hM402 he407
    refine from_end (by kernel_rfl) ?_
    refine block_normal ?_
    refine then_normal ?_
    refine region_from ?_  -- region 19
    refine d_pures [(6, .pointer (some ⟨bk11, 0, none⟩)), (7, .pointer (some ⟨bk18, 0, none⟩)), (8, .pointer (some ⟨bk272, 0, none⟩)), (9, .pointer (some ⟨bk283, 0, none⟩)), (10, .func (.func 22) #[] #[.pointer (some ⟨bk283, 0, none⟩)]), (29, .int .i64 ((i : Nat) : Int)), (31, .int .i64 4), (44, .int .i64 3)] [.int .i64 3, .int .i64 3] 2 En405 (by kernel_rfl) (by kernel_rfl) rfl ?_
    intro ac408 En409
    refine from_end (by kernel_rfl) ?_
    refine then_normal ?_
    refine loop_once ?_
    refine wp_seq ?_
    refine region_from ?_  -- region 16
    refine d_pures [(6, .pointer (some ⟨bk11, 0, none⟩)), (7, .pointer (some ⟨bk18, 0, none⟩)), (8, .pointer (some ⟨bk272, 0, none⟩)), (9, .pointer (some ⟨bk283, 0, none⟩)), (10, .func (.func 22) #[] #[.pointer (some ⟨bk283, 0, none⟩)]), (29, .int .i64 ((i : Nat) : Int)), (31, .int .i64 4), (44, .int .i64 3), (45, .bool true)] [.bool true] 1 En409 (by kernel_rfl) (by kernel_rfl) rfl ?_
    intro ac410 En411
    refine from_end (by kernel_rfl) ?_
    refine then_normal ?_
    refine wp_seq ?_
    refine cond_true En411 (t := true) (by kernel_rfl) rfl ?_
    refine wp_skip ?_
    refine then_normal ?_
    refine wp_seq ?_
    refine wp_block ?_
    refine wp_seq ?_
    refine region_from ?_  -- region 17
    refine d_pures [(6, .pointer (some ⟨bk11, 0, none⟩)), (7, .pointer (some ⟨bk18, 0, none⟩)), (8, .pointer (some ⟨bk272, 0, none⟩)), (9, .pointer (some ⟨bk283, 0, none⟩)), (10, .func (.func 22) #[] #[.pointer (some ⟨bk283, 0, none⟩)]), (12, .int .i64 3), (29, .int .i64 ((i : Nat) : Int)), (31, .int .i64 4), (44, .int .i64 3)] [.int .i64 3, .int .i64 3] 2 En411 (by kernel_rfl) (by kernel_rfl) rfl ?_
    intro ac412 En413
    refine from_end (by kernel_rfl) ?_
    refine then_normal ?_
    refine region_from ?_  -- region 18
    refine d_pures [(6, .pointer (some ⟨bk11, 0, none⟩)), (7, .pointer (some ⟨bk18, 0, none⟩)), (8, .pointer (some ⟨bk272, 0, none⟩)), (9, .pointer (some ⟨bk283, 0, none⟩)), (10, .func (.func 22) #[] #[.pointer (some ⟨bk283, 0, none⟩)]), (29, .int .i64 ((i : Nat) : Int)), (31, .int .i64 4), (44, .int .i64 3), (47, .func (.func 22) #[] #[.pointer (some ⟨bk283, 0, none⟩)]), (48, .int .i64 3), (52, .int .i64 4), (56, .int .i64 9), (60, .int .i64 14)] [.func (.func 22) #[] #[.pointer (some ⟨bk283, 0, none⟩)], .int .i64 3, .int .i64 3, .int .i64 4, .int .i64 0, .int .i64 4, .int .i64 3, .int .i64 5, .int .i64 1, .int .i64 9, .int .i64 3, .int .i64 6, .int .i64 2, .int .i64 14] 14 En413 (by kernel_rfl) (by kernel_rfl) rfl ?_
    intro ac414 En415
    refine from_op (by kernel_rfl) ?_
    have hM416 : Heap wo404 [.box bk18 (u32s (quart (quart (quart (quart (quart (quart (quart v 0 4 8 12) 1 5 9 13) 2 6 10 14) 3 7 11 15) 0 5 10 15) 1 6 11 12) 2 7 8 13)) 42, .box bk283 [.func (.func 20) #[] #[.pointer (some ⟨bk18, 0, none⟩)]] 46] := Hv406.heap.pick [0, 1] (by kernel_rfl) (by decide)
    refine op_call (d := some 61) (f := 22) (args := #[.int .i64 3, .int .i64 4, .int .i64 9, .int .i64 14, .pointer (some ⟨bk283, 0, none⟩)]) En415 (by kernel_rfl) ((quart_go _ bk18 bk283 (quart (quart (quart (quart (quart (quart (quart v 0 4 8 12) 1 5 9 13) 2 6 10 14) 3 7 11 15) 0 5 10 15) 1 6 11 12) 2 7 8 13) (quart_len (quart_len (quart_len (quart_len (quart_len (quart_len (quart_len hl _ _ _ _) _ _ _ _) _ _ _ _) _ _ _ _) _ _ _ _) _ _ _ _) _ _ _ _) 3 4 9 14 (by omega) (by omega) (by omega) (by omega) hM416).mono ?_)
    rintro _ wo418 ⟨rfl, he421⟩
    refine ⟨_, rfl, ?_⟩
    intro ac417 En419
    have Hv420 : Ev w [] wo418 [.box bk18 (u32s (quart (quart (quart (quart (quart (quart (quart (quart v 0 4 8 12) 1 5 9 13) 2 6 10 14) 3 7 11 15) 0 5 10 15) 1 6 11 12) 2 7 8 13) 3 4 9 14)) 42, .box bk283 [.func (.func 20) #[] #[.pointer (some ⟨bk18, 0, none⟩)]] 46, .box bk272 (u32s (initW lk c ln)) 42, .box bk11 (bys (List.replicate 64 0)) 28] := Hv406.trans (Ev.call (R := [.box bk272 (u32s (initW lk c ln)) 42, .box bk11 (bys (List.replicate 64 0)) 28]) Hv406.heap [0, 1, 2, 3] (by kernel_rfl) (by decide) he421)
    clear hM416 he421
    refine from_end (by kernel_rfl) ?_
    refine block_normal ?_
    refine then_normal ?_
    refine region_from ?_  -- region 19
    refine d_pures [(6, .pointer (some ⟨bk11, 0, none⟩)), (7, .pointer (some ⟨bk18, 0, none⟩)), (8, .pointer (some ⟨bk272, 0, none⟩)), (9, .pointer (some ⟨bk283, 0, none⟩)), (10, .func (.func 22) #[] #[.pointer (some ⟨bk283, 0, none⟩)]), (29, .int .i64 ((i : Nat) : Int)), (31, .int .i64 4), (44, .int .i64 4)] [.int .i64 4, .int .i64 4] 2 En419 (by kernel_rfl) (by kernel_rfl) rfl ?_
    intro ac422 En423
    refine from_end (by kernel_rfl) ?_
    refine then_normal ?_
    refine loop_once ?_
    refine wp_seq ?_
    refine region_from ?_  -- region 16
    refine d_pures [(6, .pointer (some ⟨bk11, 0, none⟩)), (7, .pointer (some ⟨bk18, 0, none⟩)), (8, .pointer (some ⟨bk272, 0, none⟩)), (9, .pointer (some ⟨bk283, 0, none⟩)), (10, .func (.func 22) #[] #[.pointer (some ⟨bk283, 0, none⟩)]), (29, .int .i64 ((i : Nat) : Int)), (31, .int .i64 4), (44, .int .i64 4), (45, .bool false)] [.bool false] 1 En423 (by kernel_rfl) (by kernel_rfl) rfl ?_
    intro ac424 En425
    refine from_end (by kernel_rfl) ?_
    refine then_normal ?_
    refine wp_seq ?_
    refine cond_false En425 (t := false) (by kernel_rfl) rfl ?_
    refine wp_exit ?_
    refine then_exit ?_
    refine then_exit ?_
    refine block_exit ?_
    refine block_normal ?_
    refine then_normal ?_
    refine region_from ?_  -- region 20
    refine d_pures [(6, .pointer (some ⟨bk11, 0, none⟩)), (7, .pointer (some ⟨bk18, 0, none⟩)), (8, .pointer (some ⟨bk272, 0, none⟩)), (9, .pointer (some ⟨bk283, 0, none⟩)), (10, .func (.func 22) #[] #[.pointer (some ⟨bk283, 0, none⟩)]), (29, .int .i64 ((i : Nat) : Int)), (31, .int .i64 4), (44, .int .i64 4), (63, .int .i64 (IntKind.wrap .i64 (((i : Nat) : Int) + (1 : Int))))] [.int .i64 (IntKind.wrap .i64 (((i : Nat) : Int) + (1 : Int)))] 1 En425 (by kernel_rfl) (by kernel_rfl) rfl ?_
    intro ac426 En427
    rw [Go.Dbr.wr64 (e := ((i : Nat) : Int) + (1 : Int)) (x := ((i + 1 : Nat) : Int)) (by omega) (by omega) (by omega)] at En427
    refine d_pures [(6, .pointer (some ⟨bk11, 0, none⟩)), (7, .pointer (some ⟨bk18, 0, none⟩)), (8, .pointer (some ⟨bk272, 0, none⟩)), (9, .pointer (some ⟨bk283, 0, none⟩)), (10, .func (.func 22) #[] #[.pointer (some ⟨bk283, 0, none⟩)]), (29, .int .i64 ((i + 1 : Nat) : Int)), (31, .int .i64 4), (44, .int .i64 4)] [.int .i64 ((i + 1 : Nat) : Int)] 2 En427 (by kernel_rfl) (by kernel_rfl) rfl ?_
    intro ac428 En429
    refine from_end (by kernel_rfl) ?_
    refine then_normal ?_
    refine ⟨_, ⟨i + 1, quart (quart (quart (quart (quart (quart (quart (quart v 0 4 8 12) 1 5 9 13) 2 6 10 14) 3 7 11 15) 0 5 10 15) 1 6 11 12) 2 7 8 13) 3 4 9 14, rfl, En429.sub (by kernel_rfl), Hv420.pick [0, 2, 3, 1] (by kernel_rfl) (by decide), by omega, by rw [hv]; rfl, (quart_len (quart_len (quart_len (quart_len (quart_len (quart_len (quart_len (quart_len hl _ _ _ _) _ _ _ _) _ _ _ _) _ _ _ _) _ _ _ _) _ _ _ _) _ _ _ _) _ _ _ _)⟩, ?_⟩
    omega
  ·
    replace hc305 : ¬ (((i : Nat) : Int) < (10 : Int)) := of_decide_eq_false hc305
    refine wp_exit ?_
    refine then_exit ?_
    refine then_exit ?_
    refine block_exit ?_
    refine then_normal ?_
    refine wp_seq ?_
    refine region_from ?_  -- region 21
    refine from_op (by kernel_rfl) ?_
    refine op_alloc (d := some 13) (T := 28) (x := .tuple #[]) (z := .agg (List.toArray (bys (List.replicate 64 0)))) (cs := bys (List.replicate 64 0)) En304 (by kernel_rfl) (by kernel_rfl) (by kernel_rfl) Hv301 ?_
    intro ac431 wo432 bk430 En433 Hv434
    refine from_end (by kernel_rfl) ?_
    refine then_normal ?_
    refine wp_seq ?_
    refine wp_seq ?_
    refine region_from ?_  -- region 22
    refine d_pures [(6, .pointer (some ⟨bk11, 0, none⟩)), (7, .pointer (some ⟨bk18, 0, none⟩)), (8, .pointer (some ⟨bk272, 0, none⟩)), (9, .pointer (some ⟨bk283, 0, none⟩)), (10, .func (.func 22) #[] #[.pointer (some ⟨bk283, 0, none⟩)]), (13, .pointer (some ⟨bk430, 0, none⟩)), (29, .int .i64 ((i : Nat) : Int)), (64, .int .i64 0)] [.int .i64 0] 1 En433 (by kernel_rfl) (by kernel_rfl) rfl ?_
    intro ac435 En436
    refine from_end (by kernel_rfl) ?_
    refine then_normal ?_
    refine wp_block ?_
    have hi10 : i = 10 := by omega
    refine loop_m (fun ms437 ac wo => ∃ (q : Nat) (o : List UInt8), ms437 = (64 - q : Nat) ∧ Env ac 85 [(6, .pointer (some ⟨bk11, 0, none⟩)), (7, .pointer (some ⟨bk18, 0, none⟩)), (8, .pointer (some ⟨bk272, 0, none⟩)), (9, .pointer (some ⟨bk283, 0, none⟩)), (10, .func (.func 22) #[] #[.pointer (some ⟨bk283, 0, none⟩)]), (13, .pointer (some ⟨bk430, 0, none⟩)), (29, .int .i64 ((i : Nat) : Int)), (64, .int .i64 ((q : Nat) : Int))] ∧ Ev w [] wo [.box bk18 (u32s v) 42, .box bk272 (u32s (initW lk c ln)) 42, .box bk430 (bys o) 28, .box bk11 (bys (List.replicate 64 0)) 28, .box bk283 [.func (.func 20) #[] #[.pointer (some ⟨bk18, 0, none⟩)]] 46] ∧ (q ≤ 64) ∧ (List.length o = 64) ∧ (∀ j, j < 64 → List.getD o j 0 = if j < q then byteAt v (initW lk c ln) j else 0)) ⟨_, 0, List.replicate 64 0, rfl, En436.sub (by kernel_rfl), Hv434.pick [0, 1, 4, 2, 3] (by kernel_rfl) (by decide), by omega, by simp, fun j hj => by rw [getD_replicate, if_neg (by omega)]⟩ ?_
    rintro mm443 ac439 wo440 ⟨q, o, rfl, En441, Hv442, hq, ho, hp⟩
    refine wp_seq ?_
    refine region_from ?_  -- region 23
    refine d_pures [(6, .pointer (some ⟨bk11, 0, none⟩)), (7, .pointer (some ⟨bk18, 0, none⟩)), (8, .pointer (some ⟨bk272, 0, none⟩)), (9, .pointer (some ⟨bk283, 0, none⟩)), (10, .func (.func 22) #[] #[.pointer (some ⟨bk283, 0, none⟩)]), (13, .pointer (some ⟨bk430, 0, none⟩)), (29, .int .i64 ((i : Nat) : Int)), (64, .int .i64 ((q : Nat) : Int)), (65, .bool (decide (((q : Nat) : Int) < (64 : Int))))] [.bool (decide (((q : Nat) : Int) < (64 : Int)))] 1 En441 (by kernel_rfl) (by kernel_rfl) rfl ?_
    intro ac444 En445
    refine from_end (by kernel_rfl) ?_
    refine then_normal ?_
    refine wp_seq ?_
    refine cond_at En445 (t := decide (((q : Nat) : Int) < (64 : Int))) (by kernel_rfl) (fun hc446 => ?_) (fun hc446 => ?_)
    ·
      replace hc446 : ((q : Nat) : Int) < (64 : Int) := of_decide_eq_true hc446
      refine wp_skip ?_
      refine then_normal ?_
      refine wp_seq ?_
      refine wp_block ?_
      refine wp_seq ?_
      refine region_from ?_  -- region 24
      refine d_pures [(6, .pointer (some ⟨bk11, 0, none⟩)), (7, .pointer (some ⟨bk18, 0, none⟩)), (8, .pointer (some ⟨bk272, 0, none⟩)), (9, .pointer (some ⟨bk283, 0, none⟩)), (10, .func (.func 22) #[] #[.pointer (some ⟨bk283, 0, none⟩)]), (13, .pointer (some ⟨bk430, 0, none⟩)), (14, .int .i64 ((q : Nat) : Int)), (29, .int .i64 ((i : Nat) : Int)), (64, .int .i64 ((q : Nat) : Int))] [.int .i64 ((q : Nat) : Int), .int .i64 ((q : Nat) : Int)] 2 En445 (by kernel_rfl) (by kernel_rfl) rfl ?_
      intro ac447 En448
      refine from_end (by kernel_rfl) ?_
      refine then_normal ?_
      refine region_cut (F := fun ac wo => Env ac 85 [(6, .pointer (some ⟨bk11, 0, none⟩)), (7, .pointer (some ⟨bk18, 0, none⟩)), (8, .pointer (some ⟨bk272, 0, none⟩)), (9, .pointer (some ⟨bk283, 0, none⟩)), (10, .func (.func 22) #[] #[.pointer (some ⟨bk283, 0, none⟩)]), (13, .pointer (some ⟨bk430, 0, none⟩)), (29, .int .i64 ((i : Nat) : Int)), (64, .int .i64 ((q : Nat) : Int))] ∧ Ev w [] wo [.box bk18 (u32s v) 42, .box bk272 (u32s (initW lk c ln)) 42, .box bk430 (bys (List.set o q (UInt32.toUInt8 (((List.getD v (q / 4) 0) + (List.getD (initW lk c ln) (q / 4) 0)) >>> UInt32.ofNat (8 * (q % 4)))))) 28, .box bk11 (bys (List.replicate 64 0)) 28, .box bk283 [.func (.func 20) #[] #[.pointer (some ⟨bk18, 0, none⟩)]] 46]) ?_ ?_
      ·
        refine draw_any (by kernel_rfl) 17 (by kernel_rfl) ?_  -- region 25
        have wo449 := Hv442.trans (Ev.drew Hv442.heap)
        refine any_name fun G hG => ?_
        have nd508 : ∀ (ac : Act) (wo : World), Env ac 85 [(6, .pointer (some ⟨bk11, 0, none⟩)), (7, .pointer (some ⟨bk18, 0, none⟩)), (8, .pointer (some ⟨bk272, 0, none⟩)), (9, .pointer (some ⟨bk283, 0, none⟩)), (10, .func (.func 22) #[] #[.pointer (some ⟨bk283, 0, none⟩)]), (13, .pointer (some ⟨bk430, 0, none⟩)), (29, .int .i64 ((i : Nat) : Int)), (64, .int .i64 ((q : Nat) : Int)), (67, .int .i64 ((q : Nat) : Int)), (71, .int .u32 ((UInt32.toNat (List.getD v (q / 4) 0) : Nat) : Int)), (74, .pointer (some ⟨bk272, q / 4, none⟩)), (79, .int .i64 ((8 * (q % 4) : Nat) : Int))] → Ev w [] wo [.box bk18 (u32s v) 42, .box bk272 (u32s (initW lk c ln)) 42, .box bk430 (bys o) 28, .box bk11 (bys (List.replicate 64 0)) 28, .box bk283 [.func (.func 20) #[] #[.pointer (some ⟨bk18, 0, none⟩)]] 46] → G 6 #[true, true, true, true, true, true, true, true, false, false, true, true, true, false, false, false, false] ac wo := by
          intro ac509 wo510 En511 Hv512
          refine any_from hG ?_
          refine any_at 8 (by kernel_rfl) rfl ?_
          have hb513 : q / 4 < List.length (initW lk c ln) := by rw [(initW_len lk c ln)]; omega
          refine op_loadbox (d := some 75) (t := 23) (b := bk272) (off := q / 4) (k := 1) (v := .int .u32 ((UInt32.toNat (List.getD (initW lk c ln) (q / 4) 0) : Nat) : Int)) En511 (by kernel_rfl) Hv512 rfl (u32s_getD hb513) (by kernel_rfl) ?_
          intro ac514 En515
          refine any_pureR (d := some 76) En515 (v := .int .u32 (IntKind.wrap .u32 (((UInt32.toNat (List.getD v (q / 4) 0) : Nat) : Int) + ((UInt32.toNat (List.getD (initW lk c ln) (q / 4) 0) : Nat) : Int)))) 9 (by kernel_rfl) (by kernel_rfl) rfl ?_
          intro ac516 En517
          rw [Go.Dbr.u32_add (a := ((UInt32.toNat (List.getD v (q / 4) 0) : Nat) : Int)) (b := ((UInt32.toNat (List.getD (initW lk c ln) (q / 4) 0) : Nat) : Int)) (x := List.getD v (q / 4) 0) (y := List.getD (initW lk c ln) (q / 4) 0) rfl rfl] at En517
          refine any_pure (d := some 80) (s := nv (Op.shift .shr .u32 ((UInt32.toNat ((List.getD v (q / 4) 0) + (List.getD (initW lk c ln) (q / 4) 0)) : Nat) : Int) .i64 ((8 * (q % 4) : Nat) : Int))) En517 (v := .int .u32 ((UInt32.toNat (((List.getD v (q / 4) 0) + (List.getD (initW lk c ln) (q / 4) 0)) >>> UInt32.ofNat (8 * (q % 4))) : Nat) : Int)) 13 (by kernel_rfl) (funext fun _ => run_nv (Go.Dbr.run_shr_u32 ((List.getD v (q / 4) 0) + (List.getD (initW lk c ln) (q / 4) 0)) .i64 (8 * (q % 4)) (by omega) _)) (by kernel_rfl) rfl ?_
          intro ac518 En519
          refine any_pureR (d := some 81) En519 (v := .int .u8 (IntKind.wrap .u8 ((UInt32.toNat (((List.getD v (q / 4) 0) + (List.getD (initW lk c ln) (q / 4) 0)) >>> UInt32.ofNat (8 * (q % 4))) : Nat) : Int))) 14 (by kernel_rfl) (by kernel_rfl) rfl ?_
          intro ac520 En521
          rw [Go.Dbr.u32_to_u8 (a := ((UInt32.toNat (((List.getD v (q / 4) 0) + (List.getD (initW lk c ln) (q / 4) 0)) >>> UInt32.ofNat (8 * (q % 4))) : Nat) : Int)) (x := ((List.getD v (q / 4) 0) + (List.getD (initW lk c ln) (q / 4) 0)) >>> UInt32.ofNat (8 * (q % 4))) rfl] at En521
          refine any_pure (d := some 82) (s := nv (Instr.indexAt 28 (.pointer (some ⟨bk430, 0, none⟩)) (.int .i64 ((q : Nat) : Int)))) En521 (v := .pointer (some ⟨bk430, q, none⟩)) 15 (by kernel_rfl) (funext fun _ => run_nv (Go.Dbr.run_indexarr (e := 5) (sz := 1) (m := 64) (j := q) (o := q) (by kernel_rfl) (by kernel_rfl) (by omega) (by omega) (by omega) _)) (by kernel_rfl) rfl ?_
          intro ac522 En523
          refine any_at 16 (by kernel_rfl) rfl ?_
          have hb524 : q < List.length o := by rw [ho]; omega
          refine op_storebox2 (d := none) (t := 5) (b := bk430) (off := q) (k := 2) (v := .int .u8 ((UInt8.toNat (UInt32.toUInt8 (((List.getD v (q / 4) 0) + (List.getD (initW lk c ln) (q / 4) 0)) >>> UInt32.ofNat (8 * (q % 4)))) : Nat) : Int)) En523 (by kernel_rfl) Hv512 rfl (bys_getD hb524) (by kernel_rfl) rfl (bys_set _ _ _) rfl ?_
          intro ac525 wo526  En527 Hv528
          exact any_end (by kernel_rfl) ⟨En527.sub (by kernel_rfl), Hv528.pick [0, 1, 2, 3, 4] (by kernel_rfl) (by decide)⟩
        have nd529 : ∀ (ac : Act) (wo : World), Env ac 85 [(6, .pointer (some ⟨bk11, 0, none⟩)), (7, .pointer (some ⟨bk18, 0, none⟩)), (8, .pointer (some ⟨bk272, 0, none⟩)), (9, .pointer (some ⟨bk283, 0, none⟩)), (10, .func (.func 22) #[] #[.pointer (some ⟨bk283, 0, none⟩)]), (13, .pointer (some ⟨bk430, 0, none⟩)), (29, .int .i64 ((i : Nat) : Int)), (64, .int .i64 ((q : Nat) : Int)), (67, .int .i64 ((q : Nat) : Int)), (70, .pointer (some ⟨bk18, q / 4, none⟩)), (75, .int .u32 ((UInt32.toNat (List.getD (initW lk c ln) (q / 4) 0) : Nat) : Int)), (79, .int .i64 ((8 * (q % 4) : Nat) : Int))] → Ev w [] wo [.box bk18 (u32s v) 42, .box bk272 (u32s (initW lk c ln)) 42, .box bk430 (bys o) 28, .box bk11 (bys (List.replicate 64 0)) 28, .box bk283 [.func (.func 20) #[] #[.pointer (some ⟨bk18, 0, none⟩)]] 46] → G 6 #[true, true, true, true, false, true, true, true, true, false, true, true, true, false, false, false, false] ac wo := by
          intro ac530 wo531 En532 Hv533
          refine any_from hG ?_
          refine any_at 4 (by kernel_rfl) rfl ?_
          have hb534 : q / 4 < List.length v := by rw [hl]; omega
          refine op_loadbox (d := some 71) (t := 23) (b := bk18) (off := q / 4) (k := 0) (v := .int .u32 ((UInt32.toNat (List.getD v (q / 4) 0) : Nat) : Int)) En532 (by kernel_rfl) Hv533 rfl (u32s_getD hb534) (by kernel_rfl) ?_
          intro ac535 En536
          refine any_pureR (d := some 76) En536 (v := .int .u32 (IntKind.wrap .u32 (((UInt32.toNat (List.getD v (q / 4) 0) : Nat) : Int) + ((UInt32.toNat (List.getD (initW lk c ln) (q / 4) 0) : Nat) : Int)))) 9 (by kernel_rfl) (by kernel_rfl) rfl ?_
          intro ac537 En538
          rw [Go.Dbr.u32_add (a := ((UInt32.toNat (List.getD v (q / 4) 0) : Nat) : Int)) (b := ((UInt32.toNat (List.getD (initW lk c ln) (q / 4) 0) : Nat) : Int)) (x := List.getD v (q / 4) 0) (y := List.getD (initW lk c ln) (q / 4) 0) rfl rfl] at En538
          refine any_pure (d := some 80) (s := nv (Op.shift .shr .u32 ((UInt32.toNat ((List.getD v (q / 4) 0) + (List.getD (initW lk c ln) (q / 4) 0)) : Nat) : Int) .i64 ((8 * (q % 4) : Nat) : Int))) En538 (v := .int .u32 ((UInt32.toNat (((List.getD v (q / 4) 0) + (List.getD (initW lk c ln) (q / 4) 0)) >>> UInt32.ofNat (8 * (q % 4))) : Nat) : Int)) 13 (by kernel_rfl) (funext fun _ => run_nv (Go.Dbr.run_shr_u32 ((List.getD v (q / 4) 0) + (List.getD (initW lk c ln) (q / 4) 0)) .i64 (8 * (q % 4)) (by omega) _)) (by kernel_rfl) rfl ?_
          intro ac539 En540
          refine any_pureR (d := some 81) En540 (v := .int .u8 (IntKind.wrap .u8 ((UInt32.toNat (((List.getD v (q / 4) 0) + (List.getD (initW lk c ln) (q / 4) 0)) >>> UInt32.ofNat (8 * (q % 4))) : Nat) : Int))) 14 (by kernel_rfl) (by kernel_rfl) rfl ?_
          intro ac541 En542
          rw [Go.Dbr.u32_to_u8 (a := ((UInt32.toNat (((List.getD v (q / 4) 0) + (List.getD (initW lk c ln) (q / 4) 0)) >>> UInt32.ofNat (8 * (q % 4))) : Nat) : Int)) (x := ((List.getD v (q / 4) 0) + (List.getD (initW lk c ln) (q / 4) 0)) >>> UInt32.ofNat (8 * (q % 4))) rfl] at En542
          refine any_pure (d := some 82) (s := nv (Instr.indexAt 28 (.pointer (some ⟨bk430, 0, none⟩)) (.int .i64 ((q : Nat) : Int)))) En542 (v := .pointer (some ⟨bk430, q, none⟩)) 15 (by kernel_rfl) (funext fun _ => run_nv (Go.Dbr.run_indexarr (e := 5) (sz := 1) (m := 64) (j := q) (o := q) (by kernel_rfl) (by kernel_rfl) (by omega) (by omega) (by omega) _)) (by kernel_rfl) rfl ?_
          intro ac543 En544
          refine any_at 16 (by kernel_rfl) rfl ?_
          have hb545 : q < List.length o := by rw [ho]; omega
          refine op_storebox2 (d := none) (t := 5) (b := bk430) (off := q) (k := 2) (v := .int .u8 ((UInt8.toNat (UInt32.toUInt8 (((List.getD v (q / 4) 0) + (List.getD (initW lk c ln) (q / 4) 0)) >>> UInt32.ofNat (8 * (q % 4)))) : Nat) : Int)) En544 (by kernel_rfl) Hv533 rfl (bys_getD hb545) (by kernel_rfl) rfl (bys_set _ _ _) rfl ?_
          intro ac546 wo547  En548 Hv549
          exact any_end (by kernel_rfl) ⟨En548.sub (by kernel_rfl), Hv549.pick [0, 1, 2, 3, 4] (by kernel_rfl) (by decide)⟩
        refine any_from hG ?_
        refine any_pureR (d := some 67) En448 (v := .int .i64 ((q : Nat) : Int)) 0 (by kernel_rfl) (by kernel_rfl) rfl ?_
        intro ac550 En551
        refine any_pureR (d := some 68) En551 (v := .int .i64 ((q : Nat) : Int)) 1 (by kernel_rfl) (by kernel_rfl) rfl ?_
        intro ac552 En553
        refine any_pureR (d := some 69) En553 (v := .int .i64 (IntKind.wrap .i64 (Int.tdiv ((q : Nat) : Int) (4 : Int)))) 2 (by kernel_rfl) (by kernel_rfl) rfl ?_
        intro ac554 En555
        rw [show IntKind.wrap .i64 (Int.tdiv ((q : Nat) : Int) (4 : Int)) = ((q / 4 : Nat) : Int) from Go.Dbr.i64_quo_nat (a := ((q : Nat) : Int)) (n := q) (m := 4) rfl (by omega)] at En555
        refine any_pure (d := some 70) (s := nv (Instr.indexAt 42 (.pointer (some ⟨bk18, 0, none⟩)) (.int .i64 ((q / 4 : Nat) : Int)))) En555 (v := .pointer (some ⟨bk18, q / 4, none⟩)) 3 (by kernel_rfl) (funext fun _ => run_nv (Go.Dbr.run_indexarr (e := 23) (sz := 1) (m := 16) (j := q / 4) (o := q / 4) (by kernel_rfl) (by kernel_rfl) (by omega) (by omega) (by omega) _)) (by kernel_rfl) rfl ?_
        intro ac556 En557
        refine any_pureR (d := some 72) En557 (v := .int .i64 ((q : Nat) : Int)) 5 (by kernel_rfl) (by kernel_rfl) rfl ?_
        intro ac558 En559
        refine any_pureR (d := some 73) En559 (v := .int .i64 (IntKind.wrap .i64 (Int.tdiv ((q : Nat) : Int) (4 : Int)))) 6 (by kernel_rfl) (by kernel_rfl) rfl ?_
        intro ac560 En561
        rw [show IntKind.wrap .i64 (Int.tdiv ((q : Nat) : Int) (4 : Int)) = ((q / 4 : Nat) : Int) from Go.Dbr.i64_quo_nat (a := ((q : Nat) : Int)) (n := q) (m := 4) rfl (by omega)] at En561
        refine any_pure (d := some 74) (s := nv (Instr.indexAt 42 (.pointer (some ⟨bk272, 0, none⟩)) (.int .i64 ((q / 4 : Nat) : Int)))) En561 (v := .pointer (some ⟨bk272, q / 4, none⟩)) 7 (by kernel_rfl) (funext fun _ => run_nv (Go.Dbr.run_indexarr (e := 23) (sz := 1) (m := 16) (j := q / 4) (o := q / 4) (by kernel_rfl) (by kernel_rfl) (by omega) (by omega) (by omega) _)) (by kernel_rfl) rfl ?_
        intro ac562 En563
        refine any_pureR (d := some 77) En563 (v := .int .i64 ((q : Nat) : Int)) 10 (by kernel_rfl) (by kernel_rfl) rfl ?_
        intro ac564 En565
        refine any_pureR (d := some 78) En565 (v := .int .i64 (Int.tmod ((q : Nat) : Int) (4 : Int))) 11 (by kernel_rfl) (by kernel_rfl) rfl ?_
        intro ac566 En567
        rw [show Int.tmod ((q : Nat) : Int) (4 : Int) = ((q % 4 : Nat) : Int) from Go.Dbr.i64_rem_nat (a := ((q : Nat) : Int)) (n := q) (m := 4) rfl (by omega)] at En567
        refine any_pureR (d := some 79) En567 (v := .int .i64 (IntKind.wrap .i64 ((8 : Int) * ((q % 4 : Nat) : Int)))) 12 (by kernel_rfl) (by kernel_rfl) rfl ?_
        intro ac568 En569
        rw [Go.Dbr.wr64 (e := (8 : Int) * ((q % 4 : Nat) : Int)) (x := ((8 * (q % 4) : Nat) : Int)) (by omega) (by omega) (by omega)] at En569
        refine any_two 4 8 (by kernel_rfl) ?_ ?_
        · rintro _ rfl
          have hb570 : q / 4 < List.length v := by rw [hl]; omega
          refine op_loadbox (d := some 71) (t := 23) (b := bk18) (off := q / 4) (k := 0) (v := .int .u32 ((UInt32.toNat (List.getD v (q / 4) 0) : Nat) : Int)) En569 (by kernel_rfl) wo449 rfl (u32s_getD hb570) (by kernel_rfl) ?_
          intro ac571 En572
          exact any_to hG (by kernel_rfl) (nd508 _ _ (En572.sub (by kernel_rfl)) (wo449.pick [0, 1, 2, 3, 4] (by kernel_rfl) (by decide)))
        · rintro _ rfl
          have hb573 : q / 4 < List.length (initW lk c ln) := by rw [(initW_len lk c ln)]; omega
          refine op_loadbox (d := some 75) (t := 23) (b := bk272) (off := q / 4) (k := 1) (v := .int .u32 ((UInt32.toNat (List.getD (initW lk c ln) (q / 4) 0) : Nat) : Int)) En569 (by kernel_rfl) wo449 rfl (u32s_getD hb573) (by kernel_rfl) ?_
          intro ac574 En575
          exact any_to hG (by kernel_rfl) (nd529 _ _ (En575.sub (by kernel_rfl)) (wo449.pick [0, 1, 2, 3, 4] (by kernel_rfl) (by decide)))
      rintro ac576 wo577 ⟨En578, Hv579⟩
      refine block_normal ?_
      refine then_normal ?_
      refine region_from ?_  -- region 26
      refine d_pures [(6, .pointer (some ⟨bk11, 0, none⟩)), (7, .pointer (some ⟨bk18, 0, none⟩)), (8, .pointer (some ⟨bk272, 0, none⟩)), (9, .pointer (some ⟨bk283, 0, none⟩)), (10, .func (.func 22) #[] #[.pointer (some ⟨bk283, 0, none⟩)]), (13, .pointer (some ⟨bk430, 0, none⟩)), (29, .int .i64 ((i : Nat) : Int)), (64, .int .i64 ((q : Nat) : Int)), (83, .int .i64 (IntKind.wrap .i64 (((q : Nat) : Int) + (1 : Int))))] [.int .i64 (IntKind.wrap .i64 (((q : Nat) : Int) + (1 : Int)))] 1 En578 (by kernel_rfl) (by kernel_rfl) rfl ?_
      intro ac580 En581
      rw [Go.Dbr.wr64 (e := ((q : Nat) : Int) + (1 : Int)) (x := ((q + 1 : Nat) : Int)) (by omega) (by omega) (by omega)] at En581
      refine d_pures [(6, .pointer (some ⟨bk11, 0, none⟩)), (7, .pointer (some ⟨bk18, 0, none⟩)), (8, .pointer (some ⟨bk272, 0, none⟩)), (9, .pointer (some ⟨bk283, 0, none⟩)), (10, .func (.func 22) #[] #[.pointer (some ⟨bk283, 0, none⟩)]), (13, .pointer (some ⟨bk430, 0, none⟩)), (29, .int .i64 ((i : Nat) : Int)), (64, .int .i64 ((q + 1 : Nat) : Int))] [.int .i64 ((q + 1 : Nat) : Int)] 2 En581 (by kernel_rfl) (by kernel_rfl) rfl ?_
      intro ac582 En583
      refine from_end (by kernel_rfl) ?_
      refine then_normal ?_
      refine ⟨_, ⟨q + 1, List.set o q (UInt32.toUInt8 (((List.getD v (q / 4) 0) + (List.getD (initW lk c ln) (q / 4) 0)) >>> UInt32.ofNat (8 * (q % 4)))), rfl, En583.sub (by kernel_rfl), Hv579.pick [0, 1, 2, 3, 4] (by kernel_rfl) (by decide), by omega, by simp [ho], upto_set (f := byteAt v (initW lk c ln)) (g := fun _ => 0) ho hp (by omega)⟩, ?_⟩
      omega
    ·
      replace hc446 : ¬ (((q : Nat) : Int) < (64 : Int)) := of_decide_eq_false hc446
      refine wp_exit ?_
      refine then_exit ?_
      refine then_exit ?_
      refine block_exit ?_
      refine then_normal ?_
      refine wp_seq ?_
      have hq64 : q = 64 := by omega
      have eo : o = blockF lk c ln := eq_range_map 0 ho (fun j hj => by rw [hp j hj, if_pos (by omega), hv, hi10])
      rw [eo] at Hv442
      replace Hv442 : Ev w [] wo440 [.box bk18 (u32s v) 42, .box bk272 (u32s (initW lk c ln)) 42, .box bk430 (bys (blockF lk c ln)) 28, .box bk11 (bys (List.replicate 64 0)) 28, .box bk283 [.func (.func 20) #[] #[.pointer (some ⟨bk18, 0, none⟩)]] 46] := Hv442
      refine region_from ?_  -- region 27
      refine from_op (by kernel_rfl) ?_
      refine op_loadaggbox (d := some 84) (t := 28) (b := bk430) (off := 0) (k := 2) (m := 64) (xs := bys (blockF lk c ln)) En445 (by kernel_rfl) Hv442 rfl (load_whole (bys_lenh (blockF_len lk c ln))) (bys_lenh (blockF_len lk c ln)) (by kernel_rfl) (by kernel_rfl) ?_
      intro ac584 En585
      refine from_op (by kernel_rfl) ?_
      refine op_storeaggbox (d := none) (t := 28) (b := bk11) (off := 0) (k := 3) (m := 64) (xs := bys (blockF lk c ln)) (v := .agg (List.toArray (bys (blockF lk c ln)))) (cs' := bys (blockF lk c ln)) En585 (by kernel_rfl) Hv442 rfl rfl (bys_lenh (blockF_len lk c ln)) (by rw [(bys_lenh (List.length_replicate))]; decide) (by kernel_rfl) (bys_one _) (store_whole (bys_lenh (List.length_replicate))) (L' := [.box bk18 (u32s v) 42, .box bk272 (u32s (initW lk c ln)) 42, .box bk430 (bys (blockF lk c ln)) 28, .box bk11 (bys (blockF lk c ln)) 28, .box bk283 [.func (.func 20) #[] #[.pointer (some ⟨bk18, 0, none⟩)]] 46]) rfl ?_
      intro ac586 wo587  En588 Hv589
      refine from_end (by kernel_rfl) ?_
      refine then_normal ?_
      refine wp_ret ?_
      refine d_cell1 (v := .agg (List.toArray (bys (blockF lk c ln)))) (t := 6) (T := 28) (ad := ⟨bk11, 0, none⟩) En588 (by kernel_rfl) (by kernel_rfl) (Ev.cellAgg (t := 28) (k := 3) (off := 0) (m := 64) (xs := bys (blockF lk c ln)) Hv589 rfl (load_whole (bys_lenh (blockF_len lk c ln))) (bys_lenh (blockF_len lk c ln)) (by kernel_rfl) (by kernel_rfl)) ?_
      exact ⟨rfl, Hv589.pick [] (by kernel_rfl) (by decide)⟩

end Go.Proofs.Ytnahplggflhdaaa
