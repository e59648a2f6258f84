/- Layer 9: a block of the program. -/
import Derived.Test.YtnahplggflhdaaaC2
namespace Go.Proofs.Ytnahplggflhdaaa
open Go.Dbr
set_option maxRecDepth 100000
set_option maxHeartbeats 2000000
set_option linter.unusedVariables false
set_option linter.unusedSimpArgs false

theorem init_go {lk ln : List UInt8} (hk : lk.length = 32) (hn : ln.length = 12) (c : UInt32) : List.take 13 (List.set (List.take 4 ([1634760805, 857760878, 2036477234, 1797285236, 0, 0, 0, 0, 0, 0, 0, 0, 0, 0, 0, 0] : List UInt32) ++ wordsF lk ++ List.drop (4 + (List.length (wordsF lk))) ([1634760805, 857760878, 2036477234, 1797285236, 0, 0, 0, 0, 0, 0, 0, 0, 0, 0, 0, 0] : List UInt32)) 12 c) ++ wordsF ln ++ List.drop (13 + (List.length (wordsF ln))) (List.set (List.take 4 ([1634760805, 857760878, 2036477234, 1797285236, 0, 0, 0, 0, 0, 0, 0, 0, 0, 0, 0, 0] : List UInt32) ++ wordsF lk ++ List.drop (4 + (List.length (wordsF lk))) ([1634760805, 857760878, 2036477234, 1797285236, 0, 0, 0, 0, 0, 0, 0, 0, 0, 0, 0, 0] : List UInt32)) 12 c) = initW lk c ln := by
  rw [wordsF8 hk, wordsF3 hn]
  rfl

def rP (v : List UInt32) : Nat → List UInt32
  | 0 => v
  | k + 1 => quart (rP v k) k (k + 4) (k + 8) (k + 12)
def rQ (v : List UInt32) : Nat → List UInt32
  | 0 => v
  | k + 1 => quart (rQ v k) k (4 + (k + 1) % 4) (8 + (k + 2) % 4) (12 + (k + 3) % 4)
theorem rP_len {v : List UInt32} (h : v.length = 16) (k : Nat) : (rP v k).length = 16 := by
  induction k with
  | zero => exact h
  | succ k ih => exact quart_len ih _ _ _ _
theorem rQ_len {v : List UInt32} (h : v.length = 16) (k : Nat) : (rQ v k).length = 16 := by
  induction k with
  | zero => exact h
  | succ k ih => exact quart_len ih _ _ _ _
theorem round_go (v : List UInt32) : rQ (rP v 4) 4 = round v := rfl
theorem round_len {v : List UInt32} (h : v.length = 16) : (round v).length = 16 := by rw [← round_go]; exact rQ_len (rP_len h 4) 4

theorem block_go (w : World) (lk : List UInt8) (hk : List.length lk = 32) (c : UInt32) (ln : List UInt8) (hn : List.length ln = 12) : Calls Try.prog 11 #[.agg (List.toArray (bys lk)), uv32 c, .agg (List.toArray (bys ln))] w fun e w' => e = .returned (.agg (List.toArray (bys (blockF lk c ln)))) ∧ Ev w [] w' [] := by
 have hwk := wordsF_len (l := lk) (m := 8) (by omega)
 have hwn := wordsF_len (l := ln) (m := 3) (by omega)
 refine d_start [(0, .agg (List.toArray (bys lk))), (1, uv32 c), (2, .agg (List.toArray (bys ln)))] 85 Go.Proofs.Try.func11 Go.Proofs.Try.ntmps11 rfl (by kernel_rfl) (by kernel_rfl) ?_
 intro act0 En0
 have Hv0 : Ev w [] w [] := Ev.refl (Heap.nil _)
 refine wp_seq ?_
 refine region_from ?_
 refine from_op (by kernel_rfl) ?_
 refine op_newbox (d := some 3) (T := 22) (v := .agg (List.toArray (bys lk))) (cs := bys lk) En0 (by kernel_rfl) rfl Hv0 ?_
 intro ac2 wo3 bk1 En4 Hv5
 refine from_op (by kernel_rfl) ?_
 refine op_newbox (d := some 5) (T := 24) (v := .agg (List.toArray (bys ln))) (cs := bys ln) En4 (by kernel_rfl) rfl Hv5 ?_
 intro ac7 wo8 bk6 En9 Hv10
 refine from_op (by kernel_rfl) ?_
 refine op_alloc (d := some 6) (T := 28) (x := .tuple #[]) (z := .agg (List.toArray (bys (List.replicate 64 0)))) (cs := bys (List.replicate 64 0)) En9 (by kernel_rfl) (by kernel_rfl) (by kernel_rfl) Hv10 ?_
 intro ac12 wo13 bk11 En14 Hv15
 refine from_end (by kernel_rfl) ?_
 refine then_normal ?_
 refine wp_seq ?_
 refine region_from ?_
 refine d_pures [(1, uv32 c), (3, pt bk1), (5, pt bk6), (6, pt bk11), (15, .agg (List.toArray (u32s ([1634760805, 857760878, 2036477234, 1797285236, 0, 0, 0, 0, 0, 0, 0, 0, 0, 0, 0, 0] : List UInt32))))] [.agg (List.toArray (u32s ([1634760805, 857760878, 2036477234, 1797285236, 0, 0, 0, 0, 0, 0, 0, 0, 0, 0, 0, 0] : List UInt32)))] 1 En14 (by kernel_rfl) (by kernel_rfl) rfl ?_
 intro ac16 En17
 refine from_op (by kernel_rfl) ?_
 refine op_alloc (d := some 7) (T := 42) (x := .tuple #[]) (z := .agg (List.toArray (u32s (List.replicate 16 0)))) (cs := u32s (List.replicate 16 0)) En17 (by kernel_rfl) (by kernel_rfl) (by kernel_rfl) Hv15 ?_
 intro ac19 wo20 bk18 En21 Hv22
 refine from_op (by kernel_rfl) ?_
 refine op_storeaggbox (d := none) (t := 42) (b := bk18) (off := 0) (k := 3) (m := 16) (xs := u32s ([1634760805, 857760878, 2036477234, 1797285236, 0, 0, 0, 0, 0, 0, 0, 0, 0, 0, 0, 0] : List UInt32)) (v := .agg (List.toArray (u32s ([1634760805, 857760878, 2036477234, 1797285236, 0, 0, 0, 0, 0, 0, 0, 0, 0, 0, 0, 0] : List UInt32)))) (cs' := u32s ([1634760805, 857760878, 2036477234, 1797285236, 0, 0, 0, 0, 0, 0, 0, 0, 0, 0, 0, 0] : List UInt32)) En21 (by kernel_rfl) Hv22 rfl rfl (u32s_lenh (show List.length ([1634760805, 857760878, 2036477234, 1797285236, 0, 0, 0, 0, 0, 0, 0, 0, 0, 0, 0, 0] : List UInt32) = 16 from rfl)) (by rw [(u32s_lenh (List.length_replicate))]; decide) (by kernel_rfl) (u32s_one _) (store_whole (u32s_lenh (List.length_replicate))) (L' := [.box bk1 (bys lk) 22, .box bk6 (bys ln) 24, .box bk11 (bys (List.replicate 64 0)) 28, .box bk18 (u32s ([1634760805, 857760878, 2036477234, 1797285236, 0, 0, 0, 0, 0, 0, 0, 0, 0, 0, 0, 0] : List UInt32)) 42]) rfl ?_
 intro ac23 wo24  En25 Hv26
 refine from_end (by kernel_rfl) ?_
 refine then_normal ?_
 refine wp_seq ?_
 refine region_cut (F := fun ac wo => Env ac 85 [(1, uv32 c), (5, pt bk6), (6, pt bk11), (7, pt bk18)] ∧ Ev w [] wo [.box bk6 (bys ln) 24, .box bk11 (bys (List.replicate 64 0)) 28, .box bk18 (u32s (List.take 4 ([1634760805, 857760878, 2036477234, 1797285236, 0, 0, 0, 0, 0, 0, 0, 0, 0, 0, 0, 0] : List UInt32) ++ (wordsF lk) ++ List.drop (4 + (List.length (wordsF lk))) ([1634760805, 857760878, 2036477234, 1797285236, 0, 0, 0, 0, 0, 0, 0, 0, 0, 0, 0, 0] : List UInt32))) 42]) ?_ ?_
 ·
  refine h_start (fun wv => Ev w [] wv [.box bk1 (bys lk) 22]) [] (by kernel_rfl) 4 (by kernel_rfl) ?_
  have wo27 := Hv26.trans (Ev.drew Hv26.heap)
  refine h_name fun G hG => ?_
  have nd120 : ∀ (ac : Act) (wo : World), Env ac 85 [(1, uv32 c), (5, pt bk6), (6, pt bk11), (7, pt bk18), (16, .slice (some ⟨bk18, 4, none⟩) 12 12), (17, .slice (some ⟨bk1, 0, none⟩) 32 32)] → Ev w [] wo [.box bk1 (bys lk) 22, .box bk6 (bys ln) 24, .box bk11 (bys (List.replicate 64 0)) 28, .box bk18 (u32s ([1634760805, 857760878, 2036477234, 1797285236, 0, 0, 0, 0, 0, 0, 0, 0, 0, 0, 0, 0] : List UInt32)) 42] → G 2 #[true, true, false, false] ac wo := by
   intro ac121 wo122 En123 Hv124
   refine h_from hG ?_
   refine h_at 2 (by kernel_rfl) rfl ?_
   have hM126 : Heap wo122 [] := Hv124.heap.pick [] (by kernel_rfl) (by decide)
   refine op_call (d := some 18) (f := 19) (args := #[.slice (some ⟨bk1, 0, none⟩) 32 32]) En123 (by kernel_rfl) ((words_go _ (some ⟨bk1, 0, none⟩) 32 32 lk (by first | rfl | (simp; done) | (simp; omega) | omega) (bys_inbox (Hv124.heap.roBox (k := 0) (m := 32) rfl (load_whole (bys_lenh hk)) [] (by kernel_rfl) rfl) hk (by decide))).mono ?_)
   rintro _ wo128 ⟨aoq125, coq125, rfl, he131⟩
   refine ⟨_, rfl, ?_⟩
   intro ac127 En129
   have Hv130 : Ev w [] wo128 [.vec aoq125 coq125 1 (u32s (wordsF lk)) 23, .box bk1 (bys lk) 22, .box bk6 (bys ln) 24, .box bk11 (bys (List.replicate 64 0)) 28, .box bk18 (u32s ([1634760805, 857760878, 2036477234, 1797285236, 0, 0, 0, 0, 0, 0, 0, 0, 0, 0, 0, 0] : List UInt32)) 42] := Hv124.trans (Ev.call (R := [.box bk1 (bys lk) 22, .box bk6 (bys ln) 24, .box bk11 (bys (List.replicate 64 0)) 28, .box bk18 (u32s ([1634760805, 857760878, 2036477234, 1797285236, 0, 0, 0, 0, 0, 0, 0, 0, 0, 0, 0, 0] : List UInt32)) 42]) Hv124.heap [0, 1, 2, 3] (by kernel_rfl) (by decide) he131)
   clear hM126 he131
   refine ⟨fun _ => Hv130.pick [1] (by kernel_rfl) (by decide), ?_⟩
   refine h_at 3 (by kernel_rfl) rfl ?_
   have hcy132 : Nat.min (List.length (wordsF lk)) 12 = List.length (wordsF lk) := by show min _ _ = _; omega
   refine op_copybox (d := some 19) (dT := 43) (sT := 43) (ty := 3) (elem := 23) (b := bk18) (off := 4) (k := 4) (m := List.length (wordsF lk)) (xs := u32s (wordsF lk)) (ys := u32s (wordsF lk)) (dLen := 12) (dCap := 12) (so := aoq125) (sLen := List.length (wordsF lk)) (sCap := coq125) En129 (by kernel_rfl) Hv130 rfl (by kernel_rfl) (by kernel_rfl) (Hv130.heap.reads (k := 0) rfl) (u32s_vnz Hv130.heap (k := 0) rfl) hcy132 (List.take_of_length_le (by simp [u32s])) (u32s_lenh (rfl : List.length (wordsF lk) = List.length (wordsF lk))) (by rw [u32s_lenh (show List.length ([1634760805, 857760878, 2036477234, 1797285236, 0, 0, 0, 0, 0, 0, 0, 0, 0, 0, 0, 0] : List UInt32) = 16 from rfl)]; omega) (u32s_one _) (cs' := u32s (List.take 4 ([1634760805, 857760878, 2036477234, 1797285236, 0, 0, 0, 0, 0, 0, 0, 0, 0, 0, 0, 0] : List UInt32) ++ (wordsF lk) ++ List.drop (4 + (List.length (wordsF lk))) ([1634760805, 857760878, 2036477234, 1797285236, 0, 0, 0, 0, 0, 0, 0, 0, 0, 0, 0, 0] : List UInt32))) (by simp [u32s, List.map_append, List.map_take, List.map_drop]) (L' := [.vec aoq125 coq125 1 (u32s (wordsF lk)) 23, .box bk1 (bys lk) 22, .box bk6 (bys ln) 24, .box bk11 (bys (List.replicate 64 0)) 28, .box bk18 (u32s (List.take 4 ([1634760805, 857760878, 2036477234, 1797285236, 0, 0, 0, 0, 0, 0, 0, 0, 0, 0, 0, 0] : List UInt32) ++ (wordsF lk) ++ List.drop (4 + (List.length (wordsF lk))) ([1634760805, 857760878, 2036477234, 1797285236, 0, 0, 0, 0, 0, 0, 0, 0, 0, 0, 0, 0] : List UInt32))) 42]) rfl ?_
   intro ac133 wo134  En135 Hv136
   refine ⟨fun _ => Hv136.pick [1] (by kernel_rfl) (by decide), ?_⟩
   exact h_end (by kernel_rfl) ⟨En135.sub (by kernel_rfl), Hv136.pick [2, 3, 4] (by kernel_rfl) (by decide)⟩
  have nd137 : ∀ (ac : Act) (wo : World) (aoq106 : _) (coq106 : _), Env ac 85 [(1, uv32 c), (5, pt bk6), (6, pt bk11), (7, pt bk18), (18, .slice aoq106 (List.length (wordsF lk)) coq106)] → Ev w [] wo [.vec aoq106 coq106 1 (u32s (wordsF lk)) 23, .box bk1 (bys lk) 22, .box bk6 (bys ln) 24, .box bk11 (bys (List.replicate 64 0)) 28, .box bk18 (u32s ([1634760805, 857760878, 2036477234, 1797285236, 0, 0, 0, 0, 0, 0, 0, 0, 0, 0, 0, 0] : List UInt32)) 42] → G 2 #[false, true, true, false] ac wo := by
   intro ac138 wo139 aoq106 coq106 En140 Hv141
   refine h_from hG ?_
   refine h_at 0 (by kernel_rfl) rfl ?_
   refine op_slicearr (d := some 16) (t := 42) (e := 23) (sz := 1) (m := 16) (lo := 4) (hi := 16) (b := bk18) (off := 0) (lov := (some (.int .i64 4))) (hiv := none) (o := 4) En140 (by kernel_rfl) (by kernel_rfl) (by kernel_rfl) (by omega) (by omega) (by omega) (.inr ⟨.i64, rfl⟩) (.inl ⟨rfl, rfl⟩) (by omega) ?_
   intro ac142 En143
   refine ⟨fun _ => Hv141.pick [1] (by kernel_rfl) (by decide), ?_⟩
   refine h_at 3 (by kernel_rfl) rfl ?_
   have hcy144 : Nat.min (List.length (wordsF lk)) 12 = List.length (wordsF lk) := by show min _ _ = _; omega
   refine op_copybox (d := some 19) (dT := 43) (sT := 43) (ty := 3) (elem := 23) (b := bk18) (off := 4) (k := 4) (m := List.length (wordsF lk)) (xs := u32s (wordsF lk)) (ys := u32s (wordsF lk)) (dLen := 12) (dCap := 12) (so := aoq106) (sLen := List.length (wordsF lk)) (sCap := coq106) En143 (by kernel_rfl) Hv141 rfl (by kernel_rfl) (by kernel_rfl) (Hv141.heap.reads (k := 0) rfl) (u32s_vnz Hv141.heap (k := 0) rfl) hcy144 (List.take_of_length_le (by simp [u32s])) (u32s_lenh (rfl : List.length (wordsF lk) = List.length (wordsF lk))) (by rw [u32s_lenh (show List.length ([1634760805, 857760878, 2036477234, 1797285236, 0, 0, 0, 0, 0, 0, 0, 0, 0, 0, 0, 0] : List UInt32) = 16 from rfl)]; omega) (u32s_one _) (cs' := u32s (List.take 4 ([1634760805, 857760878, 2036477234, 1797285236, 0, 0, 0, 0, 0, 0, 0, 0, 0, 0, 0, 0] : List UInt32) ++ (wordsF lk) ++ List.drop (4 + (List.length (wordsF lk))) ([1634760805, 857760878, 2036477234, 1797285236, 0, 0, 0, 0, 0, 0, 0, 0, 0, 0, 0, 0] : List UInt32))) (by simp [u32s, List.map_append, List.map_take, List.map_drop]) (L' := [.vec aoq106 coq106 1 (u32s (wordsF lk)) 23, .box bk1 (bys lk) 22, .box bk6 (bys ln) 24, .box bk11 (bys (List.replicate 64 0)) 28, .box bk18 (u32s (List.take 4 ([1634760805, 857760878, 2036477234, 1797285236, 0, 0, 0, 0, 0, 0, 0, 0, 0, 0, 0, 0] : List UInt32) ++ (wordsF lk) ++ List.drop (4 + (List.length (wordsF lk))) ([1634760805, 857760878, 2036477234, 1797285236, 0, 0, 0, 0, 0, 0, 0, 0, 0, 0, 0, 0] : List UInt32))) 42]) rfl ?_
   intro ac145 wo146  En147 Hv148
   refine ⟨fun _ => Hv148.pick [1] (by kernel_rfl) (by decide), ?_⟩
   exact h_end (by kernel_rfl) ⟨En147.sub (by kernel_rfl), Hv148.pick [2, 3, 4] (by kernel_rfl) (by decide)⟩
  have nd149 : ∀ (ac : Act) (wo : World), Env ac 85 [(1, uv32 c), (3, pt bk1), (5, pt bk6), (6, pt bk11), (7, pt bk18), (16, .slice (some ⟨bk18, 4, none⟩) 12 12)] → Ev w [] wo [.box bk1 (bys lk) 22, .box bk6 (bys ln) 24, .box bk11 (bys (List.replicate 64 0)) 28, .box bk18 (u32s ([1634760805, 857760878, 2036477234, 1797285236, 0, 0, 0, 0, 0, 0, 0, 0, 0, 0, 0, 0] : List UInt32)) 42] → G 3 #[true, false, false, false] ac wo := by
   intro ac150 wo151 En152 Hv153
   refine h_from hG ?_
   refine h_at 1 (by kernel_rfl) rfl ?_
   refine op_slicearr (d := some 17) (t := 22) (e := 5) (sz := 1) (m := 32) (lo := 0) (hi := 32) (b := bk1) (off := 0) (lov := none) (hiv := none) (o := 0) En152 (by kernel_rfl) (by kernel_rfl) (by kernel_rfl) (by omega) (by omega) (by omega) (.inl ⟨rfl, rfl⟩) (.inl ⟨rfl, rfl⟩) (by omega) ?_
   intro ac154 En155
   refine ⟨fun _ => Hv153.pick [0] (by kernel_rfl) (by decide), ?_⟩
   refine h_at 2 (by kernel_rfl) rfl ?_
   have hM157 : Heap wo151 [] := Hv153.heap.pick [] (by kernel_rfl) (by decide)
   refine op_call (d := some 18) (f := 19) (args := #[.slice (some ⟨bk1, 0, none⟩) 32 32]) En155 (by kernel_rfl) ((words_go _ (some ⟨bk1, 0, none⟩) 32 32 lk (by first | rfl | (simp; done) | (simp; omega) | omega) (bys_inbox (Hv153.heap.roBox (k := 0) (m := 32) rfl (load_whole (bys_lenh hk)) [] (by kernel_rfl) rfl) hk (by decide))).mono ?_)
   rintro _ wo159 ⟨aoq156, coq156, rfl, he162⟩
   refine ⟨_, rfl, ?_⟩
   intro ac158 En160
   have Hv161 : Ev w [] wo159 [.vec aoq156 coq156 1 (u32s (wordsF lk)) 23, .box bk1 (bys lk) 22, .box bk6 (bys ln) 24, .box bk11 (bys (List.replicate 64 0)) 28, .box bk18 (u32s ([1634760805, 857760878, 2036477234, 1797285236, 0, 0, 0, 0, 0, 0, 0, 0, 0, 0, 0, 0] : List UInt32)) 42] := Hv153.trans (Ev.call (R := [.box bk1 (bys lk) 22, .box bk6 (bys ln) 24, .box bk11 (bys (List.replicate 64 0)) 28, .box bk18 (u32s ([1634760805, 857760878, 2036477234, 1797285236, 0, 0, 0, 0, 0, 0, 0, 0, 0, 0, 0, 0] : List UInt32)) 42]) Hv153.heap [0, 1, 2, 3] (by kernel_rfl) (by decide) he162)
   clear hM157 he162
   refine ⟨fun _ => Hv161.pick [1] (by kernel_rfl) (by decide), ?_⟩
   refine h_at 3 (by kernel_rfl) rfl ?_
   have hcy163 : Nat.min (List.length (wordsF lk)) 12 = List.length (wordsF lk) := by show min _ _ = _; omega
   refine op_copybox (d := some 19) (dT := 43) (sT := 43) (ty := 3) (elem := 23) (b := bk18) (off := 4) (k := 4) (m := List.length (wordsF lk)) (xs := u32s (wordsF lk)) (ys := u32s (wordsF lk)) (dLen := 12) (dCap := 12) (so := aoq156) (sLen := List.length (wordsF lk)) (sCap := coq156) En160 (by kernel_rfl) Hv161 rfl (by kernel_rfl) (by kernel_rfl) (Hv161.heap.reads (k := 0) rfl) (u32s_vnz Hv161.heap (k := 0) rfl) hcy163 (List.take_of_length_le (by simp [u32s])) (u32s_lenh (rfl : List.length (wordsF lk) = List.length (wordsF lk))) (by rw [u32s_lenh (show List.length ([1634760805, 857760878, 2036477234, 1797285236, 0, 0, 0, 0, 0, 0, 0, 0, 0, 0, 0, 0] : List UInt32) = 16 from rfl)]; omega) (u32s_one _) (cs' := u32s (List.take 4 ([1634760805, 857760878, 2036477234, 1797285236, 0, 0, 0, 0, 0, 0, 0, 0, 0, 0, 0, 0] : List UInt32) ++ (wordsF lk) ++ List.drop (4 + (List.length (wordsF lk))) ([1634760805, 857760878, 2036477234, 1797285236, 0, 0, 0, 0, 0, 0, 0, 0, 0, 0, 0, 0] : List UInt32))) (by simp [u32s, List.map_append, List.map_take, List.map_drop]) (L' := [.vec aoq156 coq156 1 (u32s (wordsF lk)) 23, .box bk1 (bys lk) 22, .box bk6 (bys ln) 24, .box bk11 (bys (List.replicate 64 0)) 28, .box bk18 (u32s (List.take 4 ([1634760805, 857760878, 2036477234, 1797285236, 0, 0, 0, 0, 0, 0, 0, 0, 0, 0, 0, 0] : List UInt32) ++ (wordsF lk) ++ List.drop (4 + (List.length (wordsF lk))) ([1634760805, 857760878, 2036477234, 1797285236, 0, 0, 0, 0, 0, 0, 0, 0, 0, 0, 0, 0] : List UInt32))) 42]) rfl ?_
   intro ac164 wo165  En166 Hv167
   refine ⟨fun _ => Hv167.pick [1] (by kernel_rfl) (by decide), ?_⟩
   exact h_end (by kernel_rfl) ⟨En166.sub (by kernel_rfl), Hv167.pick [2, 3, 4] (by kernel_rfl) (by decide)⟩
  have nd168 : ∀ (ac : Act) (wo : World), Env ac 85 [(1, uv32 c), (5, pt bk6), (6, pt bk11), (7, pt bk18), (17, .slice (some ⟨bk1, 0, none⟩) 32 32)] → Ev w [] wo [.box bk1 (bys lk) 22, .box bk6 (bys ln) 24, .box bk11 (bys (List.replicate 64 0)) 28, .box bk18 (u32s ([1634760805, 857760878, 2036477234, 1797285236, 0, 0, 0, 0, 0, 0, 0, 0, 0, 0, 0, 0] : List UInt32)) 42] → G 3 #[false, true, false, false] ac wo := by
   intro ac169 wo170 En171 Hv172
   refine h_from hG ?_
   refine h_ways [0, 2] (by kernel_rfl) rfl ?_
   refine ⟨?_, ?_, trivial⟩
   ·
    rintro _ rfl
    refine op_slicearr (d := some 16) (t := 42) (e := 23) (sz := 1) (m := 16) (lo := 4) (hi := 16) (b := bk18) (off := 0) (lov := (some (.int .i64 4))) (hiv := none) (o := 4) En171 (by kernel_rfl) (by kernel_rfl) (by kernel_rfl) (by omega) (by omega) (by omega) (.inr ⟨.i64, rfl⟩) (.inl ⟨rfl, rfl⟩) (by omega) ?_
    intro ac173 En174
    refine ⟨fun _ => Hv172.pick [0] (by kernel_rfl) (by decide), ?_⟩
    exact h_to hG (by kernel_rfl) (nd120 _ _ (En174.sub (by kernel_rfl)) (Hv172.pick [0, 1, 2, 3] (by kernel_rfl) (by decide)))
   ·
    rintro _ rfl
    have hM176 : Heap wo170 [] := Hv172.heap.pick [] (by kernel_rfl) (by decide)
    refine op_call (d := some 18) (f := 19) (args := #[.slice (some ⟨bk1, 0, none⟩) 32 32]) En171 (by kernel_rfl) ((words_go _ (some ⟨bk1, 0, none⟩) 32 32 lk (by first | rfl | (simp; done) | (simp; omega) | omega) (bys_inbox (Hv172.heap.roBox (k := 0) (m := 32) rfl (load_whole (bys_lenh hk)) [] (by kernel_rfl) rfl) hk (by decide))).mono ?_)
    rintro _ wo178 ⟨aoq175, coq175, rfl, he181⟩
    refine ⟨_, rfl, ?_⟩
    intro ac177 En179
    have Hv180 : Ev w [] wo178 [.vec aoq175 coq175 1 (u32s (wordsF lk)) 23, .box bk1 (bys lk) 22, .box bk6 (bys ln) 24, .box bk11 (bys (List.replicate 64 0)) 28, .box bk18 (u32s ([1634760805, 857760878, 2036477234, 1797285236, 0, 0, 0, 0, 0, 0, 0, 0, 0, 0, 0, 0] : List UInt32)) 42] := Hv172.trans (Ev.call (R := [.box bk1 (bys lk) 22, .box bk6 (bys ln) 24, .box bk11 (bys (List.replicate 64 0)) 28, .box bk18 (u32s ([1634760805, 857760878, 2036477234, 1797285236, 0, 0, 0, 0, 0, 0, 0, 0, 0, 0, 0, 0] : List UInt32)) 42]) Hv172.heap [0, 1, 2, 3] (by kernel_rfl) (by decide) he181)
    clear hM176 he181
    refine ⟨fun _ => Hv180.pick [1] (by kernel_rfl) (by decide), ?_⟩
    exact h_to hG (by kernel_rfl) (nd137 _ _ aoq175 coq175 (En179.sub (by kernel_rfl)) (Hv180.pick [0, 1, 2, 3, 4] (by kernel_rfl) (by decide)))
  refine h_from hG ?_
  refine h_ways [0, 1] (by kernel_rfl) rfl ?_
  refine ⟨?_, ?_, trivial⟩
  ·
   rintro _ rfl
   refine op_slicearr (d := some 16) (t := 42) (e := 23) (sz := 1) (m := 16) (lo := 4) (hi := 16) (b := bk18) (off := 0) (lov := (some (.int .i64 4))) (hiv := none) (o := 4) En25 (by kernel_rfl) (by kernel_rfl) (by kernel_rfl) (by omega) (by omega) (by omega) (.inr ⟨.i64, rfl⟩) (.inl ⟨rfl, rfl⟩) (by omega) ?_
   intro ac182 En183
   refine ⟨fun _ => wo27.pick [0] (by kernel_rfl) (by decide), ?_⟩
   exact h_to hG (by kernel_rfl) (nd149 _ _ (En183.sub (by kernel_rfl)) (wo27.pick [0, 1, 2, 3] (by kernel_rfl) (by decide)))
  ·
   rintro _ rfl
   refine op_slicearr (d := some 17) (t := 22) (e := 5) (sz := 1) (m := 32) (lo := 0) (hi := 32) (b := bk1) (off := 0) (lov := none) (hiv := none) (o := 0) En25 (by kernel_rfl) (by kernel_rfl) (by kernel_rfl) (by omega) (by omega) (by omega) (.inl ⟨rfl, rfl⟩) (.inl ⟨rfl, rfl⟩) (by omega) ?_
   intro ac184 En185
   refine ⟨fun _ => wo27.pick [0] (by kernel_rfl) (by decide), ?_⟩
   exact h_to hG (by kernel_rfl) (nd168 _ _ (En185.sub (by kernel_rfl)) (wo27.pick [0, 1, 2, 3] (by kernel_rfl) (by decide)))
 rintro ac186 wo187 ⟨En188, Hv189⟩
 refine then_normal ?_
 refine wp_seq ?_
 refine region_from ?_
 refine d_pures [(5, pt bk6), (6, pt bk11), (7, pt bk18), (20, uv32 c)] [uv32 c] 1 En188 (by kernel_rfl) (by kernel_rfl) rfl ?_
 intro ac190 En191
 refine from_op (by kernel_rfl) ?_
 refine op_val (d := some 21) (x := Instr.indexAt 42 (pt bk18) (.int .i64 12)) (v := .pointer (some ⟨bk18, 12, none⟩)) En191 (by kernel_rfl) (Go.Dbr.run_indexarr (e := 23) (sz := 1) (m := 16) (j := 12) (o := 12) (by kernel_rfl) (by kernel_rfl) (by omega) (by omega) (by omega) _) ?_
 intro ac192 En193
 refine from_op (by kernel_rfl) ?_
 have hb194 : 12 < List.length (List.take 4 ([1634760805, 857760878, 2036477234, 1797285236, 0, 0, 0, 0, 0, 0, 0, 0, 0, 0, 0, 0] : List UInt32) ++ (wordsF lk) ++ List.drop (4 + (List.length (wordsF lk))) ([1634760805, 857760878, 2036477234, 1797285236, 0, 0, 0, 0, 0, 0, 0, 0, 0, 0, 0, 0] : List UInt32)) := by rw [(copy_len (show List.length ([1634760805, 857760878, 2036477234, 1797285236, 0, 0, 0, 0, 0, 0, 0, 0, 0, 0, 0, 0] : List UInt32) = 16 from rfl) (rfl : List.length (wordsF lk) = List.length (wordsF lk)) (by omega))]; omega
 refine op_storebox2 (d := none) (t := 23) (b := bk18) (off := 12) (k := 2) (v := uv32 c) En193 (by kernel_rfl) Hv189 rfl (u32s_getD hb194) (by kernel_rfl) rfl (u32s_set _ _ _) (L' := [.box bk6 (bys ln) 24, .box bk11 (bys (List.replicate 64 0)) 28, .box bk18 (u32s (List.set (List.take 4 ([1634760805, 857760878, 2036477234, 1797285236, 0, 0, 0, 0, 0, 0, 0, 0, 0, 0, 0, 0] : List UInt32) ++ (wordsF lk) ++ List.drop (4 + (List.length (wordsF lk))) ([1634760805, 857760878, 2036477234, 1797285236, 0, 0, 0, 0, 0, 0, 0, 0, 0, 0, 0, 0] : List UInt32)) 12 c)) 42]) rfl ?_
 intro ac195 wo196  En197 Hv198
 refine from_end (by kernel_rfl) ?_
 refine then_normal ?_
 refine wp_seq ?_
 refine region_cut (F := fun ac wo => Env ac 85 [(6, pt bk11), (7, pt bk18)] ∧ Ev w [] wo [.box bk11 (bys (List.replicate 64 0)) 28, .box bk18 (u32s (List.take 13 (List.set (List.take 4 ([1634760805, 857760878, 2036477234, 1797285236, 0, 0, 0, 0, 0, 0, 0, 0, 0, 0, 0, 0] : List UInt32) ++ (wordsF lk) ++ List.drop (4 + (List.length (wordsF lk))) ([1634760805, 857760878, 2036477234, 1797285236, 0, 0, 0, 0, 0, 0, 0, 0, 0, 0, 0, 0] : List UInt32)) 12 c) ++ (wordsF ln) ++ List.drop (13 + (List.length (wordsF ln))) (List.set (List.take 4 ([1634760805, 857760878, 2036477234, 1797285236, 0, 0, 0, 0, 0, 0, 0, 0, 0, 0, 0, 0] : List UInt32) ++ (wordsF lk) ++ List.drop (4 + (List.length (wordsF lk))) ([1634760805, 857760878, 2036477234, 1797285236, 0, 0, 0, 0, 0, 0, 0, 0, 0, 0, 0, 0] : List UInt32)) 12 c))) 42]) ?_ ?_
 ·
  refine h_start (fun wv => Ev w [] wv [.box bk6 (bys ln) 24]) [] (by kernel_rfl) 4 (by kernel_rfl) ?_
  have wo199 := Hv198.trans (Ev.drew Hv198.heap)
  refine h_name fun G hG => ?_
  have nd292 : ∀ (ac : Act) (wo : World), Env ac 85 [(6, pt bk11), (7, pt bk18), (22, .slice (some ⟨bk18, 13, none⟩) 3 3), (23, .slice (some ⟨bk6, 0, none⟩) 12 12)] → Ev w [] wo [.box bk6 (bys ln) 24, .box bk11 (bys (List.replicate 64 0)) 28, .box bk18 (u32s (List.set (List.take 4 ([1634760805, 857760878, 2036477234, 1797285236, 0, 0, 0, 0, 0, 0, 0, 0, 0, 0, 0, 0] : List UInt32) ++ (wordsF lk) ++ List.drop (4 + (List.length (wordsF lk))) ([1634760805, 857760878, 2036477234, 1797285236, 0, 0, 0, 0, 0, 0, 0, 0, 0, 0, 0, 0] : List UInt32)) 12 c)) 42] → G 2 #[true, true, false, false] ac wo := by
   intro ac293 wo294 En295 Hv296
   refine h_from hG ?_
   refine h_at 2 (by kernel_rfl) rfl ?_
   have hM298 : Heap wo294 [] := Hv296.heap.pick [] (by kernel_rfl) (by decide)
   refine op_call (d := some 24) (f := 19) (args := #[.slice (some ⟨bk6, 0, none⟩) 12 12]) En295 (by kernel_rfl) ((words_go _ (some ⟨bk6, 0, none⟩) 12 12 ln (by first | rfl | (simp; done) | (simp; omega) | omega) (bys_inbox (Hv296.heap.roBox (k := 0) (m := 12) rfl (load_whole (bys_lenh hn)) [] (by kernel_rfl) rfl) hn (by decide))).mono ?_)
   rintro _ wo300 ⟨aoq297, coq297, rfl, he303⟩
   refine ⟨_, rfl, ?_⟩
   intro ac299 En301
   have Hv302 : Ev w [] wo300 [.vec aoq297 coq297 1 (u32s (wordsF ln)) 23, .box bk6 (bys ln) 24, .box bk11 (bys (List.replicate 64 0)) 28, .box bk18 (u32s (List.set (List.take 4 ([1634760805, 857760878, 2036477234, 1797285236, 0, 0, 0, 0, 0, 0, 0, 0, 0, 0, 0, 0] : List UInt32) ++ (wordsF lk) ++ List.drop (4 + (List.length (wordsF lk))) ([1634760805, 857760878, 2036477234, 1797285236, 0, 0, 0, 0, 0, 0, 0, 0, 0, 0, 0, 0] : List UInt32)) 12 c)) 42] := Hv296.trans (Ev.call (R := [.box bk6 (bys ln) 24, .box bk11 (bys (List.replicate 64 0)) 28, .box bk18 (u32s (List.set (List.take 4 ([1634760805, 857760878, 2036477234, 1797285236, 0, 0, 0, 0, 0, 0, 0, 0, 0, 0, 0, 0] : List UInt32) ++ (wordsF lk) ++ List.drop (4 + (List.length (wordsF lk))) ([1634760805, 857760878, 2036477234, 1797285236, 0, 0, 0, 0, 0, 0, 0, 0, 0, 0, 0, 0] : List UInt32)) 12 c)) 42]) Hv296.heap [0, 1, 2] (by kernel_rfl) (by decide) he303)
   clear hM298 he303
   refine ⟨fun _ => Hv302.pick [1] (by kernel_rfl) (by decide), ?_⟩
   refine h_at 3 (by kernel_rfl) rfl ?_
   have hcy304 : Nat.min (List.length (wordsF ln)) 3 = List.length (wordsF ln) := by show min _ _ = _; omega
   refine op_copybox (d := some 25) (dT := 43) (sT := 43) (ty := 3) (elem := 23) (b := bk18) (off := 13) (k := 3) (m := List.length (wordsF ln)) (xs := u32s (wordsF ln)) (ys := u32s (wordsF ln)) (dLen := 3) (dCap := 3) (so := aoq297) (sLen := List.length (wordsF ln)) (sCap := coq297) En301 (by kernel_rfl) Hv302 rfl (by kernel_rfl) (by kernel_rfl) (Hv302.heap.reads (k := 0) rfl) (u32s_vnz Hv302.heap (k := 0) rfl) hcy304 (List.take_of_length_le (by simp [u32s])) (u32s_lenh (rfl : List.length (wordsF ln) = List.length (wordsF ln))) (by rw [u32s_lenh (List.length_set.trans (copy_len (show List.length ([1634760805, 857760878, 2036477234, 1797285236, 0, 0, 0, 0, 0, 0, 0, 0, 0, 0, 0, 0] : List UInt32) = 16 from rfl) (rfl : List.length (wordsF lk) = List.length (wordsF lk)) (by omega)))]; omega) (u32s_one _) (cs' := u32s (List.take 13 (List.set (List.take 4 ([1634760805, 857760878, 2036477234, 1797285236, 0, 0, 0, 0, 0, 0, 0, 0, 0, 0, 0, 0] : List UInt32) ++ (wordsF lk) ++ List.drop (4 + (List.length (wordsF lk))) ([1634760805, 857760878, 2036477234, 1797285236, 0, 0, 0, 0, 0, 0, 0, 0, 0, 0, 0, 0] : List UInt32)) 12 c) ++ (wordsF ln) ++ List.drop (13 + (List.length (wordsF ln))) (List.set (List.take 4 ([1634760805, 857760878, 2036477234, 1797285236, 0, 0, 0, 0, 0, 0, 0, 0, 0, 0, 0, 0] : List UInt32) ++ (wordsF lk) ++ List.drop (4 + (List.length (wordsF lk))) ([1634760805, 857760878, 2036477234, 1797285236, 0, 0, 0, 0, 0, 0, 0, 0, 0, 0, 0, 0] : List UInt32)) 12 c))) (by simp [u32s, List.map_append, List.map_take, List.map_drop]) (L' := [.vec aoq297 coq297 1 (u32s (wordsF ln)) 23, .box bk6 (bys ln) 24, .box bk11 (bys (List.replicate 64 0)) 28, .box bk18 (u32s (List.take 13 (List.set (List.take 4 ([1634760805, 857760878, 2036477234, 1797285236, 0, 0, 0, 0, 0, 0, 0, 0, 0, 0, 0, 0] : List UInt32) ++ (wordsF lk) ++ List.drop (4 + (List.length (wordsF lk))) ([1634760805, 857760878, 2036477234, 1797285236, 0, 0, 0, 0, 0, 0, 0, 0, 0, 0, 0, 0] : List UInt32)) 12 c) ++ (wordsF ln) ++ List.drop (13 + (List.length (wordsF ln))) (List.set (List.take 4 ([1634760805, 857760878, 2036477234, 1797285236, 0, 0, 0, 0, 0, 0, 0, 0, 0, 0, 0, 0] : List UInt32) ++ (wordsF lk) ++ List.drop (4 + (List.length (wordsF lk))) ([1634760805, 857760878, 2036477234, 1797285236, 0, 0, 0, 0, 0, 0, 0, 0, 0, 0, 0, 0] : List UInt32)) 12 c))) 42]) rfl ?_
   intro ac305 wo306  En307 Hv308
   refine ⟨fun _ => Hv308.pick [1] (by kernel_rfl) (by decide), ?_⟩
   exact h_end (by kernel_rfl) ⟨En307.sub (by kernel_rfl), Hv308.pick [2, 3] (by kernel_rfl) (by decide)⟩
  have nd309 : ∀ (ac : Act) (wo : World) (aoq278 : _) (coq278 : _), Env ac 85 [(6, pt bk11), (7, pt bk18), (24, .slice aoq278 (List.length (wordsF ln)) coq278)] → Ev w [] wo [.vec aoq278 coq278 1 (u32s (wordsF ln)) 23, .box bk6 (bys ln) 24, .box bk11 (bys (List.replicate 64 0)) 28, .box bk18 (u32s (List.set (List.take 4 ([1634760805, 857760878, 2036477234, 1797285236, 0, 0, 0, 0, 0, 0, 0, 0, 0, 0, 0, 0] : List UInt32) ++ (wordsF lk) ++ List.drop (4 + (List.length (wordsF lk))) ([1634760805, 857760878, 2036477234, 1797285236, 0, 0, 0, 0, 0, 0, 0, 0, 0, 0, 0, 0] : List UInt32)) 12 c)) 42] → G 2 #[false, true, true, false] ac wo := by
   intro ac310 wo311 aoq278 coq278 En312 Hv313
   refine h_from hG ?_
   refine h_at 0 (by kernel_rfl) rfl ?_
   refine op_slicearr (d := some 22) (t := 42) (e := 23) (sz := 1) (m := 16) (lo := 13) (hi := 16) (b := bk18) (off := 0) (lov := (some (.int .i64 13))) (hiv := none) (o := 13) En312 (by kernel_rfl) (by kernel_rfl) (by kernel_rfl) (by omega) (by omega) (by omega) (.inr ⟨.i64, rfl⟩) (.inl ⟨rfl, rfl⟩) (by omega) ?_
   intro ac314 En315
   refine ⟨fun _ => Hv313.pick [1] (by kernel_rfl) (by decide), ?_⟩
   refine h_at 3 (by kernel_rfl) rfl ?_
   have hcy316 : Nat.min (List.length (wordsF ln)) 3 = List.length (wordsF ln) := by show min _ _ = _; omega
   refine op_copybox (d := some 25) (dT := 43) (sT := 43) (ty := 3) (elem := 23) (b := bk18) (off := 13) (k := 3) (m := List.length (wordsF ln)) (xs := u32s (wordsF ln)) (ys := u32s (wordsF ln)) (dLen := 3) (dCap := 3) (so := aoq278) (sLen := List.length (wordsF ln)) (sCap := coq278) En315 (by kernel_rfl) Hv313 rfl (by kernel_rfl) (by kernel_rfl) (Hv313.heap.reads (k := 0) rfl) (u32s_vnz Hv313.heap (k := 0) rfl) hcy316 (List.take_of_length_le (by simp [u32s])) (u32s_lenh (rfl : List.length (wordsF ln) = List.length (wordsF ln))) (by rw [u32s_lenh (List.length_set.trans (copy_len (show List.length ([1634760805, 857760878, 2036477234, 1797285236, 0, 0, 0, 0, 0, 0, 0, 0, 0, 0, 0, 0] : List UInt32) = 16 from rfl) (rfl : List.length (wordsF lk) = List.length (wordsF lk)) (by omega)))]; omega) (u32s_one _) (cs' := u32s (List.take 13 (List.set (List.take 4 ([1634760805, 857760878, 2036477234, 1797285236, 0, 0, 0, 0, 0, 0, 0, 0, 0, 0, 0, 0] : List UInt32) ++ (wordsF lk) ++ List.drop (4 + (List.length (wordsF lk))) ([1634760805, 857760878, 2036477234, 1797285236, 0, 0, 0, 0, 0, 0, 0, 0, 0, 0, 0, 0] : List UInt32)) 12 c) ++ (wordsF ln) ++ List.drop (13 + (List.length (wordsF ln))) (List.set (List.take 4 ([1634760805, 857760878, 2036477234, 1797285236, 0, 0, 0, 0, 0, 0, 0, 0, 0, 0, 0, 0] : List UInt32) ++ (wordsF lk) ++ List.drop (4 + (List.length (wordsF lk))) ([1634760805, 857760878, 2036477234, 1797285236, 0, 0, 0, 0, 0, 0, 0, 0, 0, 0, 0, 0] : List UInt32)) 12 c))) (by simp [u32s, List.map_append, List.map_take, List.map_drop]) (L' := [.vec aoq278 coq278 1 (u32s (wordsF ln)) 23, .box bk6 (bys ln) 24, .box bk11 (bys (List.replicate 64 0)) 28, .box bk18 (u32s (List.take 13 (List.set (List.take 4 ([1634760805, 857760878, 2036477234, 1797285236, 0, 0, 0, 0, 0, 0, 0, 0, 0, 0, 0, 0] : List UInt32) ++ (wordsF lk) ++ List.drop (4 + (List.length (wordsF lk))) ([1634760805, 857760878, 2036477234, 1797285236, 0, 0, 0, 0, 0, 0, 0, 0, 0, 0, 0, 0] : List UInt32)) 12 c) ++ (wordsF ln) ++ List.drop (13 + (List.length (wordsF ln))) (List.set (List.take 4 ([1634760805, 857760878, 2036477234, 1797285236, 0, 0, 0, 0, 0, 0, 0, 0, 0, 0, 0, 0] : List UInt32) ++ (wordsF lk) ++ List.drop (4 + (List.length (wordsF lk))) ([1634760805, 857760878, 2036477234, 1797285236, 0, 0, 0, 0, 0, 0, 0, 0, 0, 0, 0, 0] : List UInt32)) 12 c))) 42]) rfl ?_
   intro ac317 wo318  En319 Hv320
   refine ⟨fun _ => Hv320.pick [1] (by kernel_rfl) (by decide), ?_⟩
   exact h_end (by kernel_rfl) ⟨En319.sub (by kernel_rfl), Hv320.pick [2, 3] (by kernel_rfl) (by decide)⟩
  have nd321 : ∀ (ac : Act) (wo : World), Env ac 85 [(5, pt bk6), (6, pt bk11), (7, pt bk18), (22, .slice (some ⟨bk18, 13, none⟩) 3 3)] → Ev w [] wo [.box bk6 (bys ln) 24, .box bk11 (bys (List.replicate 64 0)) 28, .box bk18 (u32s (List.set (List.take 4 ([1634760805, 857760878, 2036477234, 1797285236, 0, 0, 0, 0, 0, 0, 0, 0, 0, 0, 0, 0] : List UInt32) ++ (wordsF lk) ++ List.drop (4 + (List.length (wordsF lk))) ([1634760805, 857760878, 2036477234, 1797285236, 0, 0, 0, 0, 0, 0, 0, 0, 0, 0, 0, 0] : List UInt32)) 12 c)) 42] → G 3 #[true, false, false, false] ac wo := by
   intro ac322 wo323 En324 Hv325
   refine h_from hG ?_
   refine h_at 1 (by kernel_rfl) rfl ?_
   refine op_slicearr (d := some 23) (t := 24) (e := 5) (sz := 1) (m := 12) (lo := 0) (hi := 12) (b := bk6) (off := 0) (lov := none) (hiv := none) (o := 0) En324 (by kernel_rfl) (by kernel_rfl) (by kernel_rfl) (by omega) (by omega) (by omega) (.inl ⟨rfl, rfl⟩) (.inl ⟨rfl, rfl⟩) (by omega) ?_
   intro ac326 En327
   refine ⟨fun _ => Hv325.pick [0] (by kernel_rfl) (by decide), ?_⟩
   refine h_at 2 (by kernel_rfl) rfl ?_
   have hM329 : Heap wo323 [] := Hv325.heap.pick [] (by kernel_rfl) (by decide)
   refine op_call (d := some 24) (f := 19) (args := #[.slice (some ⟨bk6, 0, none⟩) 12 12]) En327 (by kernel_rfl) ((words_go _ (some ⟨bk6, 0, none⟩) 12 12 ln (by first | rfl | (simp; done) | (simp; omega) | omega) (bys_inbox (Hv325.heap.roBox (k := 0) (m := 12) rfl (load_whole (bys_lenh hn)) [] (by kernel_rfl) rfl) hn (by decide))).mono ?_)
   rintro _ wo331 ⟨aoq328, coq328, rfl, he334⟩
   refine ⟨_, rfl, ?_⟩
   intro ac330 En332
   have Hv333 : Ev w [] wo331 [.vec aoq328 coq328 1 (u32s (wordsF ln)) 23, .box bk6 (bys ln) 24, .box bk11 (bys (List.replicate 64 0)) 28, .box bk18 (u32s (List.set (List.take 4 ([1634760805, 857760878, 2036477234, 1797285236, 0, 0, 0, 0, 0, 0, 0, 0, 0, 0, 0, 0] : List UInt32) ++ (wordsF lk) ++ List.drop (4 + (List.length (wordsF lk))) ([1634760805, 857760878, 2036477234, 1797285236, 0, 0, 0, 0, 0, 0, 0, 0, 0, 0, 0, 0] : List UInt32)) 12 c)) 42] := Hv325.trans (Ev.call (R := [.box bk6 (bys ln) 24, .box bk11 (bys (List.replicate 64 0)) 28, .box bk18 (u32s (List.set (List.take 4 ([1634760805, 857760878, 2036477234, 1797285236, 0, 0, 0, 0, 0, 0, 0, 0, 0, 0, 0, 0] : List UInt32) ++ (wordsF lk) ++ List.drop (4 + (List.length (wordsF lk))) ([1634760805, 857760878, 2036477234, 1797285236, 0, 0, 0, 0, 0, 0, 0, 0, 0, 0, 0, 0] : List UInt32)) 12 c)) 42]) Hv325.heap [0, 1, 2] (by kernel_rfl) (by decide) he334)
   clear hM329 he334
   refine ⟨fun _ => Hv333.pick [1] (by kernel_rfl) (by decide), ?_⟩
   refine h_at 3 (by kernel_rfl) rfl ?_
   have hcy335 : Nat.min (List.length (wordsF ln)) 3 = List.length (wordsF ln) := by show min _ _ = _; omega
   refine op_copybox (d := some 25) (dT := 43) (sT := 43) (ty := 3) (elem := 23) (b := bk18) (off := 13) (k := 3) (m := List.length (wordsF ln)) (xs := u32s (wordsF ln)) (ys := u32s (wordsF ln)) (dLen := 3) (dCap := 3) (so := aoq328) (sLen := List.length (wordsF ln)) (sCap := coq328) En332 (by kernel_rfl) Hv333 rfl (by kernel_rfl) (by kernel_rfl) (Hv333.heap.reads (k := 0) rfl) (u32s_vnz Hv333.heap (k := 0) rfl) hcy335 (List.take_of_length_le (by simp [u32s])) (u32s_lenh (rfl : List.length (wordsF ln) = List.length (wordsF ln))) (by rw [u32s_lenh (List.length_set.trans (copy_len (show List.length ([1634760805, 857760878, 2036477234, 1797285236, 0, 0, 0, 0, 0, 0, 0, 0, 0, 0, 0, 0] : List UInt32) = 16 from rfl) (rfl : List.length (wordsF lk) = List.length (wordsF lk)) (by omega)))]; omega) (u32s_one _) (cs' := u32s (List.take 13 (List.set (List.take 4 ([1634760805, 857760878, 2036477234, 1797285236, 0, 0, 0, 0, 0, 0, 0, 0, 0, 0, 0, 0] : List UInt32) ++ (wordsF lk) ++ List.drop (4 + (List.length (wordsF lk))) ([1634760805, 857760878, 2036477234, 1797285236, 0, 0, 0, 0, 0, 0, 0, 0, 0, 0, 0, 0] : List UInt32)) 12 c) ++ (wordsF ln) ++ List.drop (13 + (List.length (wordsF ln))) (List.set (List.take 4 ([1634760805, 857760878, 2036477234, 1797285236, 0, 0, 0, 0, 0, 0, 0, 0, 0, 0, 0, 0] : List UInt32) ++ (wordsF lk) ++ List.drop (4 + (List.length (wordsF lk))) ([1634760805, 857760878, 2036477234, 1797285236, 0, 0, 0, 0, 0, 0, 0, 0, 0, 0, 0, 0] : List UInt32)) 12 c))) (by simp [u32s, List.map_append, List.map_take, List.map_drop]) (L' := [.vec aoq328 coq328 1 (u32s (wordsF ln)) 23, .box bk6 (bys ln) 24, .box bk11 (bys (List.replicate 64 0)) 28, .box bk18 (u32s (List.take 13 (List.set (List.take 4 ([1634760805, 857760878, 2036477234, 1797285236, 0, 0, 0, 0, 0, 0, 0, 0, 0, 0, 0, 0] : List UInt32) ++ (wordsF lk) ++ List.drop (4 + (List.length (wordsF lk))) ([1634760805, 857760878, 2036477234, 1797285236, 0, 0, 0, 0, 0, 0, 0, 0, 0, 0, 0, 0] : List UInt32)) 12 c) ++ (wordsF ln) ++ List.drop (13 + (List.length (wordsF ln))) (List.set (List.take 4 ([1634760805, 857760878, 2036477234, 1797285236, 0, 0, 0, 0, 0, 0, 0, 0, 0, 0, 0, 0] : List UInt32) ++ (wordsF lk) ++ List.drop (4 + (List.length (wordsF lk))) ([1634760805, 857760878, 2036477234, 1797285236, 0, 0, 0, 0, 0, 0, 0, 0, 0, 0, 0, 0] : List UInt32)) 12 c))) 42]) rfl ?_
   intro ac336 wo337  En338 Hv339
   refine ⟨fun _ => Hv339.pick [1] (by kernel_rfl) (by decide), ?_⟩
   exact h_end (by kernel_rfl) ⟨En338.sub (by kernel_rfl), Hv339.pick [2, 3] (by kernel_rfl) (by decide)⟩
  have nd340 : ∀ (ac : Act) (wo : World), Env ac 85 [(6, pt bk11), (7, pt bk18), (23, .slice (some ⟨bk6, 0, none⟩) 12 12)] → Ev w [] wo [.box bk6 (bys ln) 24, .box bk11 (bys (List.replicate 64 0)) 28, .box bk18 (u32s (List.set (List.take 4 ([1634760805, 857760878, 2036477234, 1797285236, 0, 0, 0, 0, 0, 0, 0, 0, 0, 0, 0, 0] : List UInt32) ++ (wordsF lk) ++ List.drop (4 + (List.length (wordsF lk))) ([1634760805, 857760878, 2036477234, 1797285236, 0, 0, 0, 0, 0, 0, 0, 0, 0, 0, 0, 0] : List UInt32)) 12 c)) 42] → G 3 #[false, true, false, false] ac wo := by
   intro ac341 wo342 En343 Hv344
   refine h_from hG ?_
   refine h_ways [0, 2] (by kernel_rfl) rfl ?_
   refine ⟨?_, ?_, trivial⟩
   ·
    rintro _ rfl
    refine op_slicearr (d := some 22) (t := 42) (e := 23) (sz := 1) (m := 16) (lo := 13) (hi := 16) (b := bk18) (off := 0) (lov := (some (.int .i64 13))) (hiv := none) (o := 13) En343 (by kernel_rfl) (by kernel_rfl) (by kernel_rfl) (by omega) (by omega) (by omega) (.inr ⟨.i64, rfl⟩) (.inl ⟨rfl, rfl⟩) (by omega) ?_
    intro ac345 En346
    refine ⟨fun _ => Hv344.pick [0] (by kernel_rfl) (by decide), ?_⟩
    exact h_to hG (by kernel_rfl) (nd292 _ _ (En346.sub (by kernel_rfl)) (Hv344.pick [0, 1, 2] (by kernel_rfl) (by decide)))
   ·
    rintro _ rfl
    have hM348 : Heap wo342 [] := Hv344.heap.pick [] (by kernel_rfl) (by decide)
    refine op_call (d := some 24) (f := 19) (args := #[.slice (some ⟨bk6, 0, none⟩) 12 12]) En343 (by kernel_rfl) ((words_go _ (some ⟨bk6, 0, none⟩) 12 12 ln (by first | rfl | (simp; done) | (simp; omega) | omega) (bys_inbox (Hv344.heap.roBox (k := 0) (m := 12) rfl (load_whole (bys_lenh hn)) [] (by kernel_rfl) rfl) hn (by decide))).mono ?_)
    rintro _ wo350 ⟨aoq347, coq347, rfl, he353⟩
    refine ⟨_, rfl, ?_⟩
    intro ac349 En351
    have Hv352 : Ev w [] wo350 [.vec aoq347 coq347 1 (u32s (wordsF ln)) 23, .box bk6 (bys ln) 24, .box bk11 (bys (List.replicate 64 0)) 28, .box bk18 (u32s (List.set (List.take 4 ([1634760805, 857760878, 2036477234, 1797285236, 0, 0, 0, 0, 0, 0, 0, 0, 0, 0, 0, 0] : List UInt32) ++ (wordsF lk) ++ List.drop (4 + (List.length (wordsF lk))) ([1634760805, 857760878, 2036477234, 1797285236, 0, 0, 0, 0, 0, 0, 0, 0, 0, 0, 0, 0] : List UInt32)) 12 c)) 42] := Hv344.trans (Ev.call (R := [.box bk6 (bys ln) 24, .box bk11 (bys (List.replicate 64 0)) 28, .box bk18 (u32s (List.set (List.take 4 ([1634760805, 857760878, 2036477234, 1797285236, 0, 0, 0, 0, 0, 0, 0, 0, 0, 0, 0, 0] : List UInt32) ++ (wordsF lk) ++ List.drop (4 + (List.length (wordsF lk))) ([1634760805, 857760878, 2036477234, 1797285236, 0, 0, 0, 0, 0, 0, 0, 0, 0, 0, 0, 0] : List UInt32)) 12 c)) 42]) Hv344.heap [0, 1, 2] (by kernel_rfl) (by decide) he353)
    clear hM348 he353
    refine ⟨fun _ => Hv352.pick [1] (by kernel_rfl) (by decide), ?_⟩
    exact h_to hG (by kernel_rfl) (nd309 _ _ aoq347 coq347 (En351.sub (by kernel_rfl)) (Hv352.pick [0, 1, 2, 3] (by kernel_rfl) (by decide)))
  refine h_from hG ?_
  refine h_ways [0, 1] (by kernel_rfl) rfl ?_
  refine ⟨?_, ?_, trivial⟩
  ·
   rintro _ rfl
   refine op_slicearr (d := some 22) (t := 42) (e := 23) (sz := 1) (m := 16) (lo := 13) (hi := 16) (b := bk18) (off := 0) (lov := (some (.int .i64 13))) (hiv := none) (o := 13) En197 (by kernel_rfl) (by kernel_rfl) (by kernel_rfl) (by omega) (by omega) (by omega) (.inr ⟨.i64, rfl⟩) (.inl ⟨rfl, rfl⟩) (by omega) ?_
   intro ac354 En355
   refine ⟨fun _ => wo199.pick [0] (by kernel_rfl) (by decide), ?_⟩
   exact h_to hG (by kernel_rfl) (nd321 _ _ (En355.sub (by kernel_rfl)) (wo199.pick [0, 1, 2] (by kernel_rfl) (by decide)))
  ·
   rintro _ rfl
   refine op_slicearr (d := some 23) (t := 24) (e := 5) (sz := 1) (m := 12) (lo := 0) (hi := 12) (b := bk6) (off := 0) (lov := none) (hiv := none) (o := 0) En197 (by kernel_rfl) (by kernel_rfl) (by kernel_rfl) (by omega) (by omega) (by omega) (.inl ⟨rfl, rfl⟩) (.inl ⟨rfl, rfl⟩) (by omega) ?_
   intro ac356 En357
   refine ⟨fun _ => wo199.pick [0] (by kernel_rfl) (by decide), ?_⟩
   exact h_to hG (by kernel_rfl) (nd340 _ _ (En357.sub (by kernel_rfl)) (wo199.pick [0, 1, 2] (by kernel_rfl) (by decide)))
 rintro ac358 wo359 ⟨En360, Hv361⟩
 rw [show (List.take 13 (List.set (List.take 4 ([1634760805, 857760878, 2036477234, 1797285236, 0, 0, 0, 0, 0, 0, 0, 0, 0, 0, 0, 0] : List UInt32) ++ (wordsF lk) ++ List.drop (4 + (List.length (wordsF lk))) ([1634760805, 857760878, 2036477234, 1797285236, 0, 0, 0, 0, 0, 0, 0, 0, 0, 0, 0, 0] : List UInt32)) 12 c) ++ (wordsF ln) ++ List.drop (13 + (List.length (wordsF ln))) (List.set (List.take 4 ([1634760805, 857760878, 2036477234, 1797285236, 0, 0, 0, 0, 0, 0, 0, 0, 0, 0, 0, 0] : List UInt32) ++ (wordsF lk) ++ List.drop (4 + (List.length (wordsF lk))) ([1634760805, 857760878, 2036477234, 1797285236, 0, 0, 0, 0, 0, 0, 0, 0, 0, 0, 0, 0] : List UInt32)) 12 c)) = (initW lk c ln) from init_go hk hn c] at Hv361
 refine then_normal ?_
 refine wp_seq ?_
 refine region_from ?_
 refine from_op (by kernel_rfl) ?_
 refine op_loadaggbox (d := some 26) (t := 42) (b := bk18) (off := 0) (k := 1) (m := 16) (xs := u32s (initW lk c ln)) En360 (by kernel_rfl) Hv361 rfl (load_whole (u32s_lenh (initW_len lk c ln))) (u32s_lenh (initW_len lk c ln)) (by kernel_rfl) (by kernel_rfl) ?_
 intro ac362 En363
 refine from_op (by kernel_rfl) ?_
 refine op_alloc (d := some 8) (T := 42) (x := .tuple #[]) (z := .agg (List.toArray (u32s (List.replicate 16 0)))) (cs := u32s (List.replicate 16 0)) En363 (by kernel_rfl) (by kernel_rfl) (by kernel_rfl) Hv361 ?_
 intro ac365 wo366 bk364 En367 Hv368
 refine from_op (by kernel_rfl) ?_
 refine op_storeaggbox (d := none) (t := 42) (b := bk364) (off := 0) (k := 2) (m := 16) (xs := u32s (initW lk c ln)) (v := .agg (List.toArray (u32s (initW lk c ln)))) (cs' := u32s (initW lk c ln)) En367 (by kernel_rfl) Hv368 rfl rfl (u32s_lenh (initW_len lk c ln)) (by rw [(u32s_lenh (List.length_replicate))]; decide) (by kernel_rfl) (u32s_one _) (store_whole (u32s_lenh (List.length_replicate))) (L' := [.box bk11 (bys (List.replicate 64 0)) 28, .box bk18 (u32s (initW lk c ln)) 42, .box bk364 (u32s (initW lk c ln)) 42]) rfl ?_
 intro ac369 wo370  En371 Hv372
 refine from_end (by kernel_rfl) ?_
 refine then_normal ?_
 refine wp_seq ?_
 refine region_from ?_
 refine d_pures [(6, pt bk11), (7, pt bk18), (8, pt bk364), (27, .func (.func 20) #[] #[pt bk18])] [.func (.func 20) #[] #[pt bk18]] 1 En371 (by kernel_rfl) (by kernel_rfl) rfl ?_
 intro ac373 En374
 refine from_op (by kernel_rfl) ?_
 refine op_alloc (d := some 9) (T := 46) (x := .tuple #[]) (z := .nilFunc) (cs := [.nilFunc]) En374 (by kernel_rfl) (by kernel_rfl) (by kernel_rfl) Hv372 ?_
 intro ac376 wo377 bk375 En378 Hv379
 refine from_op (by kernel_rfl) ?_
 refine op_storebox2 (d := none) (t := 46) (b := bk375) (off := 0) (k := 3) (v := .func (.func 20) #[] #[pt bk18]) En378 (by kernel_rfl) Hv379 rfl rfl (by kernel_rfl) rfl rfl (L' := [.box bk11 (bys (List.replicate 64 0)) 28, .box bk18 (u32s (initW lk c ln)) 42, .box bk364 (u32s (initW lk c ln)) 42, .box bk375 [.func (.func 20) #[] #[pt bk18]] 46]) rfl ?_
 intro ac380 wo381  En382 Hv383
 refine from_end (by kernel_rfl) ?_
 refine then_normal ?_
 refine wp_seq ?_
 refine region_from ?_
 refine d_pures [(6, pt bk11), (7, pt bk18), (8, pt bk364), (9, pt bk375), (10, .func (.func 22) #[] #[pt bk375])] [.func (.func 22) #[] #[pt bk375], .func (.func 22) #[] #[pt bk375]] 2 En382 (by kernel_rfl) (by kernel_rfl) rfl ?_
 intro ac384 En385
 refine from_end (by kernel_rfl) ?_
 refine then_normal ?_
 refine wp_seq ?_
 refine wp_seq ?_
 refine region_from ?_
 refine d_pures [(6, pt bk11), (7, pt bk18), (8, pt bk364), (9, pt bk375), (10, .func (.func 22) #[] #[pt bk375]), (29, .int .i64 0)] [.int .i64 0] 1 En385 (by kernel_rfl) (by kernel_rfl) rfl ?_
 intro ac386 En387
 refine from_end (by kernel_rfl) ?_
 refine then_normal ?_
 refine wp_block ?_
 refine loop_m (fun ms388 ac wo => ∃ (i : Nat) (v : List UInt32), ms388 = (10 - i : Nat) ∧ Env ac 85 [(6, pt bk11), (7, pt bk18), (8, pt bk364), (9, pt bk375), (10, .func (.func 22) #[] #[pt bk375]), (29, ni i)] ∧ Ev w [] wo [.box bk18 (u32s v) 42, .box bk364 (u32s (initW lk c ln)) 42, .box bk11 (bys (List.replicate 64 0)) 28, .box bk375 [.func (.func 20) #[] #[pt bk18]] 46] ∧ (i ≤ 10) ∧ (v = rounds (initW lk c ln) i) ∧ (List.length v = 16)) ⟨_, 0, initW lk c ln, rfl, En387.sub (by kernel_rfl), Hv383.pick [1, 2, 0, 3] (by kernel_rfl) (by decide), by omega, rfl, (initW_len lk c ln)⟩ ?_
 rintro mm394 ac390 wo391 ⟨i, v, rfl, En392, Hv393, hi, hv, hl⟩
 refine wp_seq ?_
 refine region_from ?_
 refine d_pures [(6, pt bk11), (7, pt bk18), (8, pt bk364), (9, pt bk375), (10, .func (.func 22) #[] #[pt bk375]), (29, ni i), (30, .bool (decide (((i : Nat) : Int) < (10 : Int))))] [.bool (decide (((i : Nat) : Int) < (10 : Int)))] 1 En392 (by kernel_rfl) (by kernel_rfl) rfl ?_
 intro ac395 En396
 refine from_end (by kernel_rfl) ?_
 refine then_normal ?_
 refine wp_seq ?_
 refine cond_at En396 (t := decide (((i : Nat) : Int) < (10 : Int))) (by kernel_rfl) (fun hc397 => ?_) (fun hc397 => ?_)
 ·
  replace hc397 : ((i : Nat) : Int) < (10 : Int) := of_decide_eq_true hc397
  refine wp_skip ?_
  refine then_normal ?_
  refine wp_seq ?_
  refine wp_block ?_
  refine wp_seq ?_
  refine wp_seq ?_
  refine region_from ?_
  refine d_pures [(6, pt bk11), (7, pt bk18), (8, pt bk364), (9, pt bk375), (10, .func (.func 22) #[] #[pt bk375]), (29, ni i), (31, .int .i64 0)] [.int .i64 0] 1 En396 (by kernel_rfl) (by kernel_rfl) rfl ?_
  intro ac398 En399
  refine from_end (by kernel_rfl) ?_
  refine then_normal ?_
  refine wp_block ?_
  refine loop_m (fun ms400 ac wo => ∃ (k1 : Nat) (v3 : List UInt32), ms400 = (4 - k1 : Nat) ∧ Env ac 85 [(6, pt bk11), (7, pt bk18), (8, pt bk364), (9, pt bk375), (10, .func (.func 22) #[] #[pt bk375]), (29, ni i), (31, ni k1)] ∧ Ev w [] wo [.box bk18 (u32s v3) 42, .box bk364 (u32s (initW lk c ln)) 42, .box bk11 (bys (List.replicate 64 0)) 28, .box bk375 [.func (.func 20) #[] #[pt bk18]] 46] ∧ (k1 ≤ 4) ∧ (List.length v3 = 16) ∧ (v3 = rP v k1)) ⟨_, 0, v, rfl, En399.sub (by kernel_rfl), Hv393.pick [0, 1, 2, 3] (by kernel_rfl) (by decide), by omega, hl, rfl⟩ ?_
  rintro mm406 ac402 wo403 ⟨k1, v3, rfl, En404, Hv405, hiv3, hlv3, hev3⟩
  refine wp_seq ?_
  refine region_from ?_
  refine d_pures [(6, pt bk11), (7, pt bk18), (8, pt bk364), (9, pt bk375), (10, .func (.func 22) #[] #[pt bk375]), (29, ni i), (31, ni k1), (32, .bool (decide (((k1 : Nat) : Int) < (4 : Int))))] [.bool (decide (((k1 : Nat) : Int) < (4 : Int)))] 1 En404 (by kernel_rfl) (by kernel_rfl) rfl ?_
  intro ac407 En408
  refine from_end (by kernel_rfl) ?_
  refine then_normal ?_
  refine wp_seq ?_
  refine cond_at En408 (t := decide (((k1 : Nat) : Int) < (4 : Int))) (by kernel_rfl) (fun hc409 => ?_) (fun hc409 => ?_)
  ·
   replace hc409 : ((k1 : Nat) : Int) < (4 : Int) := of_decide_eq_true hc409
   refine wp_skip ?_
   refine then_normal ?_
   refine wp_seq ?_
   refine wp_block ?_
   refine wp_seq ?_
   refine region_from ?_
   refine d_pures [(6, pt bk11), (7, pt bk18), (8, pt bk364), (9, pt bk375), (10, .func (.func 22) #[] #[pt bk375]), (11, ni k1), (29, ni i), (31, ni k1)] [ni k1, ni k1] 2 En408 (by kernel_rfl) (by kernel_rfl) rfl ?_
   intro ac410 En411
   refine from_end (by kernel_rfl) ?_
   refine then_normal ?_
   refine region_from ?_
   refine d_pures [(6, pt bk11), (7, pt bk18), (8, pt bk364), (9, pt bk375), (10, .func (.func 22) #[] #[pt bk375]), (11, ni k1), (29, ni i), (31, ni k1), (34, .func (.func 22) #[] #[pt bk375]), (35, ni k1), (37, .int .i64 (IntKind.wrap .i64 (((k1 : Nat) : Int) + (4 : Int))))] [.func (.func 22) #[] #[pt bk375], ni k1, ni k1, .int .i64 (IntKind.wrap .i64 (((k1 : Nat) : Int) + (4 : Int)))] 4 En411 (by kernel_rfl) (by kernel_rfl) rfl ?_
   intro ac412 En413
   rw [Go.Dbr.wr64 (e := ((k1 : Nat) : Int) + (4 : Int)) (x := ((k1 + 4 : Nat) : Int)) (by omega) (by omega) (by omega)] at En413
   refine d_pures [(6, pt bk11), (7, pt bk18), (8, pt bk364), (9, pt bk375), (10, .func (.func 22) #[] #[pt bk375]), (11, ni k1), (29, ni i), (31, ni k1), (34, .func (.func 22) #[] #[pt bk375]), (35, ni k1), (37, .int .i64 ((k1 + 4 : Nat) : Int)), (39, .int .i64 (IntKind.wrap .i64 (((k1 : Nat) : Int) + (8 : Int))))] [ni k1, .int .i64 (IntKind.wrap .i64 (((k1 : Nat) : Int) + (8 : Int)))] 6 En413 (by kernel_rfl) (by kernel_rfl) rfl ?_
   intro ac414 En415
   rw [Go.Dbr.wr64 (e := ((k1 : Nat) : Int) + (8 : Int)) (x := ((k1 + 8 : Nat) : Int)) (by omega) (by omega) (by omega)] at En415
   refine d_pures [(6, pt bk11), (7, pt bk18), (8, pt bk364), (9, pt bk375), (10, .func (.func 22) #[] #[pt bk375]), (29, ni i), (31, ni k1), (34, .func (.func 22) #[] #[pt bk375]), (35, ni k1), (37, .int .i64 ((k1 + 4 : Nat) : Int)), (39, .int .i64 ((k1 + 8 : Nat) : Int)), (41, .int .i64 (IntKind.wrap .i64 (((k1 : Nat) : Int) + (12 : Int))))] [ni k1, .int .i64 (IntKind.wrap .i64 (((k1 : Nat) : Int) + (12 : Int)))] 8 En415 (by kernel_rfl) (by kernel_rfl) rfl ?_
   intro ac416 En417
   rw [Go.Dbr.wr64 (e := ((k1 : Nat) : Int) + (12 : Int)) (x := ((k1 + 12 : Nat) : Int)) (by omega) (by omega) (by omega)] at En417
   refine from_op (by kernel_rfl) ?_
   have hM418 : Heap wo403 [.box bk18 (u32s v3) 42, .box bk375 [.func (.func 20) #[] #[pt bk18]] 46] := Hv405.heap.pick [0, 3] (by kernel_rfl) (by decide)
   refine op_call (d := some 42) (f := 22) (args := #[ni k1, .int .i64 ((k1 + 4 : Nat) : Int), .int .i64 ((k1 + 8 : Nat) : Int), .int .i64 ((k1 + 12 : Nat) : Int), pt bk375]) En417 (by kernel_rfl) ((quart_go _ bk18 bk375 v3 hlv3 k1 (k1 + 4) (k1 + 8) (k1 + 12) (by omega) (by omega) (by omega) (by omega) hM418).mono ?_)
   rintro _ wo420 ⟨rfl, he423⟩
   refine ⟨_, rfl, ?_⟩
   intro ac419 En421
   have Hv422 : Ev w [] wo420 [.box bk18 (u32s (quart v3 k1 (k1 + 4) (k1 + 8) (k1 + 12))) 42, .box bk375 [.func (.func 20) #[] #[pt bk18]] 46, .box bk364 (u32s (initW lk c ln)) 42, .box bk11 (bys (List.replicate 64 0)) 28] := Hv405.trans (Ev.call (R := [.box bk364 (u32s (initW lk c ln)) 42, .box bk11 (bys (List.replicate 64 0)) 28]) Hv405.heap [0, 3, 1, 2] (by kernel_rfl) (by decide) he423)
   clear hM418 he423
   refine from_end (by kernel_rfl) ?_
   refine block_normal ?_
   refine then_normal ?_
   refine region_from ?_
   refine d_pures [(6, pt bk11), (7, pt bk18), (8, pt bk364), (9, pt bk375), (10, .func (.func 22) #[] #[pt bk375]), (29, ni i), (31, ni k1), (43, .int .i64 (IntKind.wrap .i64 (((k1 : Nat) : Int) + (1 : Int))))] [.int .i64 (IntKind.wrap .i64 (((k1 : Nat) : Int) + (1 : Int)))] 1 En421 (by kernel_rfl) (by kernel_rfl) rfl ?_
   intro ac424 En425
   rw [Go.Dbr.wr64 (e := ((k1 : Nat) : Int) + (1 : Int)) (x := ((k1 + 1 : Nat) : Int)) (by omega) (by omega) (by omega)] at En425
   refine d_pures [(6, pt bk11), (7, pt bk18), (8, pt bk364), (9, pt bk375), (10, .func (.func 22) #[] #[pt bk375]), (29, ni i), (31, .int .i64 ((k1 + 1 : Nat) : Int))] [.int .i64 ((k1 + 1 : Nat) : Int)] 2 En425 (by kernel_rfl) (by kernel_rfl) rfl ?_
   intro ac426 En427
   refine from_end (by kernel_rfl) ?_
   refine then_normal ?_
   refine ⟨_, ⟨k1 + 1, (quart v3 k1 (k1 + 4) (k1 + 8) (k1 + 12)), rfl, En427.sub (by kernel_rfl), Hv422.pick [0, 2, 3, 1] (by kernel_rfl) (by decide), by omega, (quart_len hlv3 _ _ _ _), by first | (rw [hev3]; rfl) | (rw [hev3, hc2]; rfl) | rfl⟩, ?_⟩
   omega
  ·
   replace hc409 : ¬ (((k1 : Nat) : Int) < (4 : Int)) := of_decide_eq_false hc409
   refine wp_exit ?_
   refine then_exit ?_
   refine then_exit ?_
   refine block_exit ?_
   refine then_normal ?_
   refine wp_seq ?_
   have hnv3 : k1 = 4 := by omega
   have hfv3 : v3 = rP v 4 := by rw [hev3, hnv3] <;> rfl
   rw [show v3 = (rP v 4) from hfv3] at Hv405
   refine region_from ?_
   refine d_pures [(6, pt bk11), (7, pt bk18), (8, pt bk364), (9, pt bk375), (10, .func (.func 22) #[] #[pt bk375]), (29, ni i), (31, ni k1), (44, .int .i64 0)] [.int .i64 0] 1 En408 (by kernel_rfl) (by kernel_rfl) rfl ?_
   intro ac428 En429
   refine from_end (by kernel_rfl) ?_
   refine then_normal ?_
   refine wp_block ?_
   refine loop_m (fun ms430 ac wo => ∃ (k2 : Nat) (v4 : List UInt32), ms430 = (4 - k2 : Nat) ∧ Env ac 85 [(6, pt bk11), (7, pt bk18), (8, pt bk364), (9, pt bk375), (10, .func (.func 22) #[] #[pt bk375]), (29, ni i), (31, ni k1), (44, ni k2)] ∧ Ev w [] wo [.box bk18 (u32s v4) 42, .box bk364 (u32s (initW lk c ln)) 42, .box bk11 (bys (List.replicate 64 0)) 28, .box bk375 [.func (.func 20) #[] #[pt bk18]] 46] ∧ (k2 ≤ 4) ∧ (List.length v4 = 16) ∧ (v4 = rQ (rP v 4) k2)) ⟨_, 0, rP v 4, rfl, En429.sub (by kernel_rfl), Hv405.pick [0, 1, 2, 3] (by kernel_rfl) (by decide), by omega, (rP_len hl 4), rfl⟩ ?_
   rintro mm436 ac432 wo433 ⟨k2, v4, rfl, En434, Hv435, hiv4, hlv4, hev4⟩
   refine wp_seq ?_
   refine region_from ?_
   refine d_pures [(6, pt bk11), (7, pt bk18), (8, pt bk364), (9, pt bk375), (10, .func (.func 22) #[] #[pt bk375]), (29, ni i), (31, ni k1), (44, ni k2), (45, .bool (decide (((k2 : Nat) : Int) < (4 : Int))))] [.bool (decide (((k2 : Nat) : Int) < (4 : Int)))] 1 En434 (by kernel_rfl) (by kernel_rfl) rfl ?_
   intro ac437 En438
   refine from_end (by kernel_rfl) ?_
   refine then_normal ?_
   refine wp_seq ?_
   refine cond_at En438 (t := decide (((k2 : Nat) : Int) < (4 : Int))) (by kernel_rfl) (fun hc439 => ?_) (fun hc439 => ?_)
   ·
    replace hc439 : ((k2 : Nat) : Int) < (4 : Int) := of_decide_eq_true hc439
    refine wp_skip ?_
    refine then_normal ?_
    refine wp_seq ?_
    refine wp_block ?_
    refine wp_seq ?_
    refine region_from ?_
    refine d_pures [(6, pt bk11), (7, pt bk18), (8, pt bk364), (9, pt bk375), (10, .func (.func 22) #[] #[pt bk375]), (12, ni k2), (29, ni i), (31, ni k1), (44, ni k2)] [ni k2, ni k2] 2 En438 (by kernel_rfl) (by kernel_rfl) rfl ?_
    intro ac440 En441
    refine from_end (by kernel_rfl) ?_
    refine then_normal ?_
    refine region_from ?_
    refine d_pures [(6, pt bk11), (7, pt bk18), (8, pt bk364), (9, pt bk375), (10, .func (.func 22) #[] #[pt bk375]), (12, ni k2), (29, ni i), (31, ni k1), (44, ni k2), (47, .func (.func 22) #[] #[pt bk375]), (48, ni k2), (50, .int .i64 (IntKind.wrap .i64 (((k2 : Nat) : Int) + (1 : Int))))] [.func (.func 22) #[] #[pt bk375], ni k2, ni k2, .int .i64 (IntKind.wrap .i64 (((k2 : Nat) : Int) + (1 : Int)))] 4 En441 (by kernel_rfl) (by kernel_rfl) rfl ?_
    intro ac442 En443
    rw [Go.Dbr.wr64 (e := ((k2 : Nat) : Int) + (1 : Int)) (x := ((k2 + 1 : Nat) : Int)) (by omega) (by omega) (by omega)] at En443
    refine d_pures [(6, pt bk11), (7, pt bk18), (8, pt bk364), (9, pt bk375), (10, .func (.func 22) #[] #[pt bk375]), (12, ni k2), (29, ni i), (31, ni k1), (44, ni k2), (47, .func (.func 22) #[] #[pt bk375]), (48, ni k2), (51, .int .i64 (IntKind.wrap .i64 ((BitVec.ofInt (IntKind.bits .i64) ((k2 + 1 : Nat) : Int) &&& BitVec.ofInt (IntKind.bits .i64) (3 : Int)).toNat : Int)))] [.int .i64 (IntKind.wrap .i64 ((BitVec.ofInt (IntKind.bits .i64) ((k2 + 1 : Nat) : Int) &&& BitVec.ofInt (IntKind.bits .i64) (3 : Int)).toNat : Int))] 5 En443 (by kernel_rfl) (by kernel_rfl) rfl ?_
    intro ac444 En445
    rw [Go.Dbr.i64_mask_nat (n := k2 + 1) 2 3 (mi := 3) rfl (by decide) (by decide)] at En445
    refine d_pures [(6, pt bk11), (7, pt bk18), (8, pt bk364), (9, pt bk375), (10, .func (.func 22) #[] #[pt bk375]), (12, ni k2), (29, ni i), (31, ni k1), (44, ni k2), (47, .func (.func 22) #[] #[pt bk375]), (48, ni k2), (52, .int .i64 (IntKind.wrap .i64 ((4 : Int) + (((k2 + 1) % 4 : Nat) : Int))))] [.int .i64 (IntKind.wrap .i64 ((4 : Int) + (((k2 + 1) % 4 : Nat) : Int)))] 6 En445 (by kernel_rfl) (by kernel_rfl) rfl ?_
    intro ac446 En447
    rw [Go.Dbr.wr64 (e := (4 : Int) + (((k2 + 1) % 4 : Nat) : Int)) (x := ((4 + ((k2 + 1) % 4) : Nat) : Int)) (by omega) (by omega) (by omega)] at En447
    refine d_pures [(6, pt bk11), (7, pt bk18), (8, pt bk364), (9, pt bk375), (10, .func (.func 22) #[] #[pt bk375]), (12, ni k2), (29, ni i), (31, ni k1), (44, ni k2), (47, .func (.func 22) #[] #[pt bk375]), (48, ni k2), (52, .int .i64 ((4 + ((k2 + 1) % 4) : Nat) : Int)), (54, .int .i64 (IntKind.wrap .i64 (((k2 : Nat) : Int) + (2 : Int))))] [ni k2, .int .i64 (IntKind.wrap .i64 (((k2 : Nat) : Int) + (2 : Int)))] 8 En447 (by kernel_rfl) (by kernel_rfl) rfl ?_
    intro ac448 En449
    rw [Go.Dbr.wr64 (e := ((k2 : Nat) : Int) + (2 : Int)) (x := ((k2 + 2 : Nat) : Int)) (by omega) (by omega) (by omega)] at En449
    refine d_pures [(6, pt bk11), (7, pt bk18), (8, pt bk364), (9, pt bk375), (10, .func (.func 22) #[] #[pt bk375]), (12, ni k2), (29, ni i), (31, ni k1), (44, ni k2), (47, .func (.func 22) #[] #[pt bk375]), (48, ni k2), (52, .int .i64 ((4 + ((k2 + 1) % 4) : Nat) : Int)), (55, .int .i64 (IntKind.wrap .i64 ((BitVec.ofInt (IntKind.bits .i64) ((k2 + 2 : Nat) : Int) &&& BitVec.ofInt (IntKind.bits .i64) (3 : Int)).toNat : Int)))] [.int .i64 (IntKind.wrap .i64 ((BitVec.ofInt (IntKind.bits .i64) ((k2 + 2 : Nat) : Int) &&& BitVec.ofInt (IntKind.bits .i64) (3 : Int)).toNat : Int))] 9 En449 (by kernel_rfl) (by kernel_rfl) rfl ?_
    intro ac450 En451
    rw [Go.Dbr.i64_mask_nat (n := k2 + 2) 2 3 (mi := 3) rfl (by decide) (by decide)] at En451
    refine d_pures [(6, pt bk11), (7, pt bk18), (8, pt bk364), (9, pt bk375), (10, .func (.func 22) #[] #[pt bk375]), (12, ni k2), (29, ni i), (31, ni k1), (44, ni k2), (47, .func (.func 22) #[] #[pt bk375]), (48, ni k2), (52, .int .i64 ((4 + ((k2 + 1) % 4) : Nat) : Int)), (56, .int .i64 (IntKind.wrap .i64 ((8 : Int) + (((k2 + 2) % 4 : Nat) : Int))))] [.int .i64 (IntKind.wrap .i64 ((8 : Int) + (((k2 + 2) % 4 : Nat) : Int)))] 10 En451 (by kernel_rfl) (by kernel_rfl) rfl ?_
    intro ac452 En453
    rw [Go.Dbr.wr64 (e := (8 : Int) + (((k2 + 2) % 4 : Nat) : Int)) (x := ((8 + ((k2 + 2) % 4) : Nat) : Int)) (by omega) (by omega) (by omega)] at En453
    refine d_pures [(6, pt bk11), (7, pt bk18), (8, pt bk364), (9, pt bk375), (10, .func (.func 22) #[] #[pt bk375]), (29, ni i), (31, ni k1), (44, ni k2), (47, .func (.func 22) #[] #[pt bk375]), (48, ni k2), (52, .int .i64 ((4 + ((k2 + 1) % 4) : Nat) : Int)), (56, .int .i64 ((8 + ((k2 + 2) % 4) : Nat) : Int)), (58, .int .i64 (IntKind.wrap .i64 (((k2 : Nat) : Int) + (3 : Int))))] [ni k2, .int .i64 (IntKind.wrap .i64 (((k2 : Nat) : Int) + (3 : Int)))] 12 En453 (by kernel_rfl) (by kernel_rfl) rfl ?_
    intro ac454 En455
    rw [Go.Dbr.wr64 (e := ((k2 : Nat) : Int) + (3 : Int)) (x := ((k2 + 3 : Nat) : Int)) (by omega) (by omega) (by omega)] at En455
    refine d_pures [(6, pt bk11), (7, pt bk18), (8, pt bk364), (9, pt bk375), (10, .func (.func 22) #[] #[pt bk375]), (29, ni i), (31, ni k1), (44, ni k2), (47, .func (.func 22) #[] #[pt bk375]), (48, ni k2), (52, .int .i64 ((4 + ((k2 + 1) % 4) : Nat) : Int)), (56, .int .i64 ((8 + ((k2 + 2) % 4) : Nat) : Int)), (59, .int .i64 (IntKind.wrap .i64 ((BitVec.ofInt (IntKind.bits .i64) ((k2 + 3 : Nat) : Int) &&& BitVec.ofInt (IntKind.bits .i64) (3 : Int)).toNat : Int)))] [.int .i64 (IntKind.wrap .i64 ((BitVec.ofInt (IntKind.bits .i64) ((k2 + 3 : Nat) : Int) &&& BitVec.ofInt (IntKind.bits .i64) (3 : Int)).toNat : Int))] 13 En455 (by kernel_rfl) (by kernel_rfl) rfl ?_
    intro ac456 En457
    rw [Go.Dbr.i64_mask_nat (n := k2 + 3) 2 3 (mi := 3) rfl (by decide) (by decide)] at En457
    refine d_pures [(6, pt bk11), (7, pt bk18), (8, pt bk364), (9, pt bk375), (10, .func (.func 22) #[] #[pt bk375]), (29, ni i), (31, ni k1), (44, ni k2), (47, .func (.func 22) #[] #[pt bk375]), (48, ni k2), (52, .int .i64 ((4 + ((k2 + 1) % 4) : Nat) : Int)), (56, .int .i64 ((8 + ((k2 + 2) % 4) : Nat) : Int)), (60, .int .i64 (IntKind.wrap .i64 ((12 : Int) + (((k2 + 3) % 4 : Nat) : Int))))] [.int .i64 (IntKind.wrap .i64 ((12 : Int) + (((k2 + 3) % 4 : Nat) : Int)))] 14 En457 (by kernel_rfl) (by kernel_rfl) rfl ?_
    intro ac458 En459
    rw [Go.Dbr.wr64 (e := (12 : Int) + (((k2 + 3) % 4 : Nat) : Int)) (x := ((12 + ((k2 + 3) % 4) : Nat) : Int)) (by omega) (by omega) (by omega)] at En459
    refine from_op (by kernel_rfl) ?_
    have hM460 : Heap wo433 [.box bk18 (u32s v4) 42, .box bk375 [.func (.func 20) #[] #[pt bk18]] 46] := Hv435.heap.pick [0, 3] (by kernel_rfl) (by decide)
    refine op_call (d := some 61) (f := 22) (args := #[ni k2, .int .i64 ((4 + ((k2 + 1) % 4) : Nat) : Int), .int .i64 ((8 + ((k2 + 2) % 4) : Nat) : Int), .int .i64 ((12 + ((k2 + 3) % 4) : Nat) : Int), pt bk375]) En459 (by kernel_rfl) ((quart_go _ bk18 bk375 v4 hlv4 k2 (4 + ((k2 + 1) % 4)) (8 + ((k2 + 2) % 4)) (12 + ((k2 + 3) % 4)) (by omega) (by omega) (by omega) (by omega) hM460).mono ?_)
    rintro _ wo462 ⟨rfl, he465⟩
    refine ⟨_, rfl, ?_⟩
    intro ac461 En463
    have Hv464 : Ev w [] wo462 [.box bk18 (u32s (quart v4 k2 (4 + ((k2 + 1) % 4)) (8 + ((k2 + 2) % 4)) (12 + ((k2 + 3) % 4)))) 42, .box bk375 [.func (.func 20) #[] #[pt bk18]] 46, .box bk364 (u32s (initW lk c ln)) 42, .box bk11 (bys (List.replicate 64 0)) 28] := Hv435.trans (Ev.call (R := [.box bk364 (u32s (initW lk c ln)) 42, .box bk11 (bys (List.replicate 64 0)) 28]) Hv435.heap [0, 3, 1, 2] (by kernel_rfl) (by decide) he465)
    clear hM460 he465
    refine from_end (by kernel_rfl) ?_
    refine block_normal ?_
    refine then_normal ?_
    refine region_from ?_
    refine d_pures [(6, pt bk11), (7, pt bk18), (8, pt bk364), (9, pt bk375), (10, .func (.func 22) #[] #[pt bk375]), (29, ni i), (31, ni k1), (44, ni k2), (62, .int .i64 (IntKind.wrap .i64 (((k2 : Nat) : Int) + (1 : Int))))] [.int .i64 (IntKind.wrap .i64 (((k2 : Nat) : Int) + (1 : Int)))] 1 En463 (by kernel_rfl) (by kernel_rfl) rfl ?_
    intro ac466 En467
    rw [Go.Dbr.wr64 (e := ((k2 : Nat) : Int) + (1 : Int)) (x := ((k2 + 1 : Nat) : Int)) (by omega) (by omega) (by omega)] at En467
    refine d_pures [(6, pt bk11), (7, pt bk18), (8, pt bk364), (9, pt bk375), (10, .func (.func 22) #[] #[pt bk375]), (29, ni i), (31, ni k1), (44, .int .i64 ((k2 + 1 : Nat) : Int))] [.int .i64 ((k2 + 1 : Nat) : Int)] 2 En467 (by kernel_rfl) (by kernel_rfl) rfl ?_
    intro ac468 En469
    refine from_end (by kernel_rfl) ?_
    refine then_normal ?_
    refine ⟨_, ⟨k2 + 1, (quart v4 k2 (4 + ((k2 + 1) % 4)) (8 + ((k2 + 2) % 4)) (12 + ((k2 + 3) % 4))), rfl, En469.sub (by kernel_rfl), Hv464.pick [0, 2, 3, 1] (by kernel_rfl) (by decide), by omega, (quart_len hlv4 _ _ _ _), by first | (rw [hev4]; rfl) | (rw [hev4, hc2]; rfl) | rfl⟩, ?_⟩
    omega
   ·
    replace hc439 : ¬ (((k2 : Nat) : Int) < (4 : Int)) := of_decide_eq_false hc439
    refine wp_exit ?_
    refine then_exit ?_
    refine then_exit ?_
    refine block_exit ?_
    refine block_normal ?_
    refine then_normal ?_
    have hnv4 : k2 = 4 := by omega
    have hfv4 : v4 = rQ (rP v 4) 4 := by rw [hev4, hnv4] <;> rfl
    rw [show v4 = (rQ (rP v 4) 4) from hfv4] at Hv435
    rw [show (rQ (rP v 4) 4) = (round v) from round_go v] at Hv435
    refine region_from ?_
    refine d_pures [(6, pt bk11), (7, pt bk18), (8, pt bk364), (9, pt bk375), (10, .func (.func 22) #[] #[pt bk375]), (29, ni i), (31, ni k1), (44, ni k2), (63, .int .i64 (IntKind.wrap .i64 (((i : Nat) : Int) + (1 : Int))))] [.int .i64 (IntKind.wrap .i64 (((i : Nat) : Int) + (1 : Int)))] 1 En438 (by kernel_rfl) (by kernel_rfl) rfl ?_
    intro ac470 En471
    rw [Go.Dbr.wr64 (e := ((i : Nat) : Int) + (1 : Int)) (x := ((i + 1 : Nat) : Int)) (by omega) (by omega) (by omega)] at En471
    refine d_pures [(6, pt bk11), (7, pt bk18), (8, pt bk364), (9, pt bk375), (10, .func (.func 22) #[] #[pt bk375]), (29, .int .i64 ((i + 1 : Nat) : Int)), (31, ni k1), (44, ni k2)] [.int .i64 ((i + 1 : Nat) : Int)] 2 En471 (by kernel_rfl) (by kernel_rfl) rfl ?_
    intro ac472 En473
    refine from_end (by kernel_rfl) ?_
    refine then_normal ?_
    refine ⟨_, ⟨i + 1, round v, rfl, En473.sub (by kernel_rfl), Hv435.pick [0, 1, 2, 3] (by kernel_rfl) (by decide), by omega, by rw [hv]; rfl, (round_len hl)⟩, ?_⟩
    omega
 ·
  replace hc397 : ¬ (((i : Nat) : Int) < (10 : Int)) := of_decide_eq_false hc397
  refine wp_exit ?_
  refine then_exit ?_
  refine then_exit ?_
  refine block_exit ?_
  refine then_normal ?_
  refine wp_seq ?_
  refine region_from ?_
  refine from_op (by kernel_rfl) ?_
  refine op_alloc (d := some 13) (T := 28) (x := .tuple #[]) (z := .agg (List.toArray (bys (List.replicate 64 0)))) (cs := bys (List.replicate 64 0)) En396 (by kernel_rfl) (by kernel_rfl) (by kernel_rfl) Hv393 ?_
  intro ac475 wo476 bk474 En477 Hv478
  refine from_end (by kernel_rfl) ?_
  refine then_normal ?_
  refine wp_seq ?_
  refine wp_seq ?_
  refine region_from ?_
  refine d_pures [(6, pt bk11), (7, pt bk18), (8, pt bk364), (9, pt bk375), (10, .func (.func 22) #[] #[pt bk375]), (13, pt bk474), (29, ni i), (64, .int .i64 0)] [.int .i64 0] 1 En477 (by kernel_rfl) (by kernel_rfl) rfl ?_
  intro ac479 En480
  refine from_end (by kernel_rfl) ?_
  refine then_normal ?_
  refine wp_block ?_
  have hi10 : i = 10 := by omega
  refine loop_m (fun ms481 ac wo => ∃ (q : Nat) (o : List UInt8), ms481 = (64 - q : Nat) ∧ Env ac 85 [(6, pt bk11), (7, pt bk18), (8, pt bk364), (9, pt bk375), (10, .func (.func 22) #[] #[pt bk375]), (13, pt bk474), (29, ni i), (64, ni q)] ∧ Ev w [] wo [.box bk18 (u32s v) 42, .box bk364 (u32s (initW lk c ln)) 42, .box bk474 (bys o) 28, .box bk11 (bys (List.replicate 64 0)) 28, .box bk375 [.func (.func 20) #[] #[pt bk18]] 46] ∧ (q ≤ 64) ∧ (List.length o = 64) ∧ (∀ j, j < 64 → List.getD o j 0 = if j < q then byteAt v (initW lk c ln) j else 0)) ⟨_, 0, List.replicate 64 0, rfl, En480.sub (by kernel_rfl), Hv478.pick [0, 1, 4, 2, 3] (by kernel_rfl) (by decide), by omega, by simp, fun j hj => by rw [getD_replicate, if_neg (by omega)]⟩ ?_
  rintro mm487 ac483 wo484 ⟨q, o, rfl, En485, Hv486, hq, ho, hp⟩
  refine wp_seq ?_
  refine region_from ?_
  refine d_pures [(6, pt bk11), (7, pt bk18), (8, pt bk364), (9, pt bk375), (10, .func (.func 22) #[] #[pt bk375]), (13, pt bk474), (29, ni i), (64, ni q), (65, .bool (decide (((q : Nat) : Int) < (64 : Int))))] [.bool (decide (((q : Nat) : Int) < (64 : Int)))] 1 En485 (by kernel_rfl) (by kernel_rfl) rfl ?_
  intro ac488 En489
  refine from_end (by kernel_rfl) ?_
  refine then_normal ?_
  refine wp_seq ?_
  refine cond_at En489 (t := decide (((q : Nat) : Int) < (64 : Int))) (by kernel_rfl) (fun hc490 => ?_) (fun hc490 => ?_)
  ·
   replace hc490 : ((q : Nat) : Int) < (64 : Int) := of_decide_eq_true hc490
   refine wp_skip ?_
   refine then_normal ?_
   refine wp_seq ?_
   refine wp_block ?_
   refine wp_seq ?_
   refine region_from ?_
   refine d_pures [(6, pt bk11), (7, pt bk18), (8, pt bk364), (9, pt bk375), (10, .func (.func 22) #[] #[pt bk375]), (13, pt bk474), (14, ni q), (29, ni i), (64, ni q)] [ni q, ni q] 2 En489 (by kernel_rfl) (by kernel_rfl) rfl ?_
   intro ac491 En492
   refine from_end (by kernel_rfl) ?_
   refine then_normal ?_
   refine region_cut (F := fun ac wo => Env ac 85 [(6, pt bk11), (7, pt bk18), (8, pt bk364), (9, pt bk375), (10, .func (.func 22) #[] #[pt bk375]), (13, pt bk474), (29, ni i), (64, ni q)] ∧ Ev w [] wo [.box bk18 (u32s v) 42, .box bk364 (u32s (initW lk c ln)) 42, .box bk474 (bys (List.set o q (UInt32.toUInt8 (((List.getD v (q / 4) 0) + (List.getD (initW lk c ln) (q / 4) 0)) >>> UInt32.ofNat (8 * (q % 4)))))) 28, .box bk11 (bys (List.replicate 64 0)) 28, .box bk375 [.func (.func 20) #[] #[pt bk18]] 46]) ?_ ?_
   ·
    refine h_start (fun wv => Ev w [] wv [.box bk18 (u32s v) 42, .box bk364 (u32s (initW lk c ln)) 42]) [] (by kernel_rfl) 17 (by kernel_rfl) ?_
    have wo493 := Hv486.trans (Ev.drew Hv486.heap)
    refine h_pureR (d := some 67) En492 (v := ni q) 0 (by kernel_rfl) (by kernel_rfl) rfl (fun _ => wo493.pick [0, 1] (by kernel_rfl) (by decide)) ?_
    intro ac591 En592
    refine h_pureR (d := some 68) En592 (v := ni q) 1 (by kernel_rfl) (by kernel_rfl) rfl (fun _ => wo493.pick [0, 1] (by kernel_rfl) (by decide)) ?_
    intro ac593 En594
    refine h_pureR (d := some 69) En594 (v := .int .i64 (IntKind.wrap .i64 (Int.tdiv ((q : Nat) : Int) (4 : Int)))) 2 (by kernel_rfl) (by kernel_rfl) rfl (fun _ => wo493.pick [0, 1] (by kernel_rfl) (by decide)) ?_
    intro ac595 En596
    rw [show IntKind.wrap .i64 (Int.tdiv ((q : Nat) : Int) (4 : Int)) = ((q / 4 : Nat) : Int) from Go.Dbr.i64_quo_nat (a := ((q : Nat) : Int)) (n := q) (m := 4) rfl (by omega)] at En596
    refine h_free (d := some 70) (s := nv (Instr.indexAt 42 (pt bk18) (.int .i64 ((q / 4 : Nat) : Int)))) En596 (v := .pointer (some ⟨bk18, q / 4, none⟩)) 3 (by kernel_rfl) (fun _ => run_nv (Go.Dbr.run_indexarr (e := 23) (sz := 1) (m := 16) (j := q / 4) (o := q / 4) (by kernel_rfl) (by kernel_rfl) (by omega) (by omega) (by omega) _)) (by kernel_rfl) rfl (fun _ => wo493.pick [0, 1] (by kernel_rfl) (by decide)) ?_
    intro ac597 En598
    have hb599 : q / 4 < List.length v := by rw [hl]; omega
    refine h_read (d := some 71) (s := nv (Instr.loadAt 23 (.pointer (some ⟨bk18, q / 4, none⟩)))) En598 (v := .int .u32 ((UInt32.toNat (List.getD v (q / 4) 0) : Nat) : Int)) 4 (by kernel_rfl) (fun w hS => run_nv (run_load1 (by kernel_rfl) (hS.heap.cell (k := 0) rfl (u32s_getD hb599)))) (by kernel_rfl) rfl (wo493.pick [0, 1] (by kernel_rfl) (by decide)) ?_
    intro ac600 En601
    refine h_pureR (d := some 72) En601 (v := ni q) 5 (by kernel_rfl) (by kernel_rfl) rfl (fun _ => wo493.pick [0, 1] (by kernel_rfl) (by decide)) ?_
    intro ac602 En603
    refine h_pureR (d := some 73) En603 (v := .int .i64 (IntKind.wrap .i64 (Int.tdiv ((q : Nat) : Int) (4 : Int)))) 6 (by kernel_rfl) (by kernel_rfl) rfl (fun _ => wo493.pick [0, 1] (by kernel_rfl) (by decide)) ?_
    intro ac604 En605
    rw [show IntKind.wrap .i64 (Int.tdiv ((q : Nat) : Int) (4 : Int)) = ((q / 4 : Nat) : Int) from Go.Dbr.i64_quo_nat (a := ((q : Nat) : Int)) (n := q) (m := 4) rfl (by omega)] at En605
    refine h_free (d := some 74) (s := nv (Instr.indexAt 42 (pt bk364) (.int .i64 ((q / 4 : Nat) : Int)))) En605 (v := .pointer (some ⟨bk364, q / 4, none⟩)) 7 (by kernel_rfl) (fun _ => run_nv (Go.Dbr.run_indexarr (e := 23) (sz := 1) (m := 16) (j := q / 4) (o := q / 4) (by kernel_rfl) (by kernel_rfl) (by omega) (by omega) (by omega) _)) (by kernel_rfl) rfl (fun _ => wo493.pick [0, 1] (by kernel_rfl) (by decide)) ?_
    intro ac606 En607
    have hb608 : q / 4 < List.length (initW lk c ln) := by rw [(initW_len lk c ln)]; omega
    refine h_read (d := some 75) (s := nv (Instr.loadAt 23 (.pointer (some ⟨bk364, q / 4, none⟩)))) En607 (v := .int .u32 ((UInt32.toNat (List.getD (initW lk c ln) (q / 4) 0) : Nat) : Int)) 8 (by kernel_rfl) (fun w hS => run_nv (run_load1 (by kernel_rfl) (hS.heap.cell (k := 1) rfl (u32s_getD hb608)))) (by kernel_rfl) rfl (wo493.pick [0, 1] (by kernel_rfl) (by decide)) ?_
    intro ac609 En610
    refine h_pureR (d := some 76) En610 (v := .int .u32 (IntKind.wrap .u32 (((UInt32.toNat (List.getD v (q / 4) 0) : Nat) : Int) + ((UInt32.toNat (List.getD (initW lk c ln) (q / 4) 0) : Nat) : Int)))) 9 (by kernel_rfl) (by kernel_rfl) rfl (fun _ => wo493.pick [0, 1] (by kernel_rfl) (by decide)) ?_
    intro ac611 En612
    rw [Go.Dbr.u32_add (a := ((UInt32.toNat (List.getD v (q / 4) 0) : Nat) : Int)) (b := ((UInt32.toNat (List.getD (initW lk c ln) (q / 4) 0) : Nat) : Int)) (x := List.getD v (q / 4) 0) (y := List.getD (initW lk c ln) (q / 4) 0) rfl rfl] at En612
    refine h_pureR (d := some 77) En612 (v := ni q) 10 (by kernel_rfl) (by kernel_rfl) rfl (fun _ => wo493.pick [0, 1] (by kernel_rfl) (by decide)) ?_
    intro ac613 En614
    refine h_pureR (d := some 78) En614 (v := .int .i64 (Int.tmod ((q : Nat) : Int) (4 : Int))) 11 (by kernel_rfl) (by kernel_rfl) rfl (fun _ => wo493.pick [0, 1] (by kernel_rfl) (by decide)) ?_
    intro ac615 En616
    rw [show Int.tmod ((q : Nat) : Int) (4 : Int) = ((q % 4 : Nat) : Int) from Go.Dbr.i64_rem_nat (a := ((q : Nat) : Int)) (n := q) (m := 4) rfl (by omega)] at En616
    refine h_pureR (d := some 79) En616 (v := .int .i64 (IntKind.wrap .i64 ((8 : Int) * ((q % 4 : Nat) : Int)))) 12 (by kernel_rfl) (by kernel_rfl) rfl (fun _ => wo493.pick [0, 1] (by kernel_rfl) (by decide)) ?_
    intro ac617 En618
    rw [Go.Dbr.wr64 (e := (8 : Int) * ((q % 4 : Nat) : Int)) (x := ((8 * (q % 4) : Nat) : Int)) (by omega) (by omega) (by omega)] at En618
    refine h_free (d := some 80) (s := nv (Op.shift .shr .u32 ((UInt32.toNat ((List.getD v (q / 4) 0) + (List.getD (initW lk c ln) (q / 4) 0)) : Nat) : Int) .i64 ((8 * (q % 4) : Nat) : Int))) En618 (v := .int .u32 ((UInt32.toNat (((List.getD v (q / 4) 0) + (List.getD (initW lk c ln) (q / 4) 0)) >>> UInt32.ofNat (8 * (q % 4))) : Nat) : Int)) 13 (by kernel_rfl) (fun _ => run_nv (Go.Dbr.run_shr_u32 ((List.getD v (q / 4) 0) + (List.getD (initW lk c ln) (q / 4) 0)) .i64 (8 * (q % 4)) (by omega) _)) (by kernel_rfl) rfl (fun _ => wo493.pick [0, 1] (by kernel_rfl) (by decide)) ?_
    intro ac619 En620
    refine h_pureR (d := some 81) En620 (v := .int .u8 (IntKind.wrap .u8 ((UInt32.toNat (((List.getD v (q / 4) 0) + (List.getD (initW lk c ln) (q / 4) 0)) >>> UInt32.ofNat (8 * (q % 4))) : Nat) : Int))) 14 (by kernel_rfl) (by kernel_rfl) rfl (fun _ => wo493.pick [0, 1] (by kernel_rfl) (by decide)) ?_
    intro ac621 En622
    rw [Go.Dbr.u32_to_u8 (a := ((UInt32.toNat (((List.getD v (q / 4) 0) + (List.getD (initW lk c ln) (q / 4) 0)) >>> UInt32.ofNat (8 * (q % 4))) : Nat) : Int)) (x := ((List.getD v (q / 4) 0) + (List.getD (initW lk c ln) (q / 4) 0)) >>> UInt32.ofNat (8 * (q % 4))) rfl] at En622
    refine h_free (d := some 82) (s := nv (Instr.indexAt 28 (pt bk474) (ni q))) En622 (v := .pointer (some ⟨bk474, q, none⟩)) 15 (by kernel_rfl) (fun _ => run_nv (Go.Dbr.run_indexarr (e := 5) (sz := 1) (m := 64) (j := q) (o := q) (by kernel_rfl) (by kernel_rfl) (by omega) (by omega) (by omega) _)) (by kernel_rfl) rfl (fun _ => wo493.pick [0, 1] (by kernel_rfl) (by decide)) ?_
    intro ac623 En624
    refine h_at 16 (by kernel_rfl) rfl ?_
    have hb625 : q < List.length o := by rw [ho]; omega
    refine op_storebox2 (d := none) (t := 5) (b := bk474) (off := q) (k := 2) (v := .int .u8 ((UInt8.toNat (UInt32.toUInt8 (((List.getD v (q / 4) 0) + (List.getD (initW lk c ln) (q / 4) 0)) >>> UInt32.ofNat (8 * (q % 4)))) : Nat) : Int)) En624 (by kernel_rfl) wo493 rfl (bys_getD hb625) (by kernel_rfl) rfl (bys_set _ _ _) rfl ?_
    intro ac626 wo627  En628 Hv629
    refine ⟨fun _ => Hv629.pick [0, 1] (by kernel_rfl) (by decide), ?_⟩
    exact h_end (by kernel_rfl) ⟨En628.sub (by kernel_rfl), Hv629.pick [0, 1, 2, 3, 4] (by kernel_rfl) (by decide)⟩
   rintro ac630 wo631 ⟨En632, Hv633⟩
   refine block_normal ?_
   refine then_normal ?_
   refine region_from ?_
   refine d_pures [(6, pt bk11), (7, pt bk18), (8, pt bk364), (9, pt bk375), (10, .func (.func 22) #[] #[pt bk375]), (13, pt bk474), (29, ni i), (64, ni q), (83, .int .i64 (IntKind.wrap .i64 (((q : Nat) : Int) + (1 : Int))))] [.int .i64 (IntKind.wrap .i64 (((q : Nat) : Int) + (1 : Int)))] 1 En632 (by kernel_rfl) (by kernel_rfl) rfl ?_
   intro ac634 En635
   rw [Go.Dbr.wr64 (e := ((q : Nat) : Int) + (1 : Int)) (x := ((q + 1 : Nat) : Int)) (by omega) (by omega) (by omega)] at En635
   refine d_pures [(6, pt bk11), (7, pt bk18), (8, pt bk364), (9, pt bk375), (10, .func (.func 22) #[] #[pt bk375]), (13, pt bk474), (29, ni i), (64, .int .i64 ((q + 1 : Nat) : Int))] [.int .i64 ((q + 1 : Nat) : Int)] 2 En635 (by kernel_rfl) (by kernel_rfl) rfl ?_
   intro ac636 En637
   refine from_end (by kernel_rfl) ?_
   refine then_normal ?_
   refine ⟨_, ⟨q + 1, List.set o q (UInt32.toUInt8 (((List.getD v (q / 4) 0) + (List.getD (initW lk c ln) (q / 4) 0)) >>> UInt32.ofNat (8 * (q % 4)))), rfl, En637.sub (by kernel_rfl), Hv633.pick [0, 1, 2, 3, 4] (by kernel_rfl) (by decide), by omega, by simp [ho], upto_set (f := byteAt v (initW lk c ln)) (g := fun _ => 0) ho hp (by omega)⟩, ?_⟩
   omega
  ·
   replace hc490 : ¬ (((q : Nat) : Int) < (64 : Int)) := of_decide_eq_false hc490
   refine wp_exit ?_
   refine then_exit ?_
   refine then_exit ?_
   refine block_exit ?_
   refine then_normal ?_
   refine wp_seq ?_
   have hq64 : q = 64 := by omega
   have eo : o = blockF lk c ln := eq_range_map 0 ho (fun j hj => by rw [hp j hj, if_pos (by omega), hv, hi10])
   rw [eo] at Hv486
   replace Hv486 : Ev w [] wo484 [.box bk18 (u32s v) 42, .box bk364 (u32s (initW lk c ln)) 42, .box bk474 (bys (blockF lk c ln)) 28, .box bk11 (bys (List.replicate 64 0)) 28, .box bk375 [.func (.func 20) #[] #[pt bk18]] 46] := Hv486
   refine region_from ?_
   refine from_op (by kernel_rfl) ?_
   refine op_loadaggbox (d := some 84) (t := 28) (b := bk474) (off := 0) (k := 2) (m := 64) (xs := bys (blockF lk c ln)) En489 (by kernel_rfl) Hv486 rfl (load_whole (bys_lenh (blockF_len lk c ln))) (bys_lenh (blockF_len lk c ln)) (by kernel_rfl) (by kernel_rfl) ?_
   intro ac638 En639
   refine from_op (by kernel_rfl) ?_
   refine op_storeaggbox (d := none) (t := 28) (b := bk11) (off := 0) (k := 3) (m := 64) (xs := bys (blockF lk c ln)) (v := .agg (List.toArray (bys (blockF lk c ln)))) (cs' := bys (blockF lk c ln)) En639 (by kernel_rfl) Hv486 rfl rfl (bys_lenh (blockF_len lk c ln)) (by rw [(bys_lenh (List.length_replicate))]; decide) (by kernel_rfl) (bys_one _) (store_whole (bys_lenh (List.length_replicate))) (L' := [.box bk18 (u32s v) 42, .box bk364 (u32s (initW lk c ln)) 42, .box bk474 (bys (blockF lk c ln)) 28, .box bk11 (bys (blockF lk c ln)) 28, .box bk375 [.func (.func 20) #[] #[pt bk18]] 46]) rfl ?_
   intro ac640 wo641  En642 Hv643
   refine from_end (by kernel_rfl) ?_
   refine then_normal ?_
   refine wp_ret ?_
   refine d_cell1 (v := .agg (List.toArray (bys (blockF lk c ln)))) (t := 6) (T := 28) (ad := ⟨bk11, 0, none⟩) En642 (by kernel_rfl) (by kernel_rfl) (Ev.cellAgg (t := 28) (k := 3) (off := 0) (m := 64) (xs := bys (blockF lk c ln)) Hv643 rfl (load_whole (bys_lenh (blockF_len lk c ln))) (bys_lenh (blockF_len lk c ln)) (by kernel_rfl) (by kernel_rfl)) ?_
   exact ⟨rfl, Hv643.pick [] (by kernel_rfl) (by decide)⟩

end Go.Proofs.Ytnahplggflhdaaa
