/- Layer 9: Seal and Open: the walks. -/
import Derived.Test.YtnahplggflhdaaaP9
namespace Go.Proofs.Ytnahplggflhdaaa
open Go.Dbr
set_option maxRecDepth 100000
set_option maxHeartbeats 2000000
set_option linter.unusedVariables false
set_option linter.unusedSimpArgs false

def sealF (k n a t : List UInt8) : List UInt8 := streamF k 1 n t ++ tagF k n a (streamF k 1 n t)
theorem sealF_len (k n a t : List UInt8) : (sealF k n a t).length = t.length + 16 := by rw [sealF, List.length_append, streamF_len, tagF_len]
theorem seal_take (k n a t : List UInt8) : List.take ((sealF k n a t).length - 16) (sealF k n a t) = streamF k 1 n t := by
  rw [sealF_len, Nat.add_sub_cancel, sealF, List.take_append_of_le_length (by rw [streamF_len]; omega), List.take_of_length_le (by rw [streamF_len]; omega)]
theorem seal_drop (k n a t : List UInt8) : List.drop ((sealF k n a t).length - 16) (sealF k n a t) = tagF k n a (streamF k 1 n t) := by
  have h := streamF_len k 1 n t
  rw [sealF_len, Nat.add_sub_cancel, sealF, List.drop_append, List.drop_eq_nil_of_le (by omega), h, Nat.sub_self]
  rfl
theorem seal_again {k n a s : List UInt8} (h : tagF k n a (List.take (s.length - 16) s) = List.drop (s.length - 16) s) : sealF k n a (streamF k 1 n (List.take (s.length - 16) s)) = s := by
  rw [sealF, stream_twice, h, List.take_append_drop]

theorem seal_go (w : World) (lk : List UInt8) (hk : List.length lk = 32) (ln : List UInt8) (hn : List.length ln = 12) (aa : Option Addr) (na ca : Nat) (la : List UInt8) (ea : na = List.length la) (ia : InB w [] aa ca la) (ax : Option Addr) (nx cx : Nat) (lx : List UInt8) (ex : nx = List.length lx) (ix : InB w [] ax cx lx) (hB : List.length la + List.length lx ≤ 1099511627776) : Calls Try.prog 15 #[.agg (List.toArray (bys lk)), .agg (List.toArray (bys ln)), .slice aa na ca, .slice ax nx cx] w fun e w' => ∃ ao co, e = .returned (.slice ao (List.length (sealF lk ln la lx)) co) ∧ Ev w [] w' [.vec ao co 1 (bys (sealF lk ln la lx)) 5] := by
 subst ea
 subst ex
 have hsa := ia.small
 have hca := ia.cap
 have hsx := ix.small
 have hcx := ix.cap
 have hsl := streamF_len lk 1 ln lx
 have htl := tagF_len lk ln la (streamF lk 1 ln lx)
 refine d_start [(0, .agg (List.toArray (bys lk))), (1, .agg (List.toArray (bys ln))), (2, .slice aa (List.length la) ca), (3, .slice ax (List.length lx) cx)] 21 Go.Proofs.Try.func15 Go.Proofs.Try.ntmps15 rfl (by kernel_rfl) (by kernel_rfl) ?_
 intro act0 En0
 have Hv0 : Ev w [] w [] := Ev.refl (Heap.nil _)
 refine wp_seq ?_
 refine region_from ?_
 refine from_op (by kernel_rfl) ?_
 refine op_newbox (d := some 4) (T := 22) (v := .agg (List.toArray (bys lk))) (cs := bys lk) En0 (by kernel_rfl) rfl Hv0 ?_
 intro ac2 wo3 bk1 En4 Hv5
 refine from_op (by kernel_rfl) ?_
 refine op_newbox (d := some 5) (T := 24) (v := .agg (List.toArray (bys ln))) (cs := bys ln) En4 (by kernel_rfl) rfl Hv5 ?_
 intro ac7 wo8 bk6 En9 Hv10
 refine d_pures [(2, .slice aa (List.length la) ca), (3, .slice ax (List.length lx) cx), (4, pt bk1), (5, pt bk6), (8, .slice none 0 0)] [.slice none 0 0] 3 En9 (by kernel_rfl) (by kernel_rfl) rfl ?_
 intro ac11 En12
 refine from_end (by kernel_rfl) ?_
 refine then_normal ?_
 refine wp_seq ?_
 refine region_from ?_
 refine from_op (by kernel_rfl) ?_
 refine op_loadaggbox (d := some 10) (t := 22) (b := bk1) (off := 0) (k := 0) (m := 32) (xs := bys lk) En12 (by kernel_rfl) Hv10 rfl (load_whole (bys_lenh hk)) (bys_lenh hk) (by kernel_rfl) (by kernel_rfl) ?_
 intro ac13 En14
 refine from_op (by kernel_rfl) ?_
 refine op_loadaggbox (d := some 11) (t := 24) (b := bk6) (off := 0) (k := 1) (m := 12) (xs := bys ln) En14 (by kernel_rfl) Hv10 rfl (load_whole (bys_lenh hn)) (bys_lenh hn) (by kernel_rfl) (by kernel_rfl) ?_
 intro ac15 En16
 refine d_pures [(2, .slice aa (List.length la) ca), (4, pt bk1), (5, pt bk6), (8, .slice none 0 0), (10, .agg (List.toArray (bys lk))), (11, .agg (List.toArray (bys ln))), (12, .slice ax (List.length lx) cx)] [.slice ax (List.length lx) cx] 3 En16 (by kernel_rfl) (by kernel_rfl) rfl ?_
 intro ac17 En18
 refine from_op (by kernel_rfl) ?_
 have hM20 : Heap wo8 [] := Hv10.heap.pick [] (by kernel_rfl) (by decide)
 refine op_call (d := some 13) (f := 9) (args := #[.agg (List.toArray (bys lk)), .int .u32 1, .agg (List.toArray (bys ln)), .slice ax (List.length lx) cx]) En18 (by kernel_rfl) ((stream_go _ lk hk (1 : UInt32) ln hn ax (List.length lx) cx lx (by first | rfl | (simp; done) | (simp; omega) | omega) ((ix.ev Hv10).pick [] (by kernel_rfl))).mono ?_)
 rintro _ wo22 ⟨aoq19, coq19, rfl, he25⟩
 refine ⟨_, rfl, ?_⟩
 intro ac21 En23
 have Hv24 : Ev w [] wo22 [.vec aoq19 coq19 1 (bys (streamF lk (1 : UInt32) ln lx)) 5, .box bk1 (bys lk) 22, .box bk6 (bys ln) 24] := Hv10.trans (Ev.call (R := [.box bk1 (bys lk) 22, .box bk6 (bys ln) 24]) Hv10.heap [0, 1] (by kernel_rfl) (by decide) he25)
 clear hM20 he25
 refine d_pures [(2, .slice aa (List.length la) ca), (4, pt bk1), (5, pt bk6), (8, .slice none 0 0), (9, .slice aoq19 (List.length (streamF lk (1 : UInt32) ln lx)) coq19)] [.slice aoq19 (List.length (streamF lk (1 : UInt32) ln lx)) coq19] 5 En23 (by kernel_rfl) (by kernel_rfl) rfl ?_
 intro ac26 En27
 refine from_end (by kernel_rfl) ?_
 refine then_normal ?_
 refine wp_seq ?_
 refine region_from ?_
 refine d_pures [(2, .slice aa (List.length la) ca), (4, pt bk1), (5, pt bk6), (8, .slice none 0 0), (9, .slice aoq19 (List.length (streamF lk (1 : UInt32) ln lx)) coq19), (14, .slice aoq19 (List.length (streamF lk (1 : UInt32) ln lx)) coq19)] [.slice aoq19 (List.length (streamF lk (1 : UInt32) ln lx)) coq19] 1 En27 (by kernel_rfl) (by kernel_rfl) rfl ?_
 intro ac28 En29
 refine from_op (by kernel_rfl) ?_
 refine op_loadaggbox (d := some 15) (t := 22) (b := bk1) (off := 0) (k := 1) (m := 32) (xs := bys lk) En29 (by kernel_rfl) Hv24 rfl (load_whole (bys_lenh hk)) (bys_lenh hk) (by kernel_rfl) (by kernel_rfl) ?_
 intro ac30 En31
 refine from_op (by kernel_rfl) ?_
 refine op_loadaggbox (d := some 16) (t := 24) (b := bk6) (off := 0) (k := 2) (m := 12) (xs := bys ln) En31 (by kernel_rfl) Hv24 rfl (load_whole (bys_lenh hn)) (bys_lenh hn) (by kernel_rfl) (by kernel_rfl) ?_
 intro ac32 En33
 refine d_pures [(4, pt bk1), (5, pt bk6), (8, .slice none 0 0), (14, .slice aoq19 (List.length (streamF lk (1 : UInt32) ln lx)) coq19), (15, .agg (List.toArray (bys lk))), (16, .agg (List.toArray (bys ln))), (17, .slice aa (List.length la) ca), (18, .slice aoq19 (List.length (streamF lk (1 : UInt32) ln lx)) coq19)] [.slice aa (List.length la) ca, .slice aoq19 (List.length (streamF lk (1 : UInt32) ln lx)) coq19] 5 En33 (by kernel_rfl) (by kernel_rfl) rfl ?_
 intro ac34 En35
 refine from_op (by kernel_rfl) ?_
 have hM37 : Heap wo22 [] := Hv24.heap.pick [] (by kernel_rfl) (by decide)
 refine op_call (d := some 19) (f := 30) (args := #[.agg (List.toArray (bys lk)), .agg (List.toArray (bys ln)), .slice aa (List.length la) ca, .slice aoq19 (List.length (streamF lk (1 : UInt32) ln lx)) coq19]) En35 (by kernel_rfl) ((tag_go _ lk hk ln hn aa (List.length la) ca la (by first | rfl | (simp; done) | (simp; omega) | omega) ((ia.ev Hv24).pick [] (by kernel_rfl)) aoq19 (List.length (streamF lk (1 : UInt32) ln lx)) coq19 (streamF lk (1 : UInt32) ln lx) (by first | rfl | (simp; done) | (simp; omega) | omega) (bys_in Hv24.heap (k := 0) rfl [] (by kernel_rfl) rfl (by first | omega | (simp; done) | (simp; omega))) (by first | omega | (simp; omega))).mono ?_)
 rintro _ wo39 ⟨bq36, rfl, he42⟩
 refine ⟨_, rfl, ?_⟩
 intro ac38 En40
 have Hv41 : Ev w [] wo39 [.box bq36 (bys (tagF lk ln la (streamF lk (1 : UInt32) ln lx))) 31, .vec aoq19 coq19 1 (bys (streamF lk (1 : UInt32) ln lx)) 5, .box bk1 (bys lk) 22, .box bk6 (bys ln) 24] := Hv24.trans (Ev.call (R := [.vec aoq19 coq19 1 (bys (streamF lk (1 : UInt32) ln lx)) 5, .box bk1 (bys lk) 22, .box bk6 (bys ln) 24]) Hv24.heap [0, 1, 2] (by kernel_rfl) (by decide) he42)
 clear hM37 he42
 refine from_op (by kernel_rfl) ?_
 refine op_append (d := some 20) (t := 25) (tx := 25) (ty := 25) (k := 1) (p := List.length (streamF lk (1 : UInt32) ln lx)) (m := 16) (x := .slice (some ⟨bq36, 0, none⟩) 16 16) (bytes := 1) En40 (by kernel_rfl) Hv41 rfl (bys_len _) (Reads.src (size := 1) (tx := 25) (e' := 5) (by kernel_rfl) (Hv41.heap.readsBox (k := 0) (m := 16) rfl (load_whole (bys_lenh (tagF_len _ _ _ _)))) (bys_lenn (by first | (rw [(tagF_len _ _ _ _)]) | (simp [(tagF_len _ _ _ _)]; done) | (simp [(tagF_len _ _ _ _)]; omega))) (fun e => by cases e) (bys_one _)) (by kernel_rfl) (z := .int .u8 0) (by kernel_rfl) rfl (by decide) (by omega) (by unfold maxLen; omega) ?_
 intro ac47 wo48 ao43 cp44 En49 Hv50 _ _
 rw [← bys_append] at Hv50
 have ehz45 : (List.length (streamF lk (1 : UInt32) ln lx)) + 16 = List.length ((streamF lk (1 : UInt32) ln lx) ++ (tagF lk ln la (streamF lk (1 : UInt32) ln lx))) := (by first | (simp; done) | (simp; omega) | omega)
 rw [ehz45] at En49
 refine d_pures [(4, pt bk1), (5, pt bk6), (8, .slice ao43 (List.length ((streamF lk (1 : UInt32) ln lx) ++ (tagF lk ln la (streamF lk (1 : UInt32) ln lx)))) cp44)] [.slice ao43 (List.length ((streamF lk (1 : UInt32) ln lx) ++ (tagF lk ln la (streamF lk (1 : UInt32) ln lx)))) cp44] 8 En49 (by kernel_rfl) (by kernel_rfl) rfl ?_
 intro ac51 En52
 refine from_end (by kernel_rfl) ?_
 refine then_normal ?_
 refine wp_ret ?_
 refine d_ret1 (t := 8) (v := .slice ao43 (List.length ((streamF lk (1 : UInt32) ln lx) ++ (tagF lk ln la (streamF lk (1 : UInt32) ln lx)))) cp44) En52 (by kernel_rfl) (by kernel_rfl) ?_
 replace Hv50 : Ev w [] wo48 [.box bq36 (bys (tagF lk ln la (streamF lk (1 : UInt32) ln lx))) 31, .vec ao43 cp44 1 (bys (sealF lk ln la lx)) 5, .box bk1 (bys lk) 22, .box bk6 (bys ln) 24] := Hv50
 have Hf53 := Hv50.pick [1] (by kernel_rfl) (by decide) (M := [.vec ao43 cp44 1 (bys (sealF lk ln la lx)) 5])
 exact ⟨_, _, rfl, Hf53⟩

end Go.Proofs.Ytnahplggflhdaaa
