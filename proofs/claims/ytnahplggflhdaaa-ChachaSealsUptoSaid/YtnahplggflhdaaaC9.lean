/- ChachaSeals: its walk. -/
import Derived.Test.YtnahplggflhdaaaP11
import Derived.Test.YtnahplggflhdaaaP12
namespace Go.Proofs.Ytnahplggflhdaaa
open Go.Dbr
set_option maxRecDepth 100000
set_option maxHeartbeats 2000000
set_option linter.unusedVariables false
set_option linter.unusedSimpArgs false

theorem seals_walk (k : List UInt8) (n : List UInt8) (a_a : Option Addr) (c_a : Nat) (a : List UInt8) (a_t : Option Addr) (c_t : Nat) (t : List UInt8) (w : World) (n_k : (List.length k = 32)) (n_n : (List.length n = 12)) (i_a : InB w [] a_a c_a a) (i_t : InB w [] a_t c_t t) (hB : (List.length a) + (List.length t) ≤ 1048576) : Calls Try.prog 6 #[.agg (List.toArray (bys k)), .agg (List.toArray (bys n)), .slice a_a (List.length a) c_a, .slice a_t (List.length t) c_t] w fun e w' => e = .returned (.bool true) ∧ Ev w [] w' [] := by
 have hs := i_t.small
 have hcb := i_t.cap
 have hsa := i_a.small
 have hca := i_a.cap
 refine d_start [(0, .agg (List.toArray (bys k))), (1, .agg (List.toArray (bys n))), (2, .slice a_a (List.length a) c_a), (3, .slice a_t (List.length t) c_t)] 69 Go.Proofs.Try.func6 Go.Proofs.Try.ntmps6 rfl (by kernel_rfl) (by kernel_rfl) ?_
 intro act0 En0
 have Hv0 : Ev w [] w [] := Ev.refl (Heap.nil _)
 refine wp_seq ?_
 refine region_from ?_
 refine from_op (by kernel_rfl) ?_
 refine op_newbox (d := some 4) (T := 22) (v := .agg (List.toArray (bys k))) (cs := bys k) En0 (by kernel_rfl) rfl Hv0 ?_
 intro ac2 wo3 bk1 En4 Hv5
 refine from_op (by kernel_rfl) ?_
 refine op_newbox (d := some 5) (T := 24) (v := .agg (List.toArray (bys n))) (cs := bys n) En4 (by kernel_rfl) rfl Hv5 ?_
 intro ac7 wo8 bk6 En9 Hv10
 refine d_pures [(2, .slice a_a (List.length a) c_a), (3, .slice a_t (List.length t) c_t), (4, pt bk1), (5, pt bk6), (8, .bool false)] [.bool false] 3 En9 (by kernel_rfl) (by kernel_rfl) rfl ?_
 intro ac11 En12
 refine from_end (by kernel_rfl) ?_
 refine then_normal ?_
 refine wp_seq ?_
 refine region_from ?_
 refine from_op (by kernel_rfl) ?_
 have hM13 : Heap wo8 [] := Hv10.heap.pick [] (by kernel_rfl) (by decide)
 refine op_call (d := some 14) (f := 8) (args := #[]) En12 (by kernel_rfl) ((head_ok _).mono ?_)
 rintro _ wo15 ⟨rfl, he18⟩
 refine ⟨_, rfl, ?_⟩
 intro ac14 En16
 have Hv17 : Ev w [] wo15 [.box bk1 (bys k) 22, .box bk6 (bys n) 24] := Hv10.trans (Ev.call (R := [.box bk1 (bys k) 22, .box bk6 (bys n) 24]) Hv10.heap [0, 1] (by kernel_rfl) (by decide) he18)
 clear hM13 he18
 refine d_pures [(2, .slice a_a (List.length a) c_a), (3, .slice a_t (List.length t) c_t), (4, pt bk1), (5, pt bk6), (8, .bool false), (9, .bool true)] [.bool true] 2 En16 (by kernel_rfl) (by kernel_rfl) rfl ?_
 intro ac19 En20
 refine from_end (by kernel_rfl) ?_
 refine then_normal ?_
 refine wp_seq ?_
 refine region_from ?_
 refine from_op (by kernel_rfl) ?_
 refine op_lit (d := some 15) (t := 25) (T := 5) (m := 0) (parts := #[]) (xs := bys []) (sz := 1) En20 (by kernel_rfl) (by kernel_rfl) rfl (by decide) Hv17 ?_
 intro ac22 wo23 bk21 En24 Hv25
 refine d_pures [(2, .slice a_a (List.length a) c_a), (3, .slice a_t (List.length t) c_t), (4, pt bk1), (5, pt bk6), (8, .bool false), (9, .bool true), (15, .slice (some ⟨bk21, 0, none⟩) 0 0), (16, .slice a_t (List.length t) c_t)] [.slice a_t (List.length t) c_t] 2 En24 (by kernel_rfl) (by kernel_rfl) rfl ?_
 intro ac26 En27
 refine from_op (by kernel_rfl) ?_
 have hsm28 := i_t.small
 refine op_append (d := some 17) (t := 25) (tx := 25) (ty := 25) (k := 2) (p := 0) (m := List.length t) (x := .slice a_t (List.length t) c_t) (bytes := 1) En27 (by kernel_rfl) Hv25 rfl rfl (Reads.src (size := 1) (tx := 25) (e' := 5) (by kernel_rfl) (i_t.ev Hv25).reads (bys_len _) i_t.nz (bys_one _)) (by kernel_rfl) (z := .int .u8 0) (by kernel_rfl) rfl (by decide) (by omega) (by unfold maxLen; omega) ?_
 intro ac33 wo34 ao29 cp30 En35 Hv36 _ _
 rw [bys_nil_append] at Hv36
 have ehz31 : 0 + (List.length t) = List.length t := (by first | (simp; done) | (simp; omega) | omega)
 rw [ehz31] at En35
 refine d_pures [(2, .slice a_a (List.length a) c_a), (3, .slice a_t (List.length t) c_t), (4, pt bk1), (5, pt bk6), (8, .bool false), (9, .bool true), (10, .slice ao29 (List.length t) cp30)] [.slice ao29 (List.length t) cp30] 4 En35 (by kernel_rfl) (by kernel_rfl) rfl ?_
 intro ac37 En38
 refine from_end (by kernel_rfl) ?_
 refine then_normal ?_
 refine wp_seq ?_
 refine region_from ?_
 refine from_op (by kernel_rfl) ?_
 refine op_loadaggbox (d := some 18) (t := 22) (b := bk1) (off := 0) (k := 0) (m := 32) (xs := bys k) En38 (by kernel_rfl) Hv36 rfl (load_whole (bys_lenh n_k)) (bys_lenh n_k) (by kernel_rfl) (by kernel_rfl) ?_
 intro ac39 En40
 refine from_op (by kernel_rfl) ?_
 refine op_loadaggbox (d := some 19) (t := 24) (b := bk6) (off := 0) (k := 1) (m := 12) (xs := bys n) En40 (by kernel_rfl) Hv36 rfl (load_whole (bys_lenh n_n)) (bys_lenh n_n) (by kernel_rfl) (by kernel_rfl) ?_
 intro ac41 En42
 refine d_pures [(2, .slice a_a (List.length a) c_a), (3, .slice a_t (List.length t) c_t), (4, pt bk1), (5, pt bk6), (8, .bool false), (9, .bool true), (10, .slice ao29 (List.length t) cp30), (18, .agg (List.toArray (bys k))), (19, .agg (List.toArray (bys n))), (20, .slice a_a (List.length a) c_a), (21, .slice ao29 (List.length t) cp30)] [.slice a_a (List.length a) c_a, .slice ao29 (List.length t) cp30] 4 En42 (by kernel_rfl) (by kernel_rfl) rfl ?_
 intro ac43 En44
 refine from_op (by kernel_rfl) ?_
 have hM46 : Heap wo34 [] := Hv36.heap.pick [] (by kernel_rfl) (by decide)
 refine op_call (d := some 22) (f := 15) (args := #[.agg (List.toArray (bys k)), .agg (List.toArray (bys n)), .slice a_a (List.length a) c_a, .slice ao29 (List.length t) cp30]) En44 (by kernel_rfl) ((seal_go _ k n_k n n_n a_a (List.length a) c_a a (by first | rfl | (simp; done) | (simp; omega) | omega) ((i_a.ev Hv36).pick [] (by kernel_rfl)) ao29 (List.length t) cp30 t (by first | rfl | (simp; done) | (simp; omega) | omega) (bys_in Hv36.heap (k := 2) rfl [] (by kernel_rfl) rfl (by first | omega | (simp; done) | (simp; omega))) (by first | omega | (simp; omega))).mono ?_)
 rintro _ wo48 ⟨aoq45, coq45, rfl, he51⟩
 refine ⟨_, rfl, ?_⟩
 intro ac47 En49
 have Hv50 : Ev w [] wo48 [.vec aoq45 coq45 1 (bys (sealF k n a t)) 5, .box bk1 (bys k) 22, .box bk6 (bys n) 24, .vec ao29 cp30 1 (bys t) 5] := Hv36.trans (Ev.call (R := [.box bk1 (bys k) 22, .box bk6 (bys n) 24, .vec ao29 cp30 1 (bys t) 5]) Hv36.heap [0, 1, 2] (by kernel_rfl) (by decide) he51)
 clear hM46 he51
 refine d_pures [(2, .slice a_a (List.length a) c_a), (3, .slice a_t (List.length t) c_t), (4, pt bk1), (5, pt bk6), (8, .bool false), (9, .bool true), (10, .slice ao29 (List.length t) cp30), (11, .slice aoq45 (List.length (sealF k n a t)) coq45)] [.slice aoq45 (List.length (sealF k n a t)) coq45] 6 En49 (by kernel_rfl) (by kernel_rfl) rfl ?_
 intro ac52 En53
 refine from_end (by kernel_rfl) ?_
 have hslen := sealF_len k n a t
 have hok : tagF k n a (List.take (List.length (sealF k n a t) - 16) (sealF k n a t)) = List.drop (List.length (sealF k n a t) - 16) (sealF k n a t) := by rw [seal_take, seal_drop]
 refine then_normal ?_
 refine wp_seq ?_
 refine region_from ?_
 refine from_op (by kernel_rfl) ?_
 refine op_loadaggbox (d := some 24) (t := 22) (b := bk1) (off := 0) (k := 1) (m := 32) (xs := bys k) En53 (by kernel_rfl) Hv50 rfl (load_whole (bys_lenh n_k)) (bys_lenh n_k) (by kernel_rfl) (by kernel_rfl) ?_
 intro ac54 En55
 refine from_op (by kernel_rfl) ?_
 refine op_loadaggbox (d := some 25) (t := 24) (b := bk6) (off := 0) (k := 2) (m := 12) (xs := bys n) En55 (by kernel_rfl) Hv50 rfl (load_whole (bys_lenh n_n)) (bys_lenh n_n) (by kernel_rfl) (by kernel_rfl) ?_
 intro ac56 En57
 refine d_pures [(2, .slice a_a (List.length a) c_a), (3, .slice a_t (List.length t) c_t), (4, pt bk1), (5, pt bk6), (8, .bool false), (9, .bool true), (10, .slice ao29 (List.length t) cp30), (11, .slice aoq45 (List.length (sealF k n a t)) coq45), (24, .agg (List.toArray (bys k))), (25, .agg (List.toArray (bys n))), (26, .slice a_a (List.length a) c_a), (27, .slice aoq45 (List.length (sealF k n a t)) coq45)] [.slice a_a (List.length a) c_a, .slice aoq45 (List.length (sealF k n a t)) coq45] 4 En57 (by kernel_rfl) (by kernel_rfl) rfl ?_
 intro ac58 En59
 refine from_op (by kernel_rfl) ?_
 have hM61 : Heap wo48 [] := Hv50.heap.pick [] (by kernel_rfl) (by decide)
 refine op_call (d := some 28) (f := 16) (args := #[.agg (List.toArray (bys k)), .agg (List.toArray (bys n)), .slice a_a (List.length a) c_a, .slice aoq45 (List.length (sealF k n a t)) coq45]) En59 (by kernel_rfl) ((open_ok_go _ k n_k n n_n a_a (List.length a) c_a a (by first | rfl | (simp; done) | (simp; omega) | omega) ((i_a.ev Hv50).pick [] (by kernel_rfl)) aoq45 (List.length (sealF k n a t)) coq45 (sealF k n a t) (by first | rfl | (simp; done) | (simp; omega) | omega) (bys_in Hv50.heap (k := 0) rfl [] (by kernel_rfl) rfl (by first | omega | (simp; done) | (simp; omega))) (by first | omega | (simp; omega)) (by omega) hok).mono ?_)
 rintro _ wo63 ⟨aoq60, coq60, rfl, he66⟩
 refine ⟨_, rfl, ?_⟩
 intro ac62 En64
 have Hv65 : Ev w [] wo63 [.vec aoq60 coq60 1 (bys (streamF k 1 n (List.take (List.length (sealF k n a t) - 16) (sealF k n a t)))) 5, .vec aoq45 coq45 1 (bys (sealF k n a t)) 5, .box bk1 (bys k) 22, .box bk6 (bys n) 24, .vec ao29 cp30 1 (bys t) 5] := Hv50.trans (Ev.call (R := [.vec aoq45 coq45 1 (bys (sealF k n a t)) 5, .box bk1 (bys k) 22, .box bk6 (bys n) 24, .vec ao29 cp30 1 (bys t) 5]) Hv50.heap [0, 1, 2, 3] (by kernel_rfl) (by decide) he66)
 clear hM61 he66
 refine d_pures [(2, .slice a_a (List.length a) c_a), (3, .slice a_t (List.length t) c_t), (4, pt bk1), (5, pt bk6), (8, .bool false), (9, .bool true), (10, .slice ao29 (List.length t) cp30), (11, .slice aoq45 (List.length (sealF k n a t)) coq45), (12, .slice aoq60 (List.length (streamF k 1 n (List.take (List.length (sealF k n a t) - 16) (sealF k n a t)))) coq60), (13, .int .i64 0)] [.tuple #[.slice aoq60 (List.length (streamF k 1 n (List.take (List.length (sealF k n a t) - 16) (sealF k n a t)))) coq60, .int .i64 0], .slice aoq60 (List.length (streamF k 1 n (List.take (List.length (sealF k n a t) - 16) (sealF k n a t)))) coq60, .int .i64 0, .slice aoq60 (List.length (streamF k 1 n (List.take (List.length (sealF k n a t) - 16) (sealF k n a t)))) coq60, .int .i64 0] 10 En64 (by kernel_rfl) (by kernel_rfl) rfl ?_
 intro ac67 En68
 refine from_end (by kernel_rfl) ?_
 have hstr : streamF k 1 n (List.take (List.length (sealF k n a t) - 16) (sealF k n a t)) = t := by rw [seal_take, stream_twice]
 have hstl : List.length (streamF k 1 n (List.take (List.length (sealF k n a t) - 16) (sealF k n a t))) = List.length t := by rw [hstr]
 refine then_normal ?_
 refine wp_seq ?_
 refine region_cut (F := fun ac wo => Env ac 69 [(2, .slice a_a (List.length a) c_a), (3, .slice a_t (List.length t) c_t), (4, pt bk1), (5, pt bk6), (8, .bool true), (10, .slice ao29 (List.length t) cp30), (11, .slice aoq45 (List.length (sealF k n a t)) coq45)] ∧ Ev w [] wo [.vec aoq45 coq45 1 (bys (sealF k n a t)) 5, .box bk1 (bys k) 22, .box bk6 (bys n) 24, .vec ao29 cp30 1 (bys t) 5]) ?_ ?_
 ·
  refine h_start (fun wv => Ev w [] wv [.vec aoq60 coq60 1 (bys (streamF k 1 n (List.take (List.length (sealF k n a t) - 16) (sealF k n a t)))) 5, .vec aoq45 coq45 1 (bys (sealF k n a t)) 5, .box bk1 (bys k) 22, .box bk6 (bys n) 24, .vec ao29 cp30 1 (bys t) 5]) [] (by kernel_rfl) 39 (by kernel_rfl) ?_
  have wo69 := Hv65.trans (Ev.drew Hv65.heap)
  refine h_pureR (d := some 31) En68 (v := .bool true) 0 (by kernel_rfl) (by kernel_rfl) rfl (fun _ => wo69.pick [0, 1, 2, 3, 4] (by kernel_rfl) (by decide)) ?_
  intro ac395 En396
  refine h_pureR (d := some 32) En396 (v := .bool true) 1 (by kernel_rfl) (by kernel_rfl) rfl (fun _ => wo69.pick [0, 1, 2, 3, 4] (by kernel_rfl) (by decide)) ?_
  intro ac397 En398
  refine h_pureR (d := some 33) En398 (v := .slice aoq45 (List.length (sealF k n a t)) coq45) 2 (by kernel_rfl) (by kernel_rfl) rfl (fun _ => wo69.pick [0, 1, 2, 3, 4] (by kernel_rfl) (by decide)) ?_
  intro ac399 En400
  refine h_read (d := some 34) (s := nv (convert 25 9 (.slice aoq45 (List.length (sealF k n a t)) coq45))) En400 (v := .string (bstr (sealF k n a t))) 3 (by kernel_rfl) (fun w hS => run_nv (run_str2 (e := 5) (bs := sealF k n a t) rfl (by kernel_rfl) (by kernel_rfl) (by kernel_rfl) (hS.heap.reads (k := 1) rfl) (bys_vnz hS.heap (k := 1) rfl))) (by kernel_rfl) rfl (wo69.pick [0, 1, 2, 3, 4] (by kernel_rfl) (by decide)) ?_
  intro ac401 En402
  refine h_read (d := some 35) (s := nv (Instr.loadAt 22 (pt bk1))) En402 (v := .agg (List.toArray (bys k))) 4 (by kernel_rfl) (fun w hS => run_nv (run_loadAgg2 (m := 32) (cs := bys k) (bys_lenh n_k) (by kernel_rfl) (by kernel_rfl) (hS.heap.cells (k := 2) (off := 0) (m := 32) rfl (load_whole (bys_lenh n_k))))) (by kernel_rfl) rfl (wo69.pick [0, 1, 2, 3, 4] (by kernel_rfl) (by decide)) ?_
  intro ac403 En404
  refine h_read (d := some 36) (s := nv (Instr.loadAt 24 (pt bk6))) En404 (v := .agg (List.toArray (bys n))) 5 (by kernel_rfl) (fun w hS => run_nv (run_loadAgg2 (m := 12) (cs := bys n) (bys_lenh n_n) (by kernel_rfl) (by kernel_rfl) (hS.heap.cells (k := 3) (off := 0) (m := 12) rfl (load_whole (bys_lenh n_n))))) (by kernel_rfl) rfl (wo69.pick [0, 1, 2, 3, 4] (by kernel_rfl) (by decide)) ?_
  intro ac405 En406
  refine h_pureR (d := some 37) En406 (v := .slice a_a (List.length a) c_a) 6 (by kernel_rfl) (by kernel_rfl) rfl (fun _ => wo69.pick [0, 1, 2, 3, 4] (by kernel_rfl) (by decide)) ?_
  intro ac407 En408
  refine h_pureR (d := some 38) En408 (v := .slice a_t (List.length t) c_t) 7 (by kernel_rfl) (by kernel_rfl) rfl (fun _ => wo69.pick [0, 1, 2, 3, 4] (by kernel_rfl) (by decide)) ?_
  intro ac409 En410
  refine h_at 8 (by kernel_rfl) rfl ?_
  have hM412 : Heap wo63.drew [] := wo69.heap.pick [] (by kernel_rfl) (by decide)
  refine op_call (d := some 39) (f := 17) (args := #[.agg (List.toArray (bys k)), .agg (List.toArray (bys n)), .slice a_a (List.length a) c_a, .slice a_t (List.length t) c_t]) En410 (by kernel_rfl) ((seal_ref _ k n_k n n_n a_a (List.length a) c_a a (by first | rfl | (simp; done) | (simp; omega) | omega) ((i_a.ev wo69).pick [] (by kernel_rfl)) a_t (List.length t) c_t t (by first | rfl | (simp; done) | (simp; omega) | omega) ((i_t.ev wo69).pick [] (by kernel_rfl)) (by first | omega | (simp; omega))).mono ?_)
  rintro _ wo414 ⟨aoq411, coq411, rfl, he417⟩
  refine ⟨_, rfl, ?_⟩
  intro ac413 En415
  have Hv416 : Ev w [] wo414 [.vec aoq411 coq411 1 (bys (sealF k n a t)) 5, .vec aoq60 coq60 1 (bys (streamF k 1 n (List.take (List.length (sealF k n a t) - 16) (sealF k n a t)))) 5, .vec aoq45 coq45 1 (bys (sealF k n a t)) 5, .box bk1 (bys k) 22, .box bk6 (bys n) 24, .vec ao29 cp30 1 (bys t) 5] := wo69.trans (Ev.call (R := [.vec aoq60 coq60 1 (bys (streamF k 1 n (List.take (List.length (sealF k n a t) - 16) (sealF k n a t)))) 5, .vec aoq45 coq45 1 (bys (sealF k n a t)) 5, .box bk1 (bys k) 22, .box bk6 (bys n) 24, .vec ao29 cp30 1 (bys t) 5]) wo69.heap [0, 1, 2, 3, 4] (by kernel_rfl) (by decide) he417)
  clear hM412 he417
  refine ⟨fun _ => Hv416.pick [1, 2, 3, 4, 5] (by kernel_rfl) (by decide), ?_⟩
  refine h_at 9 (by kernel_rfl) rfl ?_
  refine op_str (d := some 40) (src := 25) (dst := 9) (e := 5) (ao := aoq411) (cap := coq411) (p := List.length (sealF k n a t)) (bs := sealF k n a t) En415 (by kernel_rfl) rfl (by kernel_rfl) (by kernel_rfl) (by kernel_rfl) (Hv416.heap.reads (k := 0) rfl) (bys_vnz Hv416.heap (k := 0) rfl) ?_
  intro ac418 En419
  refine ⟨fun _ => Hv416.pick [1, 2, 3, 4, 5] (by kernel_rfl) (by decide), ?_⟩
  refine h_pureR (d := some 41) En419 (v := .bool (ByteArray.toList (bstr (sealF k n a t)) == ByteArray.toList (bstr (sealF k n a t)))) 10 (by kernel_rfl) (by kernel_rfl) rfl (fun _ => Hv416.pick [1, 2, 3, 4, 5] (by kernel_rfl) (by decide)) ?_
  intro ac420 En421
  rw [Go.Dbr.bstr_eq (sealF k n a t) (sealF k n a t), show ((sealF k n a t) == (sealF k n a t)) = true from (by simp)] at En421
  refine h_pureR (d := some 42) En421 (v := .bool true) 11 (by kernel_rfl) (by kernel_rfl) rfl (fun _ => Hv416.pick [1, 2, 3, 4, 5] (by kernel_rfl) (by decide)) ?_
  intro ac422 En423
  refine h_pureR (d := some 43) En423 (v := .bool true) 12 (by kernel_rfl) (by kernel_rfl) rfl (fun _ => Hv416.pick [1, 2, 3, 4, 5] (by kernel_rfl) (by decide)) ?_
  intro ac424 En425
  refine h_pureR (d := some 44) En425 (v := .slice ao29 (List.length t) cp30) 13 (by kernel_rfl) (by kernel_rfl) rfl (fun _ => Hv416.pick [1, 2, 3, 4, 5] (by kernel_rfl) (by decide)) ?_
  intro ac426 En427
  refine h_read (d := some 45) (s := nv (convert 25 9 (.slice ao29 (List.length t) cp30))) En427 (v := .string (bstr t)) 14 (by kernel_rfl) (fun w hS => run_nv (run_str2 (e := 5) (bs := t) rfl (by kernel_rfl) (by kernel_rfl) (by kernel_rfl) (hS.heap.reads (k := 4) rfl) (bys_vnz hS.heap (k := 4) rfl))) (by kernel_rfl) rfl (Hv416.pick [1, 2, 3, 4, 5] (by kernel_rfl) (by decide)) ?_
  intro ac428 En429
  refine h_pureR (d := some 46) En429 (v := .slice a_t (List.length t) c_t) 15 (by kernel_rfl) (by kernel_rfl) rfl (fun _ => Hv416.pick [1, 2, 3, 4, 5] (by kernel_rfl) (by decide)) ?_
  intro ac430 En431
  refine h_read (d := some 47) (s := nv (convert 25 9 (.slice a_t (List.length t) c_t))) En431 (v := .string (bstr t)) 16 (by kernel_rfl) (fun w hS => run_nv (run_str2 (e := 5) (bs := t) rfl (by kernel_rfl) (by kernel_rfl) (by kernel_rfl) (i_t.ev hS).reads i_t.nz)) (by kernel_rfl) rfl (Hv416.pick [1, 2, 3, 4, 5] (by kernel_rfl) (by decide)) ?_
  intro ac432 En433
  refine h_pureR (d := some 48) En433 (v := .bool (ByteArray.toList (bstr t) == ByteArray.toList (bstr t))) 17 (by kernel_rfl) (by kernel_rfl) rfl (fun _ => Hv416.pick [1, 2, 3, 4, 5] (by kernel_rfl) (by decide)) ?_
  intro ac434 En435
  rw [Go.Dbr.bstr_eq t t, show (t == t) = true from (by simp)] at En435
  refine h_pureR (d := some 49) En435 (v := .bool true) 18 (by kernel_rfl) (by kernel_rfl) rfl (fun _ => Hv416.pick [1, 2, 3, 4, 5] (by kernel_rfl) (by decide)) ?_
  intro ac436 En437
  refine h_pureR (d := some 50) En437 (v := .bool true) 19 (by kernel_rfl) (by kernel_rfl) rfl (fun _ => Hv416.pick [1, 2, 3, 4, 5] (by kernel_rfl) (by decide)) ?_
  intro ac438 En439
  refine h_pureR (d := some 51) En439 (v := .int .i64 0) 20 (by kernel_rfl) (by kernel_rfl) rfl (fun _ => Hv416.pick [1, 2, 3, 4, 5] (by kernel_rfl) (by decide)) ?_
  intro ac440 En441
  refine h_pureR (d := some 52) En441 (v := .bool true) 21 (by kernel_rfl) (by kernel_rfl) rfl (fun _ => Hv416.pick [1, 2, 3, 4, 5] (by kernel_rfl) (by decide)) ?_
  intro ac442 En443
  refine h_pureR (d := some 53) En443 (v := .bool true) 22 (by kernel_rfl) (by kernel_rfl) rfl (fun _ => Hv416.pick [1, 2, 3, 4, 5] (by kernel_rfl) (by decide)) ?_
  intro ac444 En445
  refine h_pureR (d := some 54) En445 (v := .bool true) 23 (by kernel_rfl) (by kernel_rfl) rfl (fun _ => Hv416.pick [1, 2, 3, 4, 5] (by kernel_rfl) (by decide)) ?_
  intro ac446 En447
  refine h_pureR (d := some 55) En447 (v := .slice aoq60 (List.length (streamF k 1 n (List.take (List.length (sealF k n a t) - 16) (sealF k n a t)))) coq60) 24 (by kernel_rfl) (by kernel_rfl) rfl (fun _ => Hv416.pick [1, 2, 3, 4, 5] (by kernel_rfl) (by decide)) ?_
  intro ac448 En449
  refine h_read (d := some 56) (s := nv (convert 25 9 (.slice aoq60 (List.length (streamF k 1 n (List.take (List.length (sealF k n a t) - 16) (sealF k n a t)))) coq60))) En449 (v := .string (bstr (streamF k 1 n (List.take (List.length (sealF k n a t) - 16) (sealF k n a t))))) 25 (by kernel_rfl) (fun w hS => run_nv (run_str2 (e := 5) (bs := streamF k 1 n (List.take (List.length (sealF k n a t) - 16) (sealF k n a t))) rfl (by kernel_rfl) (by kernel_rfl) (by kernel_rfl) (hS.heap.reads (k := 0) rfl) (bys_vnz hS.heap (k := 0) rfl))) (by kernel_rfl) rfl (Hv416.pick [1, 2, 3, 4, 5] (by kernel_rfl) (by decide)) ?_
  intro ac450 En451
  refine h_pureR (d := some 57) En451 (v := .slice a_t (List.length t) c_t) 26 (by kernel_rfl) (by kernel_rfl) rfl (fun _ => Hv416.pick [1, 2, 3, 4, 5] (by kernel_rfl) (by decide)) ?_
  intro ac452 En453
  refine h_read (d := some 58) (s := nv (convert 25 9 (.slice a_t (List.length t) c_t))) En453 (v := .string (bstr t)) 27 (by kernel_rfl) (fun w hS => run_nv (run_str2 (e := 5) (bs := t) rfl (by kernel_rfl) (by kernel_rfl) (by kernel_rfl) (i_t.ev hS).reads i_t.nz)) (by kernel_rfl) rfl (Hv416.pick [1, 2, 3, 4, 5] (by kernel_rfl) (by decide)) ?_
  intro ac454 En455
  refine h_pureR (d := some 59) En455 (v := .bool (ByteArray.toList (bstr (streamF k 1 n (List.take (List.length (sealF k n a t) - 16) (sealF k n a t)))) == ByteArray.toList (bstr t))) 28 (by kernel_rfl) (by kernel_rfl) rfl (fun _ => Hv416.pick [1, 2, 3, 4, 5] (by kernel_rfl) (by decide)) ?_
  intro ac456 En457
  rw [Go.Dbr.bstr_eq (streamF k 1 n (List.take (List.length (sealF k n a t) - 16) (sealF k n a t))) t, show ((streamF k 1 n (List.take (List.length (sealF k n a t) - 16) (sealF k n a t))) == t) = true from (by rw [hstr]; simp)] at En457
  refine h_pureR (d := some 60) En457 (v := .bool true) 29 (by kernel_rfl) (by kernel_rfl) rfl (fun _ => Hv416.pick [1, 2, 3, 4, 5] (by kernel_rfl) (by decide)) ?_
  intro ac458 En459
  refine h_pureR (d := some 61) En459 (v := .bool true) 30 (by kernel_rfl) (by kernel_rfl) rfl (fun _ => Hv416.pick [1, 2, 3, 4, 5] (by kernel_rfl) (by decide)) ?_
  intro ac460 En461
  refine h_pureR (d := some 62) En461 (v := .slice aoq45 (List.length (sealF k n a t)) coq45) 31 (by kernel_rfl) (by kernel_rfl) rfl (fun _ => Hv416.pick [1, 2, 3, 4, 5] (by kernel_rfl) (by decide)) ?_
  intro ac462 En463
  refine h_pureR (d := some 63) En463 (v := .int .i64 ((List.length (sealF k n a t) : Nat) : Int)) 32 (by kernel_rfl) (by kernel_rfl) rfl (fun _ => Hv416.pick [1, 2, 3, 4, 5] (by kernel_rfl) (by decide)) ?_
  intro ac464 En465
  refine h_pureR (d := some 64) En465 (v := .slice a_t (List.length t) c_t) 33 (by kernel_rfl) (by kernel_rfl) rfl (fun _ => Hv416.pick [1, 2, 3, 4, 5] (by kernel_rfl) (by decide)) ?_
  intro ac466 En467
  refine h_pureR (d := some 65) En467 (v := .int .i64 ((List.length t : Nat) : Int)) 34 (by kernel_rfl) (by kernel_rfl) rfl (fun _ => Hv416.pick [1, 2, 3, 4, 5] (by kernel_rfl) (by decide)) ?_
  intro ac468 En469
  refine h_pureR (d := some 66) En469 (v := .int .i64 (IntKind.wrap .i64 (((List.length t : Nat) : Int) + (16 : Int)))) 35 (by kernel_rfl) (by kernel_rfl) rfl (fun _ => Hv416.pick [1, 2, 3, 4, 5] (by kernel_rfl) (by decide)) ?_
  intro ac470 En471
  rw [Go.Dbr.wr64 (e := ((List.length t : Nat) : Int) + (16 : Int)) (x := (((List.length t) + 16 : Nat) : Int)) (by omega) (by omega) (by omega)] at En471
  refine h_pureR (d := some 67) En471 (v := .bool (((List.length (sealF k n a t) : Nat) : Int) == (((List.length t) + 16 : Nat) : Int))) 36 (by kernel_rfl) (by kernel_rfl) rfl (fun _ => Hv416.pick [1, 2, 3, 4, 5] (by kernel_rfl) (by decide)) ?_
  intro ac472 En473
  rw [show (((List.length (sealF k n a t) : Nat) : Int) == (((List.length t) + 16 : Nat) : Int)) = true from by rw [hslen]; simp] at En473
  refine h_pureR (d := some 68) En473 (v := .bool true) 37 (by kernel_rfl) (by kernel_rfl) rfl (fun _ => Hv416.pick [1, 2, 3, 4, 5] (by kernel_rfl) (by decide)) ?_
  intro ac474 En475
  refine h_pureR (d := some 8) En475 (v := .bool true) 38 (by kernel_rfl) (by kernel_rfl) rfl (fun _ => Hv416.pick [1, 2, 3, 4, 5] (by kernel_rfl) (by decide)) ?_
  intro ac476 En477
  exact h_end (by kernel_rfl) ⟨En477.sub (by kernel_rfl), Hv416.pick [2, 3, 4, 5] (by kernel_rfl) (by decide)⟩
 rintro ac478 wo479 ⟨En480, Hv481⟩
 refine then_normal ?_
 refine wp_ret ?_
 refine d_ret1 (t := 8) (v := .bool true) En480 (by kernel_rfl) (by kernel_rfl) ?_
 exact ⟨rfl, Hv481.pick [] (by kernel_rfl) (by decide)⟩

end Go.Proofs.Ytnahplggflhdaaa
