/- ChachaCodes: its walk. -/
import Derived.Test.YtnahplggflhdaaaC4
import Derived.Test.YtnahplggflhdaaaP8
namespace Go.Proofs.Ytnahplggflhdaaa
open Go.Dbr
set_option maxRecDepth 100000
set_option maxHeartbeats 2000000
set_option linter.unusedVariables false
set_option linter.unusedSimpArgs false

theorem codes_walk (k : List UInt8) (a_t : Option Addr) (c_t : Nat) (t : List UInt8) (g : UInt8) (w : World) (n_k : (List.length k = 32)) (i_t : InB w [] a_t c_t t) : Calls Try.prog 4 #[.agg (List.toArray (bys k)), .slice a_t (List.length t) c_t, .int .u8 ((UInt8.toNat g : Nat) : Int)] w fun e w' => e = .returned (.bool true) ∧ Ev w [] w' [] := by
  have hs := i_t.small
  have hcb := i_t.cap
  refine d_start [(0, .agg (List.toArray (bys k))), (1, .slice a_t (List.length t) c_t), (2, .int .u8 ((UInt8.toNat g : Nat) : Int))] 48 Go.Proofs.Try.func4 Go.Proofs.Try.ntmps4 rfl (by kernel_rfl) (by kernel_rfl) ?_
  intro act0 En0
  have Hv0 : Ev w [] w [] := Ev.refl (Heap.nil _)
  refine wp_seq ?_
  refine region_from ?_  -- region 0
  refine from_op (by kernel_rfl) ?_
  refine op_newbox (d := some 3) (T := 22) (v := .agg (List.toArray (bys k))) (cs := bys k) En0 (by kernel_rfl) rfl Hv0 ?_
  intro ac2 wo3 bk1 En4 Hv5
  refine d_pures [(1, .slice a_t (List.length t) c_t), (2, .int .u8 ((UInt8.toNat g : Nat) : Int)), (3, .pointer (some ⟨bk1, 0, none⟩)), (6, .bool false)] [.bool false] 2 En4 (by kernel_rfl) (by kernel_rfl) rfl ?_
  intro ac6 En7
  refine from_end (by kernel_rfl) ?_
  refine then_normal ?_
  refine wp_seq ?_
  refine region_from ?_  -- region 1
  refine from_op (by kernel_rfl) ?_
  have hM8 : Heap wo3 [] := Hv5.heap.pick [] (by kernel_rfl) (by decide)
  refine op_call (d := some 10) (f := 8) (args := #[]) En7 (by kernel_rfl) ((head_ok _).mono ?_)
  rintro _ wo10 ⟨rfl, he13⟩
  refine ⟨_, rfl, ?_⟩
  intro ac9 En11
  have Hv12 : Ev w [] wo10 [.box bk1 (bys k) 22] := Hv5.trans (Ev.call (R := [.box bk1 (bys k) 22]) Hv5.heap [0] (by kernel_rfl) (by decide) he13)
  clear hM8 he13
  refine d_pures [(1, .slice a_t (List.length t) c_t), (2, .int .u8 ((UInt8.toNat g : Nat) : Int)), (3, .pointer (some ⟨bk1, 0, none⟩)), (6, .bool false), (7, .bool true)] [.bool true] 2 En11 (by kernel_rfl) (by kernel_rfl) rfl ?_
  intro ac14 En15
  refine from_end (by kernel_rfl) ?_
  refine then_normal ?_
  refine wp_seq ?_
  refine region_from ?_  -- region 2
  refine from_op (by kernel_rfl) ?_
  refine op_lit (d := some 11) (t := 25) (T := 5) (m := 0) (parts := #[]) (xs := bys []) (sz := 1) En15 (by kernel_rfl) (by kernel_rfl) rfl (by decide) Hv12 ?_
  intro ac17 wo18 bk16 En19 Hv20
  refine d_pures [(1, .slice a_t (List.length t) c_t), (2, .int .u8 ((UInt8.toNat g : Nat) : Int)), (3, .pointer (some ⟨bk1, 0, none⟩)), (6, .bool false), (7, .bool true), (11, .slice (some ⟨bk16, 0, none⟩) 0 0), (12, .slice a_t (List.length t) c_t)] [.slice a_t (List.length t) c_t] 2 En19 (by kernel_rfl) (by kernel_rfl) rfl ?_
  intro ac21 En22
  refine from_op (by kernel_rfl) ?_
  have hsm23 := i_t.small
  refine op_append (d := some 13) (t := 25) (tx := 25) (ty := 25) (k := 1) (p := 0) (m := List.length t) (x := .slice a_t (List.length t) c_t) (bytes := 1) En22 (by kernel_rfl) Hv20 rfl rfl (Reads.src (size := 1) (tx := 25) (e' := 5) (by kernel_rfl) (i_t.ev Hv20).reads (bys_len _) i_t.nz (bys_one _)) (by kernel_rfl) (z := .int .u8 0) (by kernel_rfl) rfl (by decide) (by omega) (by unfold maxLen; omega) ?_
  intro ac28 wo29 ao24 cp25 En30 Hv31 _ _
  rw [bys_nil_append] at Hv31
  have ehz26 : 0 + (List.length t) = List.length t := (by first | (simp; done) | (simp; omega) | omega)
  rw [ehz26] at En30
  refine d_pures [(1, .slice a_t (List.length t) c_t), (2, .int .u8 ((UInt8.toNat g : Nat) : Int)), (3, .pointer (some ⟨bk1, 0, none⟩)), (6, .bool false), (7, .bool true), (8, .slice ao24 (List.length t) cp25)] [.slice ao24 (List.length t) cp25] 4 En30 (by kernel_rfl) (by kernel_rfl) rfl ?_
  intro ac32 En33
  refine from_end (by kernel_rfl) ?_
  refine then_normal ?_
  refine wp_seq ?_
  refine wp_seq ?_
  refine region_from ?_  -- region 3
  refine d_pures [(1, .slice a_t (List.length t) c_t), (2, .int .u8 ((UInt8.toNat g : Nat) : Int)), (3, .pointer (some ⟨bk1, 0, none⟩)), (6, .bool false), (7, .bool true), (8, .slice ao24 (List.length t) cp25), (9, .int .i64 0)] [.int .i64 0] 1 En33 (by kernel_rfl) (by kernel_rfl) rfl ?_
  intro ac34 En35
  refine from_end (by kernel_rfl) ?_
  refine then_normal ?_
  refine wp_block ?_
  refine loop_m (fun ms36 ac wo => ∃ (i : Nat) (o : List UInt8), ms36 = (List.length t - i : Nat) ∧ Env ac 48 [(1, .slice a_t (List.length t) c_t), (2, .int .u8 ((UInt8.toNat g : Nat) : Int)), (3, .pointer (some ⟨bk1, 0, none⟩)), (6, .bool false), (7, .bool true), (8, .slice ao24 (List.length t) cp25), (9, .int .i64 ((i : Nat) : Int))] ∧ Ev w [] wo [.vec ao24 cp25 1 (bys o) 5, .box bk1 (bys k) 22] ∧ (List.length o = List.length t)) ⟨_, 0, t, rfl, En35.sub (by kernel_rfl), Hv31.pick [1, 0] (by kernel_rfl) (by decide), by simp⟩ ?_
  rintro mm42 ac38 wo39 ⟨i, o, rfl, En40, Hv41, ho⟩
  refine wp_seq ?_
  refine wp_seq ?_
  refine region_from ?_  -- region 4
  refine d_pures [(1, .slice a_t (List.length t) c_t), (2, .int .u8 ((UInt8.toNat g : Nat) : Int)), (3, .pointer (some ⟨bk1, 0, none⟩)), (6, .bool false), (7, .bool true), (8, .slice ao24 (List.length t) cp25), (9, .int .i64 ((i : Nat) : Int)), (18, .bool (decide (((i : Nat) : Int) < ((List.length t : Nat) : Int))))] [.int .i64 ((i : Nat) : Int), .slice ao24 (List.length t) cp25, .int .i64 ((List.length t : Nat) : Int), .bool (decide (((i : Nat) : Int) < ((List.length t : Nat) : Int))), .bool (decide (((i : Nat) : Int) < ((List.length t : Nat) : Int)))] 5 En40 (by kernel_rfl) (by kernel_rfl) rfl ?_
  intro ac43 En44
  rcases Bool.eq_false_or_eq_true (decide (((i : Nat) : Int) < ((List.length t : Nat) : Int))) with hb45 | hb45
  · rw [hb45] at En44
    have hp46 : ((i : Nat) : Int) < ((List.length t : Nat) : Int) := of_decide_eq_true hb45
    refine d_pures [(1, .slice a_t (List.length t) c_t), (2, .int .u8 ((UInt8.toNat g : Nat) : Int)), (3, .pointer (some ⟨bk1, 0, none⟩)), (6, .bool false), (7, .bool true), (8, .slice ao24 (List.length t) cp25), (9, .int .i64 ((i : Nat) : Int)), (18, .bool true), (19, .int .i64 ((i : Nat) : Int)), (21, .int .i64 (IntKind.wrap .i64 ((UInt8.toNat g : Nat) : Int)))] [.int .i64 ((i : Nat) : Int), .int .u8 ((UInt8.toNat g : Nat) : Int), .int .i64 (IntKind.wrap .i64 ((UInt8.toNat g : Nat) : Int))] 8 En44 (by kernel_rfl) (by kernel_rfl) rfl ?_
    intro ac47 En48
    rw [Go.Dbr.u8_to_i64 (a := ((UInt8.toNat g : Nat) : Int)) (x := g) rfl] at En48
    refine d_pures [(1, .slice a_t (List.length t) c_t), (2, .int .u8 ((UInt8.toNat g : Nat) : Int)), (3, .pointer (some ⟨bk1, 0, none⟩)), (6, .bool false), (7, .bool true), (8, .slice ao24 (List.length t) cp25), (9, .int .i64 ((i : Nat) : Int)), (23, .bool (decide (((i : Nat) : Int) < ((UInt8.toNat g : Nat) : Int))))] [.bool (decide (((i : Nat) : Int) < ((UInt8.toNat g : Nat) : Int))), .bool (decide (((i : Nat) : Int) < ((UInt8.toNat g : Nat) : Int)))] 10 En48 (by kernel_rfl) (by kernel_rfl) rfl ?_
    intro ac49 En50
    refine from_end (by kernel_rfl) ?_
    refine then_normal ?_
    refine cond_at En50 (t := decide (((i : Nat) : Int) < ((UInt8.toNat g : Nat) : Int))) (by kernel_rfl) (fun hc51 => ?_) (fun hc51 => ?_)
    ·
      replace hc51 : ((i : Nat) : Int) < ((UInt8.toNat g : Nat) : Int) := of_decide_eq_true hc51
      refine wp_skip ?_
      refine then_normal ?_
      refine wp_seq ?_
      refine wp_block ?_
      refine region_from ?_  -- region 6
      have hb54 : i < List.length t := (by omega)
      obtain ⟨adr52, had53⟩ := some_of (fun e => by have h := (bys_vnz Hv41.heap (k := 0) rfl) e; first | omega | (simp at h; omega)) hb54
      refine d_pures [(1, .slice a_t (List.length t) c_t), (2, .int .u8 ((UInt8.toNat g : Nat) : Int)), (3, .pointer (some ⟨bk1, 0, none⟩)), (6, .bool false), (7, .bool true), (8, .slice ao24 (List.length t) cp25), (9, .int .i64 ((i : Nat) : Int)), (26, .slice ao24 (List.length t) cp25), (27, .int .i64 ((i : Nat) : Int))] [.slice ao24 (List.length t) cp25, .int .i64 ((i : Nat) : Int)] 2 En50 (by kernel_rfl) (by kernel_rfl) rfl ?_
      intro ac55 En56
      refine from_op (by kernel_rfl) ?_
      refine op_val (d := some 28) (x := Instr.indexAt 25 (.slice ao24 (List.length t) cp25) (.int .i64 ((i : Nat) : Int))) (v := .pointer (some (Addr.add adr52 i))) En56 (by kernel_rfl) (Go.Dbr.run_indexsl (e := 5) (sz := 1) (j := i) (jo := i) had53 (by kernel_rfl) (by kernel_rfl) (by omega) hb54 (Nat.mul_one _) _) ?_
      intro ac57 En58
      refine from_op (by kernel_rfl) ?_
      refine op_storeel (d := none) (t := 5) (ad := adr52) (ao := ao24) (k := 0) (cap := cp25) (sz := 1) (j := i) (xs := bys o) (v := bv (255 : UInt8)) En58 (by kernel_rfl) Hv41 rfl had53 (by rw [bys_length]; omega) (by kernel_rfl) rfl ?_
      intro ac59 wo60  En61 Hv62
      rw [bys_set] at Hv62
      refine from_end (by kernel_rfl) ?_
      refine block_normal ?_
      refine then_normal ?_
      refine region_from ?_  -- region 5
      refine d_pures [(1, .slice a_t (List.length t) c_t), (2, .int .u8 ((UInt8.toNat g : Nat) : Int)), (3, .pointer (some ⟨bk1, 0, none⟩)), (6, .bool false), (7, .bool true), (8, .slice ao24 (List.length t) cp25), (9, .int .i64 ((i : Nat) : Int)), (25, .int .i64 (IntKind.wrap .i64 (((i : Nat) : Int) + (1 : Int))))] [.int .i64 ((i : Nat) : Int), .int .i64 (IntKind.wrap .i64 (((i : Nat) : Int) + (1 : Int)))] 2 En61 (by kernel_rfl) (by kernel_rfl) rfl ?_
      intro ac63 En64
      rw [Go.Dbr.wr64 (e := ((i : Nat) : Int) + (1 : Int)) (x := ((i + 1 : Nat) : Int)) (by omega) (by omega) (by omega)] at En64
      refine d_pures [(1, .slice a_t (List.length t) c_t), (2, .int .u8 ((UInt8.toNat g : Nat) : Int)), (3, .pointer (some ⟨bk1, 0, none⟩)), (6, .bool false), (7, .bool true), (8, .slice ao24 (List.length t) cp25), (9, .int .i64 ((i + 1 : Nat) : Int))] [.int .i64 ((i + 1 : Nat) : Int)] 3 En64 (by kernel_rfl) (by kernel_rfl) rfl ?_
      intro ac65 En66
      refine from_end (by kernel_rfl) ?_
      refine then_normal ?_
      refine ⟨_, ⟨i + 1, (List.set o i (255 : UInt8)), rfl, En66.sub (by kernel_rfl), Hv62.pick [0, 1] (by kernel_rfl) (by decide), by simp [ho]⟩, ?_⟩
      omega
    ·
      replace hc51 : ¬ (((i : Nat) : Int) < ((UInt8.toNat g : Nat) : Int)) := of_decide_eq_false hc51
      refine wp_exit ?_
      refine then_exit ?_
      refine then_exit ?_
      refine block_exit ?_
      refine then_normal ?_
      refine wp_seq ?_
      refine region_cut (F := fun ac wo => Env ac 48 [(1, .slice a_t (List.length t) c_t), (2, .int .u8 ((UInt8.toNat g : Nat) : Int)), (6, .bool true), (8, .slice ao24 (List.length t) cp25), (9, .int .i64 ((i : Nat) : Int))] ∧ Ev w [] wo [.vec ao24 cp25 1 (bys o) 5]) ?_ ?_
      ·
        refine h_start (fun wv => Ev w [] wv [.box bk1 (bys k) 22]) [] (by kernel_rfl) 20 (by kernel_rfl) ?_  -- region 7
        have wo67 := Hv41.trans (Ev.drew Hv41.heap)
        refine h_pureR (d := some 29) En50 (v := .bool true) 0 (by kernel_rfl) (by kernel_rfl) rfl (fun _ => wo67.pick [1] (by kernel_rfl) (by decide)) ?_
        intro ac280 En281
        refine h_pureR (d := some 30) En281 (v := .bool true) 1 (by kernel_rfl) (by kernel_rfl) rfl (fun _ => wo67.pick [1] (by kernel_rfl) (by decide)) ?_
        intro ac282 En283
        refine h_read (d := some 31) (s := nv (Instr.loadAt 22 (.pointer (some ⟨bk1, 0, none⟩)))) En283 (v := .agg (List.toArray (bys k))) 2 (by kernel_rfl) (fun w hS => run_nv (run_loadAgg2 (m := 32) (cs := bys k) (bys_lenh n_k) (by kernel_rfl) (by kernel_rfl) (hS.heap.cells (k := 0) (off := 0) (m := 32) rfl (load_whole (bys_lenh n_k))))) (by kernel_rfl) rfl (wo67.pick [1] (by kernel_rfl) (by decide)) ?_
        intro ac284 En285
        refine h_pureR (d := some 32) En285 (v := .slice a_t (List.length t) c_t) 3 (by kernel_rfl) (by kernel_rfl) rfl (fun _ => wo67.pick [1] (by kernel_rfl) (by decide)) ?_
        intro ac286 En287
        refine h_read (d := some 34) (s := nv (Instr.loadAt 22 (.pointer (some ⟨bk1, 0, none⟩)))) En287 (v := .agg (List.toArray (bys k))) 5 (by kernel_rfl) (fun w hS => run_nv (run_loadAgg2 (m := 32) (cs := bys k) (bys_lenh n_k) (by kernel_rfl) (by kernel_rfl) (hS.heap.cells (k := 0) (off := 0) (m := 32) rfl (load_whole (bys_lenh n_k))))) (by kernel_rfl) rfl (wo67.pick [1] (by kernel_rfl) (by decide)) ?_
        intro ac288 En289
        refine h_pureR (d := some 35) En289 (v := .slice a_t (List.length t) c_t) 6 (by kernel_rfl) (by kernel_rfl) rfl (fun _ => wo67.pick [1] (by kernel_rfl) (by decide)) ?_
        intro ac290 En291
        refine h_at 4 (by kernel_rfl) rfl ?_
        have hM292 : Heap wo39.drew [] := wo67.heap.pick [] (by kernel_rfl) (by decide)
        refine op_call (d := some 33) (f := 13) (args := #[.agg (List.toArray (bys k)), .slice a_t (List.length t) c_t]) En291 (by kernel_rfl) ((poly_go _ k n_k a_t (List.length t) c_t t (by first | rfl | (simp; done) | (simp; omega) | omega) ((i_t.ev wo67).pick [] (by kernel_rfl))).mono ?_)
        rintro _ wo294 ⟨rfl, he297⟩
        refine ⟨_, rfl, ?_⟩
        intro ac293 En295
        have Hv296 : Ev w [] wo294 [.vec ao24 cp25 1 (bys o) 5, .box bk1 (bys k) 22] := wo67.trans (Ev.call (R := [.vec ao24 cp25 1 (bys o) 5, .box bk1 (bys k) 22]) wo67.heap [0, 1] (by kernel_rfl) (by decide) he297)
        clear hM292 he297
        refine ⟨fun _ => Hv296.pick [1] (by kernel_rfl) (by decide), ?_⟩
        refine h_at 7 (by kernel_rfl) rfl ?_
        have hM298 : Heap wo294 [] := Hv296.heap.pick [] (by kernel_rfl) (by decide)
        refine op_call (d := some 36) (f := 14) (args := #[.agg (List.toArray (bys k)), .slice a_t (List.length t) c_t]) En295 (by kernel_rfl) ((poly_ref _ k n_k a_t (List.length t) c_t t (by first | rfl | (simp; done) | (simp; omega) | omega) ((i_t.ev Hv296).pick [] (by kernel_rfl))).mono ?_)
        rintro _ wo300 ⟨rfl, he303⟩
        refine ⟨_, rfl, ?_⟩
        intro ac299 En301
        have Hv302 : Ev w [] wo300 [.vec ao24 cp25 1 (bys o) 5, .box bk1 (bys k) 22] := Hv296.trans (Ev.call (R := [.vec ao24 cp25 1 (bys o) 5, .box bk1 (bys k) 22]) Hv296.heap [0, 1] (by kernel_rfl) (by decide) he303)
        clear hM298 he303
        refine ⟨fun _ => Hv302.pick [1] (by kernel_rfl) (by decide), ?_⟩
        refine h_free (d := some 37) (s := nv (eqOp .eql 31 (.tmp 33) (.tmp 36) (.agg (List.toArray (bys (polyF k t)))) (.agg (List.toArray (bys (polyF k t)))))) En301 (v := .bool true) 8 (by kernel_rfl) (fun _ => run_nv (Go.Dbr.run_is (fun w => Go.Dbr.bys_eqop (a := (.tmp 33)) (b := (.tmp 36)) (e := 5) (m := 16) (by kernel_rfl) (by kernel_rfl) (by kernel_rfl) (by kernel_rfl) (by kernel_rfl) (polyF_len _ _) (polyF_len _ _) w) (by simp) _)) (by kernel_rfl) rfl (fun _ => Hv302.pick [1] (by kernel_rfl) (by decide)) ?_
        intro ac304 En305
        refine h_pureR (d := some 38) En305 (v := .bool true) 9 (by kernel_rfl) (by kernel_rfl) rfl (fun _ => Hv302.pick [1] (by kernel_rfl) (by decide)) ?_
        intro ac306 En307
        refine h_pureR (d := some 39) En307 (v := .bool true) 10 (by kernel_rfl) (by kernel_rfl) rfl (fun _ => Hv302.pick [1] (by kernel_rfl) (by decide)) ?_
        intro ac308 En309
        refine h_read (d := some 40) (s := nv (Instr.loadAt 22 (.pointer (some ⟨bk1, 0, none⟩)))) En309 (v := .agg (List.toArray (bys k))) 11 (by kernel_rfl) (fun w hS => run_nv (run_loadAgg2 (m := 32) (cs := bys k) (bys_lenh n_k) (by kernel_rfl) (by kernel_rfl) (hS.heap.cells (k := 0) (off := 0) (m := 32) rfl (load_whole (bys_lenh n_k))))) (by kernel_rfl) rfl (Hv302.pick [1] (by kernel_rfl) (by decide)) ?_
        intro ac310 En311
        refine h_pureR (d := some 41) En311 (v := .slice ao24 (List.length t) cp25) 12 (by kernel_rfl) (by kernel_rfl) rfl (fun _ => Hv302.pick [1] (by kernel_rfl) (by decide)) ?_
        intro ac312 En313
        refine h_read (d := some 43) (s := nv (Instr.loadAt 22 (.pointer (some ⟨bk1, 0, none⟩)))) En313 (v := .agg (List.toArray (bys k))) 14 (by kernel_rfl) (fun w hS => run_nv (run_loadAgg2 (m := 32) (cs := bys k) (bys_lenh n_k) (by kernel_rfl) (by kernel_rfl) (hS.heap.cells (k := 0) (off := 0) (m := 32) rfl (load_whole (bys_lenh n_k))))) (by kernel_rfl) rfl (Hv302.pick [1] (by kernel_rfl) (by decide)) ?_
        intro ac314 En315
        refine h_pureR (d := some 44) En315 (v := .slice ao24 (List.length t) cp25) 15 (by kernel_rfl) (by kernel_rfl) rfl (fun _ => Hv302.pick [1] (by kernel_rfl) (by decide)) ?_
        intro ac316 En317
        refine h_at 13 (by kernel_rfl) rfl ?_
        have hM318 : Heap wo300 [] := Hv302.heap.pick [] (by kernel_rfl) (by decide)
        refine op_call (d := some 42) (f := 13) (args := #[.agg (List.toArray (bys k)), .slice ao24 (List.length t) cp25]) En317 (by kernel_rfl) ((poly_go _ k n_k ao24 (List.length t) cp25 o (by first | rfl | (simp; done) | (simp; omega) | omega) (bys_in Hv302.heap (k := 0) rfl [] (by kernel_rfl) rfl (by first | omega | (simp; done) | (simp; omega)))).mono ?_)
        rintro _ wo320 ⟨rfl, he323⟩
        refine ⟨_, rfl, ?_⟩
        intro ac319 En321
        have Hv322 : Ev w [] wo320 [.vec ao24 cp25 1 (bys o) 5, .box bk1 (bys k) 22] := Hv302.trans (Ev.call (R := [.vec ao24 cp25 1 (bys o) 5, .box bk1 (bys k) 22]) Hv302.heap [0, 1] (by kernel_rfl) (by decide) he323)
        clear hM318 he323
        refine ⟨fun _ => Hv322.pick [1] (by kernel_rfl) (by decide), ?_⟩
        refine h_at 16 (by kernel_rfl) rfl ?_
        have hM324 : Heap wo320 [] := Hv322.heap.pick [] (by kernel_rfl) (by decide)
        refine op_call (d := some 45) (f := 14) (args := #[.agg (List.toArray (bys k)), .slice ao24 (List.length t) cp25]) En321 (by kernel_rfl) ((poly_ref _ k n_k ao24 (List.length t) cp25 o (by first | rfl | (simp; done) | (simp; omega) | omega) (bys_in Hv322.heap (k := 0) rfl [] (by kernel_rfl) rfl (by first | omega | (simp; done) | (simp; omega)))).mono ?_)
        rintro _ wo326 ⟨rfl, he329⟩
        refine ⟨_, rfl, ?_⟩
        intro ac325 En327
        have Hv328 : Ev w [] wo326 [.vec ao24 cp25 1 (bys o) 5, .box bk1 (bys k) 22] := Hv322.trans (Ev.call (R := [.vec ao24 cp25 1 (bys o) 5, .box bk1 (bys k) 22]) Hv322.heap [0, 1] (by kernel_rfl) (by decide) he329)
        clear hM324 he329
        refine ⟨fun _ => Hv328.pick [1] (by kernel_rfl) (by decide), ?_⟩
        refine h_free (d := some 46) (s := nv (eqOp .eql 31 (.tmp 42) (.tmp 45) (.agg (List.toArray (bys (polyF k o)))) (.agg (List.toArray (bys (polyF k o)))))) En327 (v := .bool true) 17 (by kernel_rfl) (fun _ => run_nv (Go.Dbr.run_is (fun w => Go.Dbr.bys_eqop (a := (.tmp 42)) (b := (.tmp 45)) (e := 5) (m := 16) (by kernel_rfl) (by kernel_rfl) (by kernel_rfl) (by kernel_rfl) (by kernel_rfl) (polyF_len _ _) (polyF_len _ _) w) (by simp) _)) (by kernel_rfl) rfl (fun _ => Hv328.pick [1] (by kernel_rfl) (by decide)) ?_
        intro ac330 En331
        refine h_pureR (d := some 47) En331 (v := .bool true) 18 (by kernel_rfl) (by kernel_rfl) rfl (fun _ => Hv328.pick [1] (by kernel_rfl) (by decide)) ?_
        intro ac332 En333
        refine h_pureR (d := some 6) En333 (v := .bool true) 19 (by kernel_rfl) (by kernel_rfl) rfl (fun _ => Hv328.pick [1] (by kernel_rfl) (by decide)) ?_
        intro ac334 En335
        exact h_end (by kernel_rfl) ⟨En335.sub (by kernel_rfl), Hv328.pick [0] (by kernel_rfl) (by decide)⟩
      rintro ac336 wo337 ⟨En338, Hv339⟩
      refine then_normal ?_
      refine wp_ret ?_
      refine d_ret1 (t := 6) (v := .bool true) En338 (by kernel_rfl) (by kernel_rfl) ?_
      exact ⟨rfl, Hv339.pick [] (by kernel_rfl) (by decide)⟩
  · rw [hb45] at En44
    have hp340 : ¬ (((i : Nat) : Int) < ((List.length t : Nat) : Int)) := of_decide_eq_false hb45
    refine d_pures [(1, .slice a_t (List.length t) c_t), (2, .int .u8 ((UInt8.toNat g : Nat) : Int)), (3, .pointer (some ⟨bk1, 0, none⟩)), (6, .bool false), (7, .bool true), (8, .slice ao24 (List.length t) cp25), (9, .int .i64 ((i : Nat) : Int)), (23, .bool false)] [undef, undef, undef, undef, .bool false] 10 En44 (by kernel_rfl) (by kernel_rfl) rfl ?_
    intro ac341 En342
    refine from_end (by kernel_rfl) ?_
    refine then_normal ?_
    refine cond_false En342 (t := false) (by kernel_rfl) rfl ?_
    refine wp_exit ?_
    refine then_exit ?_
    refine then_exit ?_
    refine block_exit ?_
    refine then_normal ?_
    refine wp_seq ?_
    refine region_cut (F := fun ac wo => Env ac 48 [(1, .slice a_t (List.length t) c_t), (2, .int .u8 ((UInt8.toNat g : Nat) : Int)), (6, .bool true), (8, .slice ao24 (List.length t) cp25), (9, .int .i64 ((i : Nat) : Int))] ∧ Ev w [] wo [.vec ao24 cp25 1 (bys o) 5]) ?_ ?_
    ·
      refine h_start (fun wv => Ev w [] wv [.box bk1 (bys k) 22]) [] (by kernel_rfl) 20 (by kernel_rfl) ?_  -- region 7
      have wo343 := Hv41.trans (Ev.drew Hv41.heap)
      refine h_pureR (d := some 29) En342 (v := .bool true) 0 (by kernel_rfl) (by kernel_rfl) rfl (fun _ => wo343.pick [1] (by kernel_rfl) (by decide)) ?_
      intro ac556 En557
      refine h_pureR (d := some 30) En557 (v := .bool true) 1 (by kernel_rfl) (by kernel_rfl) rfl (fun _ => wo343.pick [1] (by kernel_rfl) (by decide)) ?_
      intro ac558 En559
      refine h_read (d := some 31) (s := nv (Instr.loadAt 22 (.pointer (some ⟨bk1, 0, none⟩)))) En559 (v := .agg (List.toArray (bys k))) 2 (by kernel_rfl) (fun w hS => run_nv (run_loadAgg2 (m := 32) (cs := bys k) (bys_lenh n_k) (by kernel_rfl) (by kernel_rfl) (hS.heap.cells (k := 0) (off := 0) (m := 32) rfl (load_whole (bys_lenh n_k))))) (by kernel_rfl) rfl (wo343.pick [1] (by kernel_rfl) (by decide)) ?_
      intro ac560 En561
      refine h_pureR (d := some 32) En561 (v := .slice a_t (List.length t) c_t) 3 (by kernel_rfl) (by kernel_rfl) rfl (fun _ => wo343.pick [1] (by kernel_rfl) (by decide)) ?_
      intro ac562 En563
      refine h_read (d := some 34) (s := nv (Instr.loadAt 22 (.pointer (some ⟨bk1, 0, none⟩)))) En563 (v := .agg (List.toArray (bys k))) 5 (by kernel_rfl) (fun w hS => run_nv (run_loadAgg2 (m := 32) (cs := bys k) (bys_lenh n_k) (by kernel_rfl) (by kernel_rfl) (hS.heap.cells (k := 0) (off := 0) (m := 32) rfl (load_whole (bys_lenh n_k))))) (by kernel_rfl) rfl (wo343.pick [1] (by kernel_rfl) (by decide)) ?_
      intro ac564 En565
      refine h_pureR (d := some 35) En565 (v := .slice a_t (List.length t) c_t) 6 (by kernel_rfl) (by kernel_rfl) rfl (fun _ => wo343.pick [1] (by kernel_rfl) (by decide)) ?_
      intro ac566 En567
      refine h_at 4 (by kernel_rfl) rfl ?_
      have hM568 : Heap wo39.drew [] := wo343.heap.pick [] (by kernel_rfl) (by decide)
      refine op_call (d := some 33) (f := 13) (args := #[.agg (List.toArray (bys k)), .slice a_t (List.length t) c_t]) En567 (by kernel_rfl) ((poly_go _ k n_k a_t (List.length t) c_t t (by first | rfl | (simp; done) | (simp; omega) | omega) ((i_t.ev wo343).pick [] (by kernel_rfl))).mono ?_)
      rintro _ wo570 ⟨rfl, he573⟩
      refine ⟨_, rfl, ?_⟩
      intro ac569 En571
      have Hv572 : Ev w [] wo570 [.vec ao24 cp25 1 (bys o) 5, .box bk1 (bys k) 22] := wo343.trans (Ev.call (R := [.vec ao24 cp25 1 (bys o) 5, .box bk1 (bys k) 22]) wo343.heap [0, 1] (by kernel_rfl) (by decide) he573)
      clear hM568 he573
      refine ⟨fun _ => Hv572.pick [1] (by kernel_rfl) (by decide), ?_⟩
      refine h_at 7 (by kernel_rfl) rfl ?_
      have hM574 : Heap wo570 [] := Hv572.heap.pick [] (by kernel_rfl) (by decide)
      refine op_call (d := some 36) (f := 14) (args := #[.agg (List.toArray (bys k)), .slice a_t (List.length t) c_t]) En571 (by kernel_rfl) ((poly_ref _ k n_k a_t (List.length t) c_t t (by first | rfl | (simp; done) | (simp; omega) | omega) ((i_t.ev Hv572).pick [] (by kernel_rfl))).mono ?_)
      rintro _ wo576 ⟨rfl, he579⟩
      refine ⟨_, rfl, ?_⟩
      intro ac575 En577
      have Hv578 : Ev w [] wo576 [.vec ao24 cp25 1 (bys o) 5, .box bk1 (bys k) 22] := Hv572.trans (Ev.call (R := [.vec ao24 cp25 1 (bys o) 5, .box bk1 (bys k) 22]) Hv572.heap [0, 1] (by kernel_rfl) (by decide) he579)
      clear hM574 he579
      refine ⟨fun _ => Hv578.pick [1] (by kernel_rfl) (by decide), ?_⟩
      refine h_free (d := some 37) (s := nv (eqOp .eql 31 (.tmp 33) (.tmp 36) (.agg (List.toArray (bys (polyF k t)))) (.agg (List.toArray (bys (polyF k t)))))) En577 (v := .bool true) 8 (by kernel_rfl) (fun _ => run_nv (Go.Dbr.run_is (fun w => Go.Dbr.bys_eqop (a := (.tmp 33)) (b := (.tmp 36)) (e := 5) (m := 16) (by kernel_rfl) (by kernel_rfl) (by kernel_rfl) (by kernel_rfl) (by kernel_rfl) (polyF_len _ _) (polyF_len _ _) w) (by simp) _)) (by kernel_rfl) rfl (fun _ => Hv578.pick [1] (by kernel_rfl) (by decide)) ?_
      intro ac580 En581
      refine h_pureR (d := some 38) En581 (v := .bool true) 9 (by kernel_rfl) (by kernel_rfl) rfl (fun _ => Hv578.pick [1] (by kernel_rfl) (by decide)) ?_
      intro ac582 En583
      refine h_pureR (d := some 39) En583 (v := .bool true) 10 (by kernel_rfl) (by kernel_rfl) rfl (fun _ => Hv578.pick [1] (by kernel_rfl) (by decide)) ?_
      intro ac584 En585
      refine h_read (d := some 40) (s := nv (Instr.loadAt 22 (.pointer (some ⟨bk1, 0, none⟩)))) En585 (v := .agg (List.toArray (bys k))) 11 (by kernel_rfl) (fun w hS => run_nv (run_loadAgg2 (m := 32) (cs := bys k) (bys_lenh n_k) (by kernel_rfl) (by kernel_rfl) (hS.heap.cells (k := 0) (off := 0) (m := 32) rfl (load_whole (bys_lenh n_k))))) (by kernel_rfl) rfl (Hv578.pick [1] (by kernel_rfl) (by decide)) ?_
      intro ac586 En587
      refine h_pureR (d := some 41) En587 (v := .slice ao24 (List.length t) cp25) 12 (by kernel_rfl) (by kernel_rfl) rfl (fun _ => Hv578.pick [1] (by kernel_rfl) (by decide)) ?_
      intro ac588 En589
      refine h_read (d := some 43) (s := nv (Instr.loadAt 22 (.pointer (some ⟨bk1, 0, none⟩)))) En589 (v := .agg (List.toArray (bys k))) 14 (by kernel_rfl) (fun w hS => run_nv (run_loadAgg2 (m := 32) (cs := bys k) (bys_lenh n_k) (by kernel_rfl) (by kernel_rfl) (hS.heap.cells (k := 0) (off := 0) (m := 32) rfl (load_whole (bys_lenh n_k))))) (by kernel_rfl) rfl (Hv578.pick [1] (by kernel_rfl) (by decide)) ?_
      intro ac590 En591
      refine h_pureR (d := some 44) En591 (v := .slice ao24 (List.length t) cp25) 15 (by kernel_rfl) (by kernel_rfl) rfl (fun _ => Hv578.pick [1] (by kernel_rfl) (by decide)) ?_
      intro ac592 En593
      refine h_at 13 (by kernel_rfl) rfl ?_
      have hM594 : Heap wo576 [] := Hv578.heap.pick [] (by kernel_rfl) (by decide)
      refine op_call (d := some 42) (f := 13) (args := #[.agg (List.toArray (bys k)), .slice ao24 (List.length t) cp25]) En593 (by kernel_rfl) ((poly_go _ k n_k ao24 (List.length t) cp25 o (by first | rfl | (simp; done) | (simp; omega) | omega) (bys_in Hv578.heap (k := 0) rfl [] (by kernel_rfl) rfl (by first | omega | (simp; done) | (simp; omega)))).mono ?_)
      rintro _ wo596 ⟨rfl, he599⟩
      refine ⟨_, rfl, ?_⟩
      intro ac595 En597
      have Hv598 : Ev w [] wo596 [.vec ao24 cp25 1 (bys o) 5, .box bk1 (bys k) 22] := Hv578.trans (Ev.call (R := [.vec ao24 cp25 1 (bys o) 5, .box bk1 (bys k) 22]) Hv578.heap [0, 1] (by kernel_rfl) (by decide) he599)
      clear hM594 he599
      refine ⟨fun _ => Hv598.pick [1] (by kernel_rfl) (by decide), ?_⟩
      refine h_at 16 (by kernel_rfl) rfl ?_
      have hM600 : Heap wo596 [] := Hv598.heap.pick [] (by kernel_rfl) (by decide)
      refine op_call (d := some 45) (f := 14) (args := #[.agg (List.toArray (bys k)), .slice ao24 (List.length t) cp25]) En597 (by kernel_rfl) ((poly_ref _ k n_k ao24 (List.length t) cp25 o (by first | rfl | (simp; done) | (simp; omega) | omega) (bys_in Hv598.heap (k := 0) rfl [] (by kernel_rfl) rfl (by first | omega | (simp; done) | (simp; omega)))).mono ?_)
      rintro _ wo602 ⟨rfl, he605⟩
      refine ⟨_, rfl, ?_⟩
      intro ac601 En603
      have Hv604 : Ev w [] wo602 [.vec ao24 cp25 1 (bys o) 5, .box bk1 (bys k) 22] := Hv598.trans (Ev.call (R := [.vec ao24 cp25 1 (bys o) 5, .box bk1 (bys k) 22]) Hv598.heap [0, 1] (by kernel_rfl) (by decide) he605)
      clear hM600 he605
      refine ⟨fun _ => Hv604.pick [1] (by kernel_rfl) (by decide), ?_⟩
      refine h_free (d := some 46) (s := nv (eqOp .eql 31 (.tmp 42) (.tmp 45) (.agg (List.toArray (bys (polyF k o)))) (.agg (List.toArray (bys (polyF k o)))))) En603 (v := .bool true) 17 (by kernel_rfl) (fun _ => run_nv (Go.Dbr.run_is (fun w => Go.Dbr.bys_eqop (a := (.tmp 42)) (b := (.tmp 45)) (e := 5) (m := 16) (by kernel_rfl) (by kernel_rfl) (by kernel_rfl) (by kernel_rfl) (by kernel_rfl) (polyF_len _ _) (polyF_len _ _) w) (by simp) _)) (by kernel_rfl) rfl (fun _ => Hv604.pick [1] (by kernel_rfl) (by decide)) ?_
      intro ac606 En607
      refine h_pureR (d := some 47) En607 (v := .bool true) 18 (by kernel_rfl) (by kernel_rfl) rfl (fun _ => Hv604.pick [1] (by kernel_rfl) (by decide)) ?_
      intro ac608 En609
      refine h_pureR (d := some 6) En609 (v := .bool true) 19 (by kernel_rfl) (by kernel_rfl) rfl (fun _ => Hv604.pick [1] (by kernel_rfl) (by decide)) ?_
      intro ac610 En611
      exact h_end (by kernel_rfl) ⟨En611.sub (by kernel_rfl), Hv604.pick [0] (by kernel_rfl) (by decide)⟩
    rintro ac612 wo613 ⟨En614, Hv615⟩
    refine then_normal ?_
    refine wp_ret ?_
    refine d_ret1 (t := 6) (v := .bool true) En614 (by kernel_rfl) (by kernel_rfl) ?_
    exact ⟨rfl, Hv615.pick [] (by kernel_rfl) (by decide)⟩

end Go.Proofs.Ytnahplggflhdaaa
