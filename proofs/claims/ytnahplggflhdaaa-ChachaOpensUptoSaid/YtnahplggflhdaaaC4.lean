/- Layer 9: a block of the reference; the live question. -/
import Derived.Test.YtnahplggflhdaaaC3
namespace Go.Proofs.Ytnahplggflhdaaa
open Go.Dbr
set_option maxRecDepth 100000
set_option maxHeartbeats 2000000
set_option linter.unusedVariables false
set_option linter.unusedSimpArgs false

def kw (lk : List UInt8) : Nat → List UInt32
  | 0 => ([1634760805, 857760878, 2036477234, 1797285236, 0, 0, 0, 0, 0, 0, 0, 0, 0, 0, 0, 0] : List UInt32)
  | i + 1 => List.set (kw lk i) (4 + i) (partW (List.take (4 * i + 4 - 4 * i) (List.drop (4 * i) lk)) 0 4)
theorem kw_len (lk : List UInt8) (i : Nat) : (kw lk i).length = 16 := by
  induction i with
  | zero => rfl
  | succ i ih => simp [kw, ih]
def nw (V : List UInt32) (ln : List UInt8) : Nat → List UInt32
  | 0 => V
  | i + 1 => List.set (nw V ln i) (13 + i) (partW (List.take (4 * i + 4 - 4 * i) (List.drop (4 * i) ln)) 0 4)
theorem nw_len {V : List UInt32} (h : V.length = 16) (ln : List UInt8) (i : Nat) : (nw V ln i).length = 16 := by
  induction i with
  | zero => exact h
  | succ i ih => simp [nw, ih]
theorem init_ref (lk ln : List UInt8) (c : UInt32) : nw (List.set (kw lk 8) 12 c) ln 3 = initW lk c ln := by
  have e : ∀ (l : List UInt8) (i : Nat), partW (List.take (4 * i + 4 - 4 * i) (List.drop (4 * i) l)) 0 4 = partW l i 4 := fun l i => by
    rw [show 4 * i + 4 - 4 * i = 4 by omega]
    exact partW_cut l i
  simp only [nw, kw, e]
  rfl
def rA (v : List UInt32) : Nat → List UInt32
  | 0 => v
  | k + 1 => quart (rA v k) k (4 + k) (8 + k) (12 + k)
def rB (v : List UInt32) : Nat → List UInt32
  | 0 => v
  | k + 1 => quart (rB v k) k (4 + (k + 1) % 4) (8 + (k + 2) % 4) (12 + (k + 3) % 4)
theorem rA_len {v : List UInt32} (h : v.length = 16) (k : Nat) : (rA v k).length = 16 := by
  induction k with
  | zero => exact h
  | succ k ih => exact quart_len ih _ _ _ _
theorem rB_len {v : List UInt32} (h : v.length = 16) (k : Nat) : (rB v k).length = 16 := by
  induction k with
  | zero => exact h
  | succ k ih => exact quart_len ih _ _ _ _
theorem round_ref (v : List UInt32) : rB (rA v 4) 4 = round v := rfl

theorem block_ref (w : World) (lk : List UInt8) (hk : List.length lk = 32) (c : UInt32) (ln : List UInt8) (hn : List.length ln = 12) : Calls Try.prog 12 #[.agg (List.toArray (bys lk)), uv32 c, .agg (List.toArray (bys ln))] w fun e w' => e = .returned (.agg (List.toArray (bys (blockF lk c ln)))) ∧ Ev w [] w' [] := by
 refine d_start [(0, .agg (List.toArray (bys lk))), (1, uv32 c), (2, .agg (List.toArray (bys ln)))] 107 Go.Proofs.Try.func12 Go.Proofs.Try.ntmps12 rfl (by kernel_rfl) (by kernel_rfl) ?_
 intro act0 En0
 have Hv0 : Ev w [] w [] := Ev.refl (Heap.nil _)
 refine wp_seq ?_
 refine region_from ?_
 refine from_op (by kernel_rfl) ?_
 refine op_newbox (d := some 3) (T := 22) (v := .agg (List.toArray (bys lk))) (cs := bys lk) En0 (by kernel_rfl) rfl Hv0 ?_
 intro ac2 wo3 bk1 En4 Hv5
 refine from_op (by kernel_rfl) ?_
 refine op_newbox (d := some 5) (T := 24) (v := .agg (List.toArray (bys ln))) (cs := bys ln) En4 (by kernel_rfl) rfl Hv5 ?_
 intro ac7 wo8 bk6 En9 Hv10
 refine from_op (by kernel_rfl) ?_
 refine op_alloc (d := some 6) (T := 28) (x := .tuple #[]) (z := .agg (List.toArray (bys (List.replicate 64 0)))) (cs := bys (List.replicate 64 0)) En9 (by kernel_rfl) (by kernel_rfl) (by kernel_rfl) Hv10 ?_
 intro ac12 wo13 bk11 En14 Hv15
 refine from_end (by kernel_rfl) ?_
 refine then_normal ?_
 refine wp_seq ?_
 refine region_from ?_
 refine d_pures [(1, uv32 c), (3, pt bk1), (5, pt bk6), (6, pt bk11), (17, .agg (List.toArray (u32s ([1634760805, 857760878, 2036477234, 1797285236, 0, 0, 0, 0, 0, 0, 0, 0, 0, 0, 0, 0] : List UInt32))))] [.agg (List.toArray (u32s ([1634760805, 857760878, 2036477234, 1797285236, 0, 0, 0, 0, 0, 0, 0, 0, 0, 0, 0, 0] : List UInt32)))] 1 En14 (by kernel_rfl) (by kernel_rfl) rfl ?_
 intro ac16 En17
 refine from_op (by kernel_rfl) ?_
 refine op_alloc (d := some 7) (T := 42) (x := .tuple #[]) (z := .agg (List.toArray (u32s (List.replicate 16 0)))) (cs := u32s (List.replicate 16 0)) En17 (by kernel_rfl) (by kernel_rfl) (by kernel_rfl) Hv15 ?_
 intro ac19 wo20 bk18 En21 Hv22
 refine from_op (by kernel_rfl) ?_
 refine op_storeaggbox (d := none) (t := 42) (b := bk18) (off := 0) (k := 3) (m := 16) (xs := u32s ([1634760805, 857760878, 2036477234, 1797285236, 0, 0, 0, 0, 0, 0, 0, 0, 0, 0, 0, 0] : List UInt32)) (v := .agg (List.toArray (u32s ([1634760805, 857760878, 2036477234, 1797285236, 0, 0, 0, 0, 0, 0, 0, 0, 0, 0, 0, 0] : List UInt32)))) (cs' := u32s ([1634760805, 857760878, 2036477234, 1797285236, 0, 0, 0, 0, 0, 0, 0, 0, 0, 0, 0, 0] : List UInt32)) En21 (by kernel_rfl) Hv22 rfl rfl (u32s_lenh (show List.length ([1634760805, 857760878, 2036477234, 1797285236, 0, 0, 0, 0, 0, 0, 0, 0, 0, 0, 0, 0] : List UInt32) = 16 from rfl)) (by rw [(u32s_lenh (List.length_replicate))]; decide) (by kernel_rfl) (u32s_one _) (store_whole (u32s_lenh (List.length_replicate))) (L' := [.box bk1 (bys lk) 22, .box bk6 (bys ln) 24, .box bk11 (bys (List.replicate 64 0)) 28, .box bk18 (u32s ([1634760805, 857760878, 2036477234, 1797285236, 0, 0, 0, 0, 0, 0, 0, 0, 0, 0, 0, 0] : List UInt32)) 42]) rfl ?_
 intro ac23 wo24  En25 Hv26
 refine from_end (by kernel_rfl) ?_
 refine then_normal ?_
 refine wp_seq ?_
 refine wp_seq ?_
 refine region_from ?_
 refine d_pures [(1, uv32 c), (3, pt bk1), (5, pt bk6), (6, pt bk11), (7, pt bk18), (8, .int .i64 0)] [.int .i64 0] 1 En25 (by kernel_rfl) (by kernel_rfl) rfl ?_
 intro ac27 En28
 refine from_end (by kernel_rfl) ?_
 refine then_normal ?_
 refine wp_block ?_
 refine loop_m (fun ms29 ac wo => ∃ (i1 : Nat) (v1 : List UInt32), ms29 = (8 - i1 : Nat) ∧ Env ac 107 [(1, uv32 c), (3, pt bk1), (5, pt bk6), (6, pt bk11), (7, pt bk18), (8, ni i1)] ∧ Ev w [] wo [.box bk18 (u32s v1) 42, .box bk1 (bys lk) 22, .box bk6 (bys ln) 24, .box bk11 (bys (List.replicate 64 0)) 28] ∧ (i1 ≤ 8) ∧ (List.length v1 = 16) ∧ (v1 = kw lk i1)) ⟨_, 0, ([1634760805, 857760878, 2036477234, 1797285236, 0, 0, 0, 0, 0, 0, 0, 0, 0, 0, 0, 0] : List UInt32), rfl, En28.sub (by kernel_rfl), Hv26.pick [3, 0, 1, 2] (by kernel_rfl) (by decide), by omega, (show List.length ([1634760805, 857760878, 2036477234, 1797285236, 0, 0, 0, 0, 0, 0, 0, 0, 0, 0, 0, 0] : List UInt32) = 16 from rfl), rfl⟩ ?_
 rintro mm35 ac31 wo32 ⟨i1, v1, rfl, En33, Hv34, hiv1, hlv1, hev1⟩
 refine wp_seq ?_
 refine wp_seq ?_
 refine region_from ?_
 refine d_pures [(1, uv32 c), (3, pt bk1), (5, pt bk6), (6, pt bk11), (7, pt bk18), (8, ni i1), (19, .bool (decide (((i1 : Nat) : Int) < (8 : Int))))] [ni i1, .bool (decide (((i1 : Nat) : Int) < (8 : Int)))] 2 En33 (by kernel_rfl) (by kernel_rfl) rfl ?_
 intro ac36 En37
 refine from_end (by kernel_rfl) ?_
 refine then_normal ?_
 refine cond_at En37 (t := decide (((i1 : Nat) : Int) < (8 : Int))) (by kernel_rfl) (fun hc38 => ?_) (fun hc38 => ?_)
 ·
  replace hc38 : ((i1 : Nat) : Int) < (8 : Int) := of_decide_eq_true hc38
  refine wp_skip ?_
  refine then_normal ?_
  refine wp_seq ?_
  refine wp_block ?_
  refine region_from ?_
  refine d_pures [(1, uv32 c), (3, pt bk1), (5, pt bk6), (6, pt bk11), (7, pt bk18), (8, ni i1), (23, .int .i64 (IntKind.wrap .i64 ((4 : Int) + ((i1 : Nat) : Int))))] [ni i1, .int .i64 (IntKind.wrap .i64 ((4 : Int) + ((i1 : Nat) : Int)))] 2 En37 (by kernel_rfl) (by kernel_rfl) rfl ?_
  intro ac39 En40
  rw [Go.Dbr.wr64 (e := (4 : Int) + ((i1 : Nat) : Int)) (x := ((4 + i1 : Nat) : Int)) (by omega) (by omega) (by omega)] at En40
  refine d_pures [(1, uv32 c), (3, pt bk1), (5, pt bk6), (6, pt bk11), (7, pt bk18), (8, ni i1), (23, .int .i64 ((4 + i1 : Nat) : Int)), (25, .int .i64 (IntKind.wrap .i64 ((4 : Int) * ((i1 : Nat) : Int))))] [ni i1, .int .i64 (IntKind.wrap .i64 ((4 : Int) * ((i1 : Nat) : Int)))] 4 En40 (by kernel_rfl) (by kernel_rfl) rfl ?_
  intro ac41 En42
  rw [Go.Dbr.wr64 (e := (4 : Int) * ((i1 : Nat) : Int)) (x := ((4 * i1 : Nat) : Int)) (by omega) (by omega) (by omega)] at En42
  refine d_pures [(1, uv32 c), (3, pt bk1), (5, pt bk6), (6, pt bk11), (7, pt bk18), (8, ni i1), (23, .int .i64 ((4 + i1 : Nat) : Int)), (25, .int .i64 ((4 * i1 : Nat) : Int)), (27, .int .i64 (IntKind.wrap .i64 ((4 : Int) * ((i1 : Nat) : Int))))] [ni i1, .int .i64 (IntKind.wrap .i64 ((4 : Int) * ((i1 : Nat) : Int)))] 6 En42 (by kernel_rfl) (by kernel_rfl) rfl ?_
  intro ac43 En44
  rw [Go.Dbr.wr64 (e := (4 : Int) * ((i1 : Nat) : Int)) (x := ((4 * i1 : Nat) : Int)) (by omega) (by omega) (by omega)] at En44
  refine d_pures [(1, uv32 c), (3, pt bk1), (5, pt bk6), (6, pt bk11), (7, pt bk18), (8, ni i1), (23, .int .i64 ((4 + i1 : Nat) : Int)), (25, .int .i64 ((4 * i1 : Nat) : Int)), (28, .int .i64 (IntKind.wrap .i64 (((4 * i1 : Nat) : Int) + (4 : Int))))] [.int .i64 (IntKind.wrap .i64 (((4 * i1 : Nat) : Int) + (4 : Int)))] 7 En44 (by kernel_rfl) (by kernel_rfl) rfl ?_
  intro ac45 En46
  rw [Go.Dbr.wr64 (e := ((4 * i1 : Nat) : Int) + (4 : Int)) (x := (((4 * i1) + 4 : Nat) : Int)) (by omega) (by omega) (by omega)] at En46
  refine from_op (by kernel_rfl) ?_
  refine op_slicearr (d := some 29) (t := 22) (e := 5) (sz := 1) (m := 32) (lo := 4 * i1) (hi := (4 * i1) + 4) (b := bk1) (off := 0) (lov := (some (.int .i64 ((4 * i1 : Nat) : Int)))) (hiv := (some (.int .i64 (((4 * i1) + 4 : Nat) : Int)))) (o := 0 + (4 * i1)) En46 (by kernel_rfl) (by kernel_rfl) (by kernel_rfl) (by omega) (by omega) (by omega) (.inr ⟨.i64, rfl⟩) (.inr ⟨.i64, rfl⟩) (by omega) ?_
  intro ac47 En48
  refine from_op (by kernel_rfl) ?_
  have hM49 : Heap wo32 [] := Hv34.heap.pick [] (by kernel_rfl) (by decide)
  refine op_call (d := some 30) (f := 23) (args := #[.slice (some ⟨bk1, 0 + (4 * i1), none⟩) (((4 * i1) + 4) - (4 * i1)) (32 - (4 * i1))]) En48 (by kernel_rfl) ((word_ref _ (some ⟨bk1, 0 + (4 * i1), none⟩) (((4 * i1) + 4) - (4 * i1)) (32 - (4 * i1)) (List.take (((4 * i1) + 4) - (4 * i1)) (List.drop (4 * i1) lk)) (by first | rfl | (simp; done) | (simp; omega) | omega) (bys_cutbox (bys_inbox (Hv34.heap.roBox (k := 1) (m := 32) rfl (load_whole (bys_lenh hk)) [] (by kernel_rfl) rfl) hk (by decide)) (4 * i1) ((4 * i1) + 4) (by omega) (by omega)) (by first | omega | (simp; omega))).mono ?_)
  rintro _ wo51 ⟨rfl, he54⟩
  refine ⟨_, rfl, ?_⟩
  intro ac50 En52
  have Hv53 : Ev w [] wo51 [.box bk18 (u32s v1) 42, .box bk1 (bys lk) 22, .box bk6 (bys ln) 24, .box bk11 (bys (List.replicate 64 0)) 28] := Hv34.trans (Ev.call (R := [.box bk18 (u32s v1) 42, .box bk1 (bys lk) 22, .box bk6 (bys ln) 24, .box bk11 (bys (List.replicate 64 0)) 28]) Hv34.heap [0, 1, 2, 3] (by kernel_rfl) (by decide) he54)
  clear hM49 he54
  refine from_op (by kernel_rfl) ?_
  refine op_val (d := some 31) (x := Instr.indexAt 42 (pt bk18) (.int .i64 ((4 + i1 : Nat) : Int))) (v := .pointer (some ⟨bk18, 4 + i1, none⟩)) En52 (by kernel_rfl) (Go.Dbr.run_indexarr (e := 23) (sz := 1) (m := 16) (j := 4 + i1) (o := 4 + i1) (by kernel_rfl) (by kernel_rfl) (by omega) (by omega) (by omega) _) ?_
  intro ac55 En56
  refine from_op (by kernel_rfl) ?_
  have hb57 : 4 + i1 < List.length v1 := by rw [hlv1]; omega
  refine op_storebox2 (d := none) (t := 23) (b := bk18) (off := 4 + i1) (k := 0) (v := .int .u32 ((UInt32.toNat (partW (List.take (((4 * i1) + 4) - (4 * i1)) (List.drop (4 * i1) lk)) 0 4) : Nat) : Int)) En56 (by kernel_rfl) Hv53 rfl (u32s_getD hb57) (by kernel_rfl) rfl (u32s_set _ _ _) (L' := [.box bk18 (u32s (List.set v1 (4 + i1) (partW (List.take (((4 * i1) + 4) - (4 * i1)) (List.drop (4 * i1) lk)) 0 4))) 42, .box bk1 (bys lk) 22, .box bk6 (bys ln) 24, .box bk11 (bys (List.replicate 64 0)) 28]) rfl ?_
  intro ac58 wo59  En60 Hv61
  refine from_end (by kernel_rfl) ?_
  refine block_normal ?_
  refine then_normal ?_
  refine region_from ?_
  refine d_pures [(1, uv32 c), (3, pt bk1), (5, pt bk6), (6, pt bk11), (7, pt bk18), (8, ni i1), (21, .int .i64 (IntKind.wrap .i64 (((i1 : Nat) : Int) + (1 : Int))))] [ni i1, .int .i64 (IntKind.wrap .i64 (((i1 : Nat) : Int) + (1 : Int)))] 2 En60 (by kernel_rfl) (by kernel_rfl) rfl ?_
  intro ac62 En63
  rw [Go.Dbr.wr64 (e := ((i1 : Nat) : Int) + (1 : Int)) (x := ((i1 + 1 : Nat) : Int)) (by omega) (by omega) (by omega)] at En63
  refine d_pures [(1, uv32 c), (3, pt bk1), (5, pt bk6), (6, pt bk11), (7, pt bk18), (8, .int .i64 ((i1 + 1 : Nat) : Int))] [.int .i64 ((i1 + 1 : Nat) : Int)] 3 En63 (by kernel_rfl) (by kernel_rfl) rfl ?_
  intro ac64 En65
  refine from_end (by kernel_rfl) ?_
  refine then_normal ?_
  refine ⟨_, ⟨i1 + 1, (List.set v1 (4 + i1) (partW (List.take (((4 * i1) + 4) - (4 * i1)) (List.drop (4 * i1) lk)) 0 4)), rfl, En65.sub (by kernel_rfl), Hv61.pick [0, 1, 2, 3] (by kernel_rfl) (by decide), by omega, (List.length_set.trans hlv1), by first | (rw [hev1]; rfl) | (rw [hev1, hc2]; rfl) | rfl⟩, ?_⟩
  omega
 ·
  replace hc38 : ¬ (((i1 : Nat) : Int) < (8 : Int)) := of_decide_eq_false hc38
  refine wp_exit ?_
  refine then_exit ?_
  refine then_exit ?_
  refine block_exit ?_
  refine then_normal ?_
  refine wp_seq ?_
  have hnv1 : i1 = 8 := by omega
  have hfv1 : v1 = kw lk 8 := by rw [hev1, hnv1] <;> rfl
  rw [show v1 = (kw lk 8) from hfv1] at Hv34
  refine region_from ?_
  refine d_pures [(3, pt bk1), (5, pt bk6), (6, pt bk11), (7, pt bk18), (8, ni i1), (32, uv32 c)] [uv32 c] 1 En37 (by kernel_rfl) (by kernel_rfl) rfl ?_
  intro ac66 En67
  refine from_op (by kernel_rfl) ?_
  refine op_val (d := some 33) (x := Instr.indexAt 42 (pt bk18) (.int .i64 12)) (v := .pointer (some ⟨bk18, 12, none⟩)) En67 (by kernel_rfl) (Go.Dbr.run_indexarr (e := 23) (sz := 1) (m := 16) (j := 12) (o := 12) (by kernel_rfl) (by kernel_rfl) (by omega) (by omega) (by omega) _) ?_
  intro ac68 En69
  refine from_op (by kernel_rfl) ?_
  have hb70 : 12 < List.length (kw lk 8) := by rw [(kw_len lk 8)]; omega
  refine op_storebox2 (d := none) (t := 23) (b := bk18) (off := 12) (k := 0) (v := uv32 c) En69 (by kernel_rfl) Hv34 rfl (u32s_getD hb70) (by kernel_rfl) rfl (u32s_set _ _ _) (L' := [.box bk18 (u32s (List.set (kw lk 8) 12 c)) 42, .box bk1 (bys lk) 22, .box bk6 (bys ln) 24, .box bk11 (bys (List.replicate 64 0)) 28]) rfl ?_
  intro ac71 wo72  En73 Hv74
  refine from_end (by kernel_rfl) ?_
  refine then_normal ?_
  refine wp_seq ?_
  refine wp_seq ?_
  refine region_from ?_
  refine d_pures [(3, pt bk1), (5, pt bk6), (6, pt bk11), (7, pt bk18), (8, ni i1), (9, .int .i64 0)] [.int .i64 0] 1 En73 (by kernel_rfl) (by kernel_rfl) rfl ?_
  intro ac75 En76
  refine from_end (by kernel_rfl) ?_
  refine then_normal ?_
  refine wp_block ?_
  refine loop_m (fun ms77 ac wo => ∃ (i2 : Nat) (v2 : List UInt32), ms77 = (3 - i2 : Nat) ∧ Env ac 107 [(3, pt bk1), (5, pt bk6), (6, pt bk11), (7, pt bk18), (8, ni i1), (9, ni i2)] ∧ Ev w [] wo [.box bk18 (u32s v2) 42, .box bk1 (bys lk) 22, .box bk6 (bys ln) 24, .box bk11 (bys (List.replicate 64 0)) 28] ∧ (i2 ≤ 3) ∧ (List.length v2 = 16) ∧ (v2 = nw (List.set (kw lk 8) 12 c) ln i2)) ⟨_, 0, List.set (kw lk 8) 12 c, rfl, En76.sub (by kernel_rfl), Hv74.pick [0, 1, 2, 3] (by kernel_rfl) (by decide), by omega, (List.length_set.trans (kw_len lk 8)), rfl⟩ ?_
  rintro mm83 ac79 wo80 ⟨i2, v2, rfl, En81, Hv82, hiv2, hlv2, hev2⟩
  refine wp_seq ?_
  refine wp_seq ?_
  refine region_from ?_
  refine d_pures [(3, pt bk1), (5, pt bk6), (6, pt bk11), (7, pt bk18), (8, ni i1), (9, ni i2), (35, .bool (decide (((i2 : Nat) : Int) < (3 : Int))))] [ni i2, .bool (decide (((i2 : Nat) : Int) < (3 : Int)))] 2 En81 (by kernel_rfl) (by kernel_rfl) rfl ?_
  intro ac84 En85
  refine from_end (by kernel_rfl) ?_
  refine then_normal ?_
  refine cond_at En85 (t := decide (((i2 : Nat) : Int) < (3 : Int))) (by kernel_rfl) (fun hc86 => ?_) (fun hc86 => ?_)
  ·
   replace hc86 : ((i2 : Nat) : Int) < (3 : Int) := of_decide_eq_true hc86
   refine wp_skip ?_
   refine then_normal ?_
   refine wp_seq ?_
   refine wp_block ?_
   refine region_from ?_
   refine d_pures [(3, pt bk1), (5, pt bk6), (6, pt bk11), (7, pt bk18), (8, ni i1), (9, ni i2), (39, .int .i64 (IntKind.wrap .i64 ((13 : Int) + ((i2 : Nat) : Int))))] [ni i2, .int .i64 (IntKind.wrap .i64 ((13 : Int) + ((i2 : Nat) : Int)))] 2 En85 (by kernel_rfl) (by kernel_rfl) rfl ?_
   intro ac87 En88
   rw [Go.Dbr.wr64 (e := (13 : Int) + ((i2 : Nat) : Int)) (x := ((13 + i2 : Nat) : Int)) (by omega) (by omega) (by omega)] at En88
   refine d_pures [(3, pt bk1), (5, pt bk6), (6, pt bk11), (7, pt bk18), (8, ni i1), (9, ni i2), (39, .int .i64 ((13 + i2 : Nat) : Int)), (41, .int .i64 (IntKind.wrap .i64 ((4 : Int) * ((i2 : Nat) : Int))))] [ni i2, .int .i64 (IntKind.wrap .i64 ((4 : Int) * ((i2 : Nat) : Int)))] 4 En88 (by kernel_rfl) (by kernel_rfl) rfl ?_
   intro ac89 En90
   rw [Go.Dbr.wr64 (e := (4 : Int) * ((i2 : Nat) : Int)) (x := ((4 * i2 : Nat) : Int)) (by omega) (by omega) (by omega)] at En90
   refine d_pures [(3, pt bk1), (5, pt bk6), (6, pt bk11), (7, pt bk18), (8, ni i1), (9, ni i2), (39, .int .i64 ((13 + i2 : Nat) : Int)), (41, .int .i64 ((4 * i2 : Nat) : Int)), (43, .int .i64 (IntKind.wrap .i64 ((4 : Int) * ((i2 : Nat) : Int))))] [ni i2, .int .i64 (IntKind.wrap .i64 ((4 : Int) * ((i2 : Nat) : Int)))] 6 En90 (by kernel_rfl) (by kernel_rfl) rfl ?_
   intro ac91 En92
   rw [Go.Dbr.wr64 (e := (4 : Int) * ((i2 : Nat) : Int)) (x := ((4 * i2 : Nat) : Int)) (by omega) (by omega) (by omega)] at En92
   refine d_pures [(3, pt bk1), (5, pt bk6), (6, pt bk11), (7, pt bk18), (8, ni i1), (9, ni i2), (39, .int .i64 ((13 + i2 : Nat) : Int)), (41, .int .i64 ((4 * i2 : Nat) : Int)), (44, .int .i64 (IntKind.wrap .i64 (((4 * i2 : Nat) : Int) + (4 : Int))))] [.int .i64 (IntKind.wrap .i64 (((4 * i2 : Nat) : Int) + (4 : Int)))] 7 En92 (by kernel_rfl) (by kernel_rfl) rfl ?_
   intro ac93 En94
   rw [Go.Dbr.wr64 (e := ((4 * i2 : Nat) : Int) + (4 : Int)) (x := (((4 * i2) + 4 : Nat) : Int)) (by omega) (by omega) (by omega)] at En94
   refine from_op (by kernel_rfl) ?_
   refine op_slicearr (d := some 45) (t := 24) (e := 5) (sz := 1) (m := 12) (lo := 4 * i2) (hi := (4 * i2) + 4) (b := bk6) (off := 0) (lov := (some (.int .i64 ((4 * i2 : Nat) : Int)))) (hiv := (some (.int .i64 (((4 * i2) + 4 : Nat) : Int)))) (o := 0 + (4 * i2)) En94 (by kernel_rfl) (by kernel_rfl) (by kernel_rfl) (by omega) (by omega) (by omega) (.inr ⟨.i64, rfl⟩) (.inr ⟨.i64, rfl⟩) (by omega) ?_
   intro ac95 En96
   refine from_op (by kernel_rfl) ?_
   have hM97 : Heap wo80 [] := Hv82.heap.pick [] (by kernel_rfl) (by decide)
   refine op_call (d := some 46) (f := 23) (args := #[.slice (some ⟨bk6, 0 + (4 * i2), none⟩) (((4 * i2) + 4) - (4 * i2)) (12 - (4 * i2))]) En96 (by kernel_rfl) ((word_ref _ (some ⟨bk6, 0 + (4 * i2), none⟩) (((4 * i2) + 4) - (4 * i2)) (12 - (4 * i2)) (List.take (((4 * i2) + 4) - (4 * i2)) (List.drop (4 * i2) ln)) (by first | rfl | (simp; done) | (simp; omega) | omega) (bys_cutbox (bys_inbox (Hv82.heap.roBox (k := 2) (m := 12) rfl (load_whole (bys_lenh hn)) [] (by kernel_rfl) rfl) hn (by decide)) (4 * i2) ((4 * i2) + 4) (by omega) (by omega)) (by first | omega | (simp; omega))).mono ?_)
   rintro _ wo99 ⟨rfl, he102⟩
   refine ⟨_, rfl, ?_⟩
   intro ac98 En100
   have Hv101 : Ev w [] wo99 [.box bk18 (u32s v2) 42, .box bk1 (bys lk) 22, .box bk6 (bys ln) 24, .box bk11 (bys (List.replicate 64 0)) 28] := Hv82.trans (Ev.call (R := [.box bk18 (u32s v2) 42, .box bk1 (bys lk) 22, .box bk6 (bys ln) 24, .box bk11 (bys (List.replicate 64 0)) 28]) Hv82.heap [0, 1, 2, 3] (by kernel_rfl) (by decide) he102)
   clear hM97 he102
   refine from_op (by kernel_rfl) ?_
   refine op_val (d := some 47) (x := Instr.indexAt 42 (pt bk18) (.int .i64 ((13 + i2 : Nat) : Int))) (v := .pointer (some ⟨bk18, 13 + i2, none⟩)) En100 (by kernel_rfl) (Go.Dbr.run_indexarr (e := 23) (sz := 1) (m := 16) (j := 13 + i2) (o := 13 + i2) (by kernel_rfl) (by kernel_rfl) (by omega) (by omega) (by omega) _) ?_
   intro ac103 En104
   refine from_op (by kernel_rfl) ?_
   have hb105 : 13 + i2 < List.length v2 := by rw [hlv2]; omega
   refine op_storebox2 (d := none) (t := 23) (b := bk18) (off := 13 + i2) (k := 0) (v := .int .u32 ((UInt32.toNat (partW (List.take (((4 * i2) + 4) - (4 * i2)) (List.drop (4 * i2) ln)) 0 4) : Nat) : Int)) En104 (by kernel_rfl) Hv101 rfl (u32s_getD hb105) (by kernel_rfl) rfl (u32s_set _ _ _) (L' := [.box bk18 (u32s (List.set v2 (13 + i2) (partW (List.take (((4 * i2) + 4) - (4 * i2)) (List.drop (4 * i2) ln)) 0 4))) 42, .box bk1 (bys lk) 22, .box bk6 (bys ln) 24, .box bk11 (bys (List.replicate 64 0)) 28]) rfl ?_
   intro ac106 wo107  En108 Hv109
   refine from_end (by kernel_rfl) ?_
   refine block_normal ?_
   refine then_normal ?_
   refine region_from ?_
   refine d_pures [(3, pt bk1), (5, pt bk6), (6, pt bk11), (7, pt bk18), (8, ni i1), (9, ni i2), (37, .int .i64 (IntKind.wrap .i64 (((i2 : Nat) : Int) + (1 : Int))))] [ni i2, .int .i64 (IntKind.wrap .i64 (((i2 : Nat) : Int) + (1 : Int)))] 2 En108 (by kernel_rfl) (by kernel_rfl) rfl ?_
   intro ac110 En111
   rw [Go.Dbr.wr64 (e := ((i2 : Nat) : Int) + (1 : Int)) (x := ((i2 + 1 : Nat) : Int)) (by omega) (by omega) (by omega)] at En111
   refine d_pures [(3, pt bk1), (5, pt bk6), (6, pt bk11), (7, pt bk18), (8, ni i1), (9, .int .i64 ((i2 + 1 : Nat) : Int))] [.int .i64 ((i2 + 1 : Nat) : Int)] 3 En111 (by kernel_rfl) (by kernel_rfl) rfl ?_
   intro ac112 En113
   refine from_end (by kernel_rfl) ?_
   refine then_normal ?_
   refine ⟨_, ⟨i2 + 1, (List.set v2 (13 + i2) (partW (List.take (((4 * i2) + 4) - (4 * i2)) (List.drop (4 * i2) ln)) 0 4)), rfl, En113.sub (by kernel_rfl), Hv109.pick [0, 1, 2, 3] (by kernel_rfl) (by decide), by omega, (List.length_set.trans hlv2), by first | (rw [hev2]; rfl) | (rw [hev2, hc2]; rfl) | rfl⟩, ?_⟩
   omega
  ·
   replace hc86 : ¬ (((i2 : Nat) : Int) < (3 : Int)) := of_decide_eq_false hc86
   refine wp_exit ?_
   refine then_exit ?_
   refine then_exit ?_
   refine block_exit ?_
   refine then_normal ?_
   refine wp_seq ?_
   have hnv2 : i2 = 3 := by omega
   have hfv2 : v2 = nw (List.set (kw lk 8) 12 c) ln 3 := by rw [hev2, hnv2] <;> rfl
   rw [show v2 = (nw (List.set (kw lk 8) 12 c) ln 3) from hfv2] at Hv82
   rw [show (nw (List.set (kw lk 8) 12 c) ln 3) = (initW lk c ln) from init_ref lk ln c] at Hv82
   refine region_from ?_
   refine from_op (by kernel_rfl) ?_
   refine op_loadaggbox (d := some 48) (t := 42) (b := bk18) (off := 0) (k := 0) (m := 16) (xs := u32s (initW lk c ln)) En85 (by kernel_rfl) Hv82 rfl (load_whole (u32s_lenh (initW_len lk c ln))) (u32s_lenh (initW_len lk c ln)) (by kernel_rfl) (by kernel_rfl) ?_
   intro ac114 En115
   refine from_op (by kernel_rfl) ?_
   refine op_alloc (d := some 10) (T := 42) (x := .tuple #[]) (z := .agg (List.toArray (u32s (List.replicate 16 0)))) (cs := u32s (List.replicate 16 0)) En115 (by kernel_rfl) (by kernel_rfl) (by kernel_rfl) Hv82 ?_
   intro ac117 wo118 bk116 En119 Hv120
   refine from_op (by kernel_rfl) ?_
   refine op_storeaggbox (d := none) (t := 42) (b := bk116) (off := 0) (k := 4) (m := 16) (xs := u32s (initW lk c ln)) (v := .agg (List.toArray (u32s (initW lk c ln)))) (cs' := u32s (initW lk c ln)) En119 (by kernel_rfl) Hv120 rfl rfl (u32s_lenh (initW_len lk c ln)) (by rw [(u32s_lenh (List.length_replicate))]; decide) (by kernel_rfl) (u32s_one _) (store_whole (u32s_lenh (List.length_replicate))) (L' := [.box bk18 (u32s (initW lk c ln)) 42, .box bk1 (bys lk) 22, .box bk6 (bys ln) 24, .box bk11 (bys (List.replicate 64 0)) 28, .box bk116 (u32s (initW lk c ln)) 42]) rfl ?_
   intro ac121 wo122  En123 Hv124
   refine from_end (by kernel_rfl) ?_
   refine then_normal ?_
   refine wp_seq ?_
   refine wp_seq ?_
   refine region_from ?_
   refine d_pures [(3, pt bk1), (5, pt bk6), (6, pt bk11), (7, pt bk18), (8, ni i1), (9, ni i2), (10, pt bk116), (11, .int .i64 0)] [.int .i64 0] 1 En123 (by kernel_rfl) (by kernel_rfl) rfl ?_
   intro ac125 En126
   refine from_end (by kernel_rfl) ?_
   refine then_normal ?_
   refine wp_block ?_
   refine loop_m (fun ms127 ac wo => ∃ (i : Nat) (v : List UInt32), ms127 = (10 - i : Nat) ∧ Env ac 107 [(3, pt bk1), (5, pt bk6), (6, pt bk11), (7, pt bk18), (8, ni i1), (9, ni i2), (10, pt bk116), (11, ni i)] ∧ Ev w [] wo [.box bk18 (u32s v) 42, .box bk116 (u32s (initW lk c ln)) 42, .box bk1 (bys lk) 22, .box bk6 (bys ln) 24, .box bk11 (bys (List.replicate 64 0)) 28] ∧ (i ≤ 10) ∧ (v = rounds (initW lk c ln) i) ∧ (List.length v = 16)) ⟨_, 0, initW lk c ln, rfl, En126.sub (by kernel_rfl), Hv124.pick [0, 4, 1, 2, 3] (by kernel_rfl) (by decide), by omega, rfl, (initW_len lk c ln)⟩ ?_
   rintro mm133 ac129 wo130 ⟨i, v, rfl, En131, Hv132, hi, hv, hl⟩
   refine wp_seq ?_
   refine wp_seq ?_
   refine region_from ?_
   refine d_pures [(3, pt bk1), (5, pt bk6), (6, pt bk11), (7, pt bk18), (8, ni i1), (9, ni i2), (10, pt bk116), (11, ni i), (50, .bool (decide (((i : Nat) : Int) < (10 : Int))))] [ni i, .bool (decide (((i : Nat) : Int) < (10 : Int)))] 2 En131 (by kernel_rfl) (by kernel_rfl) rfl ?_
   intro ac134 En135
   refine from_end (by kernel_rfl) ?_
   refine then_normal ?_
   refine cond_at En135 (t := decide (((i : Nat) : Int) < (10 : Int))) (by kernel_rfl) (fun hc136 => ?_) (fun hc136 => ?_)
   ·
    replace hc136 : ((i : Nat) : Int) < (10 : Int) := of_decide_eq_true hc136
    refine wp_skip ?_
    refine then_normal ?_
    refine wp_seq ?_
    refine wp_block ?_
    refine wp_seq ?_
    refine wp_seq ?_
    refine region_from ?_
    refine d_pures [(3, pt bk1), (5, pt bk6), (6, pt bk11), (7, pt bk18), (8, ni i1), (9, ni i2), (10, pt bk116), (11, ni i), (12, .int .i64 0)] [.int .i64 0] 1 En135 (by kernel_rfl) (by kernel_rfl) rfl ?_
    intro ac137 En138
    refine from_end (by kernel_rfl) ?_
    refine then_normal ?_
    refine wp_block ?_
    refine loop_m (fun ms139 ac wo => ∃ (k1 : Nat) (v3 : List UInt32), ms139 = (4 - k1 : Nat) ∧ Env ac 107 [(3, pt bk1), (5, pt bk6), (6, pt bk11), (7, pt bk18), (8, ni i1), (9, ni i2), (10, pt bk116), (11, ni i), (12, ni k1)] ∧ Ev w [] wo [.box bk18 (u32s v3) 42, .box bk116 (u32s (initW lk c ln)) 42, .box bk1 (bys lk) 22, .box bk6 (bys ln) 24, .box bk11 (bys (List.replicate 64 0)) 28] ∧ (k1 ≤ 4) ∧ (List.length v3 = 16) ∧ (v3 = rA v k1)) ⟨_, 0, v, rfl, En138.sub (by kernel_rfl), Hv132.pick [0, 1, 2, 3, 4] (by kernel_rfl) (by decide), by omega, hl, rfl⟩ ?_
    rintro mm145 ac141 wo142 ⟨k1, v3, rfl, En143, Hv144, hiv3, hlv3, hev3⟩
    refine wp_seq ?_
    refine wp_seq ?_
    refine region_from ?_
    refine d_pures [(3, pt bk1), (5, pt bk6), (6, pt bk11), (7, pt bk18), (8, ni i1), (9, ni i2), (10, pt bk116), (11, ni i), (12, ni k1), (54, .bool (decide (((k1 : Nat) : Int) < (4 : Int))))] [ni k1, .bool (decide (((k1 : Nat) : Int) < (4 : Int)))] 2 En143 (by kernel_rfl) (by kernel_rfl) rfl ?_
    intro ac146 En147
    refine from_end (by kernel_rfl) ?_
    refine then_normal ?_
    refine cond_at En147 (t := decide (((k1 : Nat) : Int) < (4 : Int))) (by kernel_rfl) (fun hc148 => ?_) (fun hc148 => ?_)
    ·
     replace hc148 : ((k1 : Nat) : Int) < (4 : Int) := of_decide_eq_true hc148
     refine wp_skip ?_
     refine then_normal ?_
     refine wp_seq ?_
     refine wp_block ?_
     refine region_from ?_
     refine from_op (by kernel_rfl) ?_
     refine op_loadaggbox (d := some 57) (t := 42) (b := bk18) (off := 0) (k := 0) (m := 16) (xs := u32s v3) En147 (by kernel_rfl) Hv144 rfl (load_whole (u32s_lenh hlv3)) (u32s_lenh hlv3) (by kernel_rfl) (by kernel_rfl) ?_
     intro ac149 En150
     refine d_pures [(3, pt bk1), (5, pt bk6), (6, pt bk11), (7, pt bk18), (8, ni i1), (9, ni i2), (10, pt bk116), (11, ni i), (12, ni k1), (57, .agg (List.toArray (u32s v3))), (58, ni k1), (60, .int .i64 (IntKind.wrap .i64 ((4 : Int) + ((k1 : Nat) : Int))))] [ni k1, ni k1, .int .i64 (IntKind.wrap .i64 ((4 : Int) + ((k1 : Nat) : Int)))] 4 En150 (by kernel_rfl) (by kernel_rfl) rfl ?_
     intro ac151 En152
     rw [Go.Dbr.wr64 (e := (4 : Int) + ((k1 : Nat) : Int)) (x := ((4 + k1 : Nat) : Int)) (by omega) (by omega) (by omega)] at En152
     refine d_pures [(3, pt bk1), (5, pt bk6), (6, pt bk11), (7, pt bk18), (8, ni i1), (9, ni i2), (10, pt bk116), (11, ni i), (12, ni k1), (57, .agg (List.toArray (u32s v3))), (58, ni k1), (60, .int .i64 ((4 + k1 : Nat) : Int)), (62, .int .i64 (IntKind.wrap .i64 ((8 : Int) + ((k1 : Nat) : Int))))] [ni k1, .int .i64 (IntKind.wrap .i64 ((8 : Int) + ((k1 : Nat) : Int)))] 6 En152 (by kernel_rfl) (by kernel_rfl) rfl ?_
     intro ac153 En154
     rw [Go.Dbr.wr64 (e := (8 : Int) + ((k1 : Nat) : Int)) (x := ((8 + k1 : Nat) : Int)) (by omega) (by omega) (by omega)] at En154
     refine d_pures [(3, pt bk1), (5, pt bk6), (6, pt bk11), (7, pt bk18), (8, ni i1), (9, ni i2), (10, pt bk116), (11, ni i), (12, ni k1), (57, .agg (List.toArray (u32s v3))), (58, ni k1), (60, .int .i64 ((4 + k1 : Nat) : Int)), (62, .int .i64 ((8 + k1 : Nat) : Int)), (64, .int .i64 (IntKind.wrap .i64 ((12 : Int) + ((k1 : Nat) : Int))))] [ni k1, .int .i64 (IntKind.wrap .i64 ((12 : Int) + ((k1 : Nat) : Int)))] 8 En154 (by kernel_rfl) (by kernel_rfl) rfl ?_
     intro ac155 En156
     rw [Go.Dbr.wr64 (e := (12 : Int) + ((k1 : Nat) : Int)) (x := ((12 + k1 : Nat) : Int)) (by omega) (by omega) (by omega)] at En156
     refine from_op (by kernel_rfl) ?_
     have hM157 : Heap wo142 [] := Hv144.heap.pick [] (by kernel_rfl) (by decide)
     refine op_call (d := some 65) (f := 24) (args := #[.agg (List.toArray (u32s v3)), ni k1, .int .i64 ((4 + k1 : Nat) : Int), .int .i64 ((8 + k1 : Nat) : Int), .int .i64 ((12 + k1 : Nat) : Int)]) En156 (by kernel_rfl) ((quart_ref _ v3 hlv3 k1 (4 + k1) (8 + k1) (12 + k1) (by omega) (by omega) (by omega) (by omega)).mono ?_)
     rintro _ wo159 ⟨rfl, he162⟩
     refine ⟨_, rfl, ?_⟩
     intro ac158 En160
     have Hv161 : Ev w [] wo159 [.box bk18 (u32s v3) 42, .box bk116 (u32s (initW lk c ln)) 42, .box bk1 (bys lk) 22, .box bk6 (bys ln) 24, .box bk11 (bys (List.replicate 64 0)) 28] := Hv144.trans (Ev.call (R := [.box bk18 (u32s v3) 42, .box bk116 (u32s (initW lk c ln)) 42, .box bk1 (bys lk) 22, .box bk6 (bys ln) 24, .box bk11 (bys (List.replicate 64 0)) 28]) Hv144.heap [0, 1, 2, 3, 4] (by kernel_rfl) (by decide) he162)
     clear hM157 he162
     refine from_op (by kernel_rfl) ?_
     refine op_storeaggbox (d := none) (t := 42) (b := bk18) (off := 0) (k := 0) (m := 16) (xs := u32s (quart v3 k1 (4 + k1) (8 + k1) (12 + k1))) (v := .agg (List.toArray (u32s (quart v3 k1 (4 + k1) (8 + k1) (12 + k1))))) (cs' := u32s (quart v3 k1 (4 + k1) (8 + k1) (12 + k1))) En160 (by kernel_rfl) Hv161 rfl rfl (u32s_lenh (quart_len hlv3 _ _ _ _)) (by rw [(u32s_lenh hlv3)]; decide) (by kernel_rfl) (u32s_one _) (store_whole (u32s_lenh hlv3)) (L' := [.box bk18 (u32s (quart v3 k1 (4 + k1) (8 + k1) (12 + k1))) 42, .box bk116 (u32s (initW lk c ln)) 42, .box bk1 (bys lk) 22, .box bk6 (bys ln) 24, .box bk11 (bys (List.replicate 64 0)) 28]) rfl ?_
     intro ac163 wo164  En165 Hv166
     refine from_end (by kernel_rfl) ?_
     refine block_normal ?_
     refine then_normal ?_
     refine region_from ?_
     refine d_pures [(3, pt bk1), (5, pt bk6), (6, pt bk11), (7, pt bk18), (8, ni i1), (9, ni i2), (10, pt bk116), (11, ni i), (12, ni k1), (56, .int .i64 (IntKind.wrap .i64 (((k1 : Nat) : Int) + (1 : Int))))] [ni k1, .int .i64 (IntKind.wrap .i64 (((k1 : Nat) : Int) + (1 : Int)))] 2 En165 (by kernel_rfl) (by kernel_rfl) rfl ?_
     intro ac167 En168
     rw [Go.Dbr.wr64 (e := ((k1 : Nat) : Int) + (1 : Int)) (x := ((k1 + 1 : Nat) : Int)) (by omega) (by omega) (by omega)] at En168
     refine d_pures [(3, pt bk1), (5, pt bk6), (6, pt bk11), (7, pt bk18), (8, ni i1), (9, ni i2), (10, pt bk116), (11, ni i), (12, .int .i64 ((k1 + 1 : Nat) : Int))] [.int .i64 ((k1 + 1 : Nat) : Int)] 3 En168 (by kernel_rfl) (by kernel_rfl) rfl ?_
     intro ac169 En170
     refine from_end (by kernel_rfl) ?_
     refine then_normal ?_
     refine ⟨_, ⟨k1 + 1, (quart v3 k1 (4 + k1) (8 + k1) (12 + k1)), rfl, En170.sub (by kernel_rfl), Hv166.pick [0, 1, 2, 3, 4] (by kernel_rfl) (by decide), by omega, (quart_len hlv3 _ _ _ _), by first | (rw [hev3]; rfl) | (rw [hev3, hc2]; rfl) | rfl⟩, ?_⟩
     omega
    ·
     replace hc148 : ¬ (((k1 : Nat) : Int) < (4 : Int)) := of_decide_eq_false hc148
     refine wp_exit ?_
     refine then_exit ?_
     refine then_exit ?_
     refine block_exit ?_
     refine then_normal ?_
     refine wp_seq ?_
     have hnv3 : k1 = 4 := by omega
     have hfv3 : v3 = rA v 4 := by rw [hev3, hnv3] <;> rfl
     rw [show v3 = (rA v 4) from hfv3] at Hv144
     refine region_from ?_
     refine d_pures [(3, pt bk1), (5, pt bk6), (6, pt bk11), (7, pt bk18), (8, ni i1), (9, ni i2), (10, pt bk116), (11, ni i), (12, ni k1), (13, .int .i64 0)] [.int .i64 0] 1 En147 (by kernel_rfl) (by kernel_rfl) rfl ?_
     intro ac171 En172
     refine from_end (by kernel_rfl) ?_
     refine then_normal ?_
     refine wp_block ?_
     refine loop_m (fun ms173 ac wo => ∃ (k2 : Nat) (v4 : List UInt32), ms173 = (4 - k2 : Nat) ∧ Env ac 107 [(3, pt bk1), (5, pt bk6), (6, pt bk11), (7, pt bk18), (8, ni i1), (9, ni i2), (10, pt bk116), (11, ni i), (12, ni k1), (13, ni k2)] ∧ Ev w [] wo [.box bk18 (u32s v4) 42, .box bk116 (u32s (initW lk c ln)) 42, .box bk1 (bys lk) 22, .box bk6 (bys ln) 24, .box bk11 (bys (List.replicate 64 0)) 28] ∧ (k2 ≤ 4) ∧ (List.length v4 = 16) ∧ (v4 = rB (rA v 4) k2)) ⟨_, 0, rA v 4, rfl, En172.sub (by kernel_rfl), Hv144.pick [0, 1, 2, 3, 4] (by kernel_rfl) (by decide), by omega, (rA_len hl 4), rfl⟩ ?_
     rintro mm179 ac175 wo176 ⟨k2, v4, rfl, En177, Hv178, hiv4, hlv4, hev4⟩
     refine wp_seq ?_
     refine wp_seq ?_
     refine region_from ?_
     refine d_pures [(3, pt bk1), (5, pt bk6), (6, pt bk11), (7, pt bk18), (8, ni i1), (9, ni i2), (10, pt bk116), (11, ni i), (12, ni k1), (13, ni k2), (67, .bool (decide (((k2 : Nat) : Int) < (4 : Int))))] [ni k2, .bool (decide (((k2 : Nat) : Int) < (4 : Int)))] 2 En177 (by kernel_rfl) (by kernel_rfl) rfl ?_
     intro ac180 En181
     refine from_end (by kernel_rfl) ?_
     refine then_normal ?_
     refine cond_at En181 (t := decide (((k2 : Nat) : Int) < (4 : Int))) (by kernel_rfl) (fun hc182 => ?_) (fun hc182 => ?_)
     ·
      replace hc182 : ((k2 : Nat) : Int) < (4 : Int) := of_decide_eq_true hc182
      refine wp_skip ?_
      refine then_normal ?_
      refine wp_seq ?_
      refine wp_block ?_
      refine region_from ?_
      refine from_op (by kernel_rfl) ?_
      refine op_loadaggbox (d := some 70) (t := 42) (b := bk18) (off := 0) (k := 0) (m := 16) (xs := u32s v4) En181 (by kernel_rfl) Hv178 rfl (load_whole (u32s_lenh hlv4)) (u32s_lenh hlv4) (by kernel_rfl) (by kernel_rfl) ?_
      intro ac183 En184
      refine d_pures [(3, pt bk1), (5, pt bk6), (6, pt bk11), (7, pt bk18), (8, ni i1), (9, ni i2), (10, pt bk116), (11, ni i), (12, ni k1), (13, ni k2), (70, .agg (List.toArray (u32s v4))), (71, ni k2), (73, .int .i64 (IntKind.wrap .i64 (((k2 : Nat) : Int) + (1 : Int))))] [ni k2, ni k2, .int .i64 (IntKind.wrap .i64 (((k2 : Nat) : Int) + (1 : Int)))] 4 En184 (by kernel_rfl) (by kernel_rfl) rfl ?_
      intro ac185 En186
      rw [Go.Dbr.wr64 (e := ((k2 : Nat) : Int) + (1 : Int)) (x := ((k2 + 1 : Nat) : Int)) (by omega) (by omega) (by omega)] at En186
      refine d_pures [(3, pt bk1), (5, pt bk6), (6, pt bk11), (7, pt bk18), (8, ni i1), (9, ni i2), (10, pt bk116), (11, ni i), (12, ni k1), (13, ni k2), (70, .agg (List.toArray (u32s v4))), (71, ni k2), (74, .int .i64 (Int.tmod ((k2 + 1 : Nat) : Int) (4 : Int)))] [.int .i64 (Int.tmod ((k2 + 1 : Nat) : Int) (4 : Int))] 5 En186 (by kernel_rfl) (by kernel_rfl) rfl ?_
      intro ac187 En188
      rw [show Int.tmod ((k2 + 1 : Nat) : Int) (4 : Int) = (((k2 + 1) % 4 : Nat) : Int) from Go.Dbr.i64_rem_nat (a := ((k2 + 1 : Nat) : Int)) (n := k2 + 1) (m := 4) rfl (by omega)] at En188
      refine d_pures [(3, pt bk1), (5, pt bk6), (6, pt bk11), (7, pt bk18), (8, ni i1), (9, ni i2), (10, pt bk116), (11, ni i), (12, ni k1), (13, ni k2), (70, .agg (List.toArray (u32s v4))), (71, ni k2), (75, .int .i64 (IntKind.wrap .i64 ((4 : Int) + (((k2 + 1) % 4 : Nat) : Int))))] [.int .i64 (IntKind.wrap .i64 ((4 : Int) + (((k2 + 1) % 4 : Nat) : Int)))] 6 En188 (by kernel_rfl) (by kernel_rfl) rfl ?_
      intro ac189 En190
      rw [Go.Dbr.wr64 (e := (4 : Int) + (((k2 + 1) % 4 : Nat) : Int)) (x := ((4 + ((k2 + 1) % 4) : Nat) : Int)) (by omega) (by omega) (by omega)] at En190
      refine d_pures [(3, pt bk1), (5, pt bk6), (6, pt bk11), (7, pt bk18), (8, ni i1), (9, ni i2), (10, pt bk116), (11, ni i), (12, ni k1), (13, ni k2), (70, .agg (List.toArray (u32s v4))), (71, ni k2), (75, .int .i64 ((4 + ((k2 + 1) % 4) : Nat) : Int)), (77, .int .i64 (IntKind.wrap .i64 (((k2 : Nat) : Int) + (2 : Int))))] [ni k2, .int .i64 (IntKind.wrap .i64 (((k2 : Nat) : Int) + (2 : Int)))] 8 En190 (by kernel_rfl) (by kernel_rfl) rfl ?_
      intro ac191 En192
      rw [Go.Dbr.wr64 (e := ((k2 : Nat) : Int) + (2 : Int)) (x := ((k2 + 2 : Nat) : Int)) (by omega) (by omega) (by omega)] at En192
      refine d_pures [(3, pt bk1), (5, pt bk6), (6, pt bk11), (7, pt bk18), (8, ni i1), (9, ni i2), (10, pt bk116), (11, ni i), (12, ni k1), (13, ni k2), (70, .agg (List.toArray (u32s v4))), (71, ni k2), (75, .int .i64 ((4 + ((k2 + 1) % 4) : Nat) : Int)), (78, .int .i64 (Int.tmod ((k2 + 2 : Nat) : Int) (4 : Int)))] [.int .i64 (Int.tmod ((k2 + 2 : Nat) : Int) (4 : Int))] 9 En192 (by kernel_rfl) (by kernel_rfl) rfl ?_
      intro ac193 En194
      rw [show Int.tmod ((k2 + 2 : Nat) : Int) (4 : Int) = (((k2 + 2) % 4 : Nat) : Int) from Go.Dbr.i64_rem_nat (a := ((k2 + 2 : Nat) : Int)) (n := k2 + 2) (m := 4) rfl (by omega)] at En194
      refine d_pures [(3, pt bk1), (5, pt bk6), (6, pt bk11), (7, pt bk18), (8, ni i1), (9, ni i2), (10, pt bk116), (11, ni i), (12, ni k1), (13, ni k2), (70, .agg (List.toArray (u32s v4))), (71, ni k2), (75, .int .i64 ((4 + ((k2 + 1) % 4) : Nat) : Int)), (79, .int .i64 (IntKind.wrap .i64 ((8 : Int) + (((k2 + 2) % 4 : Nat) : Int))))] [.int .i64 (IntKind.wrap .i64 ((8 : Int) + (((k2 + 2) % 4 : Nat) : Int)))] 10 En194 (by kernel_rfl) (by kernel_rfl) rfl ?_
      intro ac195 En196
      rw [Go.Dbr.wr64 (e := (8 : Int) + (((k2 + 2) % 4 : Nat) : Int)) (x := ((8 + ((k2 + 2) % 4) : Nat) : Int)) (by omega) (by omega) (by omega)] at En196
      refine d_pures [(3, pt bk1), (5, pt bk6), (6, pt bk11), (7, pt bk18), (8, ni i1), (9, ni i2), (10, pt bk116), (11, ni i), (12, ni k1), (13, ni k2), (70, .agg (List.toArray (u32s v4))), (71, ni k2), (75, .int .i64 ((4 + ((k2 + 1) % 4) : Nat) : Int)), (79, .int .i64 ((8 + ((k2 + 2) % 4) : Nat) : Int)), (81, .int .i64 (IntKind.wrap .i64 (((k2 : Nat) : Int) + (3 : Int))))] [ni k2, .int .i64 (IntKind.wrap .i64 (((k2 : Nat) : Int) + (3 : Int)))] 12 En196 (by kernel_rfl) (by kernel_rfl) rfl ?_
      intro ac197 En198
      rw [Go.Dbr.wr64 (e := ((k2 : Nat) : Int) + (3 : Int)) (x := ((k2 + 3 : Nat) : Int)) (by omega) (by omega) (by omega)] at En198
      refine d_pures [(3, pt bk1), (5, pt bk6), (6, pt bk11), (7, pt bk18), (8, ni i1), (9, ni i2), (10, pt bk116), (11, ni i), (12, ni k1), (13, ni k2), (70, .agg (List.toArray (u32s v4))), (71, ni k2), (75, .int .i64 ((4 + ((k2 + 1) % 4) : Nat) : Int)), (79, .int .i64 ((8 + ((k2 + 2) % 4) : Nat) : Int)), (82, .int .i64 (Int.tmod ((k2 + 3 : Nat) : Int) (4 : Int)))] [.int .i64 (Int.tmod ((k2 + 3 : Nat) : Int) (4 : Int))] 13 En198 (by kernel_rfl) (by kernel_rfl) rfl ?_
      intro ac199 En200
      rw [show Int.tmod ((k2 + 3 : Nat) : Int) (4 : Int) = (((k2 + 3) % 4 : Nat) : Int) from Go.Dbr.i64_rem_nat (a := ((k2 + 3 : Nat) : Int)) (n := k2 + 3) (m := 4) rfl (by omega)] at En200
      refine d_pures [(3, pt bk1), (5, pt bk6), (6, pt bk11), (7, pt bk18), (8, ni i1), (9, ni i2), (10, pt bk116), (11, ni i), (12, ni k1), (13, ni k2), (70, .agg (List.toArray (u32s v4))), (71, ni k2), (75, .int .i64 ((4 + ((k2 + 1) % 4) : Nat) : Int)), (79, .int .i64 ((8 + ((k2 + 2) % 4) : Nat) : Int)), (83, .int .i64 (IntKind.wrap .i64 ((12 : Int) + (((k2 + 3) % 4 : Nat) : Int))))] [.int .i64 (IntKind.wrap .i64 ((12 : Int) + (((k2 + 3) % 4 : Nat) : Int)))] 14 En200 (by kernel_rfl) (by kernel_rfl) rfl ?_
      intro ac201 En202
      rw [Go.Dbr.wr64 (e := (12 : Int) + (((k2 + 3) % 4 : Nat) : Int)) (x := ((12 + ((k2 + 3) % 4) : Nat) : Int)) (by omega) (by omega) (by omega)] at En202
      refine from_op (by kernel_rfl) ?_
      have hM203 : Heap wo176 [] := Hv178.heap.pick [] (by kernel_rfl) (by decide)
      refine op_call (d := some 84) (f := 24) (args := #[.agg (List.toArray (u32s v4)), ni k2, .int .i64 ((4 + ((k2 + 1) % 4) : Nat) : Int), .int .i64 ((8 + ((k2 + 2) % 4) : Nat) : Int), .int .i64 ((12 + ((k2 + 3) % 4) : Nat) : Int)]) En202 (by kernel_rfl) ((quart_ref _ v4 hlv4 k2 (4 + ((k2 + 1) % 4)) (8 + ((k2 + 2) % 4)) (12 + ((k2 + 3) % 4)) (by omega) (by omega) (by omega) (by omega)).mono ?_)
      rintro _ wo205 ⟨rfl, he208⟩
      refine ⟨_, rfl, ?_⟩
      intro ac204 En206
      have Hv207 : Ev w [] wo205 [.box bk18 (u32s v4) 42, .box bk116 (u32s (initW lk c ln)) 42, .box bk1 (bys lk) 22, .box bk6 (bys ln) 24, .box bk11 (bys (List.replicate 64 0)) 28] := Hv178.trans (Ev.call (R := [.box bk18 (u32s v4) 42, .box bk116 (u32s (initW lk c ln)) 42, .box bk1 (bys lk) 22, .box bk6 (bys ln) 24, .box bk11 (bys (List.replicate 64 0)) 28]) Hv178.heap [0, 1, 2, 3, 4] (by kernel_rfl) (by decide) he208)
      clear hM203 he208
      refine from_op (by kernel_rfl) ?_
      refine op_storeaggbox (d := none) (t := 42) (b := bk18) (off := 0) (k := 0) (m := 16) (xs := u32s (quart v4 k2 (4 + ((k2 + 1) % 4)) (8 + ((k2 + 2) % 4)) (12 + ((k2 + 3) % 4)))) (v := .agg (List.toArray (u32s (quart v4 k2 (4 + ((k2 + 1) % 4)) (8 + ((k2 + 2) % 4)) (12 + ((k2 + 3) % 4)))))) (cs' := u32s (quart v4 k2 (4 + ((k2 + 1) % 4)) (8 + ((k2 + 2) % 4)) (12 + ((k2 + 3) % 4)))) En206 (by kernel_rfl) Hv207 rfl rfl (u32s_lenh (quart_len hlv4 _ _ _ _)) (by rw [(u32s_lenh hlv4)]; decide) (by kernel_rfl) (u32s_one _) (store_whole (u32s_lenh hlv4)) (L' := [.box bk18 (u32s (quart v4 k2 (4 + ((k2 + 1) % 4)) (8 + ((k2 + 2) % 4)) (12 + ((k2 + 3) % 4)))) 42, .box bk116 (u32s (initW lk c ln)) 42, .box bk1 (bys lk) 22, .box bk6 (bys ln) 24, .box bk11 (bys (List.replicate 64 0)) 28]) rfl ?_
      intro ac209 wo210  En211 Hv212
      refine from_end (by kernel_rfl) ?_
      refine block_normal ?_
      refine then_normal ?_
      refine region_from ?_
      refine d_pures [(3, pt bk1), (5, pt bk6), (6, pt bk11), (7, pt bk18), (8, ni i1), (9, ni i2), (10, pt bk116), (11, ni i), (12, ni k1), (13, ni k2), (69, .int .i64 (IntKind.wrap .i64 (((k2 : Nat) : Int) + (1 : Int))))] [ni k2, .int .i64 (IntKind.wrap .i64 (((k2 : Nat) : Int) + (1 : Int)))] 2 En211 (by kernel_rfl) (by kernel_rfl) rfl ?_
      intro ac213 En214
      rw [Go.Dbr.wr64 (e := ((k2 : Nat) : Int) + (1 : Int)) (x := ((k2 + 1 : Nat) : Int)) (by omega) (by omega) (by omega)] at En214
      refine d_pures [(3, pt bk1), (5, pt bk6), (6, pt bk11), (7, pt bk18), (8, ni i1), (9, ni i2), (10, pt bk116), (11, ni i), (12, ni k1), (13, .int .i64 ((k2 + 1 : Nat) : Int))] [.int .i64 ((k2 + 1 : Nat) : Int)] 3 En214 (by kernel_rfl) (by kernel_rfl) rfl ?_
      intro ac215 En216
      refine from_end (by kernel_rfl) ?_
      refine then_normal ?_
      refine ⟨_, ⟨k2 + 1, (quart v4 k2 (4 + ((k2 + 1) % 4)) (8 + ((k2 + 2) % 4)) (12 + ((k2 + 3) % 4))), rfl, En216.sub (by kernel_rfl), Hv212.pick [0, 1, 2, 3, 4] (by kernel_rfl) (by decide), by omega, (quart_len hlv4 _ _ _ _), by first | (rw [hev4]; rfl) | (rw [hev4, hc2]; rfl) | rfl⟩, ?_⟩
      omega
     ·
      replace hc182 : ¬ (((k2 : Nat) : Int) < (4 : Int)) := of_decide_eq_false hc182
      refine wp_exit ?_
      refine then_exit ?_
      refine then_exit ?_
      refine block_exit ?_
      refine block_normal ?_
      refine then_normal ?_
      have hnv4 : k2 = 4 := by omega
      have hfv4 : v4 = rB (rA v 4) 4 := by rw [hev4, hnv4] <;> rfl
      rw [show v4 = (rB (rA v 4) 4) from hfv4] at Hv178
      rw [show (rB (rA v 4) 4) = (round v) from round_ref v] at Hv178
      refine region_from ?_
      refine d_pures [(3, pt bk1), (5, pt bk6), (6, pt bk11), (7, pt bk18), (8, ni i1), (9, ni i2), (10, pt bk116), (11, ni i), (12, ni k1), (13, ni k2), (52, .int .i64 (IntKind.wrap .i64 (((i : Nat) : Int) + (1 : Int))))] [ni i, .int .i64 (IntKind.wrap .i64 (((i : Nat) : Int) + (1 : Int)))] 2 En181 (by kernel_rfl) (by kernel_rfl) rfl ?_
      intro ac217 En218
      rw [Go.Dbr.wr64 (e := ((i : Nat) : Int) + (1 : Int)) (x := ((i + 1 : Nat) : Int)) (by omega) (by omega) (by omega)] at En218
      refine d_pures [(3, pt bk1), (5, pt bk6), (6, pt bk11), (7, pt bk18), (8, ni i1), (9, ni i2), (10, pt bk116), (11, .int .i64 ((i + 1 : Nat) : Int)), (12, ni k1), (13, ni k2)] [.int .i64 ((i + 1 : Nat) : Int)] 3 En218 (by kernel_rfl) (by kernel_rfl) rfl ?_
      intro ac219 En220
      refine from_end (by kernel_rfl) ?_
      refine then_normal ?_
      refine ⟨_, ⟨i + 1, round v, rfl, En220.sub (by kernel_rfl), Hv178.pick [0, 1, 2, 3, 4] (by kernel_rfl) (by decide), by omega, by rw [hv]; rfl, (round_len hl)⟩, ?_⟩
      omega
   ·
    replace hc136 : ¬ (((i : Nat) : Int) < (10 : Int)) := of_decide_eq_false hc136
    refine wp_exit ?_
    refine then_exit ?_
    refine then_exit ?_
    refine block_exit ?_
    refine then_normal ?_
    refine wp_seq ?_
    refine region_from ?_
    refine from_op (by kernel_rfl) ?_
    refine op_alloc (d := some 14) (T := 28) (x := .tuple #[]) (z := .agg (List.toArray (bys (List.replicate 64 0)))) (cs := bys (List.replicate 64 0)) En135 (by kernel_rfl) (by kernel_rfl) (by kernel_rfl) Hv132 ?_
    intro ac222 wo223 bk221 En224 Hv225
    refine from_end (by kernel_rfl) ?_
    refine then_normal ?_
    refine wp_seq ?_
    refine wp_seq ?_
    refine region_from ?_
    refine d_pures [(3, pt bk1), (5, pt bk6), (6, pt bk11), (7, pt bk18), (8, ni i1), (9, ni i2), (10, pt bk116), (11, ni i), (14, pt bk221), (15, .int .i64 0)] [.int .i64 0] 1 En224 (by kernel_rfl) (by kernel_rfl) rfl ?_
    intro ac226 En227
    refine from_end (by kernel_rfl) ?_
    refine then_normal ?_
    refine wp_block ?_
    have hi10 : i = 10 := by omega
    refine loop_m (fun ms228 ac wo => ∃ (q : Nat) (o : List UInt8), ms228 = (64 - q : Nat) ∧ Env ac 107 [(3, pt bk1), (5, pt bk6), (6, pt bk11), (7, pt bk18), (8, ni i1), (9, ni i2), (10, pt bk116), (11, ni i), (14, pt bk221), (15, ni q)] ∧ Ev w [] wo [.box bk18 (u32s v) 42, .box bk116 (u32s (initW lk c ln)) 42, .box bk221 (bys o) 28, .box bk1 (bys lk) 22, .box bk6 (bys ln) 24, .box bk11 (bys (List.replicate 64 0)) 28] ∧ (q ≤ 64) ∧ (List.length o = 64) ∧ (∀ j, j < 64 → List.getD o j 0 = if j < q then byteAt v (initW lk c ln) j else 0)) ⟨_, 0, List.replicate 64 0, rfl, En227.sub (by kernel_rfl), Hv225.pick [0, 1, 5, 2, 3, 4] (by kernel_rfl) (by decide), by omega, by simp, fun j hj => by rw [getD_replicate, if_neg (by omega)]⟩ ?_
    rintro mm234 ac230 wo231 ⟨q, o, rfl, En232, Hv233, hq, ho, hp⟩
    refine wp_seq ?_
    refine wp_seq ?_
    refine region_from ?_
    refine d_pures [(3, pt bk1), (5, pt bk6), (6, pt bk11), (7, pt bk18), (8, ni i1), (9, ni i2), (10, pt bk116), (11, ni i), (14, pt bk221), (15, ni q), (86, .bool (decide (((q : Nat) : Int) < (64 : Int))))] [ni q, .bool (decide (((q : Nat) : Int) < (64 : Int)))] 2 En232 (by kernel_rfl) (by kernel_rfl) rfl ?_
    intro ac235 En236
    refine from_end (by kernel_rfl) ?_
    refine then_normal ?_
    refine cond_at En236 (t := decide (((q : Nat) : Int) < (64 : Int))) (by kernel_rfl) (fun hc237 => ?_) (fun hc237 => ?_)
    ·
     replace hc237 : ((q : Nat) : Int) < (64 : Int) := of_decide_eq_true hc237
     refine wp_skip ?_
     refine then_normal ?_
     refine wp_seq ?_
     refine wp_block ?_
     refine wp_seq ?_
     refine region_cut (F := fun ac wo => Env ac 107 [(3, pt bk1), (5, pt bk6), (6, pt bk11), (7, pt bk18), (8, ni i1), (9, ni i2), (10, pt bk116), (11, ni i), (14, pt bk221), (15, ni q), (16, .int .u32 ((UInt32.toNat ((List.getD v (q / 4) 0) + (List.getD (initW lk c ln) (q / 4) 0)) : Nat) : Int))] ∧ Ev w [] wo [.box bk18 (u32s v) 42, .box bk116 (u32s (initW lk c ln)) 42, .box bk221 (bys o) 28, .box bk1 (bys lk) 22, .box bk6 (bys ln) 24, .box bk11 (bys (List.replicate 64 0)) 28]) ?_ ?_
     ·
      refine h_start (fun wv => Ev w [] wv [.box bk18 (u32s v) 42, .box bk116 (u32s (initW lk c ln)) 42]) [] (by kernel_rfl) 10 (by kernel_rfl) ?_
      have wo238 := Hv233.trans (Ev.drew Hv233.heap)
      refine h_pureR (d := some 89) En236 (v := ni q) 0 (by kernel_rfl) (by kernel_rfl) rfl (fun _ => wo238.pick [0, 1] (by kernel_rfl) (by decide)) ?_
      intro ac293 En294
      refine h_pureR (d := some 90) En294 (v := .int .i64 (IntKind.wrap .i64 (Int.tdiv ((q : Nat) : Int) (4 : Int)))) 1 (by kernel_rfl) (by kernel_rfl) rfl (fun _ => wo238.pick [0, 1] (by kernel_rfl) (by decide)) ?_
      intro ac295 En296
      rw [show IntKind.wrap .i64 (Int.tdiv ((q : Nat) : Int) (4 : Int)) = ((q / 4 : Nat) : Int) from Go.Dbr.i64_quo_nat (a := ((q : Nat) : Int)) (n := q) (m := 4) rfl (by omega)] at En296
      refine h_free (d := some 91) (s := nv (Instr.indexAt 42 (pt bk18) (.int .i64 ((q / 4 : Nat) : Int)))) En296 (v := .pointer (some ⟨bk18, q / 4, none⟩)) 2 (by kernel_rfl) (fun _ => run_nv (Go.Dbr.run_indexarr (e := 23) (sz := 1) (m := 16) (j := q / 4) (o := q / 4) (by kernel_rfl) (by kernel_rfl) (by omega) (by omega) (by omega) _)) (by kernel_rfl) rfl (fun _ => wo238.pick [0, 1] (by kernel_rfl) (by decide)) ?_
      intro ac297 En298
      have hb299 : q / 4 < List.length v := by rw [hl]; omega
      refine h_read (d := some 92) (s := nv (Instr.loadAt 23 (.pointer (some ⟨bk18, q / 4, none⟩)))) En298 (v := .int .u32 ((UInt32.toNat (List.getD v (q / 4) 0) : Nat) : Int)) 3 (by kernel_rfl) (fun w hS => run_nv (run_load1 (by kernel_rfl) (hS.heap.cell (k := 0) rfl (u32s_getD hb299)))) (by kernel_rfl) rfl (wo238.pick [0, 1] (by kernel_rfl) (by decide)) ?_
      intro ac300 En301
      refine h_pureR (d := some 93) En301 (v := ni q) 4 (by kernel_rfl) (by kernel_rfl) rfl (fun _ => wo238.pick [0, 1] (by kernel_rfl) (by decide)) ?_
      intro ac302 En303
      refine h_pureR (d := some 94) En303 (v := .int .i64 (IntKind.wrap .i64 (Int.tdiv ((q : Nat) : Int) (4 : Int)))) 5 (by kernel_rfl) (by kernel_rfl) rfl (fun _ => wo238.pick [0, 1] (by kernel_rfl) (by decide)) ?_
      intro ac304 En305
      rw [show IntKind.wrap .i64 (Int.tdiv ((q : Nat) : Int) (4 : Int)) = ((q / 4 : Nat) : Int) from Go.Dbr.i64_quo_nat (a := ((q : Nat) : Int)) (n := q) (m := 4) rfl (by omega)] at En305
      refine h_free (d := some 95) (s := nv (Instr.indexAt 42 (pt bk116) (.int .i64 ((q / 4 : Nat) : Int)))) En305 (v := .pointer (some ⟨bk116, q / 4, none⟩)) 6 (by kernel_rfl) (fun _ => run_nv (Go.Dbr.run_indexarr (e := 23) (sz := 1) (m := 16) (j := q / 4) (o := q / 4) (by kernel_rfl) (by kernel_rfl) (by omega) (by omega) (by omega) _)) (by kernel_rfl) rfl (fun _ => wo238.pick [0, 1] (by kernel_rfl) (by decide)) ?_
      intro ac306 En307
      have hb308 : q / 4 < List.length (initW lk c ln) := by rw [(initW_len lk c ln)]; omega
      refine h_read (d := some 96) (s := nv (Instr.loadAt 23 (.pointer (some ⟨bk116, q / 4, none⟩)))) En307 (v := .int .u32 ((UInt32.toNat (List.getD (initW lk c ln) (q / 4) 0) : Nat) : Int)) 7 (by kernel_rfl) (fun w hS => run_nv (run_load1 (by kernel_rfl) (hS.heap.cell (k := 1) rfl (u32s_getD hb308)))) (by kernel_rfl) rfl (wo238.pick [0, 1] (by kernel_rfl) (by decide)) ?_
      intro ac309 En310
      refine h_pureR (d := some 97) En310 (v := .int .u32 (IntKind.wrap .u32 (((UInt32.toNat (List.getD v (q / 4) 0) : Nat) : Int) + ((UInt32.toNat (List.getD (initW lk c ln) (q / 4) 0) : Nat) : Int)))) 8 (by kernel_rfl) (by kernel_rfl) rfl (fun _ => wo238.pick [0, 1] (by kernel_rfl) (by decide)) ?_
      intro ac311 En312
      rw [Go.Dbr.u32_add (a := ((UInt32.toNat (List.getD v (q / 4) 0) : Nat) : Int)) (b := ((UInt32.toNat (List.getD (initW lk c ln) (q / 4) 0) : Nat) : Int)) (x := List.getD v (q / 4) 0) (y := List.getD (initW lk c ln) (q / 4) 0) rfl rfl] at En312
      refine h_pureR (d := some 16) En312 (v := .int .u32 ((UInt32.toNat ((List.getD v (q / 4) 0) + (List.getD (initW lk c ln) (q / 4) 0)) : Nat) : Int)) 9 (by kernel_rfl) (by kernel_rfl) rfl (fun _ => wo238.pick [0, 1] (by kernel_rfl) (by decide)) ?_
      intro ac313 En314
      exact h_end (by kernel_rfl) ⟨En314.sub (by kernel_rfl), wo238.pick [0, 1, 2, 3, 4, 5] (by kernel_rfl) (by decide)⟩
     rintro ac315 wo316 ⟨En317, Hv318⟩
     refine then_normal ?_
     refine region_from ?_
     refine d_pures [(3, pt bk1), (5, pt bk6), (6, pt bk11), (7, pt bk18), (8, ni i1), (9, ni i2), (10, pt bk116), (11, ni i), (14, pt bk221), (15, ni q), (98, ni q), (99, .int .u32 ((UInt32.toNat ((List.getD v (q / 4) 0) + (List.getD (initW lk c ln) (q / 4) 0)) : Nat) : Int)), (101, .int .i64 (Int.tmod ((q : Nat) : Int) (4 : Int)))] [ni q, .int .u32 ((UInt32.toNat ((List.getD v (q / 4) 0) + (List.getD (initW lk c ln) (q / 4) 0)) : Nat) : Int), ni q, .int .i64 (Int.tmod ((q : Nat) : Int) (4 : Int))] 4 En317 (by kernel_rfl) (by kernel_rfl) rfl ?_
     intro ac319 En320
     rw [show Int.tmod ((q : Nat) : Int) (4 : Int) = ((q % 4 : Nat) : Int) from Go.Dbr.i64_rem_nat (a := ((q : Nat) : Int)) (n := q) (m := 4) rfl (by omega)] at En320
     refine d_pures [(3, pt bk1), (5, pt bk6), (6, pt bk11), (7, pt bk18), (8, ni i1), (9, ni i2), (10, pt bk116), (11, ni i), (14, pt bk221), (15, ni q), (98, ni q), (99, .int .u32 ((UInt32.toNat ((List.getD v (q / 4) 0) + (List.getD (initW lk c ln) (q / 4) 0)) : Nat) : Int)), (102, .int .i64 (IntKind.wrap .i64 ((8 : Int) * ((q % 4 : Nat) : Int))))] [.int .i64 (IntKind.wrap .i64 ((8 : Int) * ((q % 4 : Nat) : Int)))] 5 En320 (by kernel_rfl) (by kernel_rfl) rfl ?_
     intro ac321 En322
     rw [Go.Dbr.wr64 (e := (8 : Int) * ((q % 4 : Nat) : Int)) (x := ((8 * (q % 4) : Nat) : Int)) (by omega) (by omega) (by omega)] at En322
     refine from_op (by kernel_rfl) ?_
     refine op_val (d := some 103) (x := Op.shift .shr .u32 ((UInt32.toNat ((List.getD v (q / 4) 0) + (List.getD (initW lk c ln) (q / 4) 0)) : Nat) : Int) .i64 ((8 * (q % 4) : Nat) : Int)) (v := .int .u32 ((UInt32.toNat (((List.getD v (q / 4) 0) + (List.getD (initW lk c ln) (q / 4) 0)) >>> UInt32.ofNat (8 * (q % 4))) : Nat) : Int)) En322 (by kernel_rfl) (Go.Dbr.run_shr_u32 ((List.getD v (q / 4) 0) + (List.getD (initW lk c ln) (q / 4) 0)) .i64 (8 * (q % 4)) (by omega) _) ?_
     intro ac323 En324
     refine d_pures [(3, pt bk1), (5, pt bk6), (6, pt bk11), (7, pt bk18), (8, ni i1), (9, ni i2), (10, pt bk116), (11, ni i), (14, pt bk221), (15, ni q), (98, ni q), (104, .int .u8 (IntKind.wrap .u8 ((UInt32.toNat (((List.getD v (q / 4) 0) + (List.getD (initW lk c ln) (q / 4) 0)) >>> UInt32.ofNat (8 * (q % 4))) : Nat) : Int)))] [.int .u8 (IntKind.wrap .u8 ((UInt32.toNat (((List.getD v (q / 4) 0) + (List.getD (initW lk c ln) (q / 4) 0)) >>> UInt32.ofNat (8 * (q % 4))) : Nat) : Int))] 7 En324 (by kernel_rfl) (by kernel_rfl) rfl ?_
     intro ac325 En326
     rw [Go.Dbr.u32_to_u8 (a := ((UInt32.toNat (((List.getD v (q / 4) 0) + (List.getD (initW lk c ln) (q / 4) 0)) >>> UInt32.ofNat (8 * (q % 4))) : Nat) : Int)) (x := ((List.getD v (q / 4) 0) + (List.getD (initW lk c ln) (q / 4) 0)) >>> UInt32.ofNat (8 * (q % 4))) rfl] at En326
     refine from_op (by kernel_rfl) ?_
     refine op_val (d := some 105) (x := Instr.indexAt 28 (pt bk221) (ni q)) (v := .pointer (some ⟨bk221, q, none⟩)) En326 (by kernel_rfl) (Go.Dbr.run_indexarr (e := 5) (sz := 1) (m := 64) (j := q) (o := q) (by kernel_rfl) (by kernel_rfl) (by omega) (by omega) (by omega) _) ?_
     intro ac327 En328
     refine from_op (by kernel_rfl) ?_
     have hb329 : q < List.length o := by rw [ho]; omega
     refine op_storebox2 (d := none) (t := 5) (b := bk221) (off := q) (k := 2) (v := .int .u8 ((UInt8.toNat (UInt32.toUInt8 (((List.getD v (q / 4) 0) + (List.getD (initW lk c ln) (q / 4) 0)) >>> UInt32.ofNat (8 * (q % 4)))) : Nat) : Int)) En328 (by kernel_rfl) Hv318 rfl (bys_getD hb329) (by kernel_rfl) rfl (bys_set _ _ _) (L' := [.box bk18 (u32s v) 42, .box bk116 (u32s (initW lk c ln)) 42, .box bk221 (bys (List.set o q (UInt32.toUInt8 (((List.getD v (q / 4) 0) + (List.getD (initW lk c ln) (q / 4) 0)) >>> UInt32.ofNat (8 * (q % 4)))))) 28, .box bk1 (bys lk) 22, .box bk6 (bys ln) 24, .box bk11 (bys (List.replicate 64 0)) 28]) rfl ?_
     intro ac330 wo331  En332 Hv333
     refine from_end (by kernel_rfl) ?_
     refine block_normal ?_
     refine then_normal ?_
     refine region_from ?_
     refine d_pures [(3, pt bk1), (5, pt bk6), (6, pt bk11), (7, pt bk18), (8, ni i1), (9, ni i2), (10, pt bk116), (11, ni i), (14, pt bk221), (15, ni q), (88, .int .i64 (IntKind.wrap .i64 (((q : Nat) : Int) + (1 : Int))))] [ni q, .int .i64 (IntKind.wrap .i64 (((q : Nat) : Int) + (1 : Int)))] 2 En332 (by kernel_rfl) (by kernel_rfl) rfl ?_
     intro ac334 En335
     rw [Go.Dbr.wr64 (e := ((q : Nat) : Int) + (1 : Int)) (x := ((q + 1 : Nat) : Int)) (by omega) (by omega) (by omega)] at En335
     refine d_pures [(3, pt bk1), (5, pt bk6), (6, pt bk11), (7, pt bk18), (8, ni i1), (9, ni i2), (10, pt bk116), (11, ni i), (14, pt bk221), (15, .int .i64 ((q + 1 : Nat) : Int))] [.int .i64 ((q + 1 : Nat) : Int)] 3 En335 (by kernel_rfl) (by kernel_rfl) rfl ?_
     intro ac336 En337
     refine from_end (by kernel_rfl) ?_
     refine then_normal ?_
     refine ⟨_, ⟨q + 1, List.set o q (UInt32.toUInt8 (((List.getD v (q / 4) 0) + (List.getD (initW lk c ln) (q / 4) 0)) >>> UInt32.ofNat (8 * (q % 4)))), rfl, En337.sub (by kernel_rfl), Hv333.pick [0, 1, 2, 3, 4, 5] (by kernel_rfl) (by decide), by omega, by simp [ho], upto_set (f := byteAt v (initW lk c ln)) (g := fun _ => 0) ho hp (by omega)⟩, ?_⟩
     omega
    ·
     replace hc237 : ¬ (((q : Nat) : Int) < (64 : Int)) := of_decide_eq_false hc237
     refine wp_exit ?_
     refine then_exit ?_
     refine then_exit ?_
     refine block_exit ?_
     refine then_normal ?_
     refine wp_seq ?_
     have hq64 : q = 64 := by omega
     have eo : o = blockF lk c ln := eq_range_map 0 ho (fun j hj => by rw [hp j hj, if_pos (by omega), hv, hi10])
     rw [eo] at Hv233
     replace Hv233 : Ev w [] wo231 [.box bk18 (u32s v) 42, .box bk116 (u32s (initW lk c ln)) 42, .box bk221 (bys (blockF lk c ln)) 28, .box bk1 (bys lk) 22, .box bk6 (bys ln) 24, .box bk11 (bys (List.replicate 64 0)) 28] := Hv233
     refine region_from ?_
     refine from_op (by kernel_rfl) ?_
     refine op_loadaggbox (d := some 106) (t := 28) (b := bk221) (off := 0) (k := 2) (m := 64) (xs := bys (blockF lk c ln)) En236 (by kernel_rfl) Hv233 rfl (load_whole (bys_lenh (blockF_len lk c ln))) (bys_lenh (blockF_len lk c ln)) (by kernel_rfl) (by kernel_rfl) ?_
     intro ac338 En339
     refine from_op (by kernel_rfl) ?_
     refine op_storeaggbox (d := none) (t := 28) (b := bk11) (off := 0) (k := 5) (m := 64) (xs := bys (blockF lk c ln)) (v := .agg (List.toArray (bys (blockF lk c ln)))) (cs' := bys (blockF lk c ln)) En339 (by kernel_rfl) Hv233 rfl rfl (bys_lenh (blockF_len lk c ln)) (by rw [(bys_lenh (List.length_replicate))]; decide) (by kernel_rfl) (bys_one _) (store_whole (bys_lenh (List.length_replicate))) (L' := [.box bk18 (u32s v) 42, .box bk116 (u32s (initW lk c ln)) 42, .box bk221 (bys (blockF lk c ln)) 28, .box bk1 (bys lk) 22, .box bk6 (bys ln) 24, .box bk11 (bys (blockF lk c ln)) 28]) rfl ?_
     intro ac340 wo341  En342 Hv343
     refine from_end (by kernel_rfl) ?_
     refine then_normal ?_
     refine wp_ret ?_
     refine d_cell1 (v := .agg (List.toArray (bys (blockF lk c ln)))) (t := 6) (T := 28) (ad := ⟨bk11, 0, none⟩) En342 (by kernel_rfl) (by kernel_rfl) (Ev.cellAgg (t := 28) (k := 5) (off := 0) (m := 64) (xs := bys (blockF lk c ln)) Hv343 rfl (load_whole (bys_lenh (blockF_len lk c ln))) (bys_lenh (blockF_len lk c ln)) (by kernel_rfl) (by kernel_rfl)) ?_
     exact ⟨rfl, Hv343.pick [] (by kernel_rfl) (by decide)⟩

theorem head_bytes : List.getD (blockF ([0, 0, 0, 0, 0, 0, 0, 0, 0, 0, 0, 0, 0, 0, 0, 0, 0, 0, 0, 0, 0, 0, 0, 0, 0, 0, 0, 0, 0, 0, 0, 0] : List UInt8) 0 ([0, 0, 0, 0, 0, 0, 0, 0, 0, 0, 0, 0] : List UInt8)) 0 0 = 118 ∧ List.getD (blockF ([0, 0, 0, 0, 0, 0, 0, 0, 0, 0, 0, 0, 0, 0, 0, 0, 0, 0, 0, 0, 0, 0, 0, 0, 0, 0, 0, 0, 0, 0, 0, 0] : List UInt8) 0 ([0, 0, 0, 0, 0, 0, 0, 0, 0, 0, 0, 0] : List UInt8)) 1 0 = 184 ∧ List.getD (blockF ([0, 0, 0, 0, 0, 0, 0, 0, 0, 0, 0, 0, 0, 0, 0, 0, 0, 0, 0, 0, 0, 0, 0, 0, 0, 0, 0, 0, 0, 0, 0, 0] : List UInt8) 0 ([0, 0, 0, 0, 0, 0, 0, 0, 0, 0, 0, 0] : List UInt8)) 2 0 = 224 ∧ List.getD (blockF ([0, 0, 0, 0, 0, 0, 0, 0, 0, 0, 0, 0, 0, 0, 0, 0, 0, 0, 0, 0, 0, 0, 0, 0, 0, 0, 0, 0, 0, 0, 0, 0] : List UInt8) 0 ([0, 0, 0, 0, 0, 0, 0, 0, 0, 0, 0, 0] : List UInt8)) 3 0 = 173 ∧ List.getD (blockF ([0, 0, 0, 0, 0, 0, 0, 0, 0, 0, 0, 0, 0, 0, 0, 0, 0, 0, 0, 0, 0, 0, 0, 0, 0, 0, 0, 0, 0, 0, 0, 0] : List UInt8) 0 ([0, 0, 0, 0, 0, 0, 0, 0, 0, 0, 0, 0] : List UInt8)) 63 0 = 134 := by
  decide +kernel

theorem head_ok (w : World) : Calls Try.prog 8 #[] w fun e w' => e = .returned (.bool true) ∧ Ev w [] w' [] := by
 refine d_start [] 28 Go.Proofs.Try.func8 Go.Proofs.Try.ntmps8 rfl (by kernel_rfl) (by kernel_rfl) ?_
 intro act0 En0
 have Hv0 : Ev w [] w [] := Ev.refl (Heap.nil _)
 refine wp_seq ?_
 refine region_from ?_
 refine d_pures [(0, .bool false)] [.bool false] 1 En0 (by kernel_rfl) (by kernel_rfl) rfl ?_
 intro ac1 En2
 refine from_end (by kernel_rfl) ?_
 refine then_normal ?_
 refine wp_seq ?_
 refine region_from ?_
 refine d_pures [(0, .bool false), (2, .agg (List.toArray (bys ([0, 0, 0, 0, 0, 0, 0, 0, 0, 0, 0, 0, 0, 0, 0, 0, 0, 0, 0, 0, 0, 0, 0, 0, 0, 0, 0, 0, 0, 0, 0, 0] : List UInt8)))), (3, .agg (List.toArray (bys ([0, 0, 0, 0, 0, 0, 0, 0, 0, 0, 0, 0] : List UInt8))))] [.agg (List.toArray (bys ([0, 0, 0, 0, 0, 0, 0, 0, 0, 0, 0, 0, 0, 0, 0, 0, 0, 0, 0, 0, 0, 0, 0, 0, 0, 0, 0, 0, 0, 0, 0, 0] : List UInt8))), .agg (List.toArray (bys ([0, 0, 0, 0, 0, 0, 0, 0, 0, 0, 0, 0] : List UInt8)))] 2 En2 (by kernel_rfl) (by kernel_rfl) rfl ?_
 intro ac3 En4
 refine from_op (by kernel_rfl) ?_
 have hM5 : Heap w [] := Hv0.heap.pick [] (by kernel_rfl) (by decide)
 refine op_call (d := some 4) (f := 11) (args := #[.agg (List.toArray (bys ([0, 0, 0, 0, 0, 0, 0, 0, 0, 0, 0, 0, 0, 0, 0, 0, 0, 0, 0, 0, 0, 0, 0, 0, 0, 0, 0, 0, 0, 0, 0, 0] : List UInt8))), .int .u32 0, .agg (List.toArray (bys ([0, 0, 0, 0, 0, 0, 0, 0, 0, 0, 0, 0] : List UInt8)))]) En4 (by kernel_rfl) ((block_go _ ([0, 0, 0, 0, 0, 0, 0, 0, 0, 0, 0, 0, 0, 0, 0, 0, 0, 0, 0, 0, 0, 0, 0, 0, 0, 0, 0, 0, 0, 0, 0, 0] : List UInt8) (show List.length ([0, 0, 0, 0, 0, 0, 0, 0, 0, 0, 0, 0, 0, 0, 0, 0, 0, 0, 0, 0, 0, 0, 0, 0, 0, 0, 0, 0, 0, 0, 0, 0] : List UInt8) = 32 from rfl) (0 : UInt32) ([0, 0, 0, 0, 0, 0, 0, 0, 0, 0, 0, 0] : List UInt8) (show List.length ([0, 0, 0, 0, 0, 0, 0, 0, 0, 0, 0, 0] : List UInt8) = 12 from rfl)).mono ?_)
 rintro _ wo7 ⟨rfl, he10⟩
 refine ⟨_, rfl, ?_⟩
 intro ac6 En8
 have Hv9 : Ev w [] wo7 [] := Hv0.trans (Ev.call (R := []) Hv0.heap [] (by kernel_rfl) (by decide) he10)
 clear hM5 he10
 refine from_op (by kernel_rfl) ?_
 refine op_alloc (d := some 1) (T := 28) (x := .tuple #[]) (z := .agg (List.toArray (bys (List.replicate 64 0)))) (cs := bys (List.replicate 64 0)) En8 (by kernel_rfl) (by kernel_rfl) (by kernel_rfl) Hv9 ?_
 intro ac12 wo13 bk11 En14 Hv15
 refine from_op (by kernel_rfl) ?_
 refine op_storeaggbox (d := none) (t := 28) (b := bk11) (off := 0) (k := 0) (m := 64) (xs := bys (blockF ([0, 0, 0, 0, 0, 0, 0, 0, 0, 0, 0, 0, 0, 0, 0, 0, 0, 0, 0, 0, 0, 0, 0, 0, 0, 0, 0, 0, 0, 0, 0, 0] : List UInt8) (0 : UInt32) ([0, 0, 0, 0, 0, 0, 0, 0, 0, 0, 0, 0] : List UInt8))) (v := .agg (List.toArray (bys (blockF ([0, 0, 0, 0, 0, 0, 0, 0, 0, 0, 0, 0, 0, 0, 0, 0, 0, 0, 0, 0, 0, 0, 0, 0, 0, 0, 0, 0, 0, 0, 0, 0] : List UInt8) (0 : UInt32) ([0, 0, 0, 0, 0, 0, 0, 0, 0, 0, 0, 0] : List UInt8))))) (cs' := bys (blockF ([0, 0, 0, 0, 0, 0, 0, 0, 0, 0, 0, 0, 0, 0, 0, 0, 0, 0, 0, 0, 0, 0, 0, 0, 0, 0, 0, 0, 0, 0, 0, 0] : List UInt8) (0 : UInt32) ([0, 0, 0, 0, 0, 0, 0, 0, 0, 0, 0, 0] : List UInt8))) En14 (by kernel_rfl) Hv15 rfl rfl (bys_lenh (blockF_len _ _ _)) (by rw [(bys_lenh (List.length_replicate))]; decide) (by kernel_rfl) (bys_one _) (store_whole (bys_lenh (List.length_replicate))) (L' := [.box bk11 (bys (blockF ([0, 0, 0, 0, 0, 0, 0, 0, 0, 0, 0, 0, 0, 0, 0, 0, 0, 0, 0, 0, 0, 0, 0, 0, 0, 0, 0, 0, 0, 0, 0, 0] : List UInt8) (0 : UInt32) ([0, 0, 0, 0, 0, 0, 0, 0, 0, 0, 0, 0] : List UInt8))) 28]) rfl ?_
 intro ac16 wo17  En18 Hv19
 refine from_end (by kernel_rfl) ?_
 refine then_normal ?_
 refine wp_seq ?_
 refine region_from ?_
 refine from_op (by kernel_rfl) ?_
 refine op_val (d := some 5) (x := Instr.indexAt 28 (pt bk11) (.int .i64 0)) (v := pt bk11) En18 (by kernel_rfl) (Go.Dbr.run_indexarr (e := 5) (sz := 1) (m := 64) (j := 0) (o := 0) (by kernel_rfl) (by kernel_rfl) (by omega) (by omega) (by omega) _) ?_
 intro ac20 En21
 refine from_op (by kernel_rfl) ?_
 have hb22 : 0 < List.length (blockF ([0, 0, 0, 0, 0, 0, 0, 0, 0, 0, 0, 0, 0, 0, 0, 0, 0, 0, 0, 0, 0, 0, 0, 0, 0, 0, 0, 0, 0, 0, 0, 0] : List UInt8) (0 : UInt32) ([0, 0, 0, 0, 0, 0, 0, 0, 0, 0, 0, 0] : List UInt8)) := by rw [(blockF_len _ _ _)]; omega
 refine op_loadbox (d := some 6) (t := 5) (b := bk11) (off := 0) (k := 0) (v := .int .u8 ((UInt8.toNat (List.getD (blockF ([0, 0, 0, 0, 0, 0, 0, 0, 0, 0, 0, 0, 0, 0, 0, 0, 0, 0, 0, 0, 0, 0, 0, 0, 0, 0, 0, 0, 0, 0, 0, 0] : List UInt8) (0 : UInt32) ([0, 0, 0, 0, 0, 0, 0, 0, 0, 0, 0, 0] : List UInt8)) 0 0) : Nat) : Int)) En21 (by kernel_rfl) Hv19 rfl (bys_getD hb22) (by kernel_rfl) ?_
 intro ac23 En24
 refine d_pures [(0, .bool false), (1, pt bk11), (7, .bool (((UInt8.toNat (List.getD (blockF ([0, 0, 0, 0, 0, 0, 0, 0, 0, 0, 0, 0, 0, 0, 0, 0, 0, 0, 0, 0, 0, 0, 0, 0, 0, 0, 0, 0, 0, 0, 0, 0] : List UInt8) (0 : UInt32) ([0, 0, 0, 0, 0, 0, 0, 0, 0, 0, 0, 0] : List UInt8)) 0 0) : Nat) : Int) == (118 : Int)))] [.bool (((UInt8.toNat (List.getD (blockF ([0, 0, 0, 0, 0, 0, 0, 0, 0, 0, 0, 0, 0, 0, 0, 0, 0, 0, 0, 0, 0, 0, 0, 0, 0, 0, 0, 0, 0, 0, 0, 0] : List UInt8) (0 : UInt32) ([0, 0, 0, 0, 0, 0, 0, 0, 0, 0, 0, 0] : List UInt8)) 0 0) : Nat) : Int) == (118 : Int))] 3 En24 (by kernel_rfl) (by kernel_rfl) rfl ?_
 intro ac25 En26
 rw [show (((UInt8.toNat (List.getD (blockF ([0, 0, 0, 0, 0, 0, 0, 0, 0, 0, 0, 0, 0, 0, 0, 0, 0, 0, 0, 0, 0, 0, 0, 0, 0, 0, 0, 0, 0, 0, 0, 0] : List UInt8) (0 : UInt32) ([0, 0, 0, 0, 0, 0, 0, 0, 0, 0, 0, 0] : List UInt8)) 0 0) : Nat) : Int) == (118 : Int)) = true from (by rw [head_bytes.1]; rfl)] at En26
 refine d_pures [(0, .bool false), (1, pt bk11), (8, .bool true)] [.bool true] 4 En26 (by kernel_rfl) (by kernel_rfl) rfl ?_
 intro ac27 En28
 refine from_op (by kernel_rfl) ?_
 refine op_val (d := some 9) (x := Instr.indexAt 28 (pt bk11) (.int .i64 1)) (v := .pointer (some ⟨bk11, 1, none⟩)) En28 (by kernel_rfl) (Go.Dbr.run_indexarr (e := 5) (sz := 1) (m := 64) (j := 1) (o := 1) (by kernel_rfl) (by kernel_rfl) (by omega) (by omega) (by omega) _) ?_
 intro ac29 En30
 refine from_op (by kernel_rfl) ?_
 have hb31 : 1 < List.length (blockF ([0, 0, 0, 0, 0, 0, 0, 0, 0, 0, 0, 0, 0, 0, 0, 0, 0, 0, 0, 0, 0, 0, 0, 0, 0, 0, 0, 0, 0, 0, 0, 0] : List UInt8) (0 : UInt32) ([0, 0, 0, 0, 0, 0, 0, 0, 0, 0, 0, 0] : List UInt8)) := by rw [(blockF_len _ _ _)]; omega
 refine op_loadbox (d := some 10) (t := 5) (b := bk11) (off := 1) (k := 0) (v := .int .u8 ((UInt8.toNat (List.getD (blockF ([0, 0, 0, 0, 0, 0, 0, 0, 0, 0, 0, 0, 0, 0, 0, 0, 0, 0, 0, 0, 0, 0, 0, 0, 0, 0, 0, 0, 0, 0, 0, 0] : List UInt8) (0 : UInt32) ([0, 0, 0, 0, 0, 0, 0, 0, 0, 0, 0, 0] : List UInt8)) 1 0) : Nat) : Int)) En30 (by kernel_rfl) Hv19 rfl (bys_getD hb31) (by kernel_rfl) ?_
 intro ac32 En33
 refine d_pures [(0, .bool false), (1, pt bk11), (8, .bool true), (11, .bool (((UInt8.toNat (List.getD (blockF ([0, 0, 0, 0, 0, 0, 0, 0, 0, 0, 0, 0, 0, 0, 0, 0, 0, 0, 0, 0, 0, 0, 0, 0, 0, 0, 0, 0, 0, 0, 0, 0] : List UInt8) (0 : UInt32) ([0, 0, 0, 0, 0, 0, 0, 0, 0, 0, 0, 0] : List UInt8)) 1 0) : Nat) : Int) == (184 : Int)))] [.bool (((UInt8.toNat (List.getD (blockF ([0, 0, 0, 0, 0, 0, 0, 0, 0, 0, 0, 0, 0, 0, 0, 0, 0, 0, 0, 0, 0, 0, 0, 0, 0, 0, 0, 0, 0, 0, 0, 0] : List UInt8) (0 : UInt32) ([0, 0, 0, 0, 0, 0, 0, 0, 0, 0, 0, 0] : List UInt8)) 1 0) : Nat) : Int) == (184 : Int))] 7 En33 (by kernel_rfl) (by kernel_rfl) rfl ?_
 intro ac34 En35
 rw [show (((UInt8.toNat (List.getD (blockF ([0, 0, 0, 0, 0, 0, 0, 0, 0, 0, 0, 0, 0, 0, 0, 0, 0, 0, 0, 0, 0, 0, 0, 0, 0, 0, 0, 0, 0, 0, 0, 0] : List UInt8) (0 : UInt32) ([0, 0, 0, 0, 0, 0, 0, 0, 0, 0, 0, 0] : List UInt8)) 1 0) : Nat) : Int) == (184 : Int)) = true from (by rw [head_bytes.2.1]; rfl)] at En35
 refine d_pures [(0, .bool false), (1, pt bk11), (13, .bool true)] [.bool true, .bool true] 9 En35 (by kernel_rfl) (by kernel_rfl) rfl ?_
 intro ac36 En37
 refine from_op (by kernel_rfl) ?_
 refine op_val (d := some 14) (x := Instr.indexAt 28 (pt bk11) (.int .i64 2)) (v := .pointer (some ⟨bk11, 2, none⟩)) En37 (by kernel_rfl) (Go.Dbr.run_indexarr (e := 5) (sz := 1) (m := 64) (j := 2) (o := 2) (by kernel_rfl) (by kernel_rfl) (by omega) (by omega) (by omega) _) ?_
 intro ac38 En39
 refine from_op (by kernel_rfl) ?_
 have hb40 : 2 < List.length (blockF ([0, 0, 0, 0, 0, 0, 0, 0, 0, 0, 0, 0, 0, 0, 0, 0, 0, 0, 0, 0, 0, 0, 0, 0, 0, 0, 0, 0, 0, 0, 0, 0] : List UInt8) (0 : UInt32) ([0, 0, 0, 0, 0, 0, 0, 0, 0, 0, 0, 0] : List UInt8)) := by rw [(blockF_len _ _ _)]; omega
 refine op_loadbox (d := some 15) (t := 5) (b := bk11) (off := 2) (k := 0) (v := .int .u8 ((UInt8.toNat (List.getD (blockF ([0, 0, 0, 0, 0, 0, 0, 0, 0, 0, 0, 0, 0, 0, 0, 0, 0, 0, 0, 0, 0, 0, 0, 0, 0, 0, 0, 0, 0, 0, 0, 0] : List UInt8) (0 : UInt32) ([0, 0, 0, 0, 0, 0, 0, 0, 0, 0, 0, 0] : List UInt8)) 2 0) : Nat) : Int)) En39 (by kernel_rfl) Hv19 rfl (bys_getD hb40) (by kernel_rfl) ?_
 intro ac41 En42
 refine d_pures [(0, .bool false), (1, pt bk11), (13, .bool true), (16, .bool (((UInt8.toNat (List.getD (blockF ([0, 0, 0, 0, 0, 0, 0, 0, 0, 0, 0, 0, 0, 0, 0, 0, 0, 0, 0, 0, 0, 0, 0, 0, 0, 0, 0, 0, 0, 0, 0, 0] : List UInt8) (0 : UInt32) ([0, 0, 0, 0, 0, 0, 0, 0, 0, 0, 0, 0] : List UInt8)) 2 0) : Nat) : Int) == (224 : Int)))] [.bool (((UInt8.toNat (List.getD (blockF ([0, 0, 0, 0, 0, 0, 0, 0, 0, 0, 0, 0, 0, 0, 0, 0, 0, 0, 0, 0, 0, 0, 0, 0, 0, 0, 0, 0, 0, 0, 0, 0] : List UInt8) (0 : UInt32) ([0, 0, 0, 0, 0, 0, 0, 0, 0, 0, 0, 0] : List UInt8)) 2 0) : Nat) : Int) == (224 : Int))] 12 En42 (by kernel_rfl) (by kernel_rfl) rfl ?_
 intro ac43 En44
 rw [show (((UInt8.toNat (List.getD (blockF ([0, 0, 0, 0, 0, 0, 0, 0, 0, 0, 0, 0, 0, 0, 0, 0, 0, 0, 0, 0, 0, 0, 0, 0, 0, 0, 0, 0, 0, 0, 0, 0] : List UInt8) (0 : UInt32) ([0, 0, 0, 0, 0, 0, 0, 0, 0, 0, 0, 0] : List UInt8)) 2 0) : Nat) : Int) == (224 : Int)) = true from (by rw [head_bytes.2.2.1]; rfl)] at En44
 refine d_pures [(0, .bool false), (1, pt bk11), (18, .bool true)] [.bool true, .bool true] 14 En44 (by kernel_rfl) (by kernel_rfl) rfl ?_
 intro ac45 En46
 refine from_op (by kernel_rfl) ?_
 refine op_val (d := some 19) (x := Instr.indexAt 28 (pt bk11) (.int .i64 3)) (v := .pointer (some ⟨bk11, 3, none⟩)) En46 (by kernel_rfl) (Go.Dbr.run_indexarr (e := 5) (sz := 1) (m := 64) (j := 3) (o := 3) (by kernel_rfl) (by kernel_rfl) (by omega) (by omega) (by omega) _) ?_
 intro ac47 En48
 refine from_op (by kernel_rfl) ?_
 have hb49 : 3 < List.length (blockF ([0, 0, 0, 0, 0, 0, 0, 0, 0, 0, 0, 0, 0, 0, 0, 0, 0, 0, 0, 0, 0, 0, 0, 0, 0, 0, 0, 0, 0, 0, 0, 0] : List UInt8) (0 : UInt32) ([0, 0, 0, 0, 0, 0, 0, 0, 0, 0, 0, 0] : List UInt8)) := by rw [(blockF_len _ _ _)]; omega
 refine op_loadbox (d := some 20) (t := 5) (b := bk11) (off := 3) (k := 0) (v := .int .u8 ((UInt8.toNat (List.getD (blockF ([0, 0, 0, 0, 0, 0, 0, 0, 0, 0, 0, 0, 0, 0, 0, 0, 0, 0, 0, 0, 0, 0, 0, 0, 0, 0, 0, 0, 0, 0, 0, 0] : List UInt8) (0 : UInt32) ([0, 0, 0, 0, 0, 0, 0, 0, 0, 0, 0, 0] : List UInt8)) 3 0) : Nat) : Int)) En48 (by kernel_rfl) Hv19 rfl (bys_getD hb49) (by kernel_rfl) ?_
 intro ac50 En51
 refine d_pures [(0, .bool false), (1, pt bk11), (18, .bool true), (21, .bool (((UInt8.toNat (List.getD (blockF ([0, 0, 0, 0, 0, 0, 0, 0, 0, 0, 0, 0, 0, 0, 0, 0, 0, 0, 0, 0, 0, 0, 0, 0, 0, 0, 0, 0, 0, 0, 0, 0] : List UInt8) (0 : UInt32) ([0, 0, 0, 0, 0, 0, 0, 0, 0, 0, 0, 0] : List UInt8)) 3 0) : Nat) : Int) == (173 : Int)))] [.bool (((UInt8.toNat (List.getD (blockF ([0, 0, 0, 0, 0, 0, 0, 0, 0, 0, 0, 0, 0, 0, 0, 0, 0, 0, 0, 0, 0, 0, 0, 0, 0, 0, 0, 0, 0, 0, 0, 0] : List UInt8) (0 : UInt32) ([0, 0, 0, 0, 0, 0, 0, 0, 0, 0, 0, 0] : List UInt8)) 3 0) : Nat) : Int) == (173 : Int))] 17 En51 (by kernel_rfl) (by kernel_rfl) rfl ?_
 intro ac52 En53
 rw [show (((UInt8.toNat (List.getD (blockF ([0, 0, 0, 0, 0, 0, 0, 0, 0, 0, 0, 0, 0, 0, 0, 0, 0, 0, 0, 0, 0, 0, 0, 0, 0, 0, 0, 0, 0, 0, 0, 0] : List UInt8) (0 : UInt32) ([0, 0, 0, 0, 0, 0, 0, 0, 0, 0, 0, 0] : List UInt8)) 3 0) : Nat) : Int) == (173 : Int)) = true from (by rw [head_bytes.2.2.2.1]; rfl)] at En53
 refine d_pures [(0, .bool false), (1, pt bk11), (23, .bool true)] [.bool true, .bool true] 19 En53 (by kernel_rfl) (by kernel_rfl) rfl ?_
 intro ac54 En55
 refine from_op (by kernel_rfl) ?_
 refine op_val (d := some 24) (x := Instr.indexAt 28 (pt bk11) (.int .i64 63)) (v := .pointer (some ⟨bk11, 63, none⟩)) En55 (by kernel_rfl) (Go.Dbr.run_indexarr (e := 5) (sz := 1) (m := 64) (j := 63) (o := 63) (by kernel_rfl) (by kernel_rfl) (by omega) (by omega) (by omega) _) ?_
 intro ac56 En57
 refine from_op (by kernel_rfl) ?_
 have hb58 : 63 < List.length (blockF ([0, 0, 0, 0, 0, 0, 0, 0, 0, 0, 0, 0, 0, 0, 0, 0, 0, 0, 0, 0, 0, 0, 0, 0, 0, 0, 0, 0, 0, 0, 0, 0] : List UInt8) (0 : UInt32) ([0, 0, 0, 0, 0, 0, 0, 0, 0, 0, 0, 0] : List UInt8)) := by rw [(blockF_len _ _ _)]; omega
 refine op_loadbox (d := some 25) (t := 5) (b := bk11) (off := 63) (k := 0) (v := .int .u8 ((UInt8.toNat (List.getD (blockF ([0, 0, 0, 0, 0, 0, 0, 0, 0, 0, 0, 0, 0, 0, 0, 0, 0, 0, 0, 0, 0, 0, 0, 0, 0, 0, 0, 0, 0, 0, 0, 0] : List UInt8) (0 : UInt32) ([0, 0, 0, 0, 0, 0, 0, 0, 0, 0, 0, 0] : List UInt8)) 63 0) : Nat) : Int)) En57 (by kernel_rfl) Hv19 rfl (bys_getD hb58) (by kernel_rfl) ?_
 intro ac59 En60
 refine d_pures [(0, .bool false), (1, pt bk11), (23, .bool true), (26, .bool (((UInt8.toNat (List.getD (blockF ([0, 0, 0, 0, 0, 0, 0, 0, 0, 0, 0, 0, 0, 0, 0, 0, 0, 0, 0, 0, 0, 0, 0, 0, 0, 0, 0, 0, 0, 0, 0, 0] : List UInt8) (0 : UInt32) ([0, 0, 0, 0, 0, 0, 0, 0, 0, 0, 0, 0] : List UInt8)) 63 0) : Nat) : Int) == (134 : Int)))] [.bool (((UInt8.toNat (List.getD (blockF ([0, 0, 0, 0, 0, 0, 0, 0, 0, 0, 0, 0, 0, 0, 0, 0, 0, 0, 0, 0, 0, 0, 0, 0, 0, 0, 0, 0, 0, 0, 0, 0] : List UInt8) (0 : UInt32) ([0, 0, 0, 0, 0, 0, 0, 0, 0, 0, 0, 0] : List UInt8)) 63 0) : Nat) : Int) == (134 : Int))] 22 En60 (by kernel_rfl) (by kernel_rfl) rfl ?_
 intro ac61 En62
 rw [show (((UInt8.toNat (List.getD (blockF ([0, 0, 0, 0, 0, 0, 0, 0, 0, 0, 0, 0, 0, 0, 0, 0, 0, 0, 0, 0, 0, 0, 0, 0, 0, 0, 0, 0, 0, 0, 0, 0] : List UInt8) (0 : UInt32) ([0, 0, 0, 0, 0, 0, 0, 0, 0, 0, 0, 0] : List UInt8)) 63 0) : Nat) : Int) == (134 : Int)) = true from (by rw [head_bytes.2.2.2.2]; rfl)] at En62
 refine d_pures [(0, .bool true), (1, pt bk11)] [.bool true, .bool true] 24 En62 (by kernel_rfl) (by kernel_rfl) rfl ?_
 intro ac63 En64
 refine from_end (by kernel_rfl) ?_
 refine then_normal ?_
 refine wp_ret ?_
 refine d_ret1 (t := 0) (v := .bool true) En64 (by kernel_rfl) (by kernel_rfl) ?_
 exact ⟨rfl, Hv19.pick [] (by kernel_rfl) (by decide)⟩

end Go.Proofs.Ytnahplggflhdaaa
