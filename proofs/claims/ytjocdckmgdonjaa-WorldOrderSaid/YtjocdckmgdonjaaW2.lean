/- The laws of layer 1: WorldTime. -/
import Derived.Test.YtjocdckmgdonjaaW1
namespace Go.Proofs.Ytjocdckmgdonjaa
open Go.Dbr
set_option maxRecDepth 100000
theorem afterU_ge {x y : UInt64} (h : x.toNat ≤ 9223372036854775807) : x.toNat ≤ (afterU x y).toNat ∧ (afterU x y).toNat ≤ 9223372036854775807 := by
  unfold afterU
  split
  · rw [UInt64.toNat_add]; omega
  · exact ⟨h, Nat.le_refl _⟩

theorem time_walk (n0 n : UInt64) (a : Option Addr) (c : Nat) (l : List UInt64) (w : World) (hi : InU64 w [] a c l) : Calls Try.prog 5 #[.int .u64 ((UInt64.toNat n0 : Nat) : Int), .int .u64 ((UInt64.toNat n : Nat) : Int), .slice a (List.length l) c] w fun e w' => e = .returned (.bool true) ∧ Ev w [] w' [] := by
  have hs := hi.small
  refine d_start [(0, .int .u64 ((UInt64.toNat n0 : Nat) : Int)), (1, .int .u64 ((UInt64.toNat n : Nat) : Int)), (2, .slice a (List.length l) c)] 55 Go.Proofs.Try.func5 Go.Proofs.Try.ntmps5 rfl (by kernel_rfl) (by kernel_rfl) ?_
  intro act0 En0
  have Hv0 : Ev w [] w [] := Ev.refl (Heap.nil _)
  refine wp_seq ?_
  refine region_from ?_  -- region 0
  refine d_pures [(0, .int .u64 ((UInt64.toNat n0 : Nat) : Int)), (1, .int .u64 ((UInt64.toNat n : Nat) : Int)), (2, .slice a (List.length l) c), (6, .bool false)] [.bool false] 1 En0 (by kernel_rfl) (by kernel_rfl) rfl ?_
  intro ac1 En2
  refine from_end (by kernel_rfl) ?_
  refine then_normal ?_
  refine wp_seq ?_
  refine region_from ?_  -- region 1
  refine from_op (by kernel_rfl) ?_
  have hM3 : Heap w [] := Hv0.heap.pick [] (by kernel_rfl) (by decide)
  refine op_call (d := some 12) (f := 7) (args := #[]) En2 (by kernel_rfl) ((head_ok _).mono ?_)
  rintro _ wo5 ⟨rfl, he8⟩
  refine ⟨_, rfl, ?_⟩
  intro ac4 En6
  have Hv7 : Ev w [] wo5 [] := Hv0.trans (Ev.call (R := []) Hv0.heap [] (by kernel_rfl) (by decide) he8)
  clear hM3 he8
  refine d_pures [(0, .int .u64 ((UInt64.toNat n0 : Nat) : Int)), (1, .int .u64 ((UInt64.toNat n : Nat) : Int)), (2, .slice a (List.length l) c), (6, .bool false), (7, .bool true)] [.bool true] 2 En6 (by kernel_rfl) (by kernel_rfl) rfl ?_
  intro ac9 En10
  refine from_end (by kernel_rfl) ?_
  refine then_normal ?_
  refine wp_seq ?_
  refine region_from ?_  -- region 2
  refine d_pures [(0, .int .u64 ((UInt64.toNat n0 : Nat) : Int)), (1, .int .u64 ((UInt64.toNat n : Nat) : Int)), (2, .slice a (List.length l) c), (6, .bool false), (7, .bool true), (13, .agg #[.int .u64 0])] [.agg #[.int .u64 0]] 1 En10 (by kernel_rfl) (by kernel_rfl) rfl ?_
  intro ac11 En12
  refine from_op (by kernel_rfl) ?_
  refine op_newbox (d := some 14) (T := 37) (v := .agg #[.int .u64 0]) (cs := [.int .u64 0]) En12 (by kernel_rfl) rfl Hv7 ?_
  intro ac14 wo15 bk13 En16 Hv17
  refine d_pures [(0, .int .u64 ((UInt64.toNat n0 : Nat) : Int)), (1, .int .u64 ((UInt64.toNat n : Nat) : Int)), (2, .slice a (List.length l) c), (6, .bool false), (7, .bool true), (8, .pointer (some ⟨bk13, 0, none⟩))] [.pointer (some ⟨bk13, 0, none⟩)] 3 En16 (by kernel_rfl) (by kernel_rfl) rfl ?_
  intro ac18 En19
  refine from_end (by kernel_rfl) ?_
  refine then_normal ?_
  refine wp_seq ?_
  refine region_from ?_  -- region 3
  refine d_pures [(0, .int .u64 ((UInt64.toNat n0 : Nat) : Int)), (1, .int .u64 ((UInt64.toNat n : Nat) : Int)), (2, .slice a (List.length l) c), (6, .bool false), (7, .bool true), (8, .pointer (some ⟨bk13, 0, none⟩)), (9, .int .u64 0)] [.int .u64 0] 1 En19 (by kernel_rfl) (by kernel_rfl) rfl ?_
  intro ac20 En21
  refine from_end (by kernel_rfl) ?_
  refine then_normal ?_
  refine wp_seq ?_
  refine wp_seq ?_
  refine region_from ?_  -- region 4
  refine d_pures [(0, .int .u64 ((UInt64.toNat n0 : Nat) : Int)), (1, .int .u64 ((UInt64.toNat n : Nat) : Int)), (2, .slice a (List.length l) c), (6, .bool false), (7, .bool true), (8, .pointer (some ⟨bk13, 0, none⟩)), (9, .int .u64 0), (10, .int .i64 0)] [.int .i64 0] 1 En21 (by kernel_rfl) (by kernel_rfl) rfl ?_
  intro ac22 En23
  refine from_end (by kernel_rfl) ?_
  refine then_normal ?_
  refine wp_block ?_
  refine loop_m (fun ms24 ac wo => ∃ (k : Nat) (x : UInt64), ms24 = (List.length l - k : Nat) ∧ Env ac 55 [(0, .int .u64 ((UInt64.toNat n0 : Nat) : Int)), (1, .int .u64 ((UInt64.toNat n : Nat) : Int)), (2, .slice a (List.length l) c), (7, .bool true), (8, .pointer (some ⟨bk13, 0, none⟩)), (9, .int .u64 ((UInt64.toNat x : Nat) : Int)), (10, .int .i64 ((k : Nat) : Int))] ∧ Ev w [] wo [.box bk13 [.int .u64 ((UInt64.toNat x : Nat) : Int)] 37] ∧ (k ≤ List.length l) ∧ (UInt64.toNat x ≤ 9223372036854775807)) ⟨_, 0, 0, rfl, En23.sub (by kernel_rfl), Hv17.pick [0] (by kernel_rfl) (by decide), by omega, by decide⟩ ?_
  rintro mm30 ac26 wo27 ⟨k, x, rfl, En28, Hv29, hk, hx⟩
  refine wp_seq ?_
  refine wp_seq ?_
  refine region_from ?_  -- region 5
  refine d_pures [(0, .int .u64 ((UInt64.toNat n0 : Nat) : Int)), (1, .int .u64 ((UInt64.toNat n : Nat) : Int)), (2, .slice a (List.length l) c), (7, .bool true), (8, .pointer (some ⟨bk13, 0, none⟩)), (9, .int .u64 ((UInt64.toNat x : Nat) : Int)), (10, .int .i64 ((k : Nat) : Int)), (18, .bool (decide (((k : Nat) : Int) < ((List.length l : Nat) : Int))))] [.int .i64 ((k : Nat) : Int), .slice a (List.length l) c, .int .i64 ((List.length l : Nat) : Int), .bool (decide (((k : Nat) : Int) < ((List.length l : Nat) : Int)))] 4 En28 (by kernel_rfl) (by kernel_rfl) rfl ?_
  intro ac31 En32
  refine from_end (by kernel_rfl) ?_
  refine then_normal ?_
  refine cond_at En32 (t := decide (((k : Nat) : Int) < ((List.length l : Nat) : Int))) (by kernel_rfl) (fun hc33 => ?_) (fun hc33 => ?_)
  ·
    replace hc33 : ((k : Nat) : Int) < ((List.length l : Nat) : Int) := by simpa using hc33
    refine wp_skip ?_
    refine then_normal ?_
    refine wp_seq ?_
    refine wp_block ?_
    refine wp_seq ?_
    refine region_from ?_  -- region 7
    refine d_pures [(0, .int .u64 ((UInt64.toNat n0 : Nat) : Int)), (1, .int .u64 ((UInt64.toNat n : Nat) : Int)), (2, .slice a (List.length l) c), (7, .bool true), (8, .pointer (some ⟨bk13, 0, none⟩)), (9, .int .u64 ((UInt64.toNat x : Nat) : Int)), (10, .int .i64 ((k : Nat) : Int)), (21, .pointer (some ⟨bk13, 0, none⟩))] [.pointer (some ⟨bk13, 0, none⟩)] 1 En32 (by kernel_rfl) (by kernel_rfl) rfl ?_
    intro ac34 En35
    refine from_op (by kernel_rfl) ?_
    have hM36 : Heap wo27 [.box bk13 [.int .u64 ((UInt64.toNat x : Nat) : Int)] 37] := Hv29.heap.pick [0] (by kernel_rfl) (by decide)
    refine op_call (d := some 22) (f := 12) (args := #[.pointer (some ⟨bk13, 0, none⟩)]) En35 (by kernel_rfl) ((now_prog bk13 x _ hM36).mono ?_)
    rintro _ wo38 ⟨rfl, he41⟩
    refine ⟨_, rfl, ?_⟩
    intro ac37 En39
    have Hv40 : Ev w [] wo38 [.box bk13 [.int .u64 ((UInt64.toNat x : Nat) : Int)] 37] := Hv29.trans (Ev.call (R := []) Hv29.heap [0] (by kernel_rfl) (by decide) he41)
    clear hM36 he41
    refine d_pures [(0, .int .u64 ((UInt64.toNat n0 : Nat) : Int)), (1, .int .u64 ((UInt64.toNat n : Nat) : Int)), (2, .slice a (List.length l) c), (7, .bool true), (8, .pointer (some ⟨bk13, 0, none⟩)), (9, .int .u64 ((UInt64.toNat x : Nat) : Int)), (10, .int .i64 ((k : Nat) : Int)), (11, .int .u64 ((UInt64.toNat x : Nat) : Int))] [.int .u64 ((UInt64.toNat x : Nat) : Int)] 3 En39 (by kernel_rfl) (by kernel_rfl) rfl ?_
    intro ac42 En43
    refine from_end (by kernel_rfl) ?_
    refine then_normal ?_
    refine wp_seq ?_
    refine region_from ?_  -- region 8
    refine d_pures [(0, .int .u64 ((UInt64.toNat n0 : Nat) : Int)), (1, .int .u64 ((UInt64.toNat n : Nat) : Int)), (2, .slice a (List.length l) c), (7, .bool true), (8, .pointer (some ⟨bk13, 0, none⟩)), (9, .int .u64 ((UInt64.toNat x : Nat) : Int)), (10, .int .i64 ((k : Nat) : Int)), (11, .int .u64 ((UInt64.toNat x : Nat) : Int)), (23, .pointer (some ⟨bk13, 0, none⟩)), (24, .slice a (List.length l) c), (25, .int .i64 ((k : Nat) : Int))] [.pointer (some ⟨bk13, 0, none⟩), .slice a (List.length l) c, .int .i64 ((k : Nat) : Int)] 3 En43 (by kernel_rfl) (by kernel_rfl) rfl ?_
    intro ac44 En45
    refine from_op (by kernel_rfl) ?_
    refine op_index (d := some 26) (t := 34) (e := 23) (sz := 1) (len := List.length l) (cap := c) (j := k) (ao := a) (k := .i64) (ix := ((k : Nat) : Int)) En45 (by kernel_rfl) hi.nz (by kernel_rfl) (by kernel_rfl) (by omega) (by omega) (jo := k) (Nat.mul_one _) ?_
    intro ac48 adr46 had47 En49
    refine from_op (by kernel_rfl) ?_
    have hb50 : k < List.length l := by omega
    refine op_loadel (d := some 27) (t := 23) (ad := adr46) (ao := a) (xs := u64s l) (j := k) (v := .int .u64 ((UInt64.toNat ((l)[k]'hb50) : Nat) : Int)) En49 (by kernel_rfl) (hi.ev Hv40).reads had47 (u64s_get hb50) (by kernel_rfl) ?_
    intro ac51 En52
    refine from_op (by kernel_rfl) ?_
    have hM53 : Heap wo38 [.box bk13 [.int .u64 ((UInt64.toNat x : Nat) : Int)] 37] := Hv40.heap.pick [0] (by kernel_rfl) (by decide)
    refine op_call (d := some 28) (f := 13) (args := #[.pointer (some ⟨bk13, 0, none⟩), .int .u64 ((UInt64.toNat ((l)[k]'hb50) : Nat) : Int)]) En52 (by kernel_rfl) ((tick_prog bk13 x ((l)[k]'hb50) _ hM53).mono ?_)
    rintro _ wo55 ⟨rfl, he58⟩
    refine ⟨_, rfl, ?_⟩
    intro ac54 En56
    have Hv57 : Ev w [] wo55 [.box bk13 [.int .u64 ((UInt64.toNat (afterU x ((l)[k]'hb50)) : Nat) : Int)] 37] := Hv40.trans (Ev.call (R := []) Hv40.heap [0] (by kernel_rfl) (by decide) he58)
    clear hM53 he58
    refine from_end (by kernel_rfl) ?_
    refine then_normal ?_
    refine wp_seq ?_
    refine region_from ?_  -- region 9
    refine d_pures [(0, .int .u64 ((UInt64.toNat n0 : Nat) : Int)), (1, .int .u64 ((UInt64.toNat n : Nat) : Int)), (2, .slice a (List.length l) c), (7, .bool true), (8, .pointer (some ⟨bk13, 0, none⟩)), (9, .int .u64 ((UInt64.toNat x : Nat) : Int)), (10, .int .i64 ((k : Nat) : Int)), (11, .int .u64 ((UInt64.toNat x : Nat) : Int)), (29, .int .u64 ((UInt64.toNat x : Nat) : Int)), (30, .slice a (List.length l) c), (31, .int .i64 ((k : Nat) : Int))] [.int .u64 ((UInt64.toNat x : Nat) : Int), .slice a (List.length l) c, .int .i64 ((k : Nat) : Int)] 3 En56 (by kernel_rfl) (by kernel_rfl) rfl ?_
    intro ac59 En60
    refine from_op (by kernel_rfl) ?_
    refine op_index (d := some 32) (t := 34) (e := 23) (sz := 1) (len := List.length l) (cap := c) (j := k) (ao := a) (k := .i64) (ix := ((k : Nat) : Int)) En60 (by kernel_rfl) hi.nz (by kernel_rfl) (by kernel_rfl) (by omega) (by omega) (jo := k) (Nat.mul_one _) ?_
    intro ac63 adr61 had62 En64
    refine from_op (by kernel_rfl) ?_
    have hb65 : k < List.length l := by omega
    refine op_loadel (d := some 33) (t := 23) (ad := adr61) (ao := a) (xs := u64s l) (j := k) (v := .int .u64 ((UInt64.toNat ((l)[k]'hb65) : Nat) : Int)) En64 (by kernel_rfl) (hi.ev Hv57).reads had62 (u64s_get hb65) (by kernel_rfl) ?_
    intro ac66 En67
    refine from_op (by kernel_rfl) ?_
    have hM68 : Heap wo55 [] := Hv57.heap.pick [] (by kernel_rfl) (by decide)
    refine op_call (d := some 34) (f := 14) (args := #[.int .u64 ((UInt64.toNat x : Nat) : Int), .int .u64 ((UInt64.toNat ((l)[k]'hb65) : Nat) : Int)]) En67 (by kernel_rfl) ((after_ref x ((l)[k]'hb65) _).mono ?_)
    rintro _ wo70 ⟨rfl, he73⟩
    refine ⟨_, rfl, ?_⟩
    intro ac69 En71
    have Hv72 : Ev w [] wo70 [.box bk13 [.int .u64 ((UInt64.toNat (afterU x ((l)[k]'hb50)) : Nat) : Int)] 37] := Hv57.trans (Ev.call (R := [.box bk13 [.int .u64 ((UInt64.toNat (afterU x ((l)[k]'hb50)) : Nat) : Int)] 37]) Hv57.heap [0] (by kernel_rfl) (by decide) he73)
    clear hM68 he73
    refine d_pures [(0, .int .u64 ((UInt64.toNat n0 : Nat) : Int)), (1, .int .u64 ((UInt64.toNat n : Nat) : Int)), (2, .slice a (List.length l) c), (7, .bool true), (8, .pointer (some ⟨bk13, 0, none⟩)), (9, .int .u64 ((UInt64.toNat (afterU x ((l)[k]'hb65)) : Nat) : Int)), (10, .int .i64 ((k : Nat) : Int)), (11, .int .u64 ((UInt64.toNat x : Nat) : Int))] [.int .u64 ((UInt64.toNat (afterU x ((l)[k]'hb65)) : Nat) : Int)] 7 En71 (by kernel_rfl) (by kernel_rfl) rfl ?_
    intro ac74 En75
    refine from_end (by kernel_rfl) ?_
    refine then_normal ?_
    refine wp_seq ?_
    refine region_from ?_  -- region 10
    refine d_pures [(0, .int .u64 ((UInt64.toNat n0 : Nat) : Int)), (1, .int .u64 ((UInt64.toNat n : Nat) : Int)), (2, .slice a (List.length l) c), (7, .bool true), (8, .pointer (some ⟨bk13, 0, none⟩)), (9, .int .u64 ((UInt64.toNat (afterU x ((l)[k]'hb65)) : Nat) : Int)), (10, .int .i64 ((k : Nat) : Int)), (11, .int .u64 ((UInt64.toNat x : Nat) : Int)), (35, .pointer (some ⟨bk13, 0, none⟩))] [.pointer (some ⟨bk13, 0, none⟩)] 1 En75 (by kernel_rfl) (by kernel_rfl) rfl ?_
    intro ac76 En77
    refine from_op (by kernel_rfl) ?_
    have hM78 : Heap wo70 [.box bk13 [.int .u64 ((UInt64.toNat (afterU x ((l)[k]'hb50)) : Nat) : Int)] 37] := Hv72.heap.pick [0] (by kernel_rfl) (by decide)
    refine op_call (d := some 36) (f := 12) (args := #[.pointer (some ⟨bk13, 0, none⟩)]) En77 (by kernel_rfl) ((now_prog bk13 (afterU x ((l)[k]'hb50)) _ hM78).mono ?_)
    rintro _ wo80 ⟨rfl, he83⟩
    refine ⟨_, rfl, ?_⟩
    intro ac79 En81
    have Hv82 : Ev w [] wo80 [.box bk13 [.int .u64 ((UInt64.toNat (afterU x ((l)[k]'hb50)) : Nat) : Int)] 37] := Hv72.trans (Ev.call (R := []) Hv72.heap [0] (by kernel_rfl) (by decide) he83)
    clear hM78 he83
    refine d_pures [(0, .int .u64 ((UInt64.toNat n0 : Nat) : Int)), (1, .int .u64 ((UInt64.toNat n : Nat) : Int)), (2, .slice a (List.length l) c), (7, .bool true), (8, .pointer (some ⟨bk13, 0, none⟩)), (9, .int .u64 ((UInt64.toNat (afterU x ((l)[k]'hb65)) : Nat) : Int)), (10, .int .i64 ((k : Nat) : Int)), (11, .int .u64 ((UInt64.toNat x : Nat) : Int)), (38, .bool (((UInt64.toNat (afterU x ((l)[k]'hb50)) : Nat) : Int) != ((UInt64.toNat (afterU x ((l)[k]'hb65)) : Nat) : Int)))] [.int .u64 ((UInt64.toNat (afterU x ((l)[k]'hb65)) : Nat) : Int), .bool (((UInt64.toNat (afterU x ((l)[k]'hb50)) : Nat) : Int) != ((UInt64.toNat (afterU x ((l)[k]'hb65)) : Nat) : Int))] 4 En81 (by kernel_rfl) (by kernel_rfl) rfl ?_
    intro ac84 En85
    rw [show (((UInt64.toNat (afterU x ((l)[k]'hb50)) : Nat) : Int) != ((UInt64.toNat (afterU x ((l)[k]'hb65)) : Nat) : Int)) = false from (bne_self_eq_false _)] at En85
    refine d_pures [(0, .int .u64 ((UInt64.toNat n0 : Nat) : Int)), (1, .int .u64 ((UInt64.toNat n : Nat) : Int)), (2, .slice a (List.length l) c), (7, .bool true), (8, .pointer (some ⟨bk13, 0, none⟩)), (9, .int .u64 ((UInt64.toNat (afterU x ((l)[k]'hb65)) : Nat) : Int)), (10, .int .i64 ((k : Nat) : Int)), (11, .int .u64 ((UInt64.toNat x : Nat) : Int)), (39, .bool false), (40, .pointer (some ⟨bk13, 0, none⟩))] [.bool false, .pointer (some ⟨bk13, 0, none⟩)] 6 En85 (by kernel_rfl) (by kernel_rfl) rfl ?_
    intro ac86 En87
    refine from_op (by kernel_rfl) ?_
    have hM88 : Heap wo80 [.box bk13 [.int .u64 ((UInt64.toNat (afterU x ((l)[k]'hb50)) : Nat) : Int)] 37] := Hv82.heap.pick [0] (by kernel_rfl) (by decide)
    refine op_call (d := some 41) (f := 12) (args := #[.pointer (some ⟨bk13, 0, none⟩)]) En87 (by kernel_rfl) ((now_prog bk13 (afterU x ((l)[k]'hb50)) _ hM88).mono ?_)
    rintro _ wo90 ⟨rfl, he93⟩
    refine ⟨_, rfl, ?_⟩
    intro ac89 En91
    have Hv92 : Ev w [] wo90 [.box bk13 [.int .u64 ((UInt64.toNat (afterU x ((l)[k]'hb50)) : Nat) : Int)] 37] := Hv82.trans (Ev.call (R := []) Hv82.heap [0] (by kernel_rfl) (by decide) he93)
    clear hM88 he93
    refine d_pures [(0, .int .u64 ((UInt64.toNat n0 : Nat) : Int)), (1, .int .u64 ((UInt64.toNat n : Nat) : Int)), (2, .slice a (List.length l) c), (7, .bool true), (8, .pointer (some ⟨bk13, 0, none⟩)), (9, .int .u64 ((UInt64.toNat (afterU x ((l)[k]'hb65)) : Nat) : Int)), (10, .int .i64 ((k : Nat) : Int)), (39, .bool false), (43, .bool (decide (((UInt64.toNat (afterU x ((l)[k]'hb50)) : Nat) : Int) < ((UInt64.toNat x : Nat) : Int))))] [.int .u64 ((UInt64.toNat x : Nat) : Int), .bool (decide (((UInt64.toNat (afterU x ((l)[k]'hb50)) : Nat) : Int) < ((UInt64.toNat x : Nat) : Int)))] 9 En91 (by kernel_rfl) (by kernel_rfl) rfl ?_
    intro ac94 En95
    rw [show (decide (((UInt64.toNat (afterU x ((l)[k]'hb50)) : Nat) : Int) < ((UInt64.toNat x : Nat) : Int))) = false from (decide_eq_false (by have : UInt64.toNat x ≤ UInt64.toNat (afterU x ((l)[k]'hb50)) := (afterU_ge hx).1; omega))] at En95
    refine d_pures [(0, .int .u64 ((UInt64.toNat n0 : Nat) : Int)), (1, .int .u64 ((UInt64.toNat n : Nat) : Int)), (2, .slice a (List.length l) c), (7, .bool true), (8, .pointer (some ⟨bk13, 0, none⟩)), (9, .int .u64 ((UInt64.toNat (afterU x ((l)[k]'hb65)) : Nat) : Int)), (10, .int .i64 ((k : Nat) : Int)), (44, .bool false)] [.bool false] 10 En95 (by kernel_rfl) (by kernel_rfl) rfl ?_
    intro ac96 En97
    refine from_end (by kernel_rfl) ?_
    refine then_normal ?_
    refine cond_false En97 (t := false) (by kernel_rfl) rfl ?_
    refine wp_skip ?_
    refine block_normal ?_
    refine then_normal ?_
    refine region_from ?_  -- region 6
    refine d_pures [(0, .int .u64 ((UInt64.toNat n0 : Nat) : Int)), (1, .int .u64 ((UInt64.toNat n : Nat) : Int)), (2, .slice a (List.length l) c), (7, .bool true), (8, .pointer (some ⟨bk13, 0, none⟩)), (9, .int .u64 ((UInt64.toNat (afterU x ((l)[k]'hb65)) : Nat) : Int)), (10, .int .i64 ((k : Nat) : Int)), (20, .int .i64 (IntKind.wrap .i64 (((k : Nat) : Int) + (1 : Int))))] [.int .i64 ((k : Nat) : Int), .int .i64 (IntKind.wrap .i64 (((k : Nat) : Int) + (1 : Int)))] 2 En97 (by kernel_rfl) (by kernel_rfl) rfl ?_
    intro ac98 En99
    rw [Go.Dbr.wr64 (e := ((k : Nat) : Int) + (1 : Int)) (x := ((k + 1 : Nat) : Int)) (by omega) (by omega) (by omega)] at En99
    refine d_pures [(0, .int .u64 ((UInt64.toNat n0 : Nat) : Int)), (1, .int .u64 ((UInt64.toNat n : Nat) : Int)), (2, .slice a (List.length l) c), (7, .bool true), (8, .pointer (some ⟨bk13, 0, none⟩)), (9, .int .u64 ((UInt64.toNat (afterU x ((l)[k]'hb65)) : Nat) : Int)), (10, .int .i64 ((k + 1 : Nat) : Int))] [.int .i64 ((k + 1 : Nat) : Int)] 3 En99 (by kernel_rfl) (by kernel_rfl) rfl ?_
    intro ac100 En101
    refine from_end (by kernel_rfl) ?_
    refine then_normal ?_
    refine ⟨_, ⟨k + 1, afterU x ((l)[k]'hb50), rfl, En101.sub (by kernel_rfl), Hv92.pick [0] (by kernel_rfl) (by decide), by omega, (afterU_ge hx).2⟩, ?_⟩
    omega
  ·
    replace hc33 : ¬ (((k : Nat) : Int) < ((List.length l : Nat) : Int)) := by simpa using hc33
    refine wp_exit ?_
    refine then_exit ?_
    refine then_exit ?_
    refine block_exit ?_
    refine then_normal ?_
    refine wp_seq ?_
    refine region_from ?_  -- region 12
    refine d_pures [(0, .int .u64 ((UInt64.toNat n0 : Nat) : Int)), (1, .int .u64 ((UInt64.toNat n : Nat) : Int)), (2, .slice a (List.length l) c), (8, .pointer (some ⟨bk13, 0, none⟩)), (9, .int .u64 ((UInt64.toNat x : Nat) : Int)), (10, .int .i64 ((k : Nat) : Int)), (46, .bool true), (47, .int .u64 ((UInt64.toNat n0 : Nat) : Int)), (48, .int .u64 ((UInt64.toNat n : Nat) : Int))] [.bool true, .bool true, .int .u64 ((UInt64.toNat n0 : Nat) : Int), .int .u64 ((UInt64.toNat n : Nat) : Int)] 4 En32 (by kernel_rfl) (by kernel_rfl) rfl ?_
    intro ac102 En103
    refine from_op (by kernel_rfl) ?_
    have hM104 : Heap wo27 [] := Hv29.heap.pick [] (by kernel_rfl) (by decide)
    refine op_call (d := some 49) (f := 15) (args := #[.int .u64 ((UInt64.toNat n0 : Nat) : Int), .int .u64 ((UInt64.toNat n : Nat) : Int)]) En103 (by kernel_rfl) ((after_prog n0 n _).mono ?_)
    rintro _ wo106 ⟨rfl, he109⟩
    refine ⟨_, rfl, ?_⟩
    intro ac105 En107
    have Hv108 : Ev w [] wo106 [.box bk13 [.int .u64 ((UInt64.toNat x : Nat) : Int)] 37] := Hv29.trans (Ev.call (R := [.box bk13 [.int .u64 ((UInt64.toNat x : Nat) : Int)] 37]) Hv29.heap [0] (by kernel_rfl) (by decide) he109)
    clear hM104 he109
    refine d_pures [(2, .slice a (List.length l) c), (8, .pointer (some ⟨bk13, 0, none⟩)), (9, .int .u64 ((UInt64.toNat x : Nat) : Int)), (10, .int .i64 ((k : Nat) : Int)), (46, .bool true), (49, .int .u64 ((UInt64.toNat (afterU n0 n) : Nat) : Int)), (50, .int .u64 ((UInt64.toNat n0 : Nat) : Int)), (51, .int .u64 ((UInt64.toNat n : Nat) : Int))] [.int .u64 ((UInt64.toNat n0 : Nat) : Int), .int .u64 ((UInt64.toNat n : Nat) : Int)] 7 En107 (by kernel_rfl) (by kernel_rfl) rfl ?_
    intro ac110 En111
    refine from_op (by kernel_rfl) ?_
    have hM112 : Heap wo106 [] := Hv108.heap.pick [] (by kernel_rfl) (by decide)
    refine op_call (d := some 52) (f := 14) (args := #[.int .u64 ((UInt64.toNat n0 : Nat) : Int), .int .u64 ((UInt64.toNat n : Nat) : Int)]) En111 (by kernel_rfl) ((after_ref n0 n _).mono ?_)
    rintro _ wo114 ⟨rfl, he117⟩
    refine ⟨_, rfl, ?_⟩
    intro ac113 En115
    have Hv116 : Ev w [] wo114 [.box bk13 [.int .u64 ((UInt64.toNat x : Nat) : Int)] 37] := Hv108.trans (Ev.call (R := [.box bk13 [.int .u64 ((UInt64.toNat x : Nat) : Int)] 37]) Hv108.heap [0] (by kernel_rfl) (by decide) he117)
    clear hM112 he117
    refine d_pures [(2, .slice a (List.length l) c), (8, .pointer (some ⟨bk13, 0, none⟩)), (9, .int .u64 ((UInt64.toNat x : Nat) : Int)), (10, .int .i64 ((k : Nat) : Int)), (46, .bool true), (53, .bool (((UInt64.toNat (afterU n0 n) : Nat) : Int) == ((UInt64.toNat (afterU n0 n) : Nat) : Int)))] [.bool (((UInt64.toNat (afterU n0 n) : Nat) : Int) == ((UInt64.toNat (afterU n0 n) : Nat) : Int))] 9 En115 (by kernel_rfl) (by kernel_rfl) rfl ?_
    intro ac118 En119
    rw [show (((UInt64.toNat (afterU n0 n) : Nat) : Int) == ((UInt64.toNat (afterU n0 n) : Nat) : Int)) = true from (beq_self_eq_true _)] at En119
    refine d_pures [(2, .slice a (List.length l) c), (6, .bool true), (8, .pointer (some ⟨bk13, 0, none⟩)), (9, .int .u64 ((UInt64.toNat x : Nat) : Int)), (10, .int .i64 ((k : Nat) : Int))] [.bool true, .bool true] 11 En119 (by kernel_rfl) (by kernel_rfl) rfl ?_
    intro ac120 En121
    refine from_end (by kernel_rfl) ?_
    refine then_normal ?_
    refine wp_ret ?_
    refine d_ret1 (t := 6) (v := .bool true) En121 (by kernel_rfl) (by kernel_rfl) ?_
    exact ⟨rfl, Hv116.pick [] (by kernel_rfl) (by decide)⟩

end Go.Proofs.Ytjocdckmgdonjaa
