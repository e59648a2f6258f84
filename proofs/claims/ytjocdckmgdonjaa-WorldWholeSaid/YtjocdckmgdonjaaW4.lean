/- WorldDraws: its walk. -/
import Derived.Test.YtjocdckmgdonjaaW1
namespace Go.Proofs.Ytjocdckmgdonjaa
open Go.Dbr
set_option maxRecDepth 100000
theorem shiftF_plus (f : Nat → UInt8) (p q : Nat) : shiftF (shiftF f p) q = shiftF f (p + q) := by
  funext i
  show f (i + q + p) = f (i + (p + q))
  congr 1
  omega
theorem shiftF_zero (f : Nat → UInt8) : shiftF f 0 = f := rfl

theorem draws_walk (a0 : Option Addr) (c0 : Nat) (first : List UInt8) (seed : UInt64) (a2 : Option Addr) (cc2 : Nat) (pieces : List Int) (w : World) (hi : InB w [] a0 c0 first) (hp : InI64 w [] a2 cc2 pieces) : Calls Try.prog 3 #[.slice a0 (List.length first) c0, .int .u64 ((UInt64.toNat seed : Nat) : Int), .slice a2 (List.length pieces) cc2] w fun e w' => e = .returned (.bool true) ∧ Ev w [] w' [] := by
  have hs := hi.small
  have hs2 := hp.small
  refine d_start [(0, .slice a0 (List.length first) c0), (1, .int .u64 ((UInt64.toNat seed : Nat) : Int)), (2, .slice a2 (List.length pieces) cc2)] 86 Go.Proofs.Try.func3 Go.Proofs.Try.ntmps3 rfl (by kernel_rfl) (by kernel_rfl) ?_
  intro act0 En0
  have Hv0 : Ev w [] w [] := Ev.refl (Heap.nil _)
  refine wp_seq ?_
  refine region_from ?_  -- region 0
  refine d_pures [(0, .slice a0 (List.length first) c0), (1, .int .u64 ((UInt64.toNat seed : Nat) : Int)), (2, .slice a2 (List.length pieces) cc2), (6, .bool false)] [.bool false] 1 En0 (by kernel_rfl) (by kernel_rfl) rfl ?_
  intro ac1 En2
  refine from_end (by kernel_rfl) ?_
  refine then_normal ?_
  refine wp_seq ?_
  refine region_from ?_  -- region 1
  refine from_op (by kernel_rfl) ?_
  have hM3 : Heap w [] := Hv0.heap.pick [] (by kernel_rfl) (by decide)
  refine op_call (d := some 17) (f := 7) (args := #[]) En2 (by kernel_rfl) ((head_ok _).mono ?_)
  rintro _ wo5 ⟨rfl, he8⟩
  refine ⟨_, rfl, ?_⟩
  intro ac4 En6
  have Hv7 : Ev w [] wo5 [] := Hv0.trans (Ev.call (R := []) Hv0.heap [] (by kernel_rfl) (by decide) he8)
  clear hM3 he8
  refine d_pures [(0, .slice a0 (List.length first) c0), (1, .int .u64 ((UInt64.toNat seed : Nat) : Int)), (2, .slice a2 (List.length pieces) cc2), (6, .bool false), (7, .bool true)] [.bool true] 2 En6 (by kernel_rfl) (by kernel_rfl) rfl ?_
  intro ac9 En10
  refine from_end (by kernel_rfl) ?_
  refine then_normal ?_
  refine wp_seq ?_
  refine region_from ?_  -- region 2
  refine from_op (by kernel_rfl) ?_
  refine op_lit (d := some 18) (t := 22) (T := 5) (m := 0) (parts := #[]) (xs := bys []) (sz := 1) En10 (by kernel_rfl) (by kernel_rfl) rfl (by decide) Hv7 ?_
  intro ac12 wo13 bk11 En14 Hv15
  refine d_pures [(0, .slice a0 (List.length first) c0), (1, .int .u64 ((UInt64.toNat seed : Nat) : Int)), (2, .slice a2 (List.length pieces) cc2), (6, .bool false), (7, .bool true), (18, .slice (some ⟨bk11, 0, none⟩) 0 0), (19, .slice a0 (List.length first) c0)] [.slice a0 (List.length first) c0] 2 En14 (by kernel_rfl) (by kernel_rfl) rfl ?_
  intro ac16 En17
  refine from_op (by kernel_rfl) ?_
  refine op_append (d := some 20) (t := 22) (tx := 22) (ty := 22) (T := 5) (k := 0) (ao := some ⟨bk11, 0, none⟩) (cap := 0) (sz := 1) (p := 0) (m := List.length first) (xs := bys []) (ys := bys first) (x := .slice a0 (List.length first) c0) (bytes := 1) En17 (by kernel_rfl) Hv15 rfl rfl (Reads.src (size := 1) (tx := 22) (e' := 5) (by kernel_rfl) (hi.ev Hv15).reads (bys_len _) hi.nz (bys_one _)) (by kernel_rfl) (z := .int .u8 0) (by kernel_rfl) rfl (by decide) (by omega) (by unfold maxLen; omega) ?_
  intro ac22 wo23 ao18 cp19 En24 Hv25 _ _
  rw [bys_nil_append] at Hv25
  have ehz20 : 0 + List.length first = List.length first := (by first | (simp; done) | (simp; omega) | omega)
  rw [ehz20] at En24
  refine d_pures [(0, .slice a0 (List.length first) c0), (1, .int .u64 ((UInt64.toNat seed : Nat) : Int)), (2, .slice a2 (List.length pieces) cc2), (6, .bool false), (7, .bool true), (8, .slice ao18 (List.length first) cp19)] [.slice ao18 (List.length first) cp19] 4 En24 (by kernel_rfl) (by kernel_rfl) rfl ?_
  intro ac26 En27
  refine from_end (by kernel_rfl) ?_
  refine then_normal ?_
  refine wp_seq ?_
  refine region_from ?_  -- region 3
  refine d_pures [(0, .slice a0 (List.length first) c0), (1, .int .u64 ((UInt64.toNat seed : Nat) : Int)), (2, .slice a2 (List.length pieces) cc2), (6, .bool false), (7, .bool true), (8, .slice ao18 (List.length first) cp19), (21, .slice ao18 (List.length first) cp19), (22, .int .u64 ((UInt64.toNat seed : Nat) : Int))] [.slice ao18 (List.length first) cp19, .int .u64 ((UInt64.toNat seed : Nat) : Int)] 2 En27 (by kernel_rfl) (by kernel_rfl) rfl ?_
  intro ac28 En29
  refine from_op (by kernel_rfl) ?_
  have hM31 : Heap wo23 [] := Hv25.heap.pick [] (by kernel_rfl) (by decide)
  refine op_call (d := some 23) (f := 8) (args := #[.slice ao18 (List.length first) cp19, .int .u64 ((UInt64.toNat seed : Nat) : Int)]) En29 (by kernel_rfl) ((newrand_prog ao18 cp19 first seed _ (bys_in Hv25.heap (k := 0) rfl [] (by kernel_rfl) rfl (by omega))).mono ?_)
  rintro _ wo33 ⟨aor30, cor30, bqr30, rfl, he36⟩
  refine ⟨_, rfl, ?_⟩
  intro ac32 En34
  have Hv35 : Ev w [] wo33 [.vec aor30 cor30 1 (bys first) 5, .box bqr30 [.slice aor30 (List.length first) cor30, .int .u64 ((UInt64.toNat seed : Nat) : Int)] 56, .vec ao18 cp19 1 (bys first) 5] := Hv25.trans (Ev.call (R := [.vec ao18 cp19 1 (bys first) 5]) Hv25.heap [0] (by kernel_rfl) (by decide) he36)
  clear hM31 he36
  refine d_pures [(0, .slice a0 (List.length first) c0), (1, .int .u64 ((UInt64.toNat seed : Nat) : Int)), (2, .slice a2 (List.length pieces) cc2), (6, .bool false), (7, .bool true), (8, .slice ao18 (List.length first) cp19), (9, .pointer (some ⟨bqr30, 0, none⟩))] [.pointer (some ⟨bqr30, 0, none⟩)] 4 En34 (by kernel_rfl) (by kernel_rfl) rfl ?_
  intro ac37 En38
  refine from_end (by kernel_rfl) ?_
  refine then_normal ?_
  refine wp_seq ?_
  refine region_from ?_  -- region 4
  refine d_pures [(0, .slice a0 (List.length first) c0), (1, .int .u64 ((UInt64.toNat seed : Nat) : Int)), (2, .slice a2 (List.length pieces) cc2), (6, .bool false), (7, .bool true), (8, .slice ao18 (List.length first) cp19), (9, .pointer (some ⟨bqr30, 0, none⟩)), (24, .slice a0 (List.length first) c0), (25, .int .u64 ((UInt64.toNat seed : Nat) : Int))] [.slice a0 (List.length first) c0, .int .u64 ((UInt64.toNat seed : Nat) : Int)] 2 En38 (by kernel_rfl) (by kernel_rfl) rfl ?_
  intro ac39 En40
  refine from_op (by kernel_rfl) ?_
  have hM42 : Heap wo33 [] := Hv35.heap.pick [] (by kernel_rfl) (by decide)
  refine op_call (d := some 26) (f := 9) (args := #[.slice a0 (List.length first) c0, .int .u64 ((UInt64.toNat seed : Nat) : Int)]) En40 (by kernel_rfl) ((newrand_ref a0 c0 first seed _ ((hi.ev Hv35).pick [] (by kernel_rfl))).mono ?_)
  rintro _ wo44 ⟨aor41, cor41, bqr41, rfl, he47⟩
  refine ⟨_, rfl, ?_⟩
  intro ac43 En45
  have Hv46 : Ev w [] wo44 [.vec aor41 cor41 1 (bys first) 5, .box bqr41 [.slice aor41 (List.length first) cor41, .int .u64 ((UInt64.toNat seed : Nat) : Int), .slice none 0 0] 58, .vec aor30 cor30 1 (bys first) 5, .box bqr30 [.slice aor30 (List.length first) cor30, .int .u64 ((UInt64.toNat seed : Nat) : Int)] 56, .vec ao18 cp19 1 (bys first) 5] := Hv35.trans (Ev.call (R := [.vec aor30 cor30 1 (bys first) 5, .box bqr30 [.slice aor30 (List.length first) cor30, .int .u64 ((UInt64.toNat seed : Nat) : Int)] 56, .vec ao18 cp19 1 (bys first) 5]) Hv35.heap [0, 1, 2] (by kernel_rfl) (by decide) he47)
  clear hM42 he47
  refine d_pures [(0, .slice a0 (List.length first) c0), (1, .int .u64 ((UInt64.toNat seed : Nat) : Int)), (2, .slice a2 (List.length pieces) cc2), (6, .bool false), (7, .bool true), (8, .slice ao18 (List.length first) cp19), (9, .pointer (some ⟨bqr30, 0, none⟩)), (10, .pointer (some ⟨bqr41, 0, none⟩))] [.pointer (some ⟨bqr41, 0, none⟩)] 4 En45 (by kernel_rfl) (by kernel_rfl) rfl ?_
  intro ac48 En49
  refine from_end (by kernel_rfl) ?_
  refine then_normal ?_
  refine wp_seq ?_
  refine wp_seq ?_
  refine region_from ?_  -- region 5
  refine d_pures [(0, .slice a0 (List.length first) c0), (1, .int .u64 ((UInt64.toNat seed : Nat) : Int)), (2, .slice a2 (List.length pieces) cc2), (6, .bool false), (8, .slice ao18 (List.length first) cp19), (9, .pointer (some ⟨bqr30, 0, none⟩)), (10, .pointer (some ⟨bqr41, 0, none⟩)), (32, .bool false)] [.bool true, .bool false, .bool false, .pointer (some ⟨bqr30, 0, none⟩), .bool false, .bool false] 6 En49 (by kernel_rfl) (by kernel_rfl) rfl ?_
  intro ac50 En51
  refine from_end (by kernel_rfl) ?_
  refine then_normal ?_
  refine cond_false En51 (t := false) (by kernel_rfl) rfl ?_
  refine wp_skip ?_
  refine then_normal ?_
  refine wp_seq ?_
  refine wp_seq ?_
  refine region_from ?_  -- region 7
  refine d_pures [(0, .slice a0 (List.length first) c0), (1, .int .u64 ((UInt64.toNat seed : Nat) : Int)), (2, .slice a2 (List.length pieces) cc2), (6, .bool false), (8, .slice ao18 (List.length first) cp19), (9, .pointer (some ⟨bqr30, 0, none⟩)), (10, .pointer (some ⟨bqr41, 0, none⟩)), (11, .int .i64 0)] [.int .i64 0] 1 En51 (by kernel_rfl) (by kernel_rfl) rfl ?_
  intro ac52 En53
  refine from_end (by kernel_rfl) ?_
  refine then_normal ?_
  refine wp_block ?_
  refine loop_m (fun ms54 ac wo => ∃ (j : Nat) (lo : List UInt8), ms54 = (List.length first - j : Nat) ∧ Env ac 86 [(0, .slice a0 (List.length first) c0), (1, .int .u64 ((UInt64.toNat seed : Nat) : Int)), (2, .slice a2 (List.length pieces) cc2), (6, .bool false), (8, .slice ao18 (List.length first) cp19), (9, .pointer (some ⟨bqr30, 0, none⟩)), (10, .pointer (some ⟨bqr41, 0, none⟩)), (11, .int .i64 ((j : Nat) : Int))] ∧ Ev w [] wo [.vec aor41 cor41 1 (bys first) 5, .box bqr41 [.slice aor41 (List.length first) cor41, .int .u64 ((UInt64.toNat seed : Nat) : Int), .slice none 0 0] 58, .vec aor30 cor30 1 (bys first) 5, .box bqr30 [.slice aor30 (List.length first) cor30, .int .u64 ((UInt64.toNat seed : Nat) : Int)] 56, .vec ao18 cp19 1 (bys lo) 5] ∧ (j ≤ List.length first) ∧ (List.length lo = List.length first)) ⟨_, 0, first, rfl, En53.sub (by kernel_rfl), Hv46.pick [0, 1, 2, 3, 4] (by kernel_rfl) (by decide), by omega, by first | rfl | simp⟩ ?_
  rintro mm60 ac56 wo57 ⟨j, lo, rfl, En58, Hv59, hkj, hllo⟩
  refine wp_seq ?_
  refine wp_seq ?_
  refine region_from ?_  -- region 8
  refine d_pures [(0, .slice a0 (List.length first) c0), (1, .int .u64 ((UInt64.toNat seed : Nat) : Int)), (2, .slice a2 (List.length pieces) cc2), (6, .bool false), (8, .slice ao18 (List.length first) cp19), (9, .pointer (some ⟨bqr30, 0, none⟩)), (10, .pointer (some ⟨bqr41, 0, none⟩)), (11, .int .i64 ((j : Nat) : Int)), (36, .bool (decide (((j : Nat) : Int) < ((List.length first : Nat) : Int))))] [.int .i64 ((j : Nat) : Int), .slice ao18 (List.length first) cp19, .int .i64 ((List.length first : Nat) : Int), .bool (decide (((j : Nat) : Int) < ((List.length first : Nat) : Int)))] 4 En58 (by kernel_rfl) (by kernel_rfl) rfl ?_
  intro ac61 En62
  refine from_end (by kernel_rfl) ?_
  refine then_normal ?_
  refine cond_at En62 (t := decide (((j : Nat) : Int) < ((List.length first : Nat) : Int))) (by kernel_rfl) (fun hc63 => ?_) (fun hc63 => ?_)
  ·
    replace hc63 : ((j : Nat) : Int) < ((List.length first : Nat) : Int) := by simpa using hc63
    refine wp_skip ?_
    refine then_normal ?_
    refine wp_seq ?_
    refine wp_block ?_
    refine region_from ?_  -- region 10
    refine d_pures [(0, .slice a0 (List.length first) c0), (1, .int .u64 ((UInt64.toNat seed : Nat) : Int)), (2, .slice a2 (List.length pieces) cc2), (6, .bool false), (8, .slice ao18 (List.length first) cp19), (9, .pointer (some ⟨bqr30, 0, none⟩)), (10, .pointer (some ⟨bqr41, 0, none⟩)), (11, .int .i64 ((j : Nat) : Int)), (39, .slice ao18 (List.length first) cp19), (40, .int .i64 ((j : Nat) : Int))] [.slice ao18 (List.length first) cp19, .int .i64 ((j : Nat) : Int)] 2 En62 (by kernel_rfl) (by kernel_rfl) rfl ?_
    intro ac64 En65
    refine from_op (by kernel_rfl) ?_
    refine op_index (d := some 41) (t := 22) (e := 5) (sz := 1) (len := List.length first) (cap := cp19) (j := j) (ao := ao18) (k := .i64) (ix := ((j : Nat) : Int)) En65 (by kernel_rfl) (fun e => by have h := (bys_vnz Hv59.heap (k := 4) rfl) e; first | omega | (simp at h; omega)) (by kernel_rfl) (by kernel_rfl) (by omega) (by omega) (jo := j) (Nat.mul_one _) ?_
    intro ac68 adr66 had67 En69
    refine from_op (by kernel_rfl) ?_
    have hb70 : j < List.length lo := by omega
    refine op_loadel (d := some 42) (t := 5) (ad := adr66) (ao := ao18) (xs := bys lo) (j := j) (v := .int .u8 ((UInt8.toNat ((lo)[j]'hb70) : Nat) : Int)) En69 (by kernel_rfl) (Hv59.heap.reads (k := 4) rfl) had67 (bys_get hb70) (by kernel_rfl) ?_
    intro ac71 En72
    refine d_pures [(0, .slice a0 (List.length first) c0), (1, .int .u64 ((UInt64.toNat seed : Nat) : Int)), (2, .slice a2 (List.length pieces) cc2), (6, .bool false), (8, .slice ao18 (List.length first) cp19), (9, .pointer (some ⟨bqr30, 0, none⟩)), (10, .pointer (some ⟨bqr41, 0, none⟩)), (11, .int .i64 ((j : Nat) : Int)), (39, .slice ao18 (List.length first) cp19), (40, .int .i64 ((j : Nat) : Int)), (43, .int .u8 (IntKind.wrap .u8 (((UInt8.toNat ((lo)[j]'hb70) : Nat) : Int) + (1 : Int))))] [.int .u8 (IntKind.wrap .u8 (((UInt8.toNat ((lo)[j]'hb70) : Nat) : Int) + (1 : Int)))] 5 En72 (by kernel_rfl) (by kernel_rfl) rfl ?_
    intro ac73 En74
    rw [Go.Dbr.u8_add (a := ((UInt8.toNat ((lo)[j]'hb70) : Nat) : Int)) (b := (1 : Int)) (x := (lo)[j]'hb70) (y := (1 : UInt8)) rfl rfl] at En74
    refine from_op (by kernel_rfl) ?_
    refine op_index (d := some 44) (t := 22) (e := 5) (sz := 1) (len := List.length first) (cap := cp19) (j := j) (ao := ao18) (k := .i64) (ix := ((j : Nat) : Int)) En74 (by kernel_rfl) (fun e => by have h := (bys_vnz Hv59.heap (k := 4) rfl) e; first | omega | (simp at h; omega)) (by kernel_rfl) (by kernel_rfl) (by omega) (by omega) (jo := j) (Nat.mul_one _) ?_
    intro ac77 adr75 had76 En78
    refine from_op (by kernel_rfl) ?_
    refine op_storeel (d := none) (t := 5) (ad := adr75) (ao := ao18) (k := 4) (cap := cp19) (sz := 1) (j := j) (xs := bys lo) (v := bv (((lo)[j]'hb70) + (1 : UInt8))) En78 (by kernel_rfl) Hv59 rfl had76 (by rw [bys_length]; omega) (by kernel_rfl) rfl ?_
    intro ac79 wo80  En81 Hv82
    rw [bys_set] at Hv82
    refine from_end (by kernel_rfl) ?_
    refine block_normal ?_
    refine then_normal ?_
    refine region_from ?_  -- region 9
    refine d_pures [(0, .slice a0 (List.length first) c0), (1, .int .u64 ((UInt64.toNat seed : Nat) : Int)), (2, .slice a2 (List.length pieces) cc2), (6, .bool false), (8, .slice ao18 (List.length first) cp19), (9, .pointer (some ⟨bqr30, 0, none⟩)), (10, .pointer (some ⟨bqr41, 0, none⟩)), (11, .int .i64 ((j : Nat) : Int)), (38, .int .i64 (IntKind.wrap .i64 (((j : Nat) : Int) + (1 : Int))))] [.int .i64 ((j : Nat) : Int), .int .i64 (IntKind.wrap .i64 (((j : Nat) : Int) + (1 : Int)))] 2 En81 (by kernel_rfl) (by kernel_rfl) rfl ?_
    intro ac83 En84
    rw [Go.Dbr.wr64 (e := ((j : Nat) : Int) + (1 : Int)) (x := ((j + 1 : Nat) : Int)) (by omega) (by omega) (by omega)] at En84
    refine d_pures [(0, .slice a0 (List.length first) c0), (1, .int .u64 ((UInt64.toNat seed : Nat) : Int)), (2, .slice a2 (List.length pieces) cc2), (6, .bool false), (8, .slice ao18 (List.length first) cp19), (9, .pointer (some ⟨bqr30, 0, none⟩)), (10, .pointer (some ⟨bqr41, 0, none⟩)), (11, .int .i64 ((j + 1 : Nat) : Int))] [.int .i64 ((j + 1 : Nat) : Int)] 3 En84 (by kernel_rfl) (by kernel_rfl) rfl ?_
    intro ac85 En86
    refine from_end (by kernel_rfl) ?_
    refine then_normal ?_
    refine ⟨_, ⟨j + 1, List.set lo j (((lo)[j]'hb70) + (1 : UInt8)), rfl, En86.sub (by kernel_rfl), Hv82.pick [0, 1, 2, 3, 4] (by kernel_rfl) (by decide), by omega, by rw [List.length_set]; exact hllo⟩, ?_⟩
    omega
  ·
    replace hc63 : ¬ (((j : Nat) : Int) < ((List.length first : Nat) : Int)) := by simpa using hc63
    refine wp_exit ?_
    refine then_exit ?_
    refine then_exit ?_
    refine block_exit ?_
    refine then_normal ?_
    refine wp_seq ?_
    refine wp_seq ?_
    refine region_from ?_  -- region 11
    refine d_pures [(0, .slice a0 (List.length first) c0), (1, .int .u64 ((UInt64.toNat seed : Nat) : Int)), (2, .slice a2 (List.length pieces) cc2), (6, .bool false), (8, .slice ao18 (List.length first) cp19), (9, .pointer (some ⟨bqr30, 0, none⟩)), (10, .pointer (some ⟨bqr41, 0, none⟩)), (11, .int .i64 ((j : Nat) : Int)), (12, .int .i64 0)] [.int .i64 0] 1 En62 (by kernel_rfl) (by kernel_rfl) rfl ?_
    intro ac87 En88
    refine from_end (by kernel_rfl) ?_
    refine then_normal ?_
    refine wp_block ?_
    have Hn : Ev w [] wo57 [.vec aor41 cor41 1 (bys first) 5, .box bqr41 [.slice aor41 (List.length first) cor41, .int .u64 ((UInt64.toNat seed : Nat) : Int), .slice none 0 0] 58, .vec aor30 cor30 1 (bys first) 5, .box bqr30 [.slice aor30 (List.length first) cor30, .int .u64 ((UInt64.toNat seed : Nat) : Int)] 56, .vec ao18 cp19 1 (bys lo) 5, .vec none 0 1 (bys []) 5] := Ev.nil (sz := 1) (T := 5) Hv59
    refine loop_m (fun ms89 ac wo => ∃ (k : Nat) (p : Nat) (l1 : List UInt8) (s1 : UInt64) (x1 : Option Addr) (c1 : Nat) (l2 : List UInt8) (s2 : UInt64) (l3 : List UInt8) (x2 : Option Addr) (c2 : Nat) (x3 : Option Addr) (c3 : Nat), ms89 = (List.length pieces - k : Nat) ∧ Env ac 86 [(2, .slice a2 (List.length pieces) cc2), (9, .pointer (some ⟨bqr30, 0, none⟩)), (10, .pointer (some ⟨bqr41, 0, none⟩)), (12, .int .i64 ((k : Nat) : Int))] ∧ Ev w [] wo [.box bqr30 [.slice x1 (List.length l1) c1, .int .u64 ((UInt64.toNat s1 : Nat) : Int)] 56, .vec x1 c1 1 (bys l1) 5, .box bqr41 [.slice x2 (List.length l2) c2, .int .u64 ((UInt64.toNat s2 : Nat) : Int), .slice x3 (List.length l3) c3] 58, .vec x2 c2 1 (bys l2) 5, .vec x3 c3 1 (bys l3) 5] ∧ (k ≤ List.length pieces) ∧ (Den l1 s1 (shiftF (streamOf first seed) p)) ∧ (Den (l2 ++ l3) s2 (shiftF (streamOf first seed) p)) ∧ (List.length l1 ≤ 140737488351232) ∧ (List.length l2 ≤ 140737488351232) ∧ (List.length l3 ≤ 8)) ⟨_, 0, 0, first, seed, aor30, cor30, first, seed, [], aor41, cor41, none, 0, rfl, En88.sub (by kernel_rfl), Hn.pick [3, 2, 1, 0, 5] (by kernel_rfl) (by decide), by omega, den_streamOf first seed, (by rw [List.append_nil]; exact den_streamOf first seed), by omega, by omega, by simp⟩ ?_
    rintro mm95 ac91 wo92 ⟨k, p, l1, s1, x1, c1, l2, s2, l3, x2, c2, x3, c3, rfl, En93, Hv94, hk, hd1, hd2, hb1, hb2, hb3⟩
    refine wp_seq ?_
    refine wp_seq ?_
    refine region_from ?_  -- region 12
    refine d_pures [(2, .slice a2 (List.length pieces) cc2), (9, .pointer (some ⟨bqr30, 0, none⟩)), (10, .pointer (some ⟨bqr41, 0, none⟩)), (12, .int .i64 ((k : Nat) : Int)), (49, .bool (decide (((k : Nat) : Int) < ((List.length pieces : Nat) : Int))))] [.int .i64 ((k : Nat) : Int), .slice a2 (List.length pieces) cc2, .int .i64 ((List.length pieces : Nat) : Int), .bool (decide (((k : Nat) : Int) < ((List.length pieces : Nat) : Int))), .bool (decide (((k : Nat) : Int) < ((List.length pieces : Nat) : Int)))] 5 En93 (by kernel_rfl) (by kernel_rfl) rfl ?_
    intro ac96 En97
    rcases Bool.eq_false_or_eq_true (decide (((k : Nat) : Int) < ((List.length pieces : Nat) : Int))) with hb98 | hb98
    · rw [hb98] at En97
      have hp99 : ((k : Nat) : Int) < ((List.length pieces : Nat) : Int) := by simpa using hb98
      refine d_pures [(2, .slice a2 (List.length pieces) cc2), (9, .pointer (some ⟨bqr30, 0, none⟩)), (10, .pointer (some ⟨bqr41, 0, none⟩)), (12, .int .i64 ((k : Nat) : Int)), (52, .bool (decide (((k : Nat) : Int) < (20 : Int))))] [.int .i64 ((k : Nat) : Int), .bool (decide (((k : Nat) : Int) < (20 : Int))), .bool (decide (((k : Nat) : Int) < (20 : Int)))] 8 En97 (by kernel_rfl) (by kernel_rfl) rfl ?_
      intro ac100 En101
      refine from_end (by kernel_rfl) ?_
      refine then_normal ?_
      refine cond_at En101 (t := decide (((k : Nat) : Int) < (20 : Int))) (by kernel_rfl) (fun hc102 => ?_) (fun hc102 => ?_)
      ·
        replace hc102 : ((k : Nat) : Int) < (20 : Int) := by simpa using hc102
        refine wp_skip ?_
        refine then_normal ?_
        refine wp_seq ?_
        refine wp_block ?_
        refine wp_seq ?_
        refine region_from ?_  -- region 14
        refine d_pures [(2, .slice a2 (List.length pieces) cc2), (9, .pointer (some ⟨bqr30, 0, none⟩)), (10, .pointer (some ⟨bqr41, 0, none⟩)), (12, .int .i64 ((k : Nat) : Int)), (55, .slice a2 (List.length pieces) cc2), (56, .int .i64 ((k : Nat) : Int))] [.slice a2 (List.length pieces) cc2, .int .i64 ((k : Nat) : Int)] 2 En101 (by kernel_rfl) (by kernel_rfl) rfl ?_
        intro ac103 En104
        refine from_op (by kernel_rfl) ?_
        refine op_index (d := some 57) (t := 24) (e := 3) (sz := 1) (len := List.length pieces) (cap := cc2) (j := k) (ao := a2) (k := .i64) (ix := ((k : Nat) : Int)) En104 (by kernel_rfl) hp.nz (by kernel_rfl) (by kernel_rfl) (by omega) (by omega) (jo := k) (Nat.mul_one _) ?_
        intro ac107 adr105 had106 En108
        refine from_op (by kernel_rfl) ?_
        have hb109 : k < List.length pieces := by omega
        refine op_loadel (d := some 58) (t := 3) (ad := adr105) (ao := a2) (xs := i64s pieces) (j := k) (v := .int .i64 ((pieces)[k]'hb109)) En108 (by kernel_rfl) (hp.ev Hv94).reads had106 (i64s_get hb109) (by kernel_rfl) ?_
        intro ac110 En111
        refine d_pures [(2, .slice a2 (List.length pieces) cc2), (9, .pointer (some ⟨bqr30, 0, none⟩)), (10, .pointer (some ⟨bqr41, 0, none⟩)), (12, .int .i64 ((k : Nat) : Int)), (13, .int .i64 ((pieces)[k]'hb109))] [.int .i64 ((pieces)[k]'hb109)] 5 En111 (by kernel_rfl) (by kernel_rfl) rfl ?_
        intro ac112 En113
        refine from_end (by kernel_rfl) ?_
        refine then_normal ?_
        refine wp_seq ?_
        refine wp_seq ?_
        refine region_from ?_  -- region 15
        refine d_pures [(2, .slice a2 (List.length pieces) cc2), (9, .pointer (some ⟨bqr30, 0, none⟩)), (10, .pointer (some ⟨bqr41, 0, none⟩)), (12, .int .i64 ((k : Nat) : Int)), (13, .int .i64 ((pieces)[k]'hb109)), (60, .bool (decide ((pieces)[k]'hb109 > (3000 : Int))))] [.int .i64 ((pieces)[k]'hb109), .bool (decide ((pieces)[k]'hb109 > (3000 : Int)))] 2 En113 (by kernel_rfl) (by kernel_rfl) rfl ?_
        intro ac114 En115
        refine from_end (by kernel_rfl) ?_
        refine then_normal ?_
        refine region_cut (F := fun ac wo => ∃ (pc : Int), Env ac 86 [(2, .slice a2 (List.length pieces) cc2), (9, .pointer (some ⟨bqr30, 0, none⟩)), (10, .pointer (some ⟨bqr41, 0, none⟩)), (12, .int .i64 ((k : Nat) : Int)), (13, .int .i64 pc)] ∧ Ev w [] wo [.box bqr30 [.slice x1 (List.length l1) c1, .int .u64 ((UInt64.toNat s1 : Nat) : Int)] 56, .vec x1 c1 1 (bys l1) 5, .box bqr41 [.slice x2 (List.length l2) c2, .int .u64 ((UInt64.toNat s2 : Nat) : Int), .slice x3 (List.length l3) c3] 58, .vec x2 c2 1 (bys l2) 5, .vec x3 c3 1 (bys l3) 5]) ?_ ?_
        ·
          refine cond_at En115 (t := decide ((pieces)[k]'hb109 > (3000 : Int))) (by kernel_rfl) (fun hc116 => ?_) (fun hc116 => ?_)
          ·
            replace hc116 : (pieces)[k]'hb109 > (3000 : Int) := by simpa using hc116
            refine region_from ?_  -- region 16
            refine d_pures [(2, .slice a2 (List.length pieces) cc2), (9, .pointer (some ⟨bqr30, 0, none⟩)), (10, .pointer (some ⟨bqr41, 0, none⟩)), (12, .int .i64 ((k : Nat) : Int)), (13, .int .i64 (Int.tmod ((pieces)[k]'hb109) (3000 : Int)))] [.int .i64 ((pieces)[k]'hb109), .int .i64 (Int.tmod ((pieces)[k]'hb109) (3000 : Int)), .int .i64 (Int.tmod ((pieces)[k]'hb109) (3000 : Int))] 3 En115 (by kernel_rfl) (by kernel_rfl) rfl ?_
            intro ac117 En118
            refine from_end (by kernel_rfl) ?_
            exact ⟨rfl, ⟨Int.tmod ((pieces)[k]'hb109) (3000 : Int), En118.sub (by kernel_rfl), Hv94.pick [0, 1, 2, 3, 4] (by kernel_rfl) (by decide)⟩⟩
          ·
            replace hc116 : ¬ ((pieces)[k]'hb109 > (3000 : Int)) := by simpa using hc116
            refine wp_skip ?_
            exact ⟨rfl, ⟨(pieces)[k]'hb109, En115.sub (by kernel_rfl), Hv94.pick [0, 1, 2, 3, 4] (by kernel_rfl) (by decide)⟩⟩
        ·
          rintro ac119 wo120 ⟨pc, En121, Hv122⟩
          refine then_normal ?_
          refine wp_seq ?_
          refine region_from ?_  -- region 17
          refine d_pures [(2, .slice a2 (List.length pieces) cc2), (9, .pointer (some ⟨bqr30, 0, none⟩)), (10, .pointer (some ⟨bqr41, 0, none⟩)), (12, .int .i64 ((k : Nat) : Int)), (13, .int .i64 pc), (63, .pointer (some ⟨bqr30, 0, none⟩)), (64, .int .i64 pc)] [.pointer (some ⟨bqr30, 0, none⟩), .int .i64 pc] 2 En121 (by kernel_rfl) (by kernel_rfl) rfl ?_
          intro ac123 En124
          refine from_op (by kernel_rfl) ?_
          have hM126 : Heap wo120 [.box bqr30 [.slice x1 (List.length l1) c1, .int .u64 ((UInt64.toNat s1 : Nat) : Int)] 56, .vec x1 c1 1 (bys l1) 5] := Hv122.heap.pick [0, 1] (by kernel_rfl) (by decide)
          refine op_call (d := some 65) (f := 10) (args := #[.pointer (some ⟨bqr30, 0, none⟩), .int .i64 pc]) En124 (by kernel_rfl) ((read_prog bqr30 pc l1 s1 x1 c1 (shiftF (streamOf first seed) p) _ hd1 hb1 hM126).mono ?_)
          rintro _ wo128 ⟨lvr125, svr125, avr125, cvr125, aor125, cor125, rfl, he131, hdr125, hbr125⟩
          refine ⟨_, rfl, ?_⟩
          intro ac127 En129
          have Hv130 : Ev w [] wo128 [.box bqr30 [.slice avr125 (List.length lvr125) cvr125, .int .u64 ((UInt64.toNat svr125 : Nat) : Int)] 56, .vec avr125 cvr125 1 (bys lvr125) 5, .vec aor125 cor125 1 (bys (takeF (shiftF (streamOf first seed) p) (clampN pc))) 5, .box bqr41 [.slice x2 (List.length l2) c2, .int .u64 ((UInt64.toNat s2 : Nat) : Int), .slice x3 (List.length l3) c3] 58, .vec x2 c2 1 (bys l2) 5, .vec x3 c3 1 (bys l3) 5] := Hv122.trans (Ev.call (R := [.box bqr41 [.slice x2 (List.length l2) c2, .int .u64 ((UInt64.toNat s2 : Nat) : Int), .slice x3 (List.length l3) c3] 58, .vec x2 c2 1 (bys l2) 5, .vec x3 c3 1 (bys l3) 5]) Hv122.heap [0, 1, 2, 3, 4] (by kernel_rfl) (by decide) he131)
          clear hM126 he131
          have htr125 : List.length (takeF (shiftF (streamOf first seed) p) (clampN pc)) ≤ 65536 := by rw [takeF_len]; exact clamp_le _
          refine d_pures [(2, .slice a2 (List.length pieces) cc2), (9, .pointer (some ⟨bqr30, 0, none⟩)), (10, .pointer (some ⟨bqr41, 0, none⟩)), (12, .int .i64 ((k : Nat) : Int)), (13, .int .i64 pc), (14, .slice aor125 (List.length (takeF (shiftF (streamOf first seed) p) (clampN pc))) cor125)] [.slice aor125 (List.length (takeF (shiftF (streamOf first seed) p) (clampN pc))) cor125] 4 En129 (by kernel_rfl) (by kernel_rfl) rfl ?_
          intro ac132 En133
          refine from_end (by kernel_rfl) ?_
          refine then_normal ?_
          refine wp_seq ?_
          refine region_from ?_  -- region 18
          refine d_pures [(2, .slice a2 (List.length pieces) cc2), (9, .pointer (some ⟨bqr30, 0, none⟩)), (10, .pointer (some ⟨bqr41, 0, none⟩)), (12, .int .i64 ((k : Nat) : Int)), (13, .int .i64 pc), (14, .slice aor125 (List.length (takeF (shiftF (streamOf first seed) p) (clampN pc))) cor125), (66, .pointer (some ⟨bqr41, 0, none⟩)), (67, .int .i64 pc)] [.pointer (some ⟨bqr41, 0, none⟩), .int .i64 pc] 2 En133 (by kernel_rfl) (by kernel_rfl) rfl ?_
          intro ac134 En135
          refine from_op (by kernel_rfl) ?_
          have hM137 : Heap wo128 [.box bqr41 [.slice x2 (List.length l2) c2, .int .u64 ((UInt64.toNat s2 : Nat) : Int), .slice x3 (List.length l3) c3] 58, .vec x2 c2 1 (bys l2) 5, .vec x3 c3 1 (bys l3) 5] := Hv130.heap.pick [3, 4, 5] (by kernel_rfl) (by decide)
          refine op_call (d := some 68) (f := 11) (args := #[.pointer (some ⟨bqr41, 0, none⟩), .int .i64 pc]) En135 (by kernel_rfl) ((read_ref bqr41 pc l2 l3 s2 x2 x3 c2 c3 (shiftF (streamOf first seed) p) _ hd2 hb2 hb3 hM137).mono ?_)
          rintro _ wo139 ⟨lfq136, svq136, llq136, xfq136, cfq136, xlq136, clq136, aoq136, coq136, rfl, he142, hdq136, hb1q136, hb2q136⟩
          refine ⟨_, rfl, ?_⟩
          intro ac138 En140
          have Hv141 : Ev w [] wo139 [.box bqr41 [.slice xfq136 (List.length lfq136) cfq136, .int .u64 ((UInt64.toNat svq136 : Nat) : Int), .slice xlq136 (List.length llq136) clq136] 58, .vec xfq136 cfq136 1 (bys lfq136) 5, .vec xlq136 clq136 1 (bys llq136) 5, .vec aoq136 coq136 1 (bys (takeF (shiftF (streamOf first seed) p) (clampN pc))) 5, .box bqr30 [.slice avr125 (List.length lvr125) cvr125, .int .u64 ((UInt64.toNat svr125 : Nat) : Int)] 56, .vec avr125 cvr125 1 (bys lvr125) 5, .vec aor125 cor125 1 (bys (takeF (shiftF (streamOf first seed) p) (clampN pc))) 5] := Hv130.trans (Ev.call (R := [.box bqr30 [.slice avr125 (List.length lvr125) cvr125, .int .u64 ((UInt64.toNat svr125 : Nat) : Int)] 56, .vec avr125 cvr125 1 (bys lvr125) 5, .vec aor125 cor125 1 (bys (takeF (shiftF (streamOf first seed) p) (clampN pc))) 5]) Hv130.heap [3, 4, 5, 0, 1, 2] (by kernel_rfl) (by decide) he142)
          clear hM137 he142
          refine d_pures [(2, .slice a2 (List.length pieces) cc2), (9, .pointer (some ⟨bqr30, 0, none⟩)), (10, .pointer (some ⟨bqr41, 0, none⟩)), (12, .int .i64 ((k : Nat) : Int)), (13, .int .i64 pc), (14, .slice aor125 (List.length (takeF (shiftF (streamOf first seed) p) (clampN pc))) cor125), (15, .slice aoq136 (List.length (takeF (shiftF (streamOf first seed) p) (clampN pc))) coq136)] [.slice aoq136 (List.length (takeF (shiftF (streamOf first seed) p) (clampN pc))) coq136] 4 En140 (by kernel_rfl) (by kernel_rfl) rfl ?_
          intro ac143 En144
          refine from_end (by kernel_rfl) ?_
          refine then_normal ?_
          refine wp_seq ?_
          refine wp_seq ?_
          refine region_from ?_  -- region 19
          refine d_pures [(2, .slice a2 (List.length pieces) cc2), (9, .pointer (some ⟨bqr30, 0, none⟩)), (10, .pointer (some ⟨bqr41, 0, none⟩)), (12, .int .i64 ((k : Nat) : Int)), (13, .int .i64 pc), (14, .slice aor125 (List.length (takeF (shiftF (streamOf first seed) p) (clampN pc))) cor125), (15, .slice aoq136 (List.length (takeF (shiftF (streamOf first seed) p) (clampN pc))) coq136), (69, .slice aor125 (List.length (takeF (shiftF (streamOf first seed) p) (clampN pc))) cor125)] [.slice aor125 (List.length (takeF (shiftF (streamOf first seed) p) (clampN pc))) cor125] 1 En144 (by kernel_rfl) (by kernel_rfl) rfl ?_
          intro ac145 En146
          refine from_op (by kernel_rfl) ?_
          refine op_str (d := some 70) (src := 22) (dst := 9) (e := 5) (ao := aor125) (cap := cor125) (p := List.length (takeF (shiftF (streamOf first seed) p) (clampN pc))) (bs := takeF (shiftF (streamOf first seed) p) (clampN pc)) En146 (by kernel_rfl) rfl (by kernel_rfl) (by kernel_rfl) (by kernel_rfl) (Hv141.heap.reads (k := 6) rfl) (bys_vnz Hv141.heap (k := 6) rfl) ?_
          intro ac147 En148
          refine d_pures [(2, .slice a2 (List.length pieces) cc2), (9, .pointer (some ⟨bqr30, 0, none⟩)), (10, .pointer (some ⟨bqr41, 0, none⟩)), (12, .int .i64 ((k : Nat) : Int)), (13, .int .i64 pc), (14, .slice aor125 (List.length (takeF (shiftF (streamOf first seed) p) (clampN pc))) cor125), (70, .string (bstr (takeF (shiftF (streamOf first seed) p) (clampN pc)))), (71, .slice aoq136 (List.length (takeF (shiftF (streamOf first seed) p) (clampN pc))) coq136)] [.slice aoq136 (List.length (takeF (shiftF (streamOf first seed) p) (clampN pc))) coq136] 3 En148 (by kernel_rfl) (by kernel_rfl) rfl ?_
          intro ac149 En150
          refine from_op (by kernel_rfl) ?_
          refine op_str (d := some 72) (src := 22) (dst := 9) (e := 5) (ao := aoq136) (cap := coq136) (p := List.length (takeF (shiftF (streamOf first seed) p) (clampN pc))) (bs := takeF (shiftF (streamOf first seed) p) (clampN pc)) En150 (by kernel_rfl) rfl (by kernel_rfl) (by kernel_rfl) (by kernel_rfl) (Hv141.heap.reads (k := 3) rfl) (bys_vnz Hv141.heap (k := 3) rfl) ?_
          intro ac151 En152
          refine d_pures [(2, .slice a2 (List.length pieces) cc2), (9, .pointer (some ⟨bqr30, 0, none⟩)), (10, .pointer (some ⟨bqr41, 0, none⟩)), (12, .int .i64 ((k : Nat) : Int)), (13, .int .i64 pc), (14, .slice aor125 (List.length (takeF (shiftF (streamOf first seed) p) (clampN pc))) cor125), (73, .bool (!(ByteArray.toList (bstr (takeF (shiftF (streamOf first seed) p) (clampN pc))) == ByteArray.toList (bstr (takeF (shiftF (streamOf first seed) p) (clampN pc))))))] [.bool (!(ByteArray.toList (bstr (takeF (shiftF (streamOf first seed) p) (clampN pc))) == ByteArray.toList (bstr (takeF (shiftF (streamOf first seed) p) (clampN pc)))))] 5 En152 (by kernel_rfl) (by kernel_rfl) rfl ?_
          intro ac153 En154
          rw [Go.Dbr.bstr_eq (takeF (shiftF (streamOf first seed) p) (clampN pc)) (takeF (shiftF (streamOf first seed) p) (clampN pc)), show (!((takeF (shiftF (streamOf first seed) p) (clampN pc)) == (takeF (shiftF (streamOf first seed) p) (clampN pc)))) = false from (by simp)] at En154
          refine from_end (by kernel_rfl) ?_
          refine then_normal ?_
          refine cond_false En154 (t := false) (by kernel_rfl) rfl ?_
          refine wp_skip ?_
          refine then_normal ?_
          refine wp_seq ?_
          refine region_from ?_  -- region 21
          refine d_pures [(2, .slice a2 (List.length pieces) cc2), (9, .pointer (some ⟨bqr30, 0, none⟩)), (10, .pointer (some ⟨bqr41, 0, none⟩)), (12, .int .i64 ((k : Nat) : Int)), (13, .int .i64 pc), (14, .slice aor125 (List.length (takeF (shiftF (streamOf first seed) p) (clampN pc))) cor125), (16, .int .i64 0)] [.int .i64 0] 1 En154 (by kernel_rfl) (by kernel_rfl) rfl ?_
          intro ac155 En156
          refine from_end (by kernel_rfl) ?_
          refine then_normal ?_
          refine wp_block ?_
          refine loop_m (fun ms157 ac wo => ∃ (j2 : Nat) (lx : List UInt8), ms157 = (List.length (takeF (shiftF (streamOf first seed) p) (clampN pc)) - j2 : Nat) ∧ Env ac 86 [(2, .slice a2 (List.length pieces) cc2), (9, .pointer (some ⟨bqr30, 0, none⟩)), (10, .pointer (some ⟨bqr41, 0, none⟩)), (12, .int .i64 ((k : Nat) : Int)), (13, .int .i64 pc), (14, .slice aor125 (List.length (takeF (shiftF (streamOf first seed) p) (clampN pc))) cor125), (16, .int .i64 ((j2 : Nat) : Int))] ∧ Ev w [] wo [.box bqr41 [.slice xfq136 (List.length lfq136) cfq136, .int .u64 ((UInt64.toNat svq136 : Nat) : Int), .slice xlq136 (List.length llq136) clq136] 58, .vec xfq136 cfq136 1 (bys lfq136) 5, .vec xlq136 clq136 1 (bys llq136) 5, .vec aoq136 coq136 1 (bys (takeF (shiftF (streamOf first seed) p) (clampN pc))) 5, .box bqr30 [.slice avr125 (List.length lvr125) cvr125, .int .u64 ((UInt64.toNat svr125 : Nat) : Int)] 56, .vec avr125 cvr125 1 (bys lvr125) 5, .vec aor125 cor125 1 (bys lx) 5] ∧ (j2 ≤ List.length (takeF (shiftF (streamOf first seed) p) (clampN pc))) ∧ (List.length lx = List.length (takeF (shiftF (streamOf first seed) p) (clampN pc)))) ⟨_, 0, takeF (shiftF (streamOf first seed) p) (clampN pc), rfl, En156.sub (by kernel_rfl), Hv141.pick [0, 1, 2, 3, 4, 5, 6] (by kernel_rfl) (by decide), by omega, by first | rfl | simp⟩ ?_
          rintro mm163 ac159 wo160 ⟨j2, lx, rfl, En161, Hv162, hkj2, hllx⟩
          refine wp_seq ?_
          refine wp_seq ?_
          refine region_from ?_  -- region 22
          refine d_pures [(2, .slice a2 (List.length pieces) cc2), (9, .pointer (some ⟨bqr30, 0, none⟩)), (10, .pointer (some ⟨bqr41, 0, none⟩)), (12, .int .i64 ((k : Nat) : Int)), (13, .int .i64 pc), (14, .slice aor125 (List.length (takeF (shiftF (streamOf first seed) p) (clampN pc))) cor125), (16, .int .i64 ((j2 : Nat) : Int)), (77, .bool (decide (((j2 : Nat) : Int) < ((List.length (takeF (shiftF (streamOf first seed) p) (clampN pc)) : Nat) : Int))))] [.int .i64 ((j2 : Nat) : Int), .slice aor125 (List.length (takeF (shiftF (streamOf first seed) p) (clampN pc))) cor125, .int .i64 ((List.length (takeF (shiftF (streamOf first seed) p) (clampN pc)) : Nat) : Int), .bool (decide (((j2 : Nat) : Int) < ((List.length (takeF (shiftF (streamOf first seed) p) (clampN pc)) : Nat) : Int)))] 4 En161 (by kernel_rfl) (by kernel_rfl) rfl ?_
          intro ac164 En165
          refine from_end (by kernel_rfl) ?_
          refine then_normal ?_
          refine cond_at En165 (t := decide (((j2 : Nat) : Int) < ((List.length (takeF (shiftF (streamOf first seed) p) (clampN pc)) : Nat) : Int))) (by kernel_rfl) (fun hc166 => ?_) (fun hc166 => ?_)
          ·
            replace hc166 : ((j2 : Nat) : Int) < ((List.length (takeF (shiftF (streamOf first seed) p) (clampN pc)) : Nat) : Int) := by simpa using hc166
            refine wp_skip ?_
            refine then_normal ?_
            refine wp_seq ?_
            refine wp_block ?_
            refine region_from ?_  -- region 24
            refine d_pures [(2, .slice a2 (List.length pieces) cc2), (9, .pointer (some ⟨bqr30, 0, none⟩)), (10, .pointer (some ⟨bqr41, 0, none⟩)), (12, .int .i64 ((k : Nat) : Int)), (13, .int .i64 pc), (14, .slice aor125 (List.length (takeF (shiftF (streamOf first seed) p) (clampN pc))) cor125), (16, .int .i64 ((j2 : Nat) : Int)), (80, .slice aor125 (List.length (takeF (shiftF (streamOf first seed) p) (clampN pc))) cor125), (81, .int .i64 ((j2 : Nat) : Int))] [.slice aor125 (List.length (takeF (shiftF (streamOf first seed) p) (clampN pc))) cor125, .int .i64 ((j2 : Nat) : Int)] 2 En165 (by kernel_rfl) (by kernel_rfl) rfl ?_
            intro ac167 En168
            refine from_op (by kernel_rfl) ?_
            refine op_index (d := some 82) (t := 22) (e := 5) (sz := 1) (len := List.length (takeF (shiftF (streamOf first seed) p) (clampN pc))) (cap := cor125) (j := j2) (ao := aor125) (k := .i64) (ix := ((j2 : Nat) : Int)) En168 (by kernel_rfl) (fun e => by have h := (bys_vnz Hv162.heap (k := 6) rfl) e; first | omega | (simp at h; omega)) (by kernel_rfl) (by kernel_rfl) (by omega) (by omega) (jo := j2) (Nat.mul_one _) ?_
            intro ac171 adr169 had170 En172
            refine from_op (by kernel_rfl) ?_
            have hb173 : j2 < List.length lx := by omega
            refine op_loadel (d := some 83) (t := 5) (ad := adr169) (ao := aor125) (xs := bys lx) (j := j2) (v := .int .u8 ((UInt8.toNat ((lx)[j2]'hb173) : Nat) : Int)) En172 (by kernel_rfl) (Hv162.heap.reads (k := 6) rfl) had170 (bys_get hb173) (by kernel_rfl) ?_
            intro ac174 En175
            refine d_pures [(2, .slice a2 (List.length pieces) cc2), (9, .pointer (some ⟨bqr30, 0, none⟩)), (10, .pointer (some ⟨bqr41, 0, none⟩)), (12, .int .i64 ((k : Nat) : Int)), (13, .int .i64 pc), (14, .slice aor125 (List.length (takeF (shiftF (streamOf first seed) p) (clampN pc))) cor125), (16, .int .i64 ((j2 : Nat) : Int)), (80, .slice aor125 (List.length (takeF (shiftF (streamOf first seed) p) (clampN pc))) cor125), (81, .int .i64 ((j2 : Nat) : Int)), (84, .int .u8 (IntKind.wrap .u8 (((UInt8.toNat ((lx)[j2]'hb173) : Nat) : Int) + (1 : Int))))] [.int .u8 (IntKind.wrap .u8 (((UInt8.toNat ((lx)[j2]'hb173) : Nat) : Int) + (1 : Int)))] 5 En175 (by kernel_rfl) (by kernel_rfl) rfl ?_
            intro ac176 En177
            rw [Go.Dbr.u8_add (a := ((UInt8.toNat ((lx)[j2]'hb173) : Nat) : Int)) (b := (1 : Int)) (x := (lx)[j2]'hb173) (y := (1 : UInt8)) rfl rfl] at En177
            refine from_op (by kernel_rfl) ?_
            refine op_index (d := some 85) (t := 22) (e := 5) (sz := 1) (len := List.length (takeF (shiftF (streamOf first seed) p) (clampN pc))) (cap := cor125) (j := j2) (ao := aor125) (k := .i64) (ix := ((j2 : Nat) : Int)) En177 (by kernel_rfl) (fun e => by have h := (bys_vnz Hv162.heap (k := 6) rfl) e; first | omega | (simp at h; omega)) (by kernel_rfl) (by kernel_rfl) (by omega) (by omega) (jo := j2) (Nat.mul_one _) ?_
            intro ac180 adr178 had179 En181
            refine from_op (by kernel_rfl) ?_
            refine op_storeel (d := none) (t := 5) (ad := adr178) (ao := aor125) (k := 6) (cap := cor125) (sz := 1) (j := j2) (xs := bys lx) (v := bv (((lx)[j2]'hb173) + (1 : UInt8))) En181 (by kernel_rfl) Hv162 rfl had179 (by rw [bys_length]; omega) (by kernel_rfl) rfl ?_
            intro ac182 wo183  En184 Hv185
            rw [bys_set] at Hv185
            refine from_end (by kernel_rfl) ?_
            refine block_normal ?_
            refine then_normal ?_
            refine region_from ?_  -- region 23
            refine d_pures [(2, .slice a2 (List.length pieces) cc2), (9, .pointer (some ⟨bqr30, 0, none⟩)), (10, .pointer (some ⟨bqr41, 0, none⟩)), (12, .int .i64 ((k : Nat) : Int)), (13, .int .i64 pc), (14, .slice aor125 (List.length (takeF (shiftF (streamOf first seed) p) (clampN pc))) cor125), (16, .int .i64 ((j2 : Nat) : Int)), (79, .int .i64 (IntKind.wrap .i64 (((j2 : Nat) : Int) + (1 : Int))))] [.int .i64 ((j2 : Nat) : Int), .int .i64 (IntKind.wrap .i64 (((j2 : Nat) : Int) + (1 : Int)))] 2 En184 (by kernel_rfl) (by kernel_rfl) rfl ?_
            intro ac186 En187
            rw [Go.Dbr.wr64 (e := ((j2 : Nat) : Int) + (1 : Int)) (x := ((j2 + 1 : Nat) : Int)) (by omega) (by omega) (by omega)] at En187
            refine d_pures [(2, .slice a2 (List.length pieces) cc2), (9, .pointer (some ⟨bqr30, 0, none⟩)), (10, .pointer (some ⟨bqr41, 0, none⟩)), (12, .int .i64 ((k : Nat) : Int)), (13, .int .i64 pc), (14, .slice aor125 (List.length (takeF (shiftF (streamOf first seed) p) (clampN pc))) cor125), (16, .int .i64 ((j2 + 1 : Nat) : Int))] [.int .i64 ((j2 + 1 : Nat) : Int)] 3 En187 (by kernel_rfl) (by kernel_rfl) rfl ?_
            intro ac188 En189
            refine from_end (by kernel_rfl) ?_
            refine then_normal ?_
            refine ⟨_, ⟨j2 + 1, List.set lx j2 (((lx)[j2]'hb173) + (1 : UInt8)), rfl, En189.sub (by kernel_rfl), Hv185.pick [0, 1, 2, 3, 4, 5, 6] (by kernel_rfl) (by decide), by omega, by rw [List.length_set]; exact hllx⟩, ?_⟩
            omega
          ·
            replace hc166 : ¬ (((j2 : Nat) : Int) < ((List.length (takeF (shiftF (streamOf first seed) p) (clampN pc)) : Nat) : Int)) := by simpa using hc166
            refine wp_exit ?_
            refine then_exit ?_
            refine then_exit ?_
            refine block_exit ?_
            refine block_normal ?_
            refine then_normal ?_
            refine region_from ?_  -- region 13
            refine d_pures [(2, .slice a2 (List.length pieces) cc2), (9, .pointer (some ⟨bqr30, 0, none⟩)), (10, .pointer (some ⟨bqr41, 0, none⟩)), (12, .int .i64 ((k : Nat) : Int)), (13, .int .i64 pc), (14, .slice aor125 (List.length (takeF (shiftF (streamOf first seed) p) (clampN pc))) cor125), (16, .int .i64 ((j2 : Nat) : Int)), (54, .int .i64 (IntKind.wrap .i64 (((k : Nat) : Int) + (1 : Int))))] [.int .i64 ((k : Nat) : Int), .int .i64 (IntKind.wrap .i64 (((k : Nat) : Int) + (1 : Int)))] 2 En165 (by kernel_rfl) (by kernel_rfl) rfl ?_
            intro ac190 En191
            rw [Go.Dbr.wr64 (e := ((k : Nat) : Int) + (1 : Int)) (x := ((k + 1 : Nat) : Int)) (by omega) (by omega) (by omega)] at En191
            refine d_pures [(2, .slice a2 (List.length pieces) cc2), (9, .pointer (some ⟨bqr30, 0, none⟩)), (10, .pointer (some ⟨bqr41, 0, none⟩)), (12, .int .i64 ((k + 1 : Nat) : Int)), (13, .int .i64 pc), (14, .slice aor125 (List.length (takeF (shiftF (streamOf first seed) p) (clampN pc))) cor125), (16, .int .i64 ((j2 : Nat) : Int))] [.int .i64 ((k + 1 : Nat) : Int)] 3 En191 (by kernel_rfl) (by kernel_rfl) rfl ?_
            intro ac192 En193
            refine from_end (by kernel_rfl) ?_
            refine then_normal ?_
            rw [shiftF_plus] at hdr125 hdq136
            refine ⟨_, ⟨k + 1, p + clampN pc, lvr125, svr125, avr125, cvr125, lfq136, svq136, llq136, xfq136, cfq136, xlq136, clq136, rfl, En193.sub (by kernel_rfl), Hv162.pick [4, 5, 0, 1, 2] (by kernel_rfl) (by decide), by omega, hdr125, hdq136, hbr125, hb1q136, hb2q136⟩, ?_⟩
            omega
      ·
        replace hc102 : ¬ (((k : Nat) : Int) < (20 : Int)) := by simpa using hc102
        refine wp_exit ?_
        refine then_exit ?_
        refine then_exit ?_
        refine block_exit ?_
        refine then_normal ?_
        refine wp_seq ?_
        refine region_from ?_  -- region 25
        refine d_pures [(2, .slice a2 (List.length pieces) cc2), (6, .bool true), (9, .pointer (some ⟨bqr30, 0, none⟩)), (10, .pointer (some ⟨bqr41, 0, none⟩)), (12, .int .i64 ((k : Nat) : Int))] [.bool true] 1 En101 (by kernel_rfl) (by kernel_rfl) rfl ?_
        intro ac194 En195
        refine from_end (by kernel_rfl) ?_
        refine then_normal ?_
        refine wp_ret ?_
        refine d_ret1 (t := 6) (v := .bool true) En195 (by kernel_rfl) (by kernel_rfl) ?_
        exact ⟨rfl, Hv94.pick [] (by kernel_rfl) (by decide)⟩
    · rw [hb98] at En97
      have hp196 : ¬ (((k : Nat) : Int) < ((List.length pieces : Nat) : Int)) := by simpa using hb98
      refine d_pures [(2, .slice a2 (List.length pieces) cc2), (9, .pointer (some ⟨bqr30, 0, none⟩)), (10, .pointer (some ⟨bqr41, 0, none⟩)), (12, .int .i64 ((k : Nat) : Int)), (52, .bool false)] [undef, undef, .bool false] 8 En97 (by kernel_rfl) (by kernel_rfl) rfl ?_
      intro ac197 En198
      refine from_end (by kernel_rfl) ?_
      refine then_normal ?_
      refine cond_false En198 (t := false) (by kernel_rfl) rfl ?_
      refine wp_exit ?_
      refine then_exit ?_
      refine then_exit ?_
      refine block_exit ?_
      refine then_normal ?_
      refine wp_seq ?_
      refine region_from ?_  -- region 25
      refine d_pures [(2, .slice a2 (List.length pieces) cc2), (6, .bool true), (9, .pointer (some ⟨bqr30, 0, none⟩)), (10, .pointer (some ⟨bqr41, 0, none⟩)), (12, .int .i64 ((k : Nat) : Int))] [.bool true] 1 En198 (by kernel_rfl) (by kernel_rfl) rfl ?_
      intro ac199 En200
      refine from_end (by kernel_rfl) ?_
      refine then_normal ?_
      refine wp_ret ?_
      refine d_ret1 (t := 6) (v := .bool true) En200 (by kernel_rfl) (by kernel_rfl) ?_
      exact ⟨rfl, Hv94.pick [] (by kernel_rfl) (by decide)⟩

end Go.Proofs.Ytjocdckmgdonjaa
