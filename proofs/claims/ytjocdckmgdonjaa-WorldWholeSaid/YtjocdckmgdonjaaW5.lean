/- WorldWhole: its walk. -/
import Derived.Test.YtjocdckmgdonjaaW4
namespace Go.Proofs.Ytjocdckmgdonjaa
open Go.Dbr
set_option maxRecDepth 100000
theorem takeF_plus (f : Nat → UInt8) (p q : Nat) : takeF f p ++ takeF (shiftF f p) q = takeF f (p + q) := by
  induction q with
  | zero => simp [takeF]
  | succ q ih =>
    rw [takeF_succ, ← List.append_assoc, ih, ← Nat.add_assoc, takeF_succ]
    simp [shiftF, Nat.add_comm]
theorem take_takeF (f : Nat → UInt8) (p q : Nat) (h : p ≤ q) : (takeF f q).take p = takeF f p := by
  rw [show q = p + (q - p) by omega, ← takeF_plus]
  exact List.take_left' (takeF_len f p)
theorem clamp_nat (n : Nat) : clampN (n : Int) = if n < 65536 then n else 65536 := by
  unfold clampN
  split
  · omega
  · split <;> split <;> omega
theorem whole_le (f : Nat → UInt8) (n m : Nat) (hn : n < 65536) (hm : m < 65536) (h : (List.length (takeF f (clampN (n : Int)) ++ takeF (shiftF f (clampN (n : Int))) (clampN (m : Int))) : Int) ≤ 65536) :
    takeF f (clampN (n : Int)) ++ takeF (shiftF f (clampN (n : Int))) (clampN (m : Int)) = takeF f (clampN ((n + m : Nat) : Int)) := by
  rw [takeF_plus] at h ⊢
  rw [takeF_len] at h
  simp only [clamp_nat, if_pos hn, if_pos hm] at h ⊢
  congr 1
  split <;> omega
theorem whole_gt (f : Nat → UInt8) (n m : Nat) (hn : n < 65536) (hm : m < 65536) (h : ¬ (List.length (takeF f (clampN (n : Int)) ++ takeF (shiftF f (clampN (n : Int))) (clampN (m : Int))) : Int) ≤ 65536) :
    List.take 65536 (takeF f (clampN (n : Int)) ++ takeF (shiftF f (clampN (n : Int))) (clampN (m : Int))) = takeF f (clampN ((n + m : Nat) : Int)) ∧ List.length (takeF f (clampN ((n + m : Nat) : Int))) = 65536 := by
  rw [takeF_plus] at h ⊢
  rw [takeF_len] at h
  simp only [clamp_nat, if_pos hn, if_pos hm, takeF_len] at h ⊢
  have h2 : ¬ n + m < 65536 := by omega
  rw [if_neg h2]
  exact ⟨take_takeF f 65536 (n + m) (by omega), rfl⟩
theorem len_long (f : Nat → UInt8) : ((List.length (takeF f (clampN (65537 : Int))) : Nat) : Int) = 65536 := by rw [takeF_len]; rfl

theorem whole_walk (a0 : Option Addr) (c0 : Nat) (first : List UInt8) (seed : UInt64) (n m : UInt16) (w : World) (hi : InB w [] a0 c0 first) : Calls Try.prog 4 #[.slice a0 (List.length first) c0, .int .u64 ((UInt64.toNat seed : Nat) : Int), .int .u16 ((UInt16.toNat n : Nat) : Int), .int .u16 ((UInt16.toNat m : Nat) : Int)] w fun e w' => e = .returned (.bool true) ∧ Ev w [] w' [] := by
  have hs := hi.small
  have hn1 := n.toNat_lt
  have hm1 := m.toNat_lt
  refine d_start [(0, .slice a0 (List.length first) c0), (1, .int .u64 ((UInt64.toNat seed : Nat) : Int)), (2, .int .u16 ((UInt16.toNat n : Nat) : Int)), (3, .int .u16 ((UInt16.toNat m : Nat) : Int))] 79 Go.Proofs.Try.func4 Go.Proofs.Try.ntmps4 rfl (by kernel_rfl) (by kernel_rfl) ?_
  intro act0 En0
  have Hv0 : Ev w [] w [] := Ev.refl (Heap.nil _)
  refine wp_seq ?_
  refine region_from ?_  -- region 0
  refine d_pures [(0, .slice a0 (List.length first) c0), (1, .int .u64 ((UInt64.toNat seed : Nat) : Int)), (2, .int .u16 ((UInt16.toNat n : Nat) : Int)), (3, .int .u16 ((UInt16.toNat m : Nat) : Int)), (8, .bool false)] [.bool false] 1 En0 (by kernel_rfl) (by kernel_rfl) rfl ?_
  intro ac1 En2
  refine from_end (by kernel_rfl) ?_
  refine then_normal ?_
  refine wp_seq ?_
  refine region_from ?_  -- region 1
  refine from_op (by kernel_rfl) ?_
  have hM3 : Heap w [] := Hv0.heap.pick [] (by kernel_rfl) (by decide)
  refine op_call (d := some 15) (f := 7) (args := #[]) En2 (by kernel_rfl) ((head_ok _).mono ?_)
  rintro _ wo5 ⟨rfl, he8⟩
  refine ⟨_, rfl, ?_⟩
  intro ac4 En6
  have Hv7 : Ev w [] wo5 [] := Hv0.trans (Ev.call (R := []) Hv0.heap [] (by kernel_rfl) (by decide) he8)
  clear hM3 he8
  refine d_pures [(0, .slice a0 (List.length first) c0), (1, .int .u64 ((UInt64.toNat seed : Nat) : Int)), (2, .int .u16 ((UInt16.toNat n : Nat) : Int)), (3, .int .u16 ((UInt16.toNat m : Nat) : Int)), (8, .bool false), (9, .bool true)] [.bool true] 2 En6 (by kernel_rfl) (by kernel_rfl) rfl ?_
  intro ac9 En10
  refine from_end (by kernel_rfl) ?_
  refine then_normal ?_
  refine wp_seq ?_
  refine region_from ?_  -- region 2
  refine d_pures [(0, .slice a0 (List.length first) c0), (1, .int .u64 ((UInt64.toNat seed : Nat) : Int)), (2, .int .u16 ((UInt16.toNat n : Nat) : Int)), (3, .int .u16 ((UInt16.toNat m : Nat) : Int)), (8, .bool false), (9, .bool true), (16, .slice a0 (List.length first) c0), (17, .int .u64 ((UInt64.toNat seed : Nat) : Int))] [.slice a0 (List.length first) c0, .int .u64 ((UInt64.toNat seed : Nat) : Int)] 2 En10 (by kernel_rfl) (by kernel_rfl) rfl ?_
  intro ac11 En12
  refine from_op (by kernel_rfl) ?_
  have hM14 : Heap wo5 [] := Hv7.heap.pick [] (by kernel_rfl) (by decide)
  refine op_call (d := some 18) (f := 8) (args := #[.slice a0 (List.length first) c0, .int .u64 ((UInt64.toNat seed : Nat) : Int)]) En12 (by kernel_rfl) ((newrand_prog a0 c0 first seed _ ((hi.ev Hv7).pick [] (by kernel_rfl))).mono ?_)
  rintro _ wo16 ⟨aor13, cor13, bqr13, rfl, he19⟩
  refine ⟨_, rfl, ?_⟩
  intro ac15 En17
  have Hv18 : Ev w [] wo16 [.vec aor13 cor13 1 (bys first) 5, .box bqr13 [.slice aor13 (List.length first) cor13, .int .u64 ((UInt64.toNat seed : Nat) : Int)] 56] := Hv7.trans (Ev.call (R := []) Hv7.heap [] (by kernel_rfl) (by decide) he19)
  clear hM14 he19
  refine d_pures [(0, .slice a0 (List.length first) c0), (1, .int .u64 ((UInt64.toNat seed : Nat) : Int)), (2, .int .u16 ((UInt16.toNat n : Nat) : Int)), (3, .int .u16 ((UInt16.toNat m : Nat) : Int)), (8, .bool false), (9, .bool true), (10, .pointer (some ⟨bqr13, 0, none⟩))] [.pointer (some ⟨bqr13, 0, none⟩)] 4 En17 (by kernel_rfl) (by kernel_rfl) rfl ?_
  intro ac20 En21
  refine from_end (by kernel_rfl) ?_
  refine then_normal ?_
  refine wp_seq ?_
  refine region_from ?_  -- region 3
  refine d_pures [(0, .slice a0 (List.length first) c0), (1, .int .u64 ((UInt64.toNat seed : Nat) : Int)), (2, .int .u16 ((UInt16.toNat n : Nat) : Int)), (3, .int .u16 ((UInt16.toNat m : Nat) : Int)), (8, .bool false), (9, .bool true), (10, .pointer (some ⟨bqr13, 0, none⟩)), (19, .slice a0 (List.length first) c0), (20, .int .u64 ((UInt64.toNat seed : Nat) : Int))] [.slice a0 (List.length first) c0, .int .u64 ((UInt64.toNat seed : Nat) : Int)] 2 En21 (by kernel_rfl) (by kernel_rfl) rfl ?_
  intro ac22 En23
  refine from_op (by kernel_rfl) ?_
  have hM25 : Heap wo16 [] := Hv18.heap.pick [] (by kernel_rfl) (by decide)
  refine op_call (d := some 21) (f := 8) (args := #[.slice a0 (List.length first) c0, .int .u64 ((UInt64.toNat seed : Nat) : Int)]) En23 (by kernel_rfl) ((newrand_prog a0 c0 first seed _ ((hi.ev Hv18).pick [] (by kernel_rfl))).mono ?_)
  rintro _ wo27 ⟨aor24, cor24, bqr24, rfl, he30⟩
  refine ⟨_, rfl, ?_⟩
  intro ac26 En28
  have Hv29 : Ev w [] wo27 [.vec aor24 cor24 1 (bys first) 5, .box bqr24 [.slice aor24 (List.length first) cor24, .int .u64 ((UInt64.toNat seed : Nat) : Int)] 56, .vec aor13 cor13 1 (bys first) 5, .box bqr13 [.slice aor13 (List.length first) cor13, .int .u64 ((UInt64.toNat seed : Nat) : Int)] 56] := Hv18.trans (Ev.call (R := [.vec aor13 cor13 1 (bys first) 5, .box bqr13 [.slice aor13 (List.length first) cor13, .int .u64 ((UInt64.toNat seed : Nat) : Int)] 56]) Hv18.heap [0, 1] (by kernel_rfl) (by decide) he30)
  clear hM25 he30
  refine d_pures [(0, .slice a0 (List.length first) c0), (1, .int .u64 ((UInt64.toNat seed : Nat) : Int)), (2, .int .u16 ((UInt16.toNat n : Nat) : Int)), (3, .int .u16 ((UInt16.toNat m : Nat) : Int)), (8, .bool false), (9, .bool true), (10, .pointer (some ⟨bqr13, 0, none⟩)), (11, .pointer (some ⟨bqr24, 0, none⟩))] [.pointer (some ⟨bqr24, 0, none⟩)] 4 En28 (by kernel_rfl) (by kernel_rfl) rfl ?_
  intro ac31 En32
  refine from_end (by kernel_rfl) ?_
  refine then_normal ?_
  refine wp_seq ?_
  refine wp_seq ?_
  refine region_from ?_  -- region 4
  refine d_pures [(0, .slice a0 (List.length first) c0), (1, .int .u64 ((UInt64.toNat seed : Nat) : Int)), (2, .int .u16 ((UInt16.toNat n : Nat) : Int)), (3, .int .u16 ((UInt16.toNat m : Nat) : Int)), (8, .bool false), (10, .pointer (some ⟨bqr13, 0, none⟩)), (11, .pointer (some ⟨bqr24, 0, none⟩)), (31, .bool false)] [.bool true, .bool false, .bool false, .pointer (some ⟨bqr13, 0, none⟩), .bool false, .bool false, .bool false, .pointer (some ⟨bqr24, 0, none⟩), .bool false, .bool false] 10 En32 (by kernel_rfl) (by kernel_rfl) rfl ?_
  intro ac33 En34
  refine from_end (by kernel_rfl) ?_
  refine then_normal ?_
  refine cond_false En34 (t := false) (by kernel_rfl) rfl ?_
  refine wp_skip ?_
  refine then_normal ?_
  refine wp_seq ?_
  refine region_from ?_  -- region 6
  refine d_pures [(0, .slice a0 (List.length first) c0), (1, .int .u64 ((UInt64.toNat seed : Nat) : Int)), (2, .int .u16 ((UInt16.toNat n : Nat) : Int)), (3, .int .u16 ((UInt16.toNat m : Nat) : Int)), (8, .bool false), (10, .pointer (some ⟨bqr13, 0, none⟩)), (11, .pointer (some ⟨bqr24, 0, none⟩)), (32, .pointer (some ⟨bqr13, 0, none⟩)), (34, .int .i64 (IntKind.wrap .i64 ((UInt16.toNat n : Nat) : Int)))] [.pointer (some ⟨bqr13, 0, none⟩), .int .u16 ((UInt16.toNat n : Nat) : Int), .int .i64 (IntKind.wrap .i64 ((UInt16.toNat n : Nat) : Int))] 3 En34 (by kernel_rfl) (by kernel_rfl) rfl ?_
  intro ac35 En36
  rw [Go.Dbr.u16_to_i64 (a := ((UInt16.toNat n : Nat) : Int)) (x := n) rfl] at En36
  refine from_op (by kernel_rfl) ?_
  have hM38 : Heap wo27 [.box bqr13 [.slice aor13 (List.length first) cor13, .int .u64 ((UInt64.toNat seed : Nat) : Int)] 56, .vec aor13 cor13 1 (bys first) 5] := Hv29.heap.pick [3, 2] (by kernel_rfl) (by decide)
  refine op_call (d := some 35) (f := 10) (args := #[.pointer (some ⟨bqr13, 0, none⟩), .int .i64 ((UInt16.toNat n : Nat) : Int)]) En36 (by kernel_rfl) ((read_prog bqr13 ((UInt16.toNat n : Nat) : Int) first seed aor13 cor13 (streamOf first seed) _ (den_streamOf first seed) hs hM38).mono ?_)
  rintro _ wo40 ⟨lvr37, svr37, avr37, cvr37, aor37, cor37, rfl, he43, hdr37, hbr37⟩
  refine ⟨_, rfl, ?_⟩
  intro ac39 En41
  have Hv42 : Ev w [] wo40 [.box bqr13 [.slice avr37 (List.length lvr37) cvr37, .int .u64 ((UInt64.toNat svr37 : Nat) : Int)] 56, .vec avr37 cvr37 1 (bys lvr37) 5, .vec aor37 cor37 1 (bys (takeF (streamOf first seed) (clampN ((UInt16.toNat n : Nat) : Int)))) 5, .vec aor24 cor24 1 (bys first) 5, .box bqr24 [.slice aor24 (List.length first) cor24, .int .u64 ((UInt64.toNat seed : Nat) : Int)] 56] := Hv29.trans (Ev.call (R := [.vec aor24 cor24 1 (bys first) 5, .box bqr24 [.slice aor24 (List.length first) cor24, .int .u64 ((UInt64.toNat seed : Nat) : Int)] 56]) Hv29.heap [3, 2, 0, 1] (by kernel_rfl) (by decide) he43)
  clear hM38 he43
  have htr37 : List.length (takeF (streamOf first seed) (clampN ((UInt16.toNat n : Nat) : Int))) ≤ 65536 := by rw [takeF_len]; exact clamp_le _
  refine d_pures [(0, .slice a0 (List.length first) c0), (1, .int .u64 ((UInt64.toNat seed : Nat) : Int)), (2, .int .u16 ((UInt16.toNat n : Nat) : Int)), (3, .int .u16 ((UInt16.toNat m : Nat) : Int)), (8, .bool false), (10, .pointer (some ⟨bqr13, 0, none⟩)), (11, .pointer (some ⟨bqr24, 0, none⟩)), (35, .slice aor37 (List.length (takeF (streamOf first seed) (clampN ((UInt16.toNat n : Nat) : Int)))) cor37), (36, .pointer (some ⟨bqr13, 0, none⟩)), (38, .int .i64 (IntKind.wrap .i64 ((UInt16.toNat m : Nat) : Int)))] [.pointer (some ⟨bqr13, 0, none⟩), .int .u16 ((UInt16.toNat m : Nat) : Int), .int .i64 (IntKind.wrap .i64 ((UInt16.toNat m : Nat) : Int))] 7 En41 (by kernel_rfl) (by kernel_rfl) rfl ?_
  intro ac44 En45
  rw [Go.Dbr.u16_to_i64 (a := ((UInt16.toNat m : Nat) : Int)) (x := m) rfl] at En45
  refine from_op (by kernel_rfl) ?_
  have hM47 : Heap wo40 [.box bqr13 [.slice avr37 (List.length lvr37) cvr37, .int .u64 ((UInt64.toNat svr37 : Nat) : Int)] 56, .vec avr37 cvr37 1 (bys lvr37) 5] := Hv42.heap.pick [0, 1] (by kernel_rfl) (by decide)
  refine op_call (d := some 39) (f := 10) (args := #[.pointer (some ⟨bqr13, 0, none⟩), .int .i64 ((UInt16.toNat m : Nat) : Int)]) En45 (by kernel_rfl) ((read_prog bqr13 ((UInt16.toNat m : Nat) : Int) lvr37 svr37 avr37 cvr37 (shiftF (streamOf first seed) (clampN ((UInt16.toNat n : Nat) : Int))) _ hdr37 hbr37 hM47).mono ?_)
  rintro _ wo49 ⟨lvr46, svr46, avr46, cvr46, aor46, cor46, rfl, he52, hdr46, hbr46⟩
  refine ⟨_, rfl, ?_⟩
  intro ac48 En50
  have Hv51 : Ev w [] wo49 [.box bqr13 [.slice avr46 (List.length lvr46) cvr46, .int .u64 ((UInt64.toNat svr46 : Nat) : Int)] 56, .vec avr46 cvr46 1 (bys lvr46) 5, .vec aor46 cor46 1 (bys (takeF (shiftF (streamOf first seed) (clampN ((UInt16.toNat n : Nat) : Int))) (clampN ((UInt16.toNat m : Nat) : Int)))) 5, .vec aor37 cor37 1 (bys (takeF (streamOf first seed) (clampN ((UInt16.toNat n : Nat) : Int)))) 5, .vec aor24 cor24 1 (bys first) 5, .box bqr24 [.slice aor24 (List.length first) cor24, .int .u64 ((UInt64.toNat seed : Nat) : Int)] 56] := Hv42.trans (Ev.call (R := [.vec aor37 cor37 1 (bys (takeF (streamOf first seed) (clampN ((UInt16.toNat n : Nat) : Int)))) 5, .vec aor24 cor24 1 (bys first) 5, .box bqr24 [.slice aor24 (List.length first) cor24, .int .u64 ((UInt64.toNat seed : Nat) : Int)] 56]) Hv42.heap [0, 1, 2, 3, 4] (by kernel_rfl) (by decide) he52)
  clear hM47 he52
  have htr46 : List.length (takeF (shiftF (streamOf first seed) (clampN ((UInt16.toNat n : Nat) : Int))) (clampN ((UInt16.toNat m : Nat) : Int))) ≤ 65536 := by rw [takeF_len]; exact clamp_le _
  refine from_op (by kernel_rfl) ?_
  refine op_append (d := some 40) (t := 22) (tx := 22) (ty := 22) (T := 5) (k := 3) (ao := aor37) (cap := cor37) (sz := 1) (p := List.length (takeF (streamOf first seed) (clampN ((UInt16.toNat n : Nat) : Int)))) (m := List.length (takeF (shiftF (streamOf first seed) (clampN ((UInt16.toNat n : Nat) : Int))) (clampN ((UInt16.toNat m : Nat) : Int)))) (xs := bys (takeF (streamOf first seed) (clampN ((UInt16.toNat n : Nat) : Int)))) (ys := bys (takeF (shiftF (streamOf first seed) (clampN ((UInt16.toNat n : Nat) : Int))) (clampN ((UInt16.toNat m : Nat) : Int)))) (x := .slice aor46 (List.length (takeF (shiftF (streamOf first seed) (clampN ((UInt16.toNat n : Nat) : Int))) (clampN ((UInt16.toNat m : Nat) : Int)))) cor46) (bytes := 1) En50 (by kernel_rfl) Hv51 rfl (bys_len _) (Reads.src (size := 1) (tx := 22) (e' := 5) (by kernel_rfl) (Hv51.heap.reads (k := 2) rfl) (bys_len _) (bys_vnz Hv51.heap (k := 2) rfl) (bys_one _)) (by kernel_rfl) (z := .int .u8 0) (by kernel_rfl) rfl (by decide) (by omega) (by unfold maxLen; omega) ?_
  intro ac57 wo58 ao53 cp54 En59 Hv60 _ _
  rw [← bys_append] at Hv60
  have ehz55 : (List.length (takeF (streamOf first seed) (clampN ((UInt16.toNat n : Nat) : Int)))) + List.length (takeF (shiftF (streamOf first seed) (clampN ((UInt16.toNat n : Nat) : Int))) (clampN ((UInt16.toNat m : Nat) : Int))) = List.length ((takeF (streamOf first seed) (clampN ((UInt16.toNat n : Nat) : Int))) ++ (takeF (shiftF (streamOf first seed) (clampN ((UInt16.toNat n : Nat) : Int))) (clampN ((UInt16.toNat m : Nat) : Int)))) := (by first | (simp; done) | (simp; omega) | omega)
  rw [ehz55] at En59
  refine d_pures [(0, .slice a0 (List.length first) c0), (1, .int .u64 ((UInt64.toNat seed : Nat) : Int)), (2, .int .u16 ((UInt16.toNat n : Nat) : Int)), (3, .int .u16 ((UInt16.toNat m : Nat) : Int)), (8, .bool false), (10, .pointer (some ⟨bqr13, 0, none⟩)), (11, .pointer (some ⟨bqr24, 0, none⟩)), (12, .slice ao53 (List.length ((takeF (streamOf first seed) (clampN ((UInt16.toNat n : Nat) : Int))) ++ (takeF (shiftF (streamOf first seed) (clampN ((UInt16.toNat n : Nat) : Int))) (clampN ((UInt16.toNat m : Nat) : Int))))) cp54)] [.slice ao53 (List.length ((takeF (streamOf first seed) (clampN ((UInt16.toNat n : Nat) : Int))) ++ (takeF (shiftF (streamOf first seed) (clampN ((UInt16.toNat n : Nat) : Int))) (clampN ((UInt16.toNat m : Nat) : Int))))) cp54] 10 En59 (by kernel_rfl) (by kernel_rfl) rfl ?_
  intro ac61 En62
  refine from_end (by kernel_rfl) ?_
  refine then_normal ?_
  refine wp_seq ?_
  refine region_from ?_  -- region 7
  refine d_pures [(0, .slice a0 (List.length first) c0), (1, .int .u64 ((UInt64.toNat seed : Nat) : Int)), (2, .int .u16 ((UInt16.toNat n : Nat) : Int)), (3, .int .u16 ((UInt16.toNat m : Nat) : Int)), (8, .bool false), (10, .pointer (some ⟨bqr13, 0, none⟩)), (11, .pointer (some ⟨bqr24, 0, none⟩)), (12, .slice ao53 (List.length ((takeF (streamOf first seed) (clampN ((UInt16.toNat n : Nat) : Int))) ++ (takeF (shiftF (streamOf first seed) (clampN ((UInt16.toNat n : Nat) : Int))) (clampN ((UInt16.toNat m : Nat) : Int))))) cp54), (41, .pointer (some ⟨bqr24, 0, none⟩)), (43, .int .i64 (IntKind.wrap .i64 ((UInt16.toNat n : Nat) : Int)))] [.pointer (some ⟨bqr24, 0, none⟩), .int .u16 ((UInt16.toNat n : Nat) : Int), .int .i64 (IntKind.wrap .i64 ((UInt16.toNat n : Nat) : Int))] 3 En62 (by kernel_rfl) (by kernel_rfl) rfl ?_
  intro ac63 En64
  rw [Go.Dbr.u16_to_i64 (a := ((UInt16.toNat n : Nat) : Int)) (x := n) rfl] at En64
  refine d_pures [(0, .slice a0 (List.length first) c0), (1, .int .u64 ((UInt64.toNat seed : Nat) : Int)), (2, .int .u16 ((UInt16.toNat n : Nat) : Int)), (3, .int .u16 ((UInt16.toNat m : Nat) : Int)), (8, .bool false), (10, .pointer (some ⟨bqr13, 0, none⟩)), (11, .pointer (some ⟨bqr24, 0, none⟩)), (12, .slice ao53 (List.length ((takeF (streamOf first seed) (clampN ((UInt16.toNat n : Nat) : Int))) ++ (takeF (shiftF (streamOf first seed) (clampN ((UInt16.toNat n : Nat) : Int))) (clampN ((UInt16.toNat m : Nat) : Int))))) cp54), (41, .pointer (some ⟨bqr24, 0, none⟩)), (43, .int .i64 ((UInt16.toNat n : Nat) : Int)), (45, .int .i64 (IntKind.wrap .i64 ((UInt16.toNat m : Nat) : Int)))] [.int .u16 ((UInt16.toNat m : Nat) : Int), .int .i64 (IntKind.wrap .i64 ((UInt16.toNat m : Nat) : Int))] 5 En64 (by kernel_rfl) (by kernel_rfl) rfl ?_
  intro ac65 En66
  rw [Go.Dbr.u16_to_i64 (a := ((UInt16.toNat m : Nat) : Int)) (x := m) rfl] at En66
  refine d_pures [(0, .slice a0 (List.length first) c0), (1, .int .u64 ((UInt64.toNat seed : Nat) : Int)), (2, .int .u16 ((UInt16.toNat n : Nat) : Int)), (3, .int .u16 ((UInt16.toNat m : Nat) : Int)), (8, .bool false), (10, .pointer (some ⟨bqr13, 0, none⟩)), (11, .pointer (some ⟨bqr24, 0, none⟩)), (12, .slice ao53 (List.length ((takeF (streamOf first seed) (clampN ((UInt16.toNat n : Nat) : Int))) ++ (takeF (shiftF (streamOf first seed) (clampN ((UInt16.toNat n : Nat) : Int))) (clampN ((UInt16.toNat m : Nat) : Int))))) cp54), (41, .pointer (some ⟨bqr24, 0, none⟩)), (46, .int .i64 (IntKind.wrap .i64 (((UInt16.toNat n : Nat) : Int) + ((UInt16.toNat m : Nat) : Int))))] [.int .i64 (IntKind.wrap .i64 (((UInt16.toNat n : Nat) : Int) + ((UInt16.toNat m : Nat) : Int)))] 6 En66 (by kernel_rfl) (by kernel_rfl) rfl ?_
  intro ac67 En68
  rw [Go.Dbr.wr64 (e := ((UInt16.toNat n : Nat) : Int) + ((UInt16.toNat m : Nat) : Int)) (x := (((UInt16.toNat n) + (UInt16.toNat m) : Nat) : Int)) (by omega) (by omega) (by omega)] at En68
  refine from_op (by kernel_rfl) ?_
  have hM70 : Heap wo58 [.box bqr24 [.slice aor24 (List.length first) cor24, .int .u64 ((UInt64.toNat seed : Nat) : Int)] 56, .vec aor24 cor24 1 (bys first) 5] := Hv60.heap.pick [5, 4] (by kernel_rfl) (by decide)
  refine op_call (d := some 47) (f := 10) (args := #[.pointer (some ⟨bqr24, 0, none⟩), .int .i64 (((UInt16.toNat n) + (UInt16.toNat m) : Nat) : Int)]) En68 (by kernel_rfl) ((read_prog bqr24 (((UInt16.toNat n) + (UInt16.toNat m) : Nat) : Int) first seed aor24 cor24 (streamOf first seed) _ (den_streamOf first seed) hs hM70).mono ?_)
  rintro _ wo72 ⟨lvr69, svr69, avr69, cvr69, aor69, cor69, rfl, he75, hdr69, hbr69⟩
  refine ⟨_, rfl, ?_⟩
  intro ac71 En73
  have Hv74 : Ev w [] wo72 [.box bqr24 [.slice avr69 (List.length lvr69) cvr69, .int .u64 ((UInt64.toNat svr69 : Nat) : Int)] 56, .vec avr69 cvr69 1 (bys lvr69) 5, .vec aor69 cor69 1 (bys (takeF (streamOf first seed) (clampN (((UInt16.toNat n) + (UInt16.toNat m) : Nat) : Int)))) 5, .box bqr13 [.slice avr46 (List.length lvr46) cvr46, .int .u64 ((UInt64.toNat svr46 : Nat) : Int)] 56, .vec avr46 cvr46 1 (bys lvr46) 5, .vec aor46 cor46 1 (bys (takeF (shiftF (streamOf first seed) (clampN ((UInt16.toNat n : Nat) : Int))) (clampN ((UInt16.toNat m : Nat) : Int)))) 5, .vec ao53 cp54 1 (bys ((takeF (streamOf first seed) (clampN ((UInt16.toNat n : Nat) : Int))) ++ (takeF (shiftF (streamOf first seed) (clampN ((UInt16.toNat n : Nat) : Int))) (clampN ((UInt16.toNat m : Nat) : Int))))) 5] := Hv60.trans (Ev.call (R := [.box bqr13 [.slice avr46 (List.length lvr46) cvr46, .int .u64 ((UInt64.toNat svr46 : Nat) : Int)] 56, .vec avr46 cvr46 1 (bys lvr46) 5, .vec aor46 cor46 1 (bys (takeF (shiftF (streamOf first seed) (clampN ((UInt16.toNat n : Nat) : Int))) (clampN ((UInt16.toNat m : Nat) : Int)))) 5, .vec ao53 cp54 1 (bys ((takeF (streamOf first seed) (clampN ((UInt16.toNat n : Nat) : Int))) ++ (takeF (shiftF (streamOf first seed) (clampN ((UInt16.toNat n : Nat) : Int))) (clampN ((UInt16.toNat m : Nat) : Int))))) 5]) Hv60.heap [5, 4, 0, 1, 2, 3] (by kernel_rfl) (by decide) he75)
  clear hM70 he75
  have htr69 : List.length (takeF (streamOf first seed) (clampN (((UInt16.toNat n) + (UInt16.toNat m) : Nat) : Int))) ≤ 65536 := by rw [takeF_len]; exact clamp_le _
  refine d_pures [(0, .slice a0 (List.length first) c0), (1, .int .u64 ((UInt64.toNat seed : Nat) : Int)), (2, .int .u16 ((UInt16.toNat n : Nat) : Int)), (3, .int .u16 ((UInt16.toNat m : Nat) : Int)), (8, .bool false), (10, .pointer (some ⟨bqr13, 0, none⟩)), (11, .pointer (some ⟨bqr24, 0, none⟩)), (12, .slice ao53 (List.length ((takeF (streamOf first seed) (clampN ((UInt16.toNat n : Nat) : Int))) ++ (takeF (shiftF (streamOf first seed) (clampN ((UInt16.toNat n : Nat) : Int))) (clampN ((UInt16.toNat m : Nat) : Int))))) cp54), (13, .slice aor69 (List.length (takeF (streamOf first seed) (clampN (((UInt16.toNat n) + (UInt16.toNat m) : Nat) : Int)))) cor69)] [.slice aor69 (List.length (takeF (streamOf first seed) (clampN (((UInt16.toNat n) + (UInt16.toNat m) : Nat) : Int)))) cor69] 8 En73 (by kernel_rfl) (by kernel_rfl) rfl ?_
  intro ac76 En77
  refine from_end (by kernel_rfl) ?_
  refine then_normal ?_
  refine wp_seq ?_
  refine region_from ?_  -- region 8
  refine d_pures [(0, .slice a0 (List.length first) c0), (1, .int .u64 ((UInt64.toNat seed : Nat) : Int)), (2, .int .u16 ((UInt16.toNat n : Nat) : Int)), (3, .int .u16 ((UInt16.toNat m : Nat) : Int)), (8, .bool false), (10, .pointer (some ⟨bqr13, 0, none⟩)), (11, .pointer (some ⟨bqr24, 0, none⟩)), (12, .slice ao53 (List.length ((takeF (streamOf first seed) (clampN ((UInt16.toNat n : Nat) : Int))) ++ (takeF (shiftF (streamOf first seed) (clampN ((UInt16.toNat n : Nat) : Int))) (clampN ((UInt16.toNat m : Nat) : Int))))) cp54), (13, .slice aor69 (List.length (takeF (streamOf first seed) (clampN (((UInt16.toNat n) + (UInt16.toNat m) : Nat) : Int)))) cor69), (48, .slice a0 (List.length first) c0), (49, .int .u64 ((UInt64.toNat seed : Nat) : Int))] [.slice a0 (List.length first) c0, .int .u64 ((UInt64.toNat seed : Nat) : Int)] 2 En77 (by kernel_rfl) (by kernel_rfl) rfl ?_
  intro ac78 En79
  refine from_op (by kernel_rfl) ?_
  have hM81 : Heap wo72 [] := Hv74.heap.pick [] (by kernel_rfl) (by decide)
  refine op_call (d := some 50) (f := 8) (args := #[.slice a0 (List.length first) c0, .int .u64 ((UInt64.toNat seed : Nat) : Int)]) En79 (by kernel_rfl) ((newrand_prog a0 c0 first seed _ ((hi.ev Hv74).pick [] (by kernel_rfl))).mono ?_)
  rintro _ wo83 ⟨aor80, cor80, bqr80, rfl, he86⟩
  refine ⟨_, rfl, ?_⟩
  intro ac82 En84
  have Hv85 : Ev w [] wo83 [.vec aor80 cor80 1 (bys first) 5, .box bqr80 [.slice aor80 (List.length first) cor80, .int .u64 ((UInt64.toNat seed : Nat) : Int)] 56, .box bqr24 [.slice avr69 (List.length lvr69) cvr69, .int .u64 ((UInt64.toNat svr69 : Nat) : Int)] 56, .vec avr69 cvr69 1 (bys lvr69) 5, .vec aor69 cor69 1 (bys (takeF (streamOf first seed) (clampN (((UInt16.toNat n) + (UInt16.toNat m) : Nat) : Int)))) 5, .box bqr13 [.slice avr46 (List.length lvr46) cvr46, .int .u64 ((UInt64.toNat svr46 : Nat) : Int)] 56, .vec avr46 cvr46 1 (bys lvr46) 5, .vec aor46 cor46 1 (bys (takeF (shiftF (streamOf first seed) (clampN ((UInt16.toNat n : Nat) : Int))) (clampN ((UInt16.toNat m : Nat) : Int)))) 5, .vec ao53 cp54 1 (bys ((takeF (streamOf first seed) (clampN ((UInt16.toNat n : Nat) : Int))) ++ (takeF (shiftF (streamOf first seed) (clampN ((UInt16.toNat n : Nat) : Int))) (clampN ((UInt16.toNat m : Nat) : Int))))) 5] := Hv74.trans (Ev.call (R := [.box bqr24 [.slice avr69 (List.length lvr69) cvr69, .int .u64 ((UInt64.toNat svr69 : Nat) : Int)] 56, .vec avr69 cvr69 1 (bys lvr69) 5, .vec aor69 cor69 1 (bys (takeF (streamOf first seed) (clampN (((UInt16.toNat n) + (UInt16.toNat m) : Nat) : Int)))) 5, .box bqr13 [.slice avr46 (List.length lvr46) cvr46, .int .u64 ((UInt64.toNat svr46 : Nat) : Int)] 56, .vec avr46 cvr46 1 (bys lvr46) 5, .vec aor46 cor46 1 (bys (takeF (shiftF (streamOf first seed) (clampN ((UInt16.toNat n : Nat) : Int))) (clampN ((UInt16.toNat m : Nat) : Int)))) 5, .vec ao53 cp54 1 (bys ((takeF (streamOf first seed) (clampN ((UInt16.toNat n : Nat) : Int))) ++ (takeF (shiftF (streamOf first seed) (clampN ((UInt16.toNat n : Nat) : Int))) (clampN ((UInt16.toNat m : Nat) : Int))))) 5]) Hv74.heap [0, 1, 2, 3, 4, 5, 6] (by kernel_rfl) (by decide) he86)
  clear hM81 he86
  refine from_op (by kernel_rfl) ?_
  have hM88 : Heap wo83 [.box bqr80 [.slice aor80 (List.length first) cor80, .int .u64 ((UInt64.toNat seed : Nat) : Int)] 56, .vec aor80 cor80 1 (bys first) 5] := Hv85.heap.pick [1, 0] (by kernel_rfl) (by decide)
  refine op_call (d := some 51) (f := 10) (args := #[.pointer (some ⟨bqr80, 0, none⟩), .int .i64 65537]) En84 (by kernel_rfl) ((read_prog bqr80 (65537 : Int) first seed aor80 cor80 (streamOf first seed) _ (den_streamOf first seed) hs hM88).mono ?_)
  rintro _ wo90 ⟨lvr87, svr87, avr87, cvr87, aor87, cor87, rfl, he93, hdr87, hbr87⟩
  refine ⟨_, rfl, ?_⟩
  intro ac89 En91
  have Hv92 : Ev w [] wo90 [.box bqr80 [.slice avr87 (List.length lvr87) cvr87, .int .u64 ((UInt64.toNat svr87 : Nat) : Int)] 56, .vec avr87 cvr87 1 (bys lvr87) 5, .vec aor87 cor87 1 (bys (takeF (streamOf first seed) (clampN (65537 : Int)))) 5, .box bqr24 [.slice avr69 (List.length lvr69) cvr69, .int .u64 ((UInt64.toNat svr69 : Nat) : Int)] 56, .vec avr69 cvr69 1 (bys lvr69) 5, .vec aor69 cor69 1 (bys (takeF (streamOf first seed) (clampN (((UInt16.toNat n) + (UInt16.toNat m) : Nat) : Int)))) 5, .box bqr13 [.slice avr46 (List.length lvr46) cvr46, .int .u64 ((UInt64.toNat svr46 : Nat) : Int)] 56, .vec avr46 cvr46 1 (bys lvr46) 5, .vec aor46 cor46 1 (bys (takeF (shiftF (streamOf first seed) (clampN ((UInt16.toNat n : Nat) : Int))) (clampN ((UInt16.toNat m : Nat) : Int)))) 5, .vec ao53 cp54 1 (bys ((takeF (streamOf first seed) (clampN ((UInt16.toNat n : Nat) : Int))) ++ (takeF (shiftF (streamOf first seed) (clampN ((UInt16.toNat n : Nat) : Int))) (clampN ((UInt16.toNat m : Nat) : Int))))) 5] := Hv85.trans (Ev.call (R := [.box bqr24 [.slice avr69 (List.length lvr69) cvr69, .int .u64 ((UInt64.toNat svr69 : Nat) : Int)] 56, .vec avr69 cvr69 1 (bys lvr69) 5, .vec aor69 cor69 1 (bys (takeF (streamOf first seed) (clampN (((UInt16.toNat n) + (UInt16.toNat m) : Nat) : Int)))) 5, .box bqr13 [.slice avr46 (List.length lvr46) cvr46, .int .u64 ((UInt64.toNat svr46 : Nat) : Int)] 56, .vec avr46 cvr46 1 (bys lvr46) 5, .vec aor46 cor46 1 (bys (takeF (shiftF (streamOf first seed) (clampN ((UInt16.toNat n : Nat) : Int))) (clampN ((UInt16.toNat m : Nat) : Int)))) 5, .vec ao53 cp54 1 (bys ((takeF (streamOf first seed) (clampN ((UInt16.toNat n : Nat) : Int))) ++ (takeF (shiftF (streamOf first seed) (clampN ((UInt16.toNat n : Nat) : Int))) (clampN ((UInt16.toNat m : Nat) : Int))))) 5]) Hv85.heap [1, 0, 2, 3, 4, 5, 6, 7, 8] (by kernel_rfl) (by decide) he93)
  clear hM88 he93
  have htr87 : List.length (takeF (streamOf first seed) (clampN (65537 : Int))) ≤ 65536 := by rw [takeF_len]; exact clamp_le _
  refine d_pures [(0, .slice a0 (List.length first) c0), (1, .int .u64 ((UInt64.toNat seed : Nat) : Int)), (2, .int .u16 ((UInt16.toNat n : Nat) : Int)), (3, .int .u16 ((UInt16.toNat m : Nat) : Int)), (8, .bool false), (10, .pointer (some ⟨bqr13, 0, none⟩)), (11, .pointer (some ⟨bqr24, 0, none⟩)), (12, .slice ao53 (List.length ((takeF (streamOf first seed) (clampN ((UInt16.toNat n : Nat) : Int))) ++ (takeF (shiftF (streamOf first seed) (clampN ((UInt16.toNat n : Nat) : Int))) (clampN ((UInt16.toNat m : Nat) : Int))))) cp54), (13, .slice aor69 (List.length (takeF (streamOf first seed) (clampN (((UInt16.toNat n) + (UInt16.toNat m) : Nat) : Int)))) cor69), (53, .bool (((List.length (takeF (streamOf first seed) (clampN (65537 : Int))) : Nat) : Int) == (65536 : Int)))] [.int .i64 ((List.length (takeF (streamOf first seed) (clampN (65537 : Int))) : Nat) : Int), .bool (((List.length (takeF (streamOf first seed) (clampN (65537 : Int))) : Nat) : Int) == (65536 : Int))] 6 En91 (by kernel_rfl) (by kernel_rfl) rfl ?_
  intro ac94 En95
  rw [show (((List.length (takeF (streamOf first seed) (clampN (65537 : Int))) : Nat) : Int) == (65536 : Int)) = true from (by rw [beq_iff_eq]; exact len_long _)] at En95
  refine d_pures [(0, .slice a0 (List.length first) c0), (1, .int .u64 ((UInt64.toNat seed : Nat) : Int)), (2, .int .u16 ((UInt16.toNat n : Nat) : Int)), (3, .int .u16 ((UInt16.toNat m : Nat) : Int)), (8, .bool false), (10, .pointer (some ⟨bqr13, 0, none⟩)), (11, .pointer (some ⟨bqr24, 0, none⟩)), (12, .slice ao53 (List.length ((takeF (streamOf first seed) (clampN ((UInt16.toNat n : Nat) : Int))) ++ (takeF (shiftF (streamOf first seed) (clampN ((UInt16.toNat n : Nat) : Int))) (clampN ((UInt16.toNat m : Nat) : Int))))) cp54), (13, .slice aor69 (List.length (takeF (streamOf first seed) (clampN (((UInt16.toNat n) + (UInt16.toNat m) : Nat) : Int)))) cor69), (14, .bool true)] [.bool true] 7 En95 (by kernel_rfl) (by kernel_rfl) rfl ?_
  intro ac96 En97
  refine from_end (by kernel_rfl) ?_
  refine then_normal ?_
  refine wp_seq ?_
  refine wp_seq ?_
  refine region_from ?_  -- region 9
  refine d_pures [(0, .slice a0 (List.length first) c0), (1, .int .u64 ((UInt64.toNat seed : Nat) : Int)), (2, .int .u16 ((UInt16.toNat n : Nat) : Int)), (3, .int .u16 ((UInt16.toNat m : Nat) : Int)), (8, .bool false), (10, .pointer (some ⟨bqr13, 0, none⟩)), (11, .pointer (some ⟨bqr24, 0, none⟩)), (12, .slice ao53 (List.length ((takeF (streamOf first seed) (clampN ((UInt16.toNat n : Nat) : Int))) ++ (takeF (shiftF (streamOf first seed) (clampN ((UInt16.toNat n : Nat) : Int))) (clampN ((UInt16.toNat m : Nat) : Int))))) cp54), (13, .slice aor69 (List.length (takeF (streamOf first seed) (clampN (((UInt16.toNat n) + (UInt16.toNat m) : Nat) : Int)))) cor69), (14, .bool true), (56, .bool (decide (((List.length ((takeF (streamOf first seed) (clampN ((UInt16.toNat n : Nat) : Int))) ++ (takeF (shiftF (streamOf first seed) (clampN ((UInt16.toNat n : Nat) : Int))) (clampN ((UInt16.toNat m : Nat) : Int)))) : Nat) : Int) ≤ (65536 : Int))))] [.slice ao53 (List.length ((takeF (streamOf first seed) (clampN ((UInt16.toNat n : Nat) : Int))) ++ (takeF (shiftF (streamOf first seed) (clampN ((UInt16.toNat n : Nat) : Int))) (clampN ((UInt16.toNat m : Nat) : Int))))) cp54, .int .i64 ((List.length ((takeF (streamOf first seed) (clampN ((UInt16.toNat n : Nat) : Int))) ++ (takeF (shiftF (streamOf first seed) (clampN ((UInt16.toNat n : Nat) : Int))) (clampN ((UInt16.toNat m : Nat) : Int)))) : Nat) : Int), .bool (decide (((List.length ((takeF (streamOf first seed) (clampN ((UInt16.toNat n : Nat) : Int))) ++ (takeF (shiftF (streamOf first seed) (clampN ((UInt16.toNat n : Nat) : Int))) (clampN ((UInt16.toNat m : Nat) : Int)))) : Nat) : Int) ≤ (65536 : Int)))] 3 En97 (by kernel_rfl) (by kernel_rfl) rfl ?_
  intro ac98 En99
  refine from_end (by kernel_rfl) ?_
  refine then_normal ?_
  refine cond_at En99 (t := decide (((List.length ((takeF (streamOf first seed) (clampN ((UInt16.toNat n : Nat) : Int))) ++ (takeF (shiftF (streamOf first seed) (clampN ((UInt16.toNat n : Nat) : Int))) (clampN ((UInt16.toNat m : Nat) : Int)))) : Nat) : Int) ≤ (65536 : Int))) (by kernel_rfl) (fun hc100 => ?_) (fun hc100 => ?_)
  ·
    replace hc100 : ((List.length ((takeF (streamOf first seed) (clampN ((UInt16.toNat n : Nat) : Int))) ++ (takeF (shiftF (streamOf first seed) (clampN ((UInt16.toNat n : Nat) : Int))) (clampN ((UInt16.toNat m : Nat) : Int)))) : Nat) : Int) ≤ (65536 : Int) := by simpa using hc100
    have hq := whole_le (streamOf first seed) (UInt16.toNat n) (UInt16.toNat m) n.toNat_lt m.toNat_lt hc100
    refine wp_seq ?_
    refine region_from ?_  -- region 10
    refine d_pures [(0, .slice a0 (List.length first) c0), (1, .int .u64 ((UInt64.toNat seed : Nat) : Int)), (2, .int .u16 ((UInt16.toNat n : Nat) : Int)), (3, .int .u16 ((UInt16.toNat m : Nat) : Int)), (8, .bool false), (10, .pointer (some ⟨bqr13, 0, none⟩)), (11, .pointer (some ⟨bqr24, 0, none⟩)), (12, .slice ao53 (List.length ((takeF (streamOf first seed) (clampN ((UInt16.toNat n : Nat) : Int))) ++ (takeF (shiftF (streamOf first seed) (clampN ((UInt16.toNat n : Nat) : Int))) (clampN ((UInt16.toNat m : Nat) : Int))))) cp54), (13, .slice aor69 (List.length (takeF (streamOf first seed) (clampN (((UInt16.toNat n) + (UInt16.toNat m) : Nat) : Int)))) cor69), (14, .bool true), (58, .bool true), (59, .slice ao53 (List.length ((takeF (streamOf first seed) (clampN ((UInt16.toNat n : Nat) : Int))) ++ (takeF (shiftF (streamOf first seed) (clampN ((UInt16.toNat n : Nat) : Int))) (clampN ((UInt16.toNat m : Nat) : Int))))) cp54)] [.bool true, .bool true, .slice ao53 (List.length ((takeF (streamOf first seed) (clampN ((UInt16.toNat n : Nat) : Int))) ++ (takeF (shiftF (streamOf first seed) (clampN ((UInt16.toNat n : Nat) : Int))) (clampN ((UInt16.toNat m : Nat) : Int))))) cp54] 3 En99 (by kernel_rfl) (by kernel_rfl) rfl ?_
    intro ac101 En102
    refine from_op (by kernel_rfl) ?_
    refine op_str (d := some 60) (src := 22) (dst := 9) (e := 5) (ao := ao53) (cap := cp54) (p := List.length ((takeF (streamOf first seed) (clampN ((UInt16.toNat n : Nat) : Int))) ++ (takeF (shiftF (streamOf first seed) (clampN ((UInt16.toNat n : Nat) : Int))) (clampN ((UInt16.toNat m : Nat) : Int))))) (bs := (takeF (streamOf first seed) (clampN ((UInt16.toNat n : Nat) : Int))) ++ (takeF (shiftF (streamOf first seed) (clampN ((UInt16.toNat n : Nat) : Int))) (clampN ((UInt16.toNat m : Nat) : Int)))) En102 (by kernel_rfl) rfl (by kernel_rfl) (by kernel_rfl) (by kernel_rfl) (Hv92.heap.reads (k := 9) rfl) (bys_vnz Hv92.heap (k := 9) rfl) ?_
    intro ac103 En104
    refine d_pures [(0, .slice a0 (List.length first) c0), (1, .int .u64 ((UInt64.toNat seed : Nat) : Int)), (2, .int .u16 ((UInt16.toNat n : Nat) : Int)), (3, .int .u16 ((UInt16.toNat m : Nat) : Int)), (8, .bool false), (10, .pointer (some ⟨bqr13, 0, none⟩)), (11, .pointer (some ⟨bqr24, 0, none⟩)), (12, .slice ao53 (List.length ((takeF (streamOf first seed) (clampN ((UInt16.toNat n : Nat) : Int))) ++ (takeF (shiftF (streamOf first seed) (clampN ((UInt16.toNat n : Nat) : Int))) (clampN ((UInt16.toNat m : Nat) : Int))))) cp54), (13, .slice aor69 (List.length (takeF (streamOf first seed) (clampN (((UInt16.toNat n) + (UInt16.toNat m) : Nat) : Int)))) cor69), (14, .bool true), (58, .bool true), (60, .string (bstr ((takeF (streamOf first seed) (clampN ((UInt16.toNat n : Nat) : Int))) ++ (takeF (shiftF (streamOf first seed) (clampN ((UInt16.toNat n : Nat) : Int))) (clampN ((UInt16.toNat m : Nat) : Int)))))), (61, .slice aor69 (List.length (takeF (streamOf first seed) (clampN (((UInt16.toNat n) + (UInt16.toNat m) : Nat) : Int)))) cor69)] [.slice aor69 (List.length (takeF (streamOf first seed) (clampN (((UInt16.toNat n) + (UInt16.toNat m) : Nat) : Int)))) cor69] 5 En104 (by kernel_rfl) (by kernel_rfl) rfl ?_
    intro ac105 En106
    refine from_op (by kernel_rfl) ?_
    refine op_str (d := some 62) (src := 22) (dst := 9) (e := 5) (ao := aor69) (cap := cor69) (p := List.length (takeF (streamOf first seed) (clampN (((UInt16.toNat n) + (UInt16.toNat m) : Nat) : Int)))) (bs := takeF (streamOf first seed) (clampN (((UInt16.toNat n) + (UInt16.toNat m) : Nat) : Int))) En106 (by kernel_rfl) rfl (by kernel_rfl) (by kernel_rfl) (by kernel_rfl) (Hv92.heap.reads (k := 5) rfl) (bys_vnz Hv92.heap (k := 5) rfl) ?_
    intro ac107 En108
    refine d_pures [(0, .slice a0 (List.length first) c0), (1, .int .u64 ((UInt64.toNat seed : Nat) : Int)), (2, .int .u16 ((UInt16.toNat n : Nat) : Int)), (3, .int .u16 ((UInt16.toNat m : Nat) : Int)), (8, .bool false), (10, .pointer (some ⟨bqr13, 0, none⟩)), (11, .pointer (some ⟨bqr24, 0, none⟩)), (12, .slice ao53 (List.length ((takeF (streamOf first seed) (clampN ((UInt16.toNat n : Nat) : Int))) ++ (takeF (shiftF (streamOf first seed) (clampN ((UInt16.toNat n : Nat) : Int))) (clampN ((UInt16.toNat m : Nat) : Int))))) cp54), (13, .slice aor69 (List.length (takeF (streamOf first seed) (clampN (((UInt16.toNat n) + (UInt16.toNat m) : Nat) : Int)))) cor69), (14, .bool true), (58, .bool true), (63, .bool (ByteArray.toList (bstr ((takeF (streamOf first seed) (clampN ((UInt16.toNat n : Nat) : Int))) ++ (takeF (shiftF (streamOf first seed) (clampN ((UInt16.toNat n : Nat) : Int))) (clampN ((UInt16.toNat m : Nat) : Int))))) == ByteArray.toList (bstr (takeF (streamOf first seed) (clampN (((UInt16.toNat n) + (UInt16.toNat m) : Nat) : Int))))))] [.bool (ByteArray.toList (bstr ((takeF (streamOf first seed) (clampN ((UInt16.toNat n : Nat) : Int))) ++ (takeF (shiftF (streamOf first seed) (clampN ((UInt16.toNat n : Nat) : Int))) (clampN ((UInt16.toNat m : Nat) : Int))))) == ByteArray.toList (bstr (takeF (streamOf first seed) (clampN (((UInt16.toNat n) + (UInt16.toNat m) : Nat) : Int)))))] 7 En108 (by kernel_rfl) (by kernel_rfl) rfl ?_
    intro ac109 En110
    rw [Go.Dbr.bstr_eq ((takeF (streamOf first seed) (clampN ((UInt16.toNat n : Nat) : Int))) ++ (takeF (shiftF (streamOf first seed) (clampN ((UInt16.toNat n : Nat) : Int))) (clampN ((UInt16.toNat m : Nat) : Int)))) (takeF (streamOf first seed) (clampN (((UInt16.toNat n) + (UInt16.toNat m) : Nat) : Int))), show (((takeF (streamOf first seed) (clampN ((UInt16.toNat n : Nat) : Int))) ++ (takeF (shiftF (streamOf first seed) (clampN ((UInt16.toNat n : Nat) : Int))) (clampN ((UInt16.toNat m : Nat) : Int)))) == (takeF (streamOf first seed) (clampN (((UInt16.toNat n) + (UInt16.toNat m) : Nat) : Int)))) = true from (by rw [beq_iff_eq]; exact hq)] at En110
    refine d_pures [(0, .slice a0 (List.length first) c0), (1, .int .u64 ((UInt64.toNat seed : Nat) : Int)), (2, .int .u16 ((UInt16.toNat n : Nat) : Int)), (3, .int .u16 ((UInt16.toNat m : Nat) : Int)), (8, .bool true), (10, .pointer (some ⟨bqr13, 0, none⟩)), (11, .pointer (some ⟨bqr24, 0, none⟩)), (12, .slice ao53 (List.length ((takeF (streamOf first seed) (clampN ((UInt16.toNat n : Nat) : Int))) ++ (takeF (shiftF (streamOf first seed) (clampN ((UInt16.toNat n : Nat) : Int))) (clampN ((UInt16.toNat m : Nat) : Int))))) cp54), (13, .slice aor69 (List.length (takeF (streamOf first seed) (clampN (((UInt16.toNat n) + (UInt16.toNat m) : Nat) : Int)))) cor69), (14, .bool true)] [.bool true, .bool true] 9 En110 (by kernel_rfl) (by kernel_rfl) rfl ?_
    intro ac111 En112
    refine from_end (by kernel_rfl) ?_
    refine then_normal ?_
    refine wp_ret ?_
    refine then_ret ?_
    refine d_ret1 (t := 8) (v := .bool true) En112 (by kernel_rfl) (by kernel_rfl) ?_
    exact ⟨rfl, Hv92.pick [] (by kernel_rfl) (by decide)⟩
  ·
    replace hc100 : ¬ (((List.length ((takeF (streamOf first seed) (clampN ((UInt16.toNat n : Nat) : Int))) ++ (takeF (shiftF (streamOf first seed) (clampN ((UInt16.toNat n : Nat) : Int))) (clampN ((UInt16.toNat m : Nat) : Int)))) : Nat) : Int) ≤ (65536 : Int)) := by simpa using hc100
    have hq := whole_gt (streamOf first seed) (UInt16.toNat n) (UInt16.toNat m) n.toNat_lt m.toNat_lt hc100
    refine wp_skip ?_
    refine then_normal ?_
    refine wp_seq ?_
    refine region_cut (F := fun ac wo => Env ac 79 [(0, .slice a0 (List.length first) c0), (1, .int .u64 ((UInt64.toNat seed : Nat) : Int)), (2, .int .u16 ((UInt16.toNat n : Nat) : Int)), (3, .int .u16 ((UInt16.toNat m : Nat) : Int)), (8, .bool true), (10, .pointer (some ⟨bqr13, 0, none⟩)), (11, .pointer (some ⟨bqr24, 0, none⟩)), (12, .slice ao53 (List.length ((takeF (streamOf first seed) (clampN ((UInt16.toNat n : Nat) : Int))) ++ (takeF (shiftF (streamOf first seed) (clampN ((UInt16.toNat n : Nat) : Int))) (clampN ((UInt16.toNat m : Nat) : Int))))) cp54), (13, .slice aor69 (List.length (takeF (streamOf first seed) (clampN (((UInt16.toNat n) + (UInt16.toNat m) : Nat) : Int)))) cor69), (14, .bool true)] ∧ Ev w [] wo [.box bqr24 [.slice avr69 (List.length lvr69) cvr69, .int .u64 ((UInt64.toNat svr69 : Nat) : Int)] 56, .vec avr69 cvr69 1 (bys lvr69) 5, .vec aor69 cor69 1 (bys (takeF (streamOf first seed) (clampN (((UInt16.toNat n) + (UInt16.toNat m) : Nat) : Int)))) 5, .box bqr13 [.slice avr46 (List.length lvr46) cvr46, .int .u64 ((UInt64.toNat svr46 : Nat) : Int)] 56, .vec avr46 cvr46 1 (bys lvr46) 5, .vec ao53 cp54 1 (bys ((takeF (streamOf first seed) (clampN ((UInt16.toNat n : Nat) : Int))) ++ (takeF (shiftF (streamOf first seed) (clampN ((UInt16.toNat n : Nat) : Int))) (clampN ((UInt16.toNat m : Nat) : Int))))) 5]) ?_ ?_
    ·
      refine draw_any (by kernel_rfl) 15 (by kernel_rfl) ?_  -- region 11
      have wo113 := Hv92.trans (Ev.drew Hv92.heap)
      refine any_pureR (d := some 65) En99 (v := .bool true) 0 (by kernel_rfl) (by kernel_rfl) rfl ?_
      intro ac114 En115
      refine any_pureR (d := some 66) En115 (v := .bool true) 1 (by kernel_rfl) (by kernel_rfl) rfl ?_
      intro ac116 En117
      refine any_pureR (d := some 67) En117 (v := .slice aor69 (List.length (takeF (streamOf first seed) (clampN (((UInt16.toNat n) + (UInt16.toNat m) : Nat) : Int)))) cor69) 2 (by kernel_rfl) (by kernel_rfl) rfl ?_
      intro ac118 En119
      refine any_pureR (d := some 68) En119 (v := .int .i64 ((List.length (takeF (streamOf first seed) (clampN (((UInt16.toNat n) + (UInt16.toNat m) : Nat) : Int))) : Nat) : Int)) 3 (by kernel_rfl) (by kernel_rfl) rfl ?_
      intro ac120 En121
      refine any_pureR (d := some 69) En121 (v := .bool (((List.length (takeF (streamOf first seed) (clampN (((UInt16.toNat n) + (UInt16.toNat m) : Nat) : Int))) : Nat) : Int) == (65536 : Int))) 4 (by kernel_rfl) (by kernel_rfl) rfl ?_
      intro ac122 En123
      rw [show (((List.length (takeF (streamOf first seed) (clampN (((UInt16.toNat n) + (UInt16.toNat m) : Nat) : Int))) : Nat) : Int) == (65536 : Int)) = true from (by rw [beq_iff_eq]; omega)] at En123
      refine any_pureR (d := some 70) En123 (v := .bool true) 5 (by kernel_rfl) (by kernel_rfl) rfl ?_
      intro ac124 En125
      refine any_pureR (d := some 71) En125 (v := .bool true) 6 (by kernel_rfl) (by kernel_rfl) rfl ?_
      intro ac126 En127
      refine any_pureR (d := some 72) En127 (v := .slice ao53 (List.length ((takeF (streamOf first seed) (clampN ((UInt16.toNat n : Nat) : Int))) ++ (takeF (shiftF (streamOf first seed) (clampN ((UInt16.toNat n : Nat) : Int))) (clampN ((UInt16.toNat m : Nat) : Int))))) cp54) 7 (by kernel_rfl) (by kernel_rfl) rfl ?_
      intro ac128 En129
      refine any_pureR (d := some 75) En129 (v := .slice aor69 (List.length (takeF (streamOf first seed) (clampN (((UInt16.toNat n) + (UInt16.toNat m) : Nat) : Int)))) cor69) 10 (by kernel_rfl) (by kernel_rfl) rfl ?_
      intro ac130 En131
      refine any_two 8 11 (by kernel_rfl) ?_ ?_
      · rintro _ rfl
        have hcap132 := bys_vcap wo113.heap (k := 9) rfl
        refine op_slice0 (d := some 73) (t := 22) (e := 5) (sz := 1) (len := List.length ((takeF (streamOf first seed) (clampN ((UInt16.toNat n : Nat) : Int))) ++ (takeF (shiftF (streamOf first seed) (clampN ((UInt16.toNat n : Nat) : Int))) (clampN ((UInt16.toNat m : Nat) : Int))))) (cap := cp54) (hi := 65536) (ao := ao53) (lov := none) (hiv := (some (.int .i64 65536))) En131 (by kernel_rfl) (by kernel_rfl) (by kernel_rfl) (by omega) (.inl ⟨rfl, rfl⟩) (.inr ⟨.i64, rfl⟩) ?_
        intro ac133 En134
        refine any_two 9 11 (by kernel_rfl) ?_ ?_
        · rintro _ rfl
          refine op_str (d := some 74) (src := 22) (dst := 9) (e := 5) (ao := ao53) (cap := cp54) (p := 65536) (bs := List.take 65536 ((takeF (streamOf first seed) (clampN ((UInt16.toNat n : Nat) : Int))) ++ (takeF (shiftF (streamOf first seed) (clampN ((UInt16.toNat n : Nat) : Int))) (clampN ((UInt16.toNat m : Nat) : Int))))) En134 (by kernel_rfl) (by first | (simp; done) | (simp; omega) | omega) (by kernel_rfl) (by kernel_rfl) (by kernel_rfl) (bys_take_reads (wo113.heap.reads (k := 9) rfl) 65536) (fun e => by have := (bys_vnz wo113.heap (k := 9) rfl) e; omega) ?_
          intro ac135 En136
          refine any_at 11 (by kernel_rfl) rfl ?_
          refine op_str (d := some 76) (src := 22) (dst := 9) (e := 5) (ao := aor69) (cap := cor69) (p := List.length (takeF (streamOf first seed) (clampN (((UInt16.toNat n) + (UInt16.toNat m) : Nat) : Int)))) (bs := takeF (streamOf first seed) (clampN (((UInt16.toNat n) + (UInt16.toNat m) : Nat) : Int))) En136 (by kernel_rfl) rfl (by kernel_rfl) (by kernel_rfl) (by kernel_rfl) (wo113.heap.reads (k := 5) rfl) (bys_vnz wo113.heap (k := 5) rfl) ?_
          intro ac137 En138
          refine any_pureR (d := some 77) En138 (v := .bool (ByteArray.toList (bstr (List.take 65536 ((takeF (streamOf first seed) (clampN ((UInt16.toNat n : Nat) : Int))) ++ (takeF (shiftF (streamOf first seed) (clampN ((UInt16.toNat n : Nat) : Int))) (clampN ((UInt16.toNat m : Nat) : Int)))))) == ByteArray.toList (bstr (takeF (streamOf first seed) (clampN (((UInt16.toNat n) + (UInt16.toNat m) : Nat) : Int)))))) 12 (by kernel_rfl) (by kernel_rfl) rfl ?_
          intro ac139 En140
          rw [Go.Dbr.bstr_eq (List.take 65536 ((takeF (streamOf first seed) (clampN ((UInt16.toNat n : Nat) : Int))) ++ (takeF (shiftF (streamOf first seed) (clampN ((UInt16.toNat n : Nat) : Int))) (clampN ((UInt16.toNat m : Nat) : Int))))) (takeF (streamOf first seed) (clampN (((UInt16.toNat n) + (UInt16.toNat m) : Nat) : Int))), show ((List.take 65536 ((takeF (streamOf first seed) (clampN ((UInt16.toNat n : Nat) : Int))) ++ (takeF (shiftF (streamOf first seed) (clampN ((UInt16.toNat n : Nat) : Int))) (clampN ((UInt16.toNat m : Nat) : Int))))) == (takeF (streamOf first seed) (clampN (((UInt16.toNat n) + (UInt16.toNat m) : Nat) : Int)))) = true from (by rw [beq_iff_eq]; exact hq.1)] at En140
          refine any_pureR (d := some 78) En140 (v := .bool true) 13 (by kernel_rfl) (by kernel_rfl) rfl ?_
          intro ac141 En142
          refine any_pureR (d := some 8) En142 (v := .bool true) 14 (by kernel_rfl) (by kernel_rfl) rfl ?_
          intro ac143 En144
          exact any_end (by kernel_rfl) ⟨En144.sub (by kernel_rfl), wo113.pick [3, 4, 5, 6, 7, 9] (by kernel_rfl) (by decide)⟩
        · rintro _ rfl
          refine op_str (d := some 76) (src := 22) (dst := 9) (e := 5) (ao := aor69) (cap := cor69) (p := List.length (takeF (streamOf first seed) (clampN (((UInt16.toNat n) + (UInt16.toNat m) : Nat) : Int)))) (bs := takeF (streamOf first seed) (clampN (((UInt16.toNat n) + (UInt16.toNat m) : Nat) : Int))) En134 (by kernel_rfl) rfl (by kernel_rfl) (by kernel_rfl) (by kernel_rfl) (wo113.heap.reads (k := 5) rfl) (bys_vnz wo113.heap (k := 5) rfl) ?_
          intro ac145 En146
          refine any_at 9 (by kernel_rfl) rfl ?_
          refine op_str (d := some 74) (src := 22) (dst := 9) (e := 5) (ao := ao53) (cap := cp54) (p := 65536) (bs := List.take 65536 ((takeF (streamOf first seed) (clampN ((UInt16.toNat n : Nat) : Int))) ++ (takeF (shiftF (streamOf first seed) (clampN ((UInt16.toNat n : Nat) : Int))) (clampN ((UInt16.toNat m : Nat) : Int))))) En146 (by kernel_rfl) (by first | (simp; done) | (simp; omega) | omega) (by kernel_rfl) (by kernel_rfl) (by kernel_rfl) (bys_take_reads (wo113.heap.reads (k := 9) rfl) 65536) (fun e => by have := (bys_vnz wo113.heap (k := 9) rfl) e; omega) ?_
          intro ac147 En148
          refine any_pureR (d := some 77) En148 (v := .bool (ByteArray.toList (bstr (List.take 65536 ((takeF (streamOf first seed) (clampN ((UInt16.toNat n : Nat) : Int))) ++ (takeF (shiftF (streamOf first seed) (clampN ((UInt16.toNat n : Nat) : Int))) (clampN ((UInt16.toNat m : Nat) : Int)))))) == ByteArray.toList (bstr (takeF (streamOf first seed) (clampN (((UInt16.toNat n) + (UInt16.toNat m) : Nat) : Int)))))) 12 (by kernel_rfl) (by kernel_rfl) rfl ?_
          intro ac149 En150
          rw [Go.Dbr.bstr_eq (List.take 65536 ((takeF (streamOf first seed) (clampN ((UInt16.toNat n : Nat) : Int))) ++ (takeF (shiftF (streamOf first seed) (clampN ((UInt16.toNat n : Nat) : Int))) (clampN ((UInt16.toNat m : Nat) : Int))))) (takeF (streamOf first seed) (clampN (((UInt16.toNat n) + (UInt16.toNat m) : Nat) : Int))), show ((List.take 65536 ((takeF (streamOf first seed) (clampN ((UInt16.toNat n : Nat) : Int))) ++ (takeF (shiftF (streamOf first seed) (clampN ((UInt16.toNat n : Nat) : Int))) (clampN ((UInt16.toNat m : Nat) : Int))))) == (takeF (streamOf first seed) (clampN (((UInt16.toNat n) + (UInt16.toNat m) : Nat) : Int)))) = true from (by rw [beq_iff_eq]; exact hq.1)] at En150
          refine any_pureR (d := some 78) En150 (v := .bool true) 13 (by kernel_rfl) (by kernel_rfl) rfl ?_
          intro ac151 En152
          refine any_pureR (d := some 8) En152 (v := .bool true) 14 (by kernel_rfl) (by kernel_rfl) rfl ?_
          intro ac153 En154
          exact any_end (by kernel_rfl) ⟨En154.sub (by kernel_rfl), wo113.pick [3, 4, 5, 6, 7, 9] (by kernel_rfl) (by decide)⟩
      · rintro _ rfl
        refine op_str (d := some 76) (src := 22) (dst := 9) (e := 5) (ao := aor69) (cap := cor69) (p := List.length (takeF (streamOf first seed) (clampN (((UInt16.toNat n) + (UInt16.toNat m) : Nat) : Int)))) (bs := takeF (streamOf first seed) (clampN (((UInt16.toNat n) + (UInt16.toNat m) : Nat) : Int))) En131 (by kernel_rfl) rfl (by kernel_rfl) (by kernel_rfl) (by kernel_rfl) (wo113.heap.reads (k := 5) rfl) (bys_vnz wo113.heap (k := 5) rfl) ?_
        intro ac155 En156
        refine any_at 8 (by kernel_rfl) rfl ?_
        have hcap157 := bys_vcap wo113.heap (k := 9) rfl
        refine op_slice0 (d := some 73) (t := 22) (e := 5) (sz := 1) (len := List.length ((takeF (streamOf first seed) (clampN ((UInt16.toNat n : Nat) : Int))) ++ (takeF (shiftF (streamOf first seed) (clampN ((UInt16.toNat n : Nat) : Int))) (clampN ((UInt16.toNat m : Nat) : Int))))) (cap := cp54) (hi := 65536) (ao := ao53) (lov := none) (hiv := (some (.int .i64 65536))) En156 (by kernel_rfl) (by kernel_rfl) (by kernel_rfl) (by omega) (.inl ⟨rfl, rfl⟩) (.inr ⟨.i64, rfl⟩) ?_
        intro ac158 En159
        refine any_at 9 (by kernel_rfl) rfl ?_
        refine op_str (d := some 74) (src := 22) (dst := 9) (e := 5) (ao := ao53) (cap := cp54) (p := 65536) (bs := List.take 65536 ((takeF (streamOf first seed) (clampN ((UInt16.toNat n : Nat) : Int))) ++ (takeF (shiftF (streamOf first seed) (clampN ((UInt16.toNat n : Nat) : Int))) (clampN ((UInt16.toNat m : Nat) : Int))))) En159 (by kernel_rfl) (by first | (simp; done) | (simp; omega) | omega) (by kernel_rfl) (by kernel_rfl) (by kernel_rfl) (bys_take_reads (wo113.heap.reads (k := 9) rfl) 65536) (fun e => by have := (bys_vnz wo113.heap (k := 9) rfl) e; omega) ?_
        intro ac160 En161
        refine any_pureR (d := some 77) En161 (v := .bool (ByteArray.toList (bstr (List.take 65536 ((takeF (streamOf first seed) (clampN ((UInt16.toNat n : Nat) : Int))) ++ (takeF (shiftF (streamOf first seed) (clampN ((UInt16.toNat n : Nat) : Int))) (clampN ((UInt16.toNat m : Nat) : Int)))))) == ByteArray.toList (bstr (takeF (streamOf first seed) (clampN (((UInt16.toNat n) + (UInt16.toNat m) : Nat) : Int)))))) 12 (by kernel_rfl) (by kernel_rfl) rfl ?_
        intro ac162 En163
        rw [Go.Dbr.bstr_eq (List.take 65536 ((takeF (streamOf first seed) (clampN ((UInt16.toNat n : Nat) : Int))) ++ (takeF (shiftF (streamOf first seed) (clampN ((UInt16.toNat n : Nat) : Int))) (clampN ((UInt16.toNat m : Nat) : Int))))) (takeF (streamOf first seed) (clampN (((UInt16.toNat n) + (UInt16.toNat m) : Nat) : Int))), show ((List.take 65536 ((takeF (streamOf first seed) (clampN ((UInt16.toNat n : Nat) : Int))) ++ (takeF (shiftF (streamOf first seed) (clampN ((UInt16.toNat n : Nat) : Int))) (clampN ((UInt16.toNat m : Nat) : Int))))) == (takeF (streamOf first seed) (clampN (((UInt16.toNat n) + (UInt16.toNat m) : Nat) : Int)))) = true from (by rw [beq_iff_eq]; exact hq.1)] at En163
        refine any_pureR (d := some 78) En163 (v := .bool true) 13 (by kernel_rfl) (by kernel_rfl) rfl ?_
        intro ac164 En165
        refine any_pureR (d := some 8) En165 (v := .bool true) 14 (by kernel_rfl) (by kernel_rfl) rfl ?_
        intro ac166 En167
        exact any_end (by kernel_rfl) ⟨En167.sub (by kernel_rfl), wo113.pick [3, 4, 5, 6, 7, 9] (by kernel_rfl) (by decide)⟩
    ·
      rintro ac168 wo169 ⟨En170, Hv171⟩
      refine then_normal ?_
      refine wp_ret ?_
      refine d_ret1 (t := 8) (v := .bool true) En170 (by kernel_rfl) (by kernel_rfl) ?_
      exact ⟨rfl, Hv171.pick [] (by kernel_rfl) (by decide)⟩

end Go.Proofs.Ytjocdckmgdonjaa
