/- Layer 9: words, quarters. -/
import Derived.Test.YtnahplggflhdaaaShape
import Derived.Test.YtnahplggflhdaaaCopy
namespace Go.Proofs.Ytnahplggflhdaaa
open Go.Dbr
set_option maxRecDepth 100000
set_option maxHeartbeats 2000000
set_option linter.unusedVariables false
set_option linter.unusedSimpArgs false

def rotl (x : UInt32) (n : Nat) : UInt32 := (x <<< UInt32.ofNat n) ||| (x >>> UInt32.ofNat (32 - n))
/-- a half of a quarter round -/
def half (w : List UInt32) (a b d n : Nat) : List UInt32 :=
  List.set (List.set w a (List.getD w a 0 + List.getD w b 0)) d (rotl (List.getD (List.set w a (List.getD w a 0 + List.getD w b 0)) d 0 ^^^ List.getD (List.set w a (List.getD w a 0 + List.getD w b 0)) a 0) n)
theorem half_len {w : List UInt32} {m : Nat} (h : w.length = m) (a b d n : Nat) : (half w a b d n).length = m := by simp [half, h]
def quart (w : List UInt32) (a b c d : Nat) : List UInt32 := half (half (half (half w a b d 16) c d b 12) a b d 8) c d b 7
theorem quart_len {w : List UInt32} {m : Nat} (h : w.length = m) (a b c d : Nat) : (quart w a b c d).length = m := half_len (half_len (half_len (half_len h _ _ _ _) _ _ _ _) _ _ _ _) _ _ _ _
/-- so many bytes of a word, the lowest first -/
def partW (l : List UInt8) (i : Nat) : Nat → UInt32
  | 0 => 0
  | k + 1 => partW l i k ||| ((UInt8.toUInt32 (List.getD l (4 * i + k) 0)) <<< UInt32.ofNat (8 * k))
def wordsF (l : List UInt8) : List UInt32 := (List.range (l.length / 4)).map fun i => partW l i 4
theorem wordsF_len {l : List UInt8} {m : Nat} (h : l.length / 4 = m) : (wordsF l).length = m := by simp [wordsF, h]
theorem u64_and31 {n : Nat} (h : n < 32) {a b : Int} (ha : a = ((UInt64.toNat (UInt64.ofNat n) : Nat) : Int)) (hb : b = 31) : IntKind.wrap .u64 ((BitVec.ofInt (IntKind.bits .u64) a &&& BitVec.ofInt (IntKind.bits .u64) b).toNat : Int) = ((n : Nat) : Int) := by
  rw [Go.Dbr.u64_and (x := UInt64.ofNat n) (y := 31) ha (by rw [hb]; rfl)]
  congr 1
  rw [UInt64.toNat_and]
  have h1 : (UInt64.ofNat n).toNat = n := by first | (show (BitVec.ofNat 64 n).toNat = n; rw [BitVec.toNat_ofNat]; omega) | (simp; omega)
  rw [h1]
  show n &&& 31 = n
  rw [show (31 : Nat) = 2 ^ 5 - 1 from rfl, Nat.and_two_pow_sub_one_eq_mod]
  omega

theorem rotate_go (w : World) (x : UInt32) (n : Nat) (h0 : 0 < n) (hn : n < 32) : Calls Try.prog 21 #[.int .u32 ((UInt32.toNat x : Nat) : Int), .int .i64 ((n : Nat) : Int)] w fun e w' => e = .returned (.int .u32 ((UInt32.toNat (rotl x n) : Nat) : Int)) ∧ Ev w [] w' [] := by
  refine d_start [(0, .int .u32 ((UInt32.toNat x : Nat) : Int)), (1, .int .i64 ((n : Nat) : Int))] 17 Go.Proofs.Try.func21 Go.Proofs.Try.ntmps21 rfl (by kernel_rfl) (by kernel_rfl) ?_
  intro act0 En0
  have Hv0 : Ev w [] w [] := Ev.refl (Heap.nil _)
  refine wp_seq ?_
  refine region_from ?_  -- region 0
  refine d_pures [(0, .int .u32 ((UInt32.toNat x : Nat) : Int)), (1, .int .i64 ((n : Nat) : Int)), (4, .int .u32 0)] [.int .u32 0] 1 En0 (by kernel_rfl) (by kernel_rfl) rfl ?_
  intro ac1 En2
  refine from_end (by kernel_rfl) ?_
  refine then_normal ?_
  refine wp_seq ?_
  refine region_from ?_  -- region 1
  refine d_pures [(0, .int .u32 ((UInt32.toNat x : Nat) : Int)), (4, .int .u32 0), (7, .int .u64 (IntKind.wrap .u64 ((n : Nat) : Int)))] [.int .i64 ((n : Nat) : Int), .int .u64 (IntKind.wrap .u64 ((n : Nat) : Int))] 2 En2 (by kernel_rfl) (by kernel_rfl) rfl ?_
  intro ac3 En4
  rw [Go.Dbr.nat_to_u64 (a := ((n : Nat) : Int)) (n := n) rfl] at En4
  refine d_pures [(0, .int .u32 ((UInt32.toNat x : Nat) : Int)), (4, .int .u32 0), (8, .int .u64 (IntKind.wrap .u64 ((BitVec.ofInt (IntKind.bits .u64) ((UInt64.toNat (UInt64.ofNat n) : Nat) : Int) &&& BitVec.ofInt (IntKind.bits .u64) (31 : Int)).toNat : Int)))] [.int .u64 (IntKind.wrap .u64 ((BitVec.ofInt (IntKind.bits .u64) ((UInt64.toNat (UInt64.ofNat n) : Nat) : Int) &&& BitVec.ofInt (IntKind.bits .u64) (31 : Int)).toNat : Int))] 3 En4 (by kernel_rfl) (by kernel_rfl) rfl ?_
  intro ac5 En6
  rw [u64_and31 (n := n) hn rfl rfl] at En6
  refine d_pures [(0, .int .u32 ((UInt32.toNat x : Nat) : Int)), (4, .int .u32 0), (5, .int .u64 ((n : Nat) : Int))] [.int .u64 ((n : Nat) : Int)] 4 En6 (by kernel_rfl) (by kernel_rfl) rfl ?_
  intro ac7 En8
  refine from_end (by kernel_rfl) ?_
  refine then_normal ?_
  refine wp_seq ?_
  refine region_from ?_  -- region 2
  refine d_pures [(0, .int .u32 ((UInt32.toNat x : Nat) : Int)), (4, .int .u32 0), (5, .int .u64 ((n : Nat) : Int)), (9, .int .u32 ((UInt32.toNat x : Nat) : Int)), (10, .int .u64 ((n : Nat) : Int))] [.int .u32 ((UInt32.toNat x : Nat) : Int), .int .u64 ((n : Nat) : Int)] 2 En8 (by kernel_rfl) (by kernel_rfl) rfl ?_
  intro ac9 En10
  refine from_op (by kernel_rfl) ?_
  refine op_val (d := some 11) (x := Op.shift .shl .u32 ((UInt32.toNat x : Nat) : Int) .u64 ((n : Nat) : Int)) (v := .int .u32 ((UInt32.toNat (x <<< UInt32.ofNat n) : Nat) : Int)) En10 (by kernel_rfl) (Go.Dbr.run_shl_u32 x .u64 n (by omega) _) ?_
  intro ac11 En12
  refine d_pures [(4, .int .u32 0), (11, .int .u32 ((UInt32.toNat (x <<< UInt32.ofNat n) : Nat) : Int)), (12, .int .u32 ((UInt32.toNat x : Nat) : Int)), (14, .int .u64 (IntKind.wrap .u64 ((32 : Int) - ((n : Nat) : Int))))] [.int .u32 ((UInt32.toNat x : Nat) : Int), .int .u64 ((n : Nat) : Int), .int .u64 (IntKind.wrap .u64 ((32 : Int) - ((n : Nat) : Int)))] 6 En12 (by kernel_rfl) (by kernel_rfl) rfl ?_
  intro ac13 En14
  rw [Go.Dbr.wru64 (e := (32 : Int) - ((n : Nat) : Int)) (x := ((32 - n : Nat) : Int)) (by omega) (by omega) (by omega)] at En14
  refine from_op (by kernel_rfl) ?_
  refine op_val (d := some 15) (x := Op.shift .shr .u32 ((UInt32.toNat x : Nat) : Int) .u64 ((32 - n : Nat) : Int)) (v := .int .u32 ((UInt32.toNat (x >>> UInt32.ofNat (32 - n)) : Nat) : Int)) En14 (by kernel_rfl) (Go.Dbr.run_shr_u32 x .u64 (32 - n) (by omega) _) ?_
  intro ac15 En16
  refine d_pures [(4, .int .u32 0), (16, .int .u32 (IntKind.wrap .u32 ((BitVec.ofInt (IntKind.bits .u32) ((UInt32.toNat (x <<< UInt32.ofNat n) : Nat) : Int) ||| BitVec.ofInt (IntKind.bits .u32) ((UInt32.toNat (x >>> UInt32.ofNat (32 - n)) : Nat) : Int)).toNat : Int)))] [.int .u32 (IntKind.wrap .u32 ((BitVec.ofInt (IntKind.bits .u32) ((UInt32.toNat (x <<< UInt32.ofNat n) : Nat) : Int) ||| BitVec.ofInt (IntKind.bits .u32) ((UInt32.toNat (x >>> UInt32.ofNat (32 - n)) : Nat) : Int)).toNat : Int))] 8 En16 (by kernel_rfl) (by kernel_rfl) rfl ?_
  intro ac17 En18
  rw [Go.Dbr.u32_or (a := ((UInt32.toNat (x <<< UInt32.ofNat n) : Nat) : Int)) (b := ((UInt32.toNat (x >>> UInt32.ofNat (32 - n)) : Nat) : Int)) (x := x <<< UInt32.ofNat n) (y := x >>> UInt32.ofNat (32 - n)) rfl rfl] at En18
  refine d_pures [(4, .int .u32 ((UInt32.toNat ((x <<< UInt32.ofNat n) ||| (x >>> UInt32.ofNat (32 - n))) : Nat) : Int))] [.int .u32 ((UInt32.toNat ((x <<< UInt32.ofNat n) ||| (x >>> UInt32.ofNat (32 - n))) : Nat) : Int)] 9 En18 (by kernel_rfl) (by kernel_rfl) rfl ?_
  intro ac19 En20
  refine from_end (by kernel_rfl) ?_
  refine then_normal ?_
  refine wp_ret ?_
  refine d_ret1 (t := 4) (v := .int .u32 ((UInt32.toNat ((x <<< UInt32.ofNat n) ||| (x >>> UInt32.ofNat (32 - n))) : Nat) : Int)) En20 (by kernel_rfl) (by kernel_rfl) ?_
  exact ⟨rfl, Hv0.pick [] (by kernel_rfl) (by decide)⟩

theorem left_ref (w : World) (x : UInt32) (n : Nat) (h0 : 0 < n) (hn : n < 32) : Calls Try.prog 33 #[.int .u32 ((UInt32.toNat x : Nat) : Int), .int .i64 ((n : Nat) : Int)] w fun e w' => e = .returned (.int .u32 ((UInt32.toNat (rotl x n) : Nat) : Int)) ∧ Ev w [] w' [] := by
  refine d_start [(0, .int .u32 ((UInt32.toNat x : Nat) : Int)), (1, .int .i64 ((n : Nat) : Int))] 13 Go.Proofs.Try.func33 Go.Proofs.Try.ntmps33 rfl (by kernel_rfl) (by kernel_rfl) ?_
  intro act0 En0
  have Hv0 : Ev w [] w [] := Ev.refl (Heap.nil _)
  refine wp_seq ?_
  refine region_from ?_  -- region 0
  refine d_pures [(0, .int .u32 ((UInt32.toNat x : Nat) : Int)), (1, .int .i64 ((n : Nat) : Int)), (4, .int .u32 0)] [.int .u32 0] 1 En0 (by kernel_rfl) (by kernel_rfl) rfl ?_
  intro ac1 En2
  refine from_end (by kernel_rfl) ?_
  refine then_normal ?_
  refine wp_seq ?_
  refine region_cut (F := fun ac wo => Env ac 13 [(4, .int .u32 ((UInt32.toNat ((x <<< UInt32.ofNat n) ||| (x >>> UInt32.ofNat (32 - n))) : Nat) : Int))] ∧ Ev w [] wo []) ?_ ?_
  ·
    refine draw_any (by kernel_rfl) 9 (by kernel_rfl) ?_  -- region 1
    have wo3 := Hv0.trans (Ev.drew Hv0.heap)
    refine any_pureR (d := some 5) En2 (v := .int .u32 ((UInt32.toNat x : Nat) : Int)) 0 (by kernel_rfl) (by kernel_rfl) rfl ?_
    intro ac22 En23
    refine any_pureR (d := some 6) En23 (v := .int .i64 ((n : Nat) : Int)) 1 (by kernel_rfl) (by kernel_rfl) rfl ?_
    intro ac24 En25
    refine any_pure (d := some 7) (s := nv (Op.shift .shl .u32 ((UInt32.toNat x : Nat) : Int) .i64 ((n : Nat) : Int))) En25 (v := .int .u32 ((UInt32.toNat (x <<< UInt32.ofNat n) : Nat) : Int)) 2 (by kernel_rfl) (funext fun _ => run_nv (Go.Dbr.run_shl_u32 x .i64 n (by omega) _)) (by kernel_rfl) rfl ?_
    intro ac26 En27
    refine any_pureR (d := some 8) En27 (v := .int .u32 ((UInt32.toNat x : Nat) : Int)) 3 (by kernel_rfl) (by kernel_rfl) rfl ?_
    intro ac28 En29
    refine any_pureR (d := some 9) En29 (v := .int .i64 ((n : Nat) : Int)) 4 (by kernel_rfl) (by kernel_rfl) rfl ?_
    intro ac30 En31
    refine any_pureR (d := some 10) En31 (v := .int .i64 (IntKind.wrap .i64 ((32 : Int) - ((n : Nat) : Int)))) 5 (by kernel_rfl) (by kernel_rfl) rfl ?_
    intro ac32 En33
    rw [Go.Dbr.wr64 (e := (32 : Int) - ((n : Nat) : Int)) (x := ((32 - n : Nat) : Int)) (by omega) (by omega) (by omega)] at En33
    refine any_pure (d := some 11) (s := nv (Op.shift .shr .u32 ((UInt32.toNat x : Nat) : Int) .i64 ((32 - n : Nat) : Int))) En33 (v := .int .u32 ((UInt32.toNat (x >>> UInt32.ofNat (32 - n)) : Nat) : Int)) 6 (by kernel_rfl) (funext fun _ => run_nv (Go.Dbr.run_shr_u32 x .i64 (32 - n) (by omega) _)) (by kernel_rfl) rfl ?_
    intro ac34 En35
    refine any_pureR (d := some 12) En35 (v := .int .u32 (IntKind.wrap .u32 ((BitVec.ofInt (IntKind.bits .u32) ((UInt32.toNat (x <<< UInt32.ofNat n) : Nat) : Int) ||| BitVec.ofInt (IntKind.bits .u32) ((UInt32.toNat (x >>> UInt32.ofNat (32 - n)) : Nat) : Int)).toNat : Int))) 7 (by kernel_rfl) (by kernel_rfl) rfl ?_
    intro ac36 En37
    rw [Go.Dbr.u32_or (a := ((UInt32.toNat (x <<< UInt32.ofNat n) : Nat) : Int)) (b := ((UInt32.toNat (x >>> UInt32.ofNat (32 - n)) : Nat) : Int)) (x := x <<< UInt32.ofNat n) (y := x >>> UInt32.ofNat (32 - n)) rfl rfl] at En37
    refine any_pureR (d := some 4) En37 (v := .int .u32 ((UInt32.toNat ((x <<< UInt32.ofNat n) ||| (x >>> UInt32.ofNat (32 - n))) : Nat) : Int)) 8 (by kernel_rfl) (by kernel_rfl) rfl ?_
    intro ac38 En39
    exact any_end (by kernel_rfl) ⟨En39.sub (by kernel_rfl), wo3.pick [] (by kernel_rfl) (by decide)⟩
  rintro ac40 wo41 ⟨En42, Hv43⟩
  refine then_normal ?_
  refine wp_ret ?_
  refine d_ret1 (t := 4) (v := .int .u32 ((UInt32.toNat ((x <<< UInt32.ofNat n) ||| (x >>> UInt32.ofNat (32 - n))) : Nat) : Int)) En42 (by kernel_rfl) (by kernel_rfl) ?_
  exact ⟨rfl, Hv43.pick [] (by kernel_rfl) (by decide)⟩

theorem half_go (w : World) (bw : Nat) (l : List UInt32) (hl : List.length l = 16) (a b d n : Nat) (ha : a < 16) (hb : b < 16) (hd : d < 16) (h0 : 0 < n) (hn : n < 32) (hH : Heap w [.box bw (u32s l) 42]) : Calls Try.prog 20 #[.int .i64 ((a : Nat) : Int), .int .i64 ((b : Nat) : Int), .int .i64 ((d : Nat) : Int), .int .i64 ((n : Nat) : Int), .pointer (some ⟨bw, 0, none⟩)] w fun e w' => e = .returned (.tuple #[]) ∧ Ev w [.box bw (u32s l) 42] w' [.box bw (u32s (half l a b d n)) 42] := by
  refine d_start [(0, .int .i64 ((a : Nat) : Int)), (1, .int .i64 ((b : Nat) : Int)), (2, .int .i64 ((d : Nat) : Int)), (3, .int .i64 ((n : Nat) : Int)), (4, .pointer (some ⟨bw, 0, none⟩))] 28 Go.Proofs.Try.func20 Go.Proofs.Try.ntmps20 rfl (by kernel_rfl) (by kernel_rfl) ?_
  intro act0 En0
  have Hv0 : Ev w [.box bw (u32s l) 42] w [.box bw (u32s l) 42] := Ev.refl (hH)
  refine wp_seq ?_
  refine region_cut (F := fun ac wo => Env ac 28 [(0, .int .i64 ((a : Nat) : Int)), (2, .int .i64 ((d : Nat) : Int)), (3, .int .i64 ((n : Nat) : Int)), (4, .pointer (some ⟨bw, 0, none⟩))] ∧ Ev w [.box bw (u32s l) 42] wo [.box bw (u32s (List.set l a ((List.getD l a 0) + (List.getD l b 0)))) 42]) ?_ ?_
  ·
    refine draw_any (by kernel_rfl) 9 (by kernel_rfl) ?_  -- region 0
    have wo1 := Hv0.trans (Ev.drew Hv0.heap)
    refine any_name fun G hG => ?_
    have nd40 : ∀ (ac : Act) (wo : World), Env ac 28 [(0, .int .i64 ((a : Nat) : Int)), (2, .int .i64 ((d : Nat) : Int)), (3, .int .i64 ((n : Nat) : Int)), (4, .pointer (some ⟨bw, 0, none⟩)), (9, .int .i64 ((a : Nat) : Int)), (11, .int .u32 ((UInt32.toNat (List.getD l a 0) : Nat) : Int)), (13, .pointer (some ⟨bw, b, none⟩))] → Ev w [.box bw (u32s l) 42] wo [.box bw (u32s l) 42] → G 4 #[true, true, true, true, true, false, false, false, false] ac wo := by
      intro ac41 wo42 En43 Hv44
      refine any_from hG ?_
      refine any_at 5 (by kernel_rfl) rfl ?_
      have hb45 : b < List.length l := by rw [hl]; omega
      refine op_loadbox (d := some 14) (t := 23) (b := bw) (off := b) (k := 0) (v := .int .u32 ((UInt32.toNat (List.getD l b 0) : Nat) : Int)) En43 (by kernel_rfl) Hv44 rfl (u32s_getD hb45) (by kernel_rfl) ?_
      intro ac46 En47
      refine any_pureR (d := some 15) En47 (v := .int .u32 (IntKind.wrap .u32 (((UInt32.toNat (List.getD l a 0) : Nat) : Int) + ((UInt32.toNat (List.getD l b 0) : Nat) : Int)))) 6 (by kernel_rfl) (by kernel_rfl) rfl ?_
      intro ac48 En49
      rw [Go.Dbr.u32_add (a := ((UInt32.toNat (List.getD l a 0) : Nat) : Int)) (b := ((UInt32.toNat (List.getD l b 0) : Nat) : Int)) (x := List.getD l a 0) (y := List.getD l b 0) rfl rfl] at En49
      refine any_pure (d := some 16) (s := nv (Instr.indexAt 42 (.pointer (some ⟨bw, 0, none⟩)) (.int .i64 ((a : Nat) : Int)))) En49 (v := .pointer (some ⟨bw, a, none⟩)) 7 (by kernel_rfl) (funext fun _ => run_nv (Go.Dbr.run_indexarr (e := 23) (sz := 1) (m := 16) (j := a) (o := a) (by kernel_rfl) (by kernel_rfl) (by omega) (by omega) (by omega) _)) (by kernel_rfl) rfl ?_
      intro ac50 En51
      refine any_at 8 (by kernel_rfl) rfl ?_
      have hb52 : a < List.length l := by rw [hl]; omega
      refine op_storebox2 (d := none) (t := 23) (b := bw) (off := a) (k := 0) (v := .int .u32 ((UInt32.toNat ((List.getD l a 0) + (List.getD l b 0)) : Nat) : Int)) En51 (by kernel_rfl) Hv44 rfl (u32s_getD hb52) (by kernel_rfl) rfl (u32s_set _ _ _) rfl ?_
      intro ac53 wo54  En55 Hv56
      exact any_end (by kernel_rfl) ⟨En55.sub (by kernel_rfl), Hv56.pick [0] (by kernel_rfl) (by decide)⟩
    have nd57 : ∀ (ac : Act) (wo : World), Env ac 28 [(0, .int .i64 ((a : Nat) : Int)), (2, .int .i64 ((d : Nat) : Int)), (3, .int .i64 ((n : Nat) : Int)), (4, .pointer (some ⟨bw, 0, none⟩)), (9, .int .i64 ((a : Nat) : Int)), (10, .pointer (some ⟨bw, a, none⟩)), (14, .int .u32 ((UInt32.toNat (List.getD l b 0) : Nat) : Int))] → Ev w [.box bw (u32s l) 42] wo [.box bw (u32s l) 42] → G 4 #[true, true, false, true, true, true, false, false, false] ac wo := by
      intro ac58 wo59 En60 Hv61
      refine any_from hG ?_
      refine any_at 2 (by kernel_rfl) rfl ?_
      have hb62 : a < List.length l := by rw [hl]; omega
      refine op_loadbox (d := some 11) (t := 23) (b := bw) (off := a) (k := 0) (v := .int .u32 ((UInt32.toNat (List.getD l a 0) : Nat) : Int)) En60 (by kernel_rfl) Hv61 rfl (u32s_getD hb62) (by kernel_rfl) ?_
      intro ac63 En64
      refine any_pureR (d := some 15) En64 (v := .int .u32 (IntKind.wrap .u32 (((UInt32.toNat (List.getD l a 0) : Nat) : Int) + ((UInt32.toNat (List.getD l b 0) : Nat) : Int)))) 6 (by kernel_rfl) (by kernel_rfl) rfl ?_
      intro ac65 En66
      rw [Go.Dbr.u32_add (a := ((UInt32.toNat (List.getD l a 0) : Nat) : Int)) (b := ((UInt32.toNat (List.getD l b 0) : Nat) : Int)) (x := List.getD l a 0) (y := List.getD l b 0) rfl rfl] at En66
      refine any_pure (d := some 16) (s := nv (Instr.indexAt 42 (.pointer (some ⟨bw, 0, none⟩)) (.int .i64 ((a : Nat) : Int)))) En66 (v := .pointer (some ⟨bw, a, none⟩)) 7 (by kernel_rfl) (funext fun _ => run_nv (Go.Dbr.run_indexarr (e := 23) (sz := 1) (m := 16) (j := a) (o := a) (by kernel_rfl) (by kernel_rfl) (by omega) (by omega) (by omega) _)) (by kernel_rfl) rfl ?_
      intro ac67 En68
      refine any_at 8 (by kernel_rfl) rfl ?_
      have hb69 : a < List.length l := by rw [hl]; omega
      refine op_storebox2 (d := none) (t := 23) (b := bw) (off := a) (k := 0) (v := .int .u32 ((UInt32.toNat ((List.getD l a 0) + (List.getD l b 0)) : Nat) : Int)) En68 (by kernel_rfl) Hv61 rfl (u32s_getD hb69) (by kernel_rfl) rfl (u32s_set _ _ _) rfl ?_
      intro ac70 wo71  En72 Hv73
      exact any_end (by kernel_rfl) ⟨En72.sub (by kernel_rfl), Hv73.pick [0] (by kernel_rfl) (by decide)⟩
    refine any_from hG ?_
    refine any_pureR (d := some 9) En0 (v := .int .i64 ((a : Nat) : Int)) 0 (by kernel_rfl) (by kernel_rfl) rfl ?_
    intro ac74 En75
    refine any_pure (d := some 10) (s := nv (Instr.indexAt 42 (.pointer (some ⟨bw, 0, none⟩)) (.int .i64 ((a : Nat) : Int)))) En75 (v := .pointer (some ⟨bw, a, none⟩)) 1 (by kernel_rfl) (funext fun _ => run_nv (Go.Dbr.run_indexarr (e := 23) (sz := 1) (m := 16) (j := a) (o := a) (by kernel_rfl) (by kernel_rfl) (by omega) (by omega) (by omega) _)) (by kernel_rfl) rfl ?_
    intro ac76 En77
    refine any_pureR (d := some 12) En77 (v := .int .i64 ((b : Nat) : Int)) 3 (by kernel_rfl) (by kernel_rfl) rfl ?_
    intro ac78 En79
    refine any_pure (d := some 13) (s := nv (Instr.indexAt 42 (.pointer (some ⟨bw, 0, none⟩)) (.int .i64 ((b : Nat) : Int)))) En79 (v := .pointer (some ⟨bw, b, none⟩)) 4 (by kernel_rfl) (funext fun _ => run_nv (Go.Dbr.run_indexarr (e := 23) (sz := 1) (m := 16) (j := b) (o := b) (by kernel_rfl) (by kernel_rfl) (by omega) (by omega) (by omega) _)) (by kernel_rfl) rfl ?_
    intro ac80 En81
    refine any_two 2 5 (by kernel_rfl) ?_ ?_
    · rintro _ rfl
      have hb82 : a < List.length l := by rw [hl]; omega
      refine op_loadbox (d := some 11) (t := 23) (b := bw) (off := a) (k := 0) (v := .int .u32 ((UInt32.toNat (List.getD l a 0) : Nat) : Int)) En81 (by kernel_rfl) wo1 rfl (u32s_getD hb82) (by kernel_rfl) ?_
      intro ac83 En84
      exact any_to hG (by kernel_rfl) (nd40 _ _ (En84.sub (by kernel_rfl)) (wo1.pick [0] (by kernel_rfl) (by decide)))
    · rintro _ rfl
      have hb85 : b < List.length l := by rw [hl]; omega
      refine op_loadbox (d := some 14) (t := 23) (b := bw) (off := b) (k := 0) (v := .int .u32 ((UInt32.toNat (List.getD l b 0) : Nat) : Int)) En81 (by kernel_rfl) wo1 rfl (u32s_getD hb85) (by kernel_rfl) ?_
      intro ac86 En87
      exact any_to hG (by kernel_rfl) (nd57 _ _ (En87.sub (by kernel_rfl)) (wo1.pick [0] (by kernel_rfl) (by decide)))
  rintro ac88 wo89 ⟨En90, Hv91⟩
  refine then_normal ?_
  refine region_cut (F := fun ac wo => Env ac 28 [(0, .int .i64 ((a : Nat) : Int)), (4, .pointer (some ⟨bw, 0, none⟩))] ∧ Ev w [.box bw (u32s l) 42] wo [.box bw (u32s (List.set (List.set l a ((List.getD l a 0) + (List.getD l b 0))) d (rotl ((List.getD (List.set l a ((List.getD l a 0) + (List.getD l b 0))) d 0) ^^^ (List.getD (List.set l a ((List.getD l a 0) + (List.getD l b 0))) a 0)) n))) 42]) ?_ ?_
  ·
    refine draw_any (by kernel_rfl) 12 (by kernel_rfl) ?_  -- region 1
    have wo92 := Hv91.trans (Ev.drew Hv91.heap)
    refine any_name fun G hG => ?_
    have nd147 : ∀ (ac : Act) (wo : World), Env ac 28 [(0, .int .i64 ((a : Nat) : Int)), (4, .pointer (some ⟨bw, 0, none⟩)), (17, .int .i64 ((d : Nat) : Int)), (20, .int .u32 ((UInt32.toNat (List.getD (List.set l a ((List.getD l a 0) + (List.getD l b 0))) d 0) : Nat) : Int)), (22, .pointer (some ⟨bw, a, none⟩)), (25, .int .i64 ((n : Nat) : Int))] → Ev w [.box bw (u32s l) 42] wo [.box bw (u32s (List.set l a ((List.getD l a 0) + (List.getD l b 0)))) 42] → G 5 #[true, true, true, true, true, true, false, false, true, false, false, false] ac wo := by
      intro ac148 wo149 En150 Hv151
      refine any_from hG ?_
      refine any_at 6 (by kernel_rfl) rfl ?_
      have hb152 : a < List.length (List.set l a ((List.getD l a 0) + (List.getD l b 0))) := by rw [(List.length_set.trans hl)]; omega
      refine op_loadbox (d := some 23) (t := 23) (b := bw) (off := a) (k := 0) (v := .int .u32 ((UInt32.toNat (List.getD (List.set l a ((List.getD l a 0) + (List.getD l b 0))) a 0) : Nat) : Int)) En150 (by kernel_rfl) Hv151 rfl (u32s_getD hb152) (by kernel_rfl) ?_
      intro ac153 En154
      refine any_pureR (d := some 24) En154 (v := .int .u32 (IntKind.wrap .u32 ((BitVec.ofInt (IntKind.bits .u32) ((UInt32.toNat (List.getD (List.set l a ((List.getD l a 0) + (List.getD l b 0))) d 0) : Nat) : Int) ^^^ BitVec.ofInt (IntKind.bits .u32) ((UInt32.toNat (List.getD (List.set l a ((List.getD l a 0) + (List.getD l b 0))) a 0) : Nat) : Int)).toNat : Int))) 7 (by kernel_rfl) (by kernel_rfl) rfl ?_
      intro ac155 En156
      rw [Go.Dbr.u32_xor (a := ((UInt32.toNat (List.getD (List.set l a ((List.getD l a 0) + (List.getD l b 0))) d 0) : Nat) : Int)) (b := ((UInt32.toNat (List.getD (List.set l a ((List.getD l a 0) + (List.getD l b 0))) a 0) : Nat) : Int)) (x := List.getD (List.set l a ((List.getD l a 0) + (List.getD l b 0))) d 0) (y := List.getD (List.set l a ((List.getD l a 0) + (List.getD l b 0))) a 0) rfl rfl] at En156
      refine any_at 9 (by kernel_rfl) rfl ?_
      have hM157 : Heap wo149 [] := Hv151.heap.pick [] (by kernel_rfl) (by decide)
      refine op_call (d := some 26) (f := 21) (args := #[.int .u32 ((UInt32.toNat ((List.getD (List.set l a ((List.getD l a 0) + (List.getD l b 0))) d 0) ^^^ (List.getD (List.set l a ((List.getD l a 0) + (List.getD l b 0))) a 0)) : Nat) : Int), .int .i64 ((n : Nat) : Int)]) En156 (by kernel_rfl) ((rotate_go _ ((List.getD (List.set l a ((List.getD l a 0) + (List.getD l b 0))) d 0) ^^^ (List.getD (List.set l a ((List.getD l a 0) + (List.getD l b 0))) a 0)) n (by omega) (by omega)).mono ?_)
      rintro _ wo159 ⟨rfl, he162⟩
      refine ⟨_, rfl, ?_⟩
      intro ac158 En160
      have Hv161 : Ev w [.box bw (u32s l) 42] wo159 [.box bw (u32s (List.set l a ((List.getD l a 0) + (List.getD l b 0)))) 42] := Hv151.trans (Ev.call (R := [.box bw (u32s (List.set l a ((List.getD l a 0) + (List.getD l b 0)))) 42]) Hv151.heap [0] (by kernel_rfl) (by decide) he162)
      clear hM157 he162
      refine any_pure (d := some 27) (s := nv (Instr.indexAt 42 (.pointer (some ⟨bw, 0, none⟩)) (.int .i64 ((d : Nat) : Int)))) En160 (v := .pointer (some ⟨bw, d, none⟩)) 10 (by kernel_rfl) (funext fun _ => run_nv (Go.Dbr.run_indexarr (e := 23) (sz := 1) (m := 16) (j := d) (o := d) (by kernel_rfl) (by kernel_rfl) (by omega) (by omega) (by omega) _)) (by kernel_rfl) rfl ?_
      intro ac163 En164
      refine any_at 11 (by kernel_rfl) rfl ?_
      have hb165 : d < List.length (List.set l a ((List.getD l a 0) + (List.getD l b 0))) := by rw [(List.length_set.trans hl)]; omega
      refine op_storebox2 (d := none) (t := 23) (b := bw) (off := d) (k := 0) (v := .int .u32 ((UInt32.toNat (rotl ((List.getD (List.set l a ((List.getD l a 0) + (List.getD l b 0))) d 0) ^^^ (List.getD (List.set l a ((List.getD l a 0) + (List.getD l b 0))) a 0)) n) : Nat) : Int)) En164 (by kernel_rfl) Hv161 rfl (u32s_getD hb165) (by kernel_rfl) rfl (u32s_set _ _ _) rfl ?_
      intro ac166 wo167  En168 Hv169
      exact any_end (by kernel_rfl) ⟨En168.sub (by kernel_rfl), Hv169.pick [0] (by kernel_rfl) (by decide)⟩
    have nd170 : ∀ (ac : Act) (wo : World), Env ac 28 [(0, .int .i64 ((a : Nat) : Int)), (4, .pointer (some ⟨bw, 0, none⟩)), (17, .int .i64 ((d : Nat) : Int)), (19, .pointer (some ⟨bw, d, none⟩)), (23, .int .u32 ((UInt32.toNat (List.getD (List.set l a ((List.getD l a 0) + (List.getD l b 0))) a 0) : Nat) : Int)), (25, .int .i64 ((n : Nat) : Int))] → Ev w [.box bw (u32s l) 42] wo [.box bw (u32s (List.set l a ((List.getD l a 0) + (List.getD l b 0)))) 42] → G 5 #[true, true, true, false, true, true, true, false, true, false, false, false] ac wo := by
      intro ac171 wo172 En173 Hv174
      refine any_from hG ?_
      refine any_at 3 (by kernel_rfl) rfl ?_
      have hb175 : d < List.length (List.set l a ((List.getD l a 0) + (List.getD l b 0))) := by rw [(List.length_set.trans hl)]; omega
      refine op_loadbox (d := some 20) (t := 23) (b := bw) (off := d) (k := 0) (v := .int .u32 ((UInt32.toNat (List.getD (List.set l a ((List.getD l a 0) + (List.getD l b 0))) d 0) : Nat) : Int)) En173 (by kernel_rfl) Hv174 rfl (u32s_getD hb175) (by kernel_rfl) ?_
      intro ac176 En177
      refine any_pureR (d := some 24) En177 (v := .int .u32 (IntKind.wrap .u32 ((BitVec.ofInt (IntKind.bits .u32) ((UInt32.toNat (List.getD (List.set l a ((List.getD l a 0) + (List.getD l b 0))) d 0) : Nat) : Int) ^^^ BitVec.ofInt (IntKind.bits .u32) ((UInt32.toNat (List.getD (List.set l a ((List.getD l a 0) + (List.getD l b 0))) a 0) : Nat) : Int)).toNat : Int))) 7 (by kernel_rfl) (by kernel_rfl) rfl ?_
      intro ac178 En179
      rw [Go.Dbr.u32_xor (a := ((UInt32.toNat (List.getD (List.set l a ((List.getD l a 0) + (List.getD l b 0))) d 0) : Nat) : Int)) (b := ((UInt32.toNat (List.getD (List.set l a ((List.getD l a 0) + (List.getD l b 0))) a 0) : Nat) : Int)) (x := List.getD (List.set l a ((List.getD l a 0) + (List.getD l b 0))) d 0) (y := List.getD (List.set l a ((List.getD l a 0) + (List.getD l b 0))) a 0) rfl rfl] at En179
      refine any_at 9 (by kernel_rfl) rfl ?_
      have hM180 : Heap wo172 [] := Hv174.heap.pick [] (by kernel_rfl) (by decide)
      refine op_call (d := some 26) (f := 21) (args := #[.int .u32 ((UInt32.toNat ((List.getD (List.set l a ((List.getD l a 0) + (List.getD l b 0))) d 0) ^^^ (List.getD (List.set l a ((List.getD l a 0) + (List.getD l b 0))) a 0)) : Nat) : Int), .int .i64 ((n : Nat) : Int)]) En179 (by kernel_rfl) ((rotate_go _ ((List.getD (List.set l a ((List.getD l a 0) + (List.getD l b 0))) d 0) ^^^ (List.getD (List.set l a ((List.getD l a 0) + (List.getD l b 0))) a 0)) n (by omega) (by omega)).mono ?_)
      rintro _ wo182 ⟨rfl, he185⟩
      refine ⟨_, rfl, ?_⟩
      intro ac181 En183
      have Hv184 : Ev w [.box bw (u32s l) 42] wo182 [.box bw (u32s (List.set l a ((List.getD l a 0) + (List.getD l b 0)))) 42] := Hv174.trans (Ev.call (R := [.box bw (u32s (List.set l a ((List.getD l a 0) + (List.getD l b 0)))) 42]) Hv174.heap [0] (by kernel_rfl) (by decide) he185)
      clear hM180 he185
      refine any_pure (d := some 27) (s := nv (Instr.indexAt 42 (.pointer (some ⟨bw, 0, none⟩)) (.int .i64 ((d : Nat) : Int)))) En183 (v := .pointer (some ⟨bw, d, none⟩)) 10 (by kernel_rfl) (funext fun _ => run_nv (Go.Dbr.run_indexarr (e := 23) (sz := 1) (m := 16) (j := d) (o := d) (by kernel_rfl) (by kernel_rfl) (by omega) (by omega) (by omega) _)) (by kernel_rfl) rfl ?_
      intro ac186 En187
      refine any_at 11 (by kernel_rfl) rfl ?_
      have hb188 : d < List.length (List.set l a ((List.getD l a 0) + (List.getD l b 0))) := by rw [(List.length_set.trans hl)]; omega
      refine op_storebox2 (d := none) (t := 23) (b := bw) (off := d) (k := 0) (v := .int .u32 ((UInt32.toNat (rotl ((List.getD (List.set l a ((List.getD l a 0) + (List.getD l b 0))) d 0) ^^^ (List.getD (List.set l a ((List.getD l a 0) + (List.getD l b 0))) a 0)) n) : Nat) : Int)) En187 (by kernel_rfl) Hv184 rfl (u32s_getD hb188) (by kernel_rfl) rfl (u32s_set _ _ _) rfl ?_
      intro ac189 wo190  En191 Hv192
      exact any_end (by kernel_rfl) ⟨En191.sub (by kernel_rfl), Hv192.pick [0] (by kernel_rfl) (by decide)⟩
    refine any_from hG ?_
    refine any_pureR (d := some 17) En90 (v := .int .i64 ((d : Nat) : Int)) 0 (by kernel_rfl) (by kernel_rfl) rfl ?_
    intro ac193 En194
    refine any_pureR (d := some 18) En194 (v := .int .i64 ((d : Nat) : Int)) 1 (by kernel_rfl) (by kernel_rfl) rfl ?_
    intro ac195 En196
    refine any_pure (d := some 19) (s := nv (Instr.indexAt 42 (.pointer (some ⟨bw, 0, none⟩)) (.int .i64 ((d : Nat) : Int)))) En196 (v := .pointer (some ⟨bw, d, none⟩)) 2 (by kernel_rfl) (funext fun _ => run_nv (Go.Dbr.run_indexarr (e := 23) (sz := 1) (m := 16) (j := d) (o := d) (by kernel_rfl) (by kernel_rfl) (by omega) (by omega) (by omega) _)) (by kernel_rfl) rfl ?_
    intro ac197 En198
    refine any_pureR (d := some 21) En198 (v := .int .i64 ((a : Nat) : Int)) 4 (by kernel_rfl) (by kernel_rfl) rfl ?_
    intro ac199 En200
    refine any_pure (d := some 22) (s := nv (Instr.indexAt 42 (.pointer (some ⟨bw, 0, none⟩)) (.int .i64 ((a : Nat) : Int)))) En200 (v := .pointer (some ⟨bw, a, none⟩)) 5 (by kernel_rfl) (funext fun _ => run_nv (Go.Dbr.run_indexarr (e := 23) (sz := 1) (m := 16) (j := a) (o := a) (by kernel_rfl) (by kernel_rfl) (by omega) (by omega) (by omega) _)) (by kernel_rfl) rfl ?_
    intro ac201 En202
    refine any_pureR (d := some 25) En202 (v := .int .i64 ((n : Nat) : Int)) 8 (by kernel_rfl) (by kernel_rfl) rfl ?_
    intro ac203 En204
    refine any_two 3 6 (by kernel_rfl) ?_ ?_
    · rintro _ rfl
      have hb205 : d < List.length (List.set l a ((List.getD l a 0) + (List.getD l b 0))) := by rw [(List.length_set.trans hl)]; omega
      refine op_loadbox (d := some 20) (t := 23) (b := bw) (off := d) (k := 0) (v := .int .u32 ((UInt32.toNat (List.getD (List.set l a ((List.getD l a 0) + (List.getD l b 0))) d 0) : Nat) : Int)) En204 (by kernel_rfl) wo92 rfl (u32s_getD hb205) (by kernel_rfl) ?_
      intro ac206 En207
      exact any_to hG (by kernel_rfl) (nd147 _ _ (En207.sub (by kernel_rfl)) (wo92.pick [0] (by kernel_rfl) (by decide)))
    · rintro _ rfl
      have hb208 : a < List.length (List.set l a ((List.getD l a 0) + (List.getD l b 0))) := by rw [(List.length_set.trans hl)]; omega
      refine op_loadbox (d := some 23) (t := 23) (b := bw) (off := a) (k := 0) (v := .int .u32 ((UInt32.toNat (List.getD (List.set l a ((List.getD l a 0) + (List.getD l b 0))) a 0) : Nat) : Int)) En204 (by kernel_rfl) wo92 rfl (u32s_getD hb208) (by kernel_rfl) ?_
      intro ac209 En210
      exact any_to hG (by kernel_rfl) (nd170 _ _ (En210.sub (by kernel_rfl)) (wo92.pick [0] (by kernel_rfl) (by decide)))
  rintro ac211 wo212 ⟨En213, Hv214⟩
  refine d_end0 En213 (by kernel_rfl) ?_
  exact ⟨rfl, Hv214.pick [0] (by kernel_rfl) (by decide)⟩

theorem quart_go (w : World) (bw bh : Nat) (l : List UInt32) (hl : List.length l = 16) (a b c d : Nat) (ha : a < 16) (hb : b < 16) (hc : c < 16) (hd : d < 16) (hH : Heap w [.box bw (u32s l) 42, .box bh [.func (.func 20) #[] #[.pointer (some ⟨bw, 0, none⟩)]] 46]) : Calls Try.prog 22 #[.int .i64 ((a : Nat) : Int), .int .i64 ((b : Nat) : Int), .int .i64 ((c : Nat) : Int), .int .i64 ((d : Nat) : Int), .pointer (some ⟨bh, 0, none⟩)] w fun e w' => e = .returned (.tuple #[]) ∧ Ev w [.box bw (u32s l) 42, .box bh [.func (.func 20) #[] #[.pointer (some ⟨bw, 0, none⟩)]] 46] w' [.box bw (u32s (quart l a b c d)) 42, .box bh [.func (.func 20) #[] #[.pointer (some ⟨bw, 0, none⟩)]] 46] := by
  refine d_start [(0, .int .i64 ((a : Nat) : Int)), (1, .int .i64 ((b : Nat) : Int)), (2, .int .i64 ((c : Nat) : Int)), (3, .int .i64 ((d : Nat) : Int)), (4, .pointer (some ⟨bh, 0, none⟩))] 29 Go.Proofs.Try.func22 Go.Proofs.Try.ntmps22 rfl (by kernel_rfl) (by kernel_rfl) ?_
  intro act0 En0
  have Hv0 : Ev w [.box bw (u32s l) 42, .box bh [.func (.func 20) #[] #[.pointer (some ⟨bw, 0, none⟩)]] 46] w [.box bw (u32s l) 42, .box bh [.func (.func 20) #[] #[.pointer (some ⟨bw, 0, none⟩)]] 46] := Ev.refl (hH)
  refine wp_seq ?_
  refine region_from ?_  -- region 0
  refine from_op (by kernel_rfl) ?_
  refine op_loadbox (d := some 9) (t := 46) (b := bh) (off := 0) (k := 1) (v := .func (.func 20) #[] #[.pointer (some ⟨bw, 0, none⟩)]) En0 (by kernel_rfl) Hv0 rfl rfl (by kernel_rfl) ?_
  intro ac1 En2
  refine d_pures [(0, .int .i64 ((a : Nat) : Int)), (1, .int .i64 ((b : Nat) : Int)), (2, .int .i64 ((c : Nat) : Int)), (3, .int .i64 ((d : Nat) : Int)), (4, .pointer (some ⟨bh, 0, none⟩)), (9, .func (.func 20) #[] #[.pointer (some ⟨bw, 0, none⟩)]), (10, .int .i64 ((a : Nat) : Int)), (11, .int .i64 ((b : Nat) : Int)), (12, .int .i64 ((d : Nat) : Int))] [.int .i64 ((a : Nat) : Int), .int .i64 ((b : Nat) : Int), .int .i64 ((d : Nat) : Int)] 4 En2 (by kernel_rfl) (by kernel_rfl) rfl ?_
  intro ac3 En4
  refine from_op (by kernel_rfl) ?_
  have hM5 : Heap w [.box bw (u32s l) 42] := Hv0.heap.pick [0] (by kernel_rfl) (by decide)
  refine op_call (d := some 13) (f := 20) (args := #[.int .i64 ((a : Nat) : Int), .int .i64 ((b : Nat) : Int), .int .i64 ((d : Nat) : Int), .int .i64 16, .pointer (some ⟨bw, 0, none⟩)]) En4 (by kernel_rfl) ((half_go _ bw l hl a b d 16 (by omega) (by omega) (by omega) (by omega) (by omega) hM5).mono ?_)
  rintro _ wo7 ⟨rfl, he10⟩
  refine ⟨_, rfl, ?_⟩
  intro ac6 En8
  have Hv9 : Ev w [.box bw (u32s l) 42, .box bh [.func (.func 20) #[] #[.pointer (some ⟨bw, 0, none⟩)]] 46] wo7 [.box bw (u32s (half l a b d 16)) 42, .box bh [.func (.func 20) #[] #[.pointer (some ⟨bw, 0, none⟩)]] 46] := Hv0.trans (Ev.call (R := [.box bh [.func (.func 20) #[] #[.pointer (some ⟨bw, 0, none⟩)]] 46]) Hv0.heap [0, 1] (by kernel_rfl) (by decide) he10)
  clear hM5 he10
  refine from_end (by kernel_rfl) ?_
  refine then_normal ?_
  refine wp_seq ?_
  refine region_from ?_  -- region 1
  refine from_op (by kernel_rfl) ?_
  refine op_loadbox (d := some 14) (t := 46) (b := bh) (off := 0) (k := 1) (v := .func (.func 20) #[] #[.pointer (some ⟨bw, 0, none⟩)]) En8 (by kernel_rfl) Hv9 rfl rfl (by kernel_rfl) ?_
  intro ac11 En12
  refine d_pures [(0, .int .i64 ((a : Nat) : Int)), (1, .int .i64 ((b : Nat) : Int)), (2, .int .i64 ((c : Nat) : Int)), (3, .int .i64 ((d : Nat) : Int)), (4, .pointer (some ⟨bh, 0, none⟩)), (14, .func (.func 20) #[] #[.pointer (some ⟨bw, 0, none⟩)]), (15, .int .i64 ((c : Nat) : Int)), (16, .int .i64 ((d : Nat) : Int)), (17, .int .i64 ((b : Nat) : Int))] [.int .i64 ((c : Nat) : Int), .int .i64 ((d : Nat) : Int), .int .i64 ((b : Nat) : Int)] 4 En12 (by kernel_rfl) (by kernel_rfl) rfl ?_
  intro ac13 En14
  refine from_op (by kernel_rfl) ?_
  have hM15 : Heap wo7 [.box bw (u32s (half l a b d 16)) 42] := Hv9.heap.pick [0] (by kernel_rfl) (by decide)
  refine op_call (d := some 18) (f := 20) (args := #[.int .i64 ((c : Nat) : Int), .int .i64 ((d : Nat) : Int), .int .i64 ((b : Nat) : Int), .int .i64 12, .pointer (some ⟨bw, 0, none⟩)]) En14 (by kernel_rfl) ((half_go _ bw (half l a b d 16) (half_len hl _ _ _ _) c d b 12 (by omega) (by omega) (by omega) (by omega) (by omega) hM15).mono ?_)
  rintro _ wo17 ⟨rfl, he20⟩
  refine ⟨_, rfl, ?_⟩
  intro ac16 En18
  have Hv19 : Ev w [.box bw (u32s l) 42, .box bh [.func (.func 20) #[] #[.pointer (some ⟨bw, 0, none⟩)]] 46] wo17 [.box bw (u32s (half (half l a b d 16) c d b 12)) 42, .box bh [.func (.func 20) #[] #[.pointer (some ⟨bw, 0, none⟩)]] 46] := Hv9.trans (Ev.call (R := [.box bh [.func (.func 20) #[] #[.pointer (some ⟨bw, 0, none⟩)]] 46]) Hv9.heap [0, 1] (by kernel_rfl) (by decide) he20)
  clear hM15 he20
  refine from_end (by kernel_rfl) ?_
  refine then_normal ?_
  refine wp_seq ?_
  refine region_from ?_  -- region 2
  refine from_op (by kernel_rfl) ?_
  refine op_loadbox (d := some 19) (t := 46) (b := bh) (off := 0) (k := 1) (v := .func (.func 20) #[] #[.pointer (some ⟨bw, 0, none⟩)]) En18 (by kernel_rfl) Hv19 rfl rfl (by kernel_rfl) ?_
  intro ac21 En22
  refine d_pures [(0, .int .i64 ((a : Nat) : Int)), (1, .int .i64 ((b : Nat) : Int)), (2, .int .i64 ((c : Nat) : Int)), (3, .int .i64 ((d : Nat) : Int)), (4, .pointer (some ⟨bh, 0, none⟩)), (19, .func (.func 20) #[] #[.pointer (some ⟨bw, 0, none⟩)]), (20, .int .i64 ((a : Nat) : Int)), (21, .int .i64 ((b : Nat) : Int)), (22, .int .i64 ((d : Nat) : Int))] [.int .i64 ((a : Nat) : Int), .int .i64 ((b : Nat) : Int), .int .i64 ((d : Nat) : Int)] 4 En22 (by kernel_rfl) (by kernel_rfl) rfl ?_
  intro ac23 En24
  refine from_op (by kernel_rfl) ?_
  have hM25 : Heap wo17 [.box bw (u32s (half (half l a b d 16) c d b 12)) 42] := Hv19.heap.pick [0] (by kernel_rfl) (by decide)
  refine op_call (d := some 23) (f := 20) (args := #[.int .i64 ((a : Nat) : Int), .int .i64 ((b : Nat) : Int), .int .i64 ((d : Nat) : Int), .int .i64 8, .pointer (some ⟨bw, 0, none⟩)]) En24 (by kernel_rfl) ((half_go _ bw (half (half l a b d 16) c d b 12) (half_len (half_len hl _ _ _ _) _ _ _ _) a b d 8 (by omega) (by omega) (by omega) (by omega) (by omega) hM25).mono ?_)
  rintro _ wo27 ⟨rfl, he30⟩
  refine ⟨_, rfl, ?_⟩
  intro ac26 En28
  have Hv29 : Ev w [.box bw (u32s l) 42, .box bh [.func (.func 20) #[] #[.pointer (some ⟨bw, 0, none⟩)]] 46] wo27 [.box bw (u32s (half (half (half l a b d 16) c d b 12) a b d 8)) 42, .box bh [.func (.func 20) #[] #[.pointer (some ⟨bw, 0, none⟩)]] 46] := Hv19.trans (Ev.call (R := [.box bh [.func (.func 20) #[] #[.pointer (some ⟨bw, 0, none⟩)]] 46]) Hv19.heap [0, 1] (by kernel_rfl) (by decide) he30)
  clear hM25 he30
  refine from_end (by kernel_rfl) ?_
  refine then_normal ?_
  refine region_from ?_  -- region 3
  refine from_op (by kernel_rfl) ?_
  refine op_loadbox (d := some 24) (t := 46) (b := bh) (off := 0) (k := 1) (v := .func (.func 20) #[] #[.pointer (some ⟨bw, 0, none⟩)]) En28 (by kernel_rfl) Hv29 rfl rfl (by kernel_rfl) ?_
  intro ac31 En32
  refine d_pures [(0, .int .i64 ((a : Nat) : Int)), (1, .int .i64 ((b : Nat) : Int)), (2, .int .i64 ((c : Nat) : Int)), (3, .int .i64 ((d : Nat) : Int)), (4, .pointer (some ⟨bh, 0, none⟩)), (24, .func (.func 20) #[] #[.pointer (some ⟨bw, 0, none⟩)]), (25, .int .i64 ((c : Nat) : Int)), (26, .int .i64 ((d : Nat) : Int)), (27, .int .i64 ((b : Nat) : Int))] [.int .i64 ((c : Nat) : Int), .int .i64 ((d : Nat) : Int), .int .i64 ((b : Nat) : Int)] 4 En32 (by kernel_rfl) (by kernel_rfl) rfl ?_
  intro ac33 En34
  refine from_op (by kernel_rfl) ?_
  have hM35 : Heap wo27 [.box bw (u32s (half (half (half l a b d 16) c d b 12) a b d 8)) 42] := Hv29.heap.pick [0] (by kernel_rfl) (by decide)
  refine op_call (d := some 28) (f := 20) (args := #[.int .i64 ((c : Nat) : Int), .int .i64 ((d : Nat) : Int), .int .i64 ((b : Nat) : Int), .int .i64 7, .pointer (some ⟨bw, 0, none⟩)]) En34 (by kernel_rfl) ((half_go _ bw (half (half (half l a b d 16) c d b 12) a b d 8) (half_len (half_len (half_len hl _ _ _ _) _ _ _ _) _ _ _ _) c d b 7 (by omega) (by omega) (by omega) (by omega) (by omega) hM35).mono ?_)
  rintro _ wo37 ⟨rfl, he40⟩
  refine ⟨_, rfl, ?_⟩
  intro ac36 En38
  have Hv39 : Ev w [.box bw (u32s l) 42, .box bh [.func (.func 20) #[] #[.pointer (some ⟨bw, 0, none⟩)]] 46] wo37 [.box bw (u32s (half (half (half (half l a b d 16) c d b 12) a b d 8) c d b 7)) 42, .box bh [.func (.func 20) #[] #[.pointer (some ⟨bw, 0, none⟩)]] 46] := Hv29.trans (Ev.call (R := [.box bh [.func (.func 20) #[] #[.pointer (some ⟨bw, 0, none⟩)]] 46]) Hv29.heap [0, 1] (by kernel_rfl) (by decide) he40)
  clear hM35 he40
  refine from_end (by kernel_rfl) ?_
  refine d_end0 En38 (by kernel_rfl) ?_
  exact ⟨rfl, Hv39.pick [0, 1] (by kernel_rfl) (by decide)⟩

theorem quart_ref (w : World) (l : List UInt32) (hl : List.length l = 16) (a b c d : Nat) (ha : a < 16) (hb : b < 16) (hc : c < 16) (hd : d < 16) : Calls Try.prog 24 #[.agg (List.toArray (u32s l)), .int .i64 ((a : Nat) : Int), .int .i64 ((b : Nat) : Int), .int .i64 ((c : Nat) : Int), .int .i64 ((d : Nat) : Int)] w fun e w' => e = .returned (.agg (List.toArray (u32s (quart l a b c d)))) ∧ Ev w [] w' [] := by
  refine d_start [(0, .agg (List.toArray (u32s l))), (1, .int .i64 ((a : Nat) : Int)), (2, .int .i64 ((b : Nat) : Int)), (3, .int .i64 ((c : Nat) : Int)), (4, .int .i64 ((d : Nat) : Int))] 88 Go.Proofs.Try.func24 Go.Proofs.Try.ntmps24 rfl (by kernel_rfl) (by kernel_rfl) ?_
  intro act0 En0
  have Hv0 : Ev w [] w [] := Ev.refl (Heap.nil _)
  refine wp_seq ?_
  refine region_from ?_  -- region 0
  refine from_op (by kernel_rfl) ?_
  refine op_newbox (d := some 5) (T := 42) (v := .agg (List.toArray (u32s l))) (cs := u32s l) En0 (by kernel_rfl) rfl Hv0 ?_
  intro ac2 wo3 bk1 En4 Hv5
  refine from_op (by kernel_rfl) ?_
  refine op_alloc (d := some 10) (T := 42) (x := .tuple #[]) (z := .agg (List.toArray (u32s (List.replicate 16 0)))) (cs := u32s (List.replicate 16 0)) En4 (by kernel_rfl) (by kernel_rfl) (by kernel_rfl) Hv5 ?_
  intro ac7 wo8 bk6 En9 Hv10
  refine from_end (by kernel_rfl) ?_
  refine then_normal ?_
  refine wp_seq ?_
  refine region_cut (F := fun ac wo => Env ac 88 [(1, .int .i64 ((a : Nat) : Int)), (2, .int .i64 ((b : Nat) : Int)), (3, .int .i64 ((c : Nat) : Int)), (4, .int .i64 ((d : Nat) : Int)), (5, .pointer (some ⟨bk1, 0, none⟩)), (10, .pointer (some ⟨bk6, 0, none⟩))] ∧ Ev w [] wo [.box bk1 (u32s (List.set l a ((List.getD l a 0) + (List.getD l b 0)))) 42, .box bk6 (u32s (List.replicate 16 0)) 42]) ?_ ?_
  ·
    refine draw_any (by kernel_rfl) 10 (by kernel_rfl) ?_  -- region 1
    have wo11 := Hv10.trans (Ev.drew Hv10.heap)
    refine any_name fun G hG => ?_
    have nd52 : ∀ (ac : Act) (wo : World), Env ac 88 [(1, .int .i64 ((a : Nat) : Int)), (2, .int .i64 ((b : Nat) : Int)), (3, .int .i64 ((c : Nat) : Int)), (4, .int .i64 ((d : Nat) : Int)), (5, .pointer (some ⟨bk1, 0, none⟩)), (10, .pointer (some ⟨bk6, 0, none⟩)), (11, .int .i64 ((a : Nat) : Int)), (14, .int .u32 ((UInt32.toNat (List.getD l a 0) : Nat) : Int)), (16, .pointer (some ⟨bk1, b, none⟩))] → Ev w [] wo [.box bk1 (u32s l) 42, .box bk6 (u32s (List.replicate 16 0)) 42] → G 4 #[true, true, true, true, true, true, false, false, false, false] ac wo := by
      intro ac53 wo54 En55 Hv56
      refine any_from hG ?_
      refine any_at 6 (by kernel_rfl) rfl ?_
      have hb57 : b < List.length l := by rw [hl]; omega
      refine op_loadbox (d := some 17) (t := 23) (b := bk1) (off := b) (k := 0) (v := .int .u32 ((UInt32.toNat (List.getD l b 0) : Nat) : Int)) En55 (by kernel_rfl) Hv56 rfl (u32s_getD hb57) (by kernel_rfl) ?_
      intro ac58 En59
      refine any_pureR (d := some 18) En59 (v := .int .u32 (IntKind.wrap .u32 (((UInt32.toNat (List.getD l a 0) : Nat) : Int) + ((UInt32.toNat (List.getD l b 0) : Nat) : Int)))) 7 (by kernel_rfl) (by kernel_rfl) rfl ?_
      intro ac60 En61
      rw [Go.Dbr.u32_add (a := ((UInt32.toNat (List.getD l a 0) : Nat) : Int)) (b := ((UInt32.toNat (List.getD l b 0) : Nat) : Int)) (x := List.getD l a 0) (y := List.getD l b 0) rfl rfl] at En61
      refine any_pure (d := some 19) (s := nv (Instr.indexAt 42 (.pointer (some ⟨bk1, 0, none⟩)) (.int .i64 ((a : Nat) : Int)))) En61 (v := .pointer (some ⟨bk1, a, none⟩)) 8 (by kernel_rfl) (funext fun _ => run_nv (Go.Dbr.run_indexarr (e := 23) (sz := 1) (m := 16) (j := a) (o := a) (by kernel_rfl) (by kernel_rfl) (by omega) (by omega) (by omega) _)) (by kernel_rfl) rfl ?_
      intro ac62 En63
      refine any_at 9 (by kernel_rfl) rfl ?_
      have hb64 : a < List.length l := by rw [hl]; omega
      refine op_storebox2 (d := none) (t := 23) (b := bk1) (off := a) (k := 0) (v := .int .u32 ((UInt32.toNat ((List.getD l a 0) + (List.getD l b 0)) : Nat) : Int)) En63 (by kernel_rfl) Hv56 rfl (u32s_getD hb64) (by kernel_rfl) rfl (u32s_set _ _ _) rfl ?_
      intro ac65 wo66  En67 Hv68
      exact any_end (by kernel_rfl) ⟨En67.sub (by kernel_rfl), Hv68.pick [0, 1] (by kernel_rfl) (by decide)⟩
    have nd69 : ∀ (ac : Act) (wo : World), Env ac 88 [(1, .int .i64 ((a : Nat) : Int)), (2, .int .i64 ((b : Nat) : Int)), (3, .int .i64 ((c : Nat) : Int)), (4, .int .i64 ((d : Nat) : Int)), (5, .pointer (some ⟨bk1, 0, none⟩)), (10, .pointer (some ⟨bk6, 0, none⟩)), (11, .int .i64 ((a : Nat) : Int)), (13, .pointer (some ⟨bk1, a, none⟩)), (17, .int .u32 ((UInt32.toNat (List.getD l b 0) : Nat) : Int))] → Ev w [] wo [.box bk1 (u32s l) 42, .box bk6 (u32s (List.replicate 16 0)) 42] → G 4 #[true, true, true, false, true, true, true, false, false, false] ac wo := by
      intro ac70 wo71 En72 Hv73
      refine any_from hG ?_
      refine any_at 3 (by kernel_rfl) rfl ?_
      have hb74 : a < List.length l := by rw [hl]; omega
      refine op_loadbox (d := some 14) (t := 23) (b := bk1) (off := a) (k := 0) (v := .int .u32 ((UInt32.toNat (List.getD l a 0) : Nat) : Int)) En72 (by kernel_rfl) Hv73 rfl (u32s_getD hb74) (by kernel_rfl) ?_
      intro ac75 En76
      refine any_pureR (d := some 18) En76 (v := .int .u32 (IntKind.wrap .u32 (((UInt32.toNat (List.getD l a 0) : Nat) : Int) + ((UInt32.toNat (List.getD l b 0) : Nat) : Int)))) 7 (by kernel_rfl) (by kernel_rfl) rfl ?_
      intro ac77 En78
      rw [Go.Dbr.u32_add (a := ((UInt32.toNat (List.getD l a 0) : Nat) : Int)) (b := ((UInt32.toNat (List.getD l b 0) : Nat) : Int)) (x := List.getD l a 0) (y := List.getD l b 0) rfl rfl] at En78
      refine any_pure (d := some 19) (s := nv (Instr.indexAt 42 (.pointer (some ⟨bk1, 0, none⟩)) (.int .i64 ((a : Nat) : Int)))) En78 (v := .pointer (some ⟨bk1, a, none⟩)) 8 (by kernel_rfl) (funext fun _ => run_nv (Go.Dbr.run_indexarr (e := 23) (sz := 1) (m := 16) (j := a) (o := a) (by kernel_rfl) (by kernel_rfl) (by omega) (by omega) (by omega) _)) (by kernel_rfl) rfl ?_
      intro ac79 En80
      refine any_at 9 (by kernel_rfl) rfl ?_
      have hb81 : a < List.length l := by rw [hl]; omega
      refine op_storebox2 (d := none) (t := 23) (b := bk1) (off := a) (k := 0) (v := .int .u32 ((UInt32.toNat ((List.getD l a 0) + (List.getD l b 0)) : Nat) : Int)) En80 (by kernel_rfl) Hv73 rfl (u32s_getD hb81) (by kernel_rfl) rfl (u32s_set _ _ _) rfl ?_
      intro ac82 wo83  En84 Hv85
      exact any_end (by kernel_rfl) ⟨En84.sub (by kernel_rfl), Hv85.pick [0, 1] (by kernel_rfl) (by decide)⟩
    refine any_from hG ?_
    refine any_pureR (d := some 11) En9 (v := .int .i64 ((a : Nat) : Int)) 0 (by kernel_rfl) (by kernel_rfl) rfl ?_
    intro ac86 En87
    refine any_pureR (d := some 12) En87 (v := .int .i64 ((a : Nat) : Int)) 1 (by kernel_rfl) (by kernel_rfl) rfl ?_
    intro ac88 En89
    refine any_pure (d := some 13) (s := nv (Instr.indexAt 42 (.pointer (some ⟨bk1, 0, none⟩)) (.int .i64 ((a : Nat) : Int)))) En89 (v := .pointer (some ⟨bk1, a, none⟩)) 2 (by kernel_rfl) (funext fun _ => run_nv (Go.Dbr.run_indexarr (e := 23) (sz := 1) (m := 16) (j := a) (o := a) (by kernel_rfl) (by kernel_rfl) (by omega) (by omega) (by omega) _)) (by kernel_rfl) rfl ?_
    intro ac90 En91
    refine any_pureR (d := some 15) En91 (v := .int .i64 ((b : Nat) : Int)) 4 (by kernel_rfl) (by kernel_rfl) rfl ?_
    intro ac92 En93
    refine any_pure (d := some 16) (s := nv (Instr.indexAt 42 (.pointer (some ⟨bk1, 0, none⟩)) (.int .i64 ((b : Nat) : Int)))) En93 (v := .pointer (some ⟨bk1, b, none⟩)) 5 (by kernel_rfl) (funext fun _ => run_nv (Go.Dbr.run_indexarr (e := 23) (sz := 1) (m := 16) (j := b) (o := b) (by kernel_rfl) (by kernel_rfl) (by omega) (by omega) (by omega) _)) (by kernel_rfl) rfl ?_
    intro ac94 En95
    refine any_two 3 6 (by kernel_rfl) ?_ ?_
    · rintro _ rfl
      have hb96 : a < List.length l := by rw [hl]; omega
      refine op_loadbox (d := some 14) (t := 23) (b := bk1) (off := a) (k := 0) (v := .int .u32 ((UInt32.toNat (List.getD l a 0) : Nat) : Int)) En95 (by kernel_rfl) wo11 rfl (u32s_getD hb96) (by kernel_rfl) ?_
      intro ac97 En98
      exact any_to hG (by kernel_rfl) (nd52 _ _ (En98.sub (by kernel_rfl)) (wo11.pick [0, 1] (by kernel_rfl) (by decide)))
    · rintro _ rfl
      have hb99 : b < List.length l := by rw [hl]; omega
      refine op_loadbox (d := some 17) (t := 23) (b := bk1) (off := b) (k := 0) (v := .int .u32 ((UInt32.toNat (List.getD l b 0) : Nat) : Int)) En95 (by kernel_rfl) wo11 rfl (u32s_getD hb99) (by kernel_rfl) ?_
      intro ac100 En101
      exact any_to hG (by kernel_rfl) (nd69 _ _ (En101.sub (by kernel_rfl)) (wo11.pick [0, 1] (by kernel_rfl) (by decide)))
  rintro ac102 wo103 ⟨En104, Hv105⟩
  refine then_normal ?_
  refine wp_seq ?_
  refine region_cut (F := fun ac wo => Env ac 88 [(1, .int .i64 ((a : Nat) : Int)), (2, .int .i64 ((b : Nat) : Int)), (3, .int .i64 ((c : Nat) : Int)), (4, .int .i64 ((d : Nat) : Int)), (5, .pointer (some ⟨bk1, 0, none⟩)), (10, .pointer (some ⟨bk6, 0, none⟩))] ∧ Ev w [] wo [.box bk1 (u32s (List.set (List.set l a ((List.getD l a 0) + (List.getD l b 0))) d (rotl ((List.getD (List.set l a ((List.getD l a 0) + (List.getD l b 0))) d 0) ^^^ (List.getD (List.set l a ((List.getD l a 0) + (List.getD l b 0))) a 0)) 16))) 42, .box bk6 (u32s (List.replicate 16 0)) 42]) ?_ ?_
  ·
    refine draw_any (by kernel_rfl) 11 (by kernel_rfl) ?_  -- region 2
    have wo106 := Hv105.trans (Ev.drew Hv105.heap)
    refine any_name fun G hG => ?_
    have nd159 : ∀ (ac : Act) (wo : World), Env ac 88 [(1, .int .i64 ((a : Nat) : Int)), (2, .int .i64 ((b : Nat) : Int)), (3, .int .i64 ((c : Nat) : Int)), (4, .int .i64 ((d : Nat) : Int)), (5, .pointer (some ⟨bk1, 0, none⟩)), (10, .pointer (some ⟨bk6, 0, none⟩)), (20, .int .i64 ((d : Nat) : Int)), (23, .int .u32 ((UInt32.toNat (List.getD (List.set l a ((List.getD l a 0) + (List.getD l b 0))) d 0) : Nat) : Int)), (25, .pointer (some ⟨bk1, a, none⟩))] → Ev w [] wo [.box bk1 (u32s (List.set l a ((List.getD l a 0) + (List.getD l b 0)))) 42, .box bk6 (u32s (List.replicate 16 0)) 42] → G 5 #[true, true, true, true, true, true, false, false, false, false, false] ac wo := by
      intro ac160 wo161 En162 Hv163
      refine any_from hG ?_
      refine any_at 6 (by kernel_rfl) rfl ?_
      have hb164 : a < List.length (List.set l a ((List.getD l a 0) + (List.getD l b 0))) := by rw [(List.length_set.trans hl)]; omega
      refine op_loadbox (d := some 26) (t := 23) (b := bk1) (off := a) (k := 0) (v := .int .u32 ((UInt32.toNat (List.getD (List.set l a ((List.getD l a 0) + (List.getD l b 0))) a 0) : Nat) : Int)) En162 (by kernel_rfl) Hv163 rfl (u32s_getD hb164) (by kernel_rfl) ?_
      intro ac165 En166
      refine any_pureR (d := some 27) En166 (v := .int .u32 (IntKind.wrap .u32 ((BitVec.ofInt (IntKind.bits .u32) ((UInt32.toNat (List.getD (List.set l a ((List.getD l a 0) + (List.getD l b 0))) d 0) : Nat) : Int) ^^^ BitVec.ofInt (IntKind.bits .u32) ((UInt32.toNat (List.getD (List.set l a ((List.getD l a 0) + (List.getD l b 0))) a 0) : Nat) : Int)).toNat : Int))) 7 (by kernel_rfl) (by kernel_rfl) rfl ?_
      intro ac167 En168
      rw [Go.Dbr.u32_xor (a := ((UInt32.toNat (List.getD (List.set l a ((List.getD l a 0) + (List.getD l b 0))) d 0) : Nat) : Int)) (b := ((UInt32.toNat (List.getD (List.set l a ((List.getD l a 0) + (List.getD l b 0))) a 0) : Nat) : Int)) (x := List.getD (List.set l a ((List.getD l a 0) + (List.getD l b 0))) d 0) (y := List.getD (List.set l a ((List.getD l a 0) + (List.getD l b 0))) a 0) rfl rfl] at En168
      refine any_at 8 (by kernel_rfl) rfl ?_
      have hM169 : Heap wo161 [] := Hv163.heap.pick [] (by kernel_rfl) (by decide)
      refine op_call (d := some 28) (f := 33) (args := #[.int .u32 ((UInt32.toNat ((List.getD (List.set l a ((List.getD l a 0) + (List.getD l b 0))) d 0) ^^^ (List.getD (List.set l a ((List.getD l a 0) + (List.getD l b 0))) a 0)) : Nat) : Int), .int .i64 16]) En168 (by kernel_rfl) ((left_ref _ ((List.getD (List.set l a ((List.getD l a 0) + (List.getD l b 0))) d 0) ^^^ (List.getD (List.set l a ((List.getD l a 0) + (List.getD l b 0))) a 0)) 16 (by omega) (by omega)).mono ?_)
      rintro _ wo171 ⟨rfl, he174⟩
      refine ⟨_, rfl, ?_⟩
      intro ac170 En172
      have Hv173 : Ev w [] wo171 [.box bk1 (u32s (List.set l a ((List.getD l a 0) + (List.getD l b 0)))) 42, .box bk6 (u32s (List.replicate 16 0)) 42] := Hv163.trans (Ev.call (R := [.box bk1 (u32s (List.set l a ((List.getD l a 0) + (List.getD l b 0)))) 42, .box bk6 (u32s (List.replicate 16 0)) 42]) Hv163.heap [0, 1] (by kernel_rfl) (by decide) he174)
      clear hM169 he174
      refine any_pure (d := some 29) (s := nv (Instr.indexAt 42 (.pointer (some ⟨bk1, 0, none⟩)) (.int .i64 ((d : Nat) : Int)))) En172 (v := .pointer (some ⟨bk1, d, none⟩)) 9 (by kernel_rfl) (funext fun _ => run_nv (Go.Dbr.run_indexarr (e := 23) (sz := 1) (m := 16) (j := d) (o := d) (by kernel_rfl) (by kernel_rfl) (by omega) (by omega) (by omega) _)) (by kernel_rfl) rfl ?_
      intro ac175 En176
      refine any_at 10 (by kernel_rfl) rfl ?_
      have hb177 : d < List.length (List.set l a ((List.getD l a 0) + (List.getD l b 0))) := by rw [(List.length_set.trans hl)]; omega
      refine op_storebox2 (d := none) (t := 23) (b := bk1) (off := d) (k := 0) (v := .int .u32 ((UInt32.toNat (rotl ((List.getD (List.set l a ((List.getD l a 0) + (List.getD l b 0))) d 0) ^^^ (List.getD (List.set l a ((List.getD l a 0) + (List.getD l b 0))) a 0)) 16) : Nat) : Int)) En176 (by kernel_rfl) Hv173 rfl (u32s_getD hb177) (by kernel_rfl) rfl (u32s_set _ _ _) rfl ?_
      intro ac178 wo179  En180 Hv181
      exact any_end (by kernel_rfl) ⟨En180.sub (by kernel_rfl), Hv181.pick [0, 1] (by kernel_rfl) (by decide)⟩
    have nd182 : ∀ (ac : Act) (wo : World), Env ac 88 [(1, .int .i64 ((a : Nat) : Int)), (2, .int .i64 ((b : Nat) : Int)), (3, .int .i64 ((c : Nat) : Int)), (4, .int .i64 ((d : Nat) : Int)), (5, .pointer (some ⟨bk1, 0, none⟩)), (10, .pointer (some ⟨bk6, 0, none⟩)), (20, .int .i64 ((d : Nat) : Int)), (22, .pointer (some ⟨bk1, d, none⟩)), (26, .int .u32 ((UInt32.toNat (List.getD (List.set l a ((List.getD l a 0) + (List.getD l b 0))) a 0) : Nat) : Int))] → Ev w [] wo [.box bk1 (u32s (List.set l a ((List.getD l a 0) + (List.getD l b 0)))) 42, .box bk6 (u32s (List.replicate 16 0)) 42] → G 5 #[true, true, true, false, true, true, true, false, false, false, false] ac wo := by
      intro ac183 wo184 En185 Hv186
      refine any_from hG ?_
      refine any_at 3 (by kernel_rfl) rfl ?_
      have hb187 : d < List.length (List.set l a ((List.getD l a 0) + (List.getD l b 0))) := by rw [(List.length_set.trans hl)]; omega
      refine op_loadbox (d := some 23) (t := 23) (b := bk1) (off := d) (k := 0) (v := .int .u32 ((UInt32.toNat (List.getD (List.set l a ((List.getD l a 0) + (List.getD l b 0))) d 0) : Nat) : Int)) En185 (by kernel_rfl) Hv186 rfl (u32s_getD hb187) (by kernel_rfl) ?_
      intro ac188 En189
      refine any_pureR (d := some 27) En189 (v := .int .u32 (IntKind.wrap .u32 ((BitVec.ofInt (IntKind.bits .u32) ((UInt32.toNat (List.getD (List.set l a ((List.getD l a 0) + (List.getD l b 0))) d 0) : Nat) : Int) ^^^ BitVec.ofInt (IntKind.bits .u32) ((UInt32.toNat (List.getD (List.set l a ((List.getD l a 0) + (List.getD l b 0))) a 0) : Nat) : Int)).toNat : Int))) 7 (by kernel_rfl) (by kernel_rfl) rfl ?_
      intro ac190 En191
      rw [Go.Dbr.u32_xor (a := ((UInt32.toNat (List.getD (List.set l a ((List.getD l a 0) + (List.getD l b 0))) d 0) : Nat) : Int)) (b := ((UInt32.toNat (List.getD (List.set l a ((List.getD l a 0) + (List.getD l b 0))) a 0) : Nat) : Int)) (x := List.getD (List.set l a ((List.getD l a 0) + (List.getD l b 0))) d 0) (y := List.getD (List.set l a ((List.getD l a 0) + (List.getD l b 0))) a 0) rfl rfl] at En191
      refine any_at 8 (by kernel_rfl) rfl ?_
      have hM192 : Heap wo184 [] := Hv186.heap.pick [] (by kernel_rfl) (by decide)
      refine op_call (d := some 28) (f := 33) (args := #[.int .u32 ((UInt32.toNat ((List.getD (List.set l a ((List.getD l a 0) + (List.getD l b 0))) d 0) ^^^ (List.getD (List.set l a ((List.getD l a 0) + (List.getD l b 0))) a 0)) : Nat) : Int), .int .i64 16]) En191 (by kernel_rfl) ((left_ref _ ((List.getD (List.set l a ((List.getD l a 0) + (List.getD l b 0))) d 0) ^^^ (List.getD (List.set l a ((List.getD l a 0) + (List.getD l b 0))) a 0)) 16 (by omega) (by omega)).mono ?_)
      rintro _ wo194 ⟨rfl, he197⟩
      refine ⟨_, rfl, ?_⟩
      intro ac193 En195
      have Hv196 : Ev w [] wo194 [.box bk1 (u32s (List.set l a ((List.getD l a 0) + (List.getD l b 0)))) 42, .box bk6 (u32s (List.replicate 16 0)) 42] := Hv186.trans (Ev.call (R := [.box bk1 (u32s (List.set l a ((List.getD l a 0) + (List.getD l b 0)))) 42, .box bk6 (u32s (List.replicate 16 0)) 42]) Hv186.heap [0, 1] (by kernel_rfl) (by decide) he197)
      clear hM192 he197
      refine any_pure (d := some 29) (s := nv (Instr.indexAt 42 (.pointer (some ⟨bk1, 0, none⟩)) (.int .i64 ((d : Nat) : Int)))) En195 (v := .pointer (some ⟨bk1, d, none⟩)) 9 (by kernel_rfl) (funext fun _ => run_nv (Go.Dbr.run_indexarr (e := 23) (sz := 1) (m := 16) (j := d) (o := d) (by kernel_rfl) (by kernel_rfl) (by omega) (by omega) (by omega) _)) (by kernel_rfl) rfl ?_
      intro ac198 En199
      refine any_at 10 (by kernel_rfl) rfl ?_
      have hb200 : d < List.length (List.set l a ((List.getD l a 0) + (List.getD l b 0))) := by rw [(List.length_set.trans hl)]; omega
      refine op_storebox2 (d := none) (t := 23) (b := bk1) (off := d) (k := 0) (v := .int .u32 ((UInt32.toNat (rotl ((List.getD (List.set l a ((List.getD l a 0) + (List.getD l b 0))) d 0) ^^^ (List.getD (List.set l a ((List.getD l a 0) + (List.getD l b 0))) a 0)) 16) : Nat) : Int)) En199 (by kernel_rfl) Hv196 rfl (u32s_getD hb200) (by kernel_rfl) rfl (u32s_set _ _ _) rfl ?_
      intro ac201 wo202  En203 Hv204
      exact any_end (by kernel_rfl) ⟨En203.sub (by kernel_rfl), Hv204.pick [0, 1] (by kernel_rfl) (by decide)⟩
    refine any_from hG ?_
    refine any_pureR (d := some 20) En104 (v := .int .i64 ((d : Nat) : Int)) 0 (by kernel_rfl) (by kernel_rfl) rfl ?_
    intro ac205 En206
    refine any_pureR (d := some 21) En206 (v := .int .i64 ((d : Nat) : Int)) 1 (by kernel_rfl) (by kernel_rfl) rfl ?_
    intro ac207 En208
    refine any_pure (d := some 22) (s := nv (Instr.indexAt 42 (.pointer (some ⟨bk1, 0, none⟩)) (.int .i64 ((d : Nat) : Int)))) En208 (v := .pointer (some ⟨bk1, d, none⟩)) 2 (by kernel_rfl) (funext fun _ => run_nv (Go.Dbr.run_indexarr (e := 23) (sz := 1) (m := 16) (j := d) (o := d) (by kernel_rfl) (by kernel_rfl) (by omega) (by omega) (by omega) _)) (by kernel_rfl) rfl ?_
    intro ac209 En210
    refine any_pureR (d := some 24) En210 (v := .int .i64 ((a : Nat) : Int)) 4 (by kernel_rfl) (by kernel_rfl) rfl ?_
    intro ac211 En212
    refine any_pure (d := some 25) (s := nv (Instr.indexAt 42 (.pointer (some ⟨bk1, 0, none⟩)) (.int .i64 ((a : Nat) : Int)))) En212 (v := .pointer (some ⟨bk1, a, none⟩)) 5 (by kernel_rfl) (funext fun _ => run_nv (Go.Dbr.run_indexarr (e := 23) (sz := 1) (m := 16) (j := a) (o := a) (by kernel_rfl) (by kernel_rfl) (by omega) (by omega) (by omega) _)) (by kernel_rfl) rfl ?_
    intro ac213 En214
    refine any_two 3 6 (by kernel_rfl) ?_ ?_
    · rintro _ rfl
      have hb215 : d < List.length (List.set l a ((List.getD l a 0) + (List.getD l b 0))) := by rw [(List.length_set.trans hl)]; omega
      refine op_loadbox (d := some 23) (t := 23) (b := bk1) (off := d) (k := 0) (v := .int .u32 ((UInt32.toNat (List.getD (List.set l a ((List.getD l a 0) + (List.getD l b 0))) d 0) : Nat) : Int)) En214 (by kernel_rfl) wo106 rfl (u32s_getD hb215) (by kernel_rfl) ?_
      intro ac216 En217
      exact any_to hG (by kernel_rfl) (nd159 _ _ (En217.sub (by kernel_rfl)) (wo106.pick [0, 1] (by kernel_rfl) (by decide)))
    · rintro _ rfl
      have hb218 : a < List.length (List.set l a ((List.getD l a 0) + (List.getD l b 0))) := by rw [(List.length_set.trans hl)]; omega
      refine op_loadbox (d := some 26) (t := 23) (b := bk1) (off := a) (k := 0) (v := .int .u32 ((UInt32.toNat (List.getD (List.set l a ((List.getD l a 0) + (List.getD l b 0))) a 0) : Nat) : Int)) En214 (by kernel_rfl) wo106 rfl (u32s_getD hb218) (by kernel_rfl) ?_
      intro ac219 En220
      exact any_to hG (by kernel_rfl) (nd182 _ _ (En220.sub (by kernel_rfl)) (wo106.pick [0, 1] (by kernel_rfl) (by decide)))
  rintro ac221 wo222 ⟨En223, Hv224⟩
  replace Hv224 : Ev w [] wo222 [.box bk1 (u32s (half l a b d 16)) 42, .box bk6 (u32s (List.replicate 16 0)) 42] := Hv224
  refine then_normal ?_
  refine wp_seq ?_
  refine region_cut (F := fun ac wo => Env ac 88 [(1, .int .i64 ((a : Nat) : Int)), (2, .int .i64 ((b : Nat) : Int)), (3, .int .i64 ((c : Nat) : Int)), (4, .int .i64 ((d : Nat) : Int)), (5, .pointer (some ⟨bk1, 0, none⟩)), (10, .pointer (some ⟨bk6, 0, none⟩))] ∧ Ev w [] wo [.box bk1 (u32s (List.set (half l a b d 16) c ((List.getD (half l a b d 16) c 0) + (List.getD (half l a b d 16) d 0)))) 42, .box bk6 (u32s (List.replicate 16 0)) 42]) ?_ ?_
  ·
    refine draw_any (by kernel_rfl) 10 (by kernel_rfl) ?_  -- region 3
    have wo225 := Hv224.trans (Ev.drew Hv224.heap)
    refine any_name fun G hG => ?_
    have nd266 : ∀ (ac : Act) (wo : World), Env ac 88 [(1, .int .i64 ((a : Nat) : Int)), (2, .int .i64 ((b : Nat) : Int)), (3, .int .i64 ((c : Nat) : Int)), (4, .int .i64 ((d : Nat) : Int)), (5, .pointer (some ⟨bk1, 0, none⟩)), (10, .pointer (some ⟨bk6, 0, none⟩)), (30, .int .i64 ((c : Nat) : Int)), (33, .int .u32 ((UInt32.toNat (List.getD (half l a b d 16) c 0) : Nat) : Int)), (35, .pointer (some ⟨bk1, d, none⟩))] → Ev w [] wo [.box bk1 (u32s (half l a b d 16)) 42, .box bk6 (u32s (List.replicate 16 0)) 42] → G 4 #[true, true, true, true, true, true, false, false, false, false] ac wo := by
      intro ac267 wo268 En269 Hv270
      refine any_from hG ?_
      refine any_at 6 (by kernel_rfl) rfl ?_
      have hb271 : d < List.length (half l a b d 16) := by rw [(half_len hl _ _ _ _)]; omega
      refine op_loadbox (d := some 36) (t := 23) (b := bk1) (off := d) (k := 0) (v := .int .u32 ((UInt32.toNat (List.getD (half l a b d 16) d 0) : Nat) : Int)) En269 (by kernel_rfl) Hv270 rfl (u32s_getD hb271) (by kernel_rfl) ?_
      intro ac272 En273
      refine any_pureR (d := some 37) En273 (v := .int .u32 (IntKind.wrap .u32 (((UInt32.toNat (List.getD (half l a b d 16) c 0) : Nat) : Int) + ((UInt32.toNat (List.getD (half l a b d 16) d 0) : Nat) : Int)))) 7 (by kernel_rfl) (by kernel_rfl) rfl ?_
      intro ac274 En275
      rw [Go.Dbr.u32_add (a := ((UInt32.toNat (List.getD (half l a b d 16) c 0) : Nat) : Int)) (b := ((UInt32.toNat (List.getD (half l a b d 16) d 0) : Nat) : Int)) (x := List.getD (half l a b d 16) c 0) (y := List.getD (half l a b d 16) d 0) rfl rfl] at En275
      refine any_pure (d := some 38) (s := nv (Instr.indexAt 42 (.pointer (some ⟨bk1, 0, none⟩)) (.int .i64 ((c : Nat) : Int)))) En275 (v := .pointer (some ⟨bk1, c, none⟩)) 8 (by kernel_rfl) (funext fun _ => run_nv (Go.Dbr.run_indexarr (e := 23) (sz := 1) (m := 16) (j := c) (o := c) (by kernel_rfl) (by kernel_rfl) (by omega) (by omega) (by omega) _)) (by kernel_rfl) rfl ?_
      intro ac276 En277
      refine any_at 9 (by kernel_rfl) rfl ?_
      have hb278 : c < List.length (half l a b d 16) := by rw [(half_len hl _ _ _ _)]; omega
      refine op_storebox2 (d := none) (t := 23) (b := bk1) (off := c) (k := 0) (v := .int .u32 ((UInt32.toNat ((List.getD (half l a b d 16) c 0) + (List.getD (half l a b d 16) d 0)) : Nat) : Int)) En277 (by kernel_rfl) Hv270 rfl (u32s_getD hb278) (by kernel_rfl) rfl (u32s_set _ _ _) rfl ?_
      intro ac279 wo280  En281 Hv282
      exact any_end (by kernel_rfl) ⟨En281.sub (by kernel_rfl), Hv282.pick [0, 1] (by kernel_rfl) (by decide)⟩
    have nd283 : ∀ (ac : Act) (wo : World), Env ac 88 [(1, .int .i64 ((a : Nat) : Int)), (2, .int .i64 ((b : Nat) : Int)), (3, .int .i64 ((c : Nat) : Int)), (4, .int .i64 ((d : Nat) : Int)), (5, .pointer (some ⟨bk1, 0, none⟩)), (10, .pointer (some ⟨bk6, 0, none⟩)), (30, .int .i64 ((c : Nat) : Int)), (32, .pointer (some ⟨bk1, c, none⟩)), (36, .int .u32 ((UInt32.toNat (List.getD (half l a b d 16) d 0) : Nat) : Int))] → Ev w [] wo [.box bk1 (u32s (half l a b d 16)) 42, .box bk6 (u32s (List.replicate 16 0)) 42] → G 4 #[true, true, true, false, true, true, true, false, false, false] ac wo := by
      intro ac284 wo285 En286 Hv287
      refine any_from hG ?_
      refine any_at 3 (by kernel_rfl) rfl ?_
      have hb288 : c < List.length (half l a b d 16) := by rw [(half_len hl _ _ _ _)]; omega
      refine op_loadbox (d := some 33) (t := 23) (b := bk1) (off := c) (k := 0) (v := .int .u32 ((UInt32.toNat (List.getD (half l a b d 16) c 0) : Nat) : Int)) En286 (by kernel_rfl) Hv287 rfl (u32s_getD hb288) (by kernel_rfl) ?_
      intro ac289 En290
      refine any_pureR (d := some 37) En290 (v := .int .u32 (IntKind.wrap .u32 (((UInt32.toNat (List.getD (half l a b d 16) c 0) : Nat) : Int) + ((UInt32.toNat (List.getD (half l a b d 16) d 0) : Nat) : Int)))) 7 (by kernel_rfl) (by kernel_rfl) rfl ?_
      intro ac291 En292
      rw [Go.Dbr.u32_add (a := ((UInt32.toNat (List.getD (half l a b d 16) c 0) : Nat) : Int)) (b := ((UInt32.toNat (List.getD (half l a b d 16) d 0) : Nat) : Int)) (x := List.getD (half l a b d 16) c 0) (y := List.getD (half l a b d 16) d 0) rfl rfl] at En292
      refine any_pure (d := some 38) (s := nv (Instr.indexAt 42 (.pointer (some ⟨bk1, 0, none⟩)) (.int .i64 ((c : Nat) : Int)))) En292 (v := .pointer (some ⟨bk1, c, none⟩)) 8 (by kernel_rfl) (funext fun _ => run_nv (Go.Dbr.run_indexarr (e := 23) (sz := 1) (m := 16) (j := c) (o := c) (by kernel_rfl) (by kernel_rfl) (by omega) (by omega) (by omega) _)) (by kernel_rfl) rfl ?_
      intro ac293 En294
      refine any_at 9 (by kernel_rfl) rfl ?_
      have hb295 : c < List.length (half l a b d 16) := by rw [(half_len hl _ _ _ _)]; omega
      refine op_storebox2 (d := none) (t := 23) (b := bk1) (off := c) (k := 0) (v := .int .u32 ((UInt32.toNat ((List.getD (half l a b d 16) c 0) + (List.getD (half l a b d 16) d 0)) : Nat) : Int)) En294 (by kernel_rfl) Hv287 rfl (u32s_getD hb295) (by kernel_rfl) rfl (u32s_set _ _ _) rfl ?_
      intro ac296 wo297  En298 Hv299
      exact any_end (by kernel_rfl) ⟨En298.sub (by kernel_rfl), Hv299.pick [0, 1] (by kernel_rfl) (by decide)⟩
    refine any_from hG ?_
    refine any_pureR (d := some 30) En223 (v := .int .i64 ((c : Nat) : Int)) 0 (by kernel_rfl) (by kernel_rfl) rfl ?_
    intro ac300 En301
    refine any_pureR (d := some 31) En301 (v := .int .i64 ((c : Nat) : Int)) 1 (by kernel_rfl) (by kernel_rfl) rfl ?_
    intro ac302 En303
    refine any_pure (d := some 32) (s := nv (Instr.indexAt 42 (.pointer (some ⟨bk1, 0, none⟩)) (.int .i64 ((c : Nat) : Int)))) En303 (v := .pointer (some ⟨bk1, c, none⟩)) 2 (by kernel_rfl) (funext fun _ => run_nv (Go.Dbr.run_indexarr (e := 23) (sz := 1) (m := 16) (j := c) (o := c) (by kernel_rfl) (by kernel_rfl) (by omega) (by omega) (by omega) _)) (by kernel_rfl) rfl ?_
    intro ac304 En305
    refine any_pureR (d := some 34) En305 (v := .int .i64 ((d : Nat) : Int)) 4 (by kernel_rfl) (by kernel_rfl) rfl ?_
    intro ac306 En307
    refine any_pure (d := some 35) (s := nv (Instr.indexAt 42 (.pointer (some ⟨bk1, 0, none⟩)) (.int .i64 ((d : Nat) : Int)))) En307 (v := .pointer (some ⟨bk1, d, none⟩)) 5 (by kernel_rfl) (funext fun _ => run_nv (Go.Dbr.run_indexarr (e := 23) (sz := 1) (m := 16) (j := d) (o := d) (by kernel_rfl) (by kernel_rfl) (by omega) (by omega) (by omega) _)) (by kernel_rfl) rfl ?_
    intro ac308 En309
    refine any_two 3 6 (by kernel_rfl) ?_ ?_
    · rintro _ rfl
      have hb310 : c < List.length (half l a b d 16) := by rw [(half_len hl _ _ _ _)]; omega
      refine op_loadbox (d := some 33) (t := 23) (b := bk1) (off := c) (k := 0) (v := .int .u32 ((UInt32.toNat (List.getD (half l a b d 16) c 0) : Nat) : Int)) En309 (by kernel_rfl) wo225 rfl (u32s_getD hb310) (by kernel_rfl) ?_
      intro ac311 En312
      exact any_to hG (by kernel_rfl) (nd266 _ _ (En312.sub (by kernel_rfl)) (wo225.pick [0, 1] (by kernel_rfl) (by decide)))
    · rintro _ rfl
      have hb313 : d < List.length (half l a b d 16) := by rw [(half_len hl _ _ _ _)]; omega
      refine op_loadbox (d := some 36) (t := 23) (b := bk1) (off := d) (k := 0) (v := .int .u32 ((UInt32.toNat (List.getD (half l a b d 16) d 0) : Nat) : Int)) En309 (by kernel_rfl) wo225 rfl (u32s_getD hb313) (by kernel_rfl) ?_
      intro ac314 En315
      exact any_to hG (by kernel_rfl) (nd283 _ _ (En315.sub (by kernel_rfl)) (wo225.pick [0, 1] (by kernel_rfl) (by decide)))
  rintro ac316 wo317 ⟨En318, Hv319⟩
  refine then_normal ?_
  refine wp_seq ?_
  refine region_cut (F := fun ac wo => Env ac 88 [(1, .int .i64 ((a : Nat) : Int)), (2, .int .i64 ((b : Nat) : Int)), (3, .int .i64 ((c : Nat) : Int)), (4, .int .i64 ((d : Nat) : Int)), (5, .pointer (some ⟨bk1, 0, none⟩)), (10, .pointer (some ⟨bk6, 0, none⟩))] ∧ Ev w [] wo [.box bk1 (u32s (List.set (List.set (half l a b d 16) c ((List.getD (half l a b d 16) c 0) + (List.getD (half l a b d 16) d 0))) b (rotl ((List.getD (List.set (half l a b d 16) c ((List.getD (half l a b d 16) c 0) + (List.getD (half l a b d 16) d 0))) b 0) ^^^ (List.getD (List.set (half l a b d 16) c ((List.getD (half l a b d 16) c 0) + (List.getD (half l a b d 16) d 0))) c 0)) 12))) 42, .box bk6 (u32s (List.replicate 16 0)) 42]) ?_ ?_
  ·
    refine draw_any (by kernel_rfl) 11 (by kernel_rfl) ?_  -- region 4
    have wo320 := Hv319.trans (Ev.drew Hv319.heap)
    refine any_name fun G hG => ?_
    have nd373 : ∀ (ac : Act) (wo : World), Env ac 88 [(1, .int .i64 ((a : Nat) : Int)), (2, .int .i64 ((b : Nat) : Int)), (3, .int .i64 ((c : Nat) : Int)), (4, .int .i64 ((d : Nat) : Int)), (5, .pointer (some ⟨bk1, 0, none⟩)), (10, .pointer (some ⟨bk6, 0, none⟩)), (39, .int .i64 ((b : Nat) : Int)), (42, .int .u32 ((UInt32.toNat (List.getD (List.set (half l a b d 16) c ((List.getD (half l a b d 16) c 0) + (List.getD (half l a b d 16) d 0))) b 0) : Nat) : Int)), (44, .pointer (some ⟨bk1, c, none⟩))] → Ev w [] wo [.box bk1 (u32s (List.set (half l a b d 16) c ((List.getD (half l a b d 16) c 0) + (List.getD (half l a b d 16) d 0)))) 42, .box bk6 (u32s (List.replicate 16 0)) 42] → G 5 #[true, true, true, true, true, true, false, false, false, false, false] ac wo := by
      intro ac374 wo375 En376 Hv377
      refine any_from hG ?_
      refine any_at 6 (by kernel_rfl) rfl ?_
      have hb378 : c < List.length (List.set (half l a b d 16) c ((List.getD (half l a b d 16) c 0) + (List.getD (half l a b d 16) d 0))) := by rw [(List.length_set.trans (half_len hl _ _ _ _))]; omega
      refine op_loadbox (d := some 45) (t := 23) (b := bk1) (off := c) (k := 0) (v := .int .u32 ((UInt32.toNat (List.getD (List.set (half l a b d 16) c ((List.getD (half l a b d 16) c 0) + (List.getD (half l a b d 16) d 0))) c 0) : Nat) : Int)) En376 (by kernel_rfl) Hv377 rfl (u32s_getD hb378) (by kernel_rfl) ?_
      intro ac379 En380
      refine any_pureR (d := some 46) En380 (v := .int .u32 (IntKind.wrap .u32 ((BitVec.ofInt (IntKind.bits .u32) ((UInt32.toNat (List.getD (List.set (half l a b d 16) c ((List.getD (half l a b d 16) c 0) + (List.getD (half l a b d 16) d 0))) b 0) : Nat) : Int) ^^^ BitVec.ofInt (IntKind.bits .u32) ((UInt32.toNat (List.getD (List.set (half l a b d 16) c ((List.getD (half l a b d 16) c 0) + (List.getD (half l a b d 16) d 0))) c 0) : Nat) : Int)).toNat : Int))) 7 (by kernel_rfl) (by kernel_rfl) rfl ?_
      intro ac381 En382
      rw [Go.Dbr.u32_xor (a := ((UInt32.toNat (List.getD (List.set (half l a b d 16) c ((List.getD (half l a b d 16) c 0) + (List.getD (half l a b d 16) d 0))) b 0) : Nat) : Int)) (b := ((UInt32.toNat (List.getD (List.set (half l a b d 16) c ((List.getD (half l a b d 16) c 0) + (List.getD (half l a b d 16) d 0))) c 0) : Nat) : Int)) (x := List.getD (List.set (half l a b d 16) c ((List.getD (half l a b d 16) c 0) + (List.getD (half l a b d 16) d 0))) b 0) (y := List.getD (List.set (half l a b d 16) c ((List.getD (half l a b d 16) c 0) + (List.getD (half l a b d 16) d 0))) c 0) rfl rfl] at En382
      refine any_at 8 (by kernel_rfl) rfl ?_
      have hM383 : Heap wo375 [] := Hv377.heap.pick [] (by kernel_rfl) (by decide)
      refine op_call (d := some 47) (f := 33) (args := #[.int .u32 ((UInt32.toNat ((List.getD (List.set (half l a b d 16) c ((List.getD (half l a b d 16) c 0) + (List.getD (half l a b d 16) d 0))) b 0) ^^^ (List.getD (List.set (half l a b d 16) c ((List.getD (half l a b d 16) c 0) + (List.getD (half l a b d 16) d 0))) c 0)) : Nat) : Int), .int .i64 12]) En382 (by kernel_rfl) ((left_ref _ ((List.getD (List.set (half l a b d 16) c ((List.getD (half l a b d 16) c 0) + (List.getD (half l a b d 16) d 0))) b 0) ^^^ (List.getD (List.set (half l a b d 16) c ((List.getD (half l a b d 16) c 0) + (List.getD (half l a b d 16) d 0))) c 0)) 12 (by omega) (by omega)).mono ?_)
      rintro _ wo385 ⟨rfl, he388⟩
      refine ⟨_, rfl, ?_⟩
      intro ac384 En386
      have Hv387 : Ev w [] wo385 [.box bk1 (u32s (List.set (half l a b d 16) c ((List.getD (half l a b d 16) c 0) + (List.getD (half l a b d 16) d 0)))) 42, .box bk6 (u32s (List.replicate 16 0)) 42] := Hv377.trans (Ev.call (R := [.box bk1 (u32s (List.set (half l a b d 16) c ((List.getD (half l a b d 16) c 0) + (List.getD (half l a b d 16) d 0)))) 42, .box bk6 (u32s (List.replicate 16 0)) 42]) Hv377.heap [0, 1] (by kernel_rfl) (by decide) he388)
      clear hM383 he388
      refine any_pure (d := some 48) (s := nv (Instr.indexAt 42 (.pointer (some ⟨bk1, 0, none⟩)) (.int .i64 ((b : Nat) : Int)))) En386 (v := .pointer (some ⟨bk1, b, none⟩)) 9 (by kernel_rfl) (funext fun _ => run_nv (Go.Dbr.run_indexarr (e := 23) (sz := 1) (m := 16) (j := b) (o := b) (by kernel_rfl) (by kernel_rfl) (by omega) (by omega) (by omega) _)) (by kernel_rfl) rfl ?_
      intro ac389 En390
      refine any_at 10 (by kernel_rfl) rfl ?_
      have hb391 : b < List.length (List.set (half l a b d 16) c ((List.getD (half l a b d 16) c 0) + (List.getD (half l a b d 16) d 0))) := by rw [(List.length_set.trans (half_len hl _ _ _ _))]; omega
      refine op_storebox2 (d := none) (t := 23) (b := bk1) (off := b) (k := 0) (v := .int .u32 ((UInt32.toNat (rotl ((List.getD (List.set (half l a b d 16) c ((List.getD (half l a b d 16) c 0) + (List.getD (half l a b d 16) d 0))) b 0) ^^^ (List.getD (List.set (half l a b d 16) c ((List.getD (half l a b d 16) c 0) + (List.getD (half l a b d 16) d 0))) c 0)) 12) : Nat) : Int)) En390 (by kernel_rfl) Hv387 rfl (u32s_getD hb391) (by kernel_rfl) rfl (u32s_set _ _ _) rfl ?_
      intro ac392 wo393  En394 Hv395
      exact any_end (by kernel_rfl) ⟨En394.sub (by kernel_rfl), Hv395.pick [0, 1] (by kernel_rfl) (by decide)⟩
    have nd396 : ∀ (ac : Act) (wo : World), Env ac 88 [(1, .int .i64 ((a : Nat) : Int)), (2, .int .i64 ((b : Nat) : Int)), (3, .int .i64 ((c : Nat) : Int)), (4, .int .i64 ((d : Nat) : Int)), (5, .pointer (some ⟨bk1, 0, none⟩)), (10, .pointer (some ⟨bk6, 0, none⟩)), (39, .int .i64 ((b : Nat) : Int)), (41, .pointer (some ⟨bk1, b, none⟩)), (45, .int .u32 ((UInt32.toNat (List.getD (List.set (half l a b d 16) c ((List.getD (half l a b d 16) c 0) + (List.getD (half l a b d 16) d 0))) c 0) : Nat) : Int))] → Ev w [] wo [.box bk1 (u32s (List.set (half l a b d 16) c ((List.getD (half l a b d 16) c 0) + (List.getD (half l a b d 16) d 0)))) 42, .box bk6 (u32s (List.replicate 16 0)) 42] → G 5 #[true, true, true, false, true, true, true, false, false, false, false] ac wo := by
      intro ac397 wo398 En399 Hv400
      refine any_from hG ?_
      refine any_at 3 (by kernel_rfl) rfl ?_
      have hb401 : b < List.length (List.set (half l a b d 16) c ((List.getD (half l a b d 16) c 0) + (List.getD (half l a b d 16) d 0))) := by rw [(List.length_set.trans (half_len hl _ _ _ _))]; omega
      refine op_loadbox (d := some 42) (t := 23) (b := bk1) (off := b) (k := 0) (v := .int .u32 ((UInt32.toNat (List.getD (List.set (half l a b d 16) c ((List.getD (half l a b d 16) c 0) + (List.getD (half l a b d 16) d 0))) b 0) : Nat) : Int)) En399 (by kernel_rfl) Hv400 rfl (u32s_getD hb401) (by kernel_rfl) ?_
      intro ac402 En403
      refine any_pureR (d := some 46) En403 (v := .int .u32 (IntKind.wrap .u32 ((BitVec.ofInt (IntKind.bits .u32) ((UInt32.toNat (List.getD (List.set (half l a b d 16) c ((List.getD (half l a b d 16) c 0) + (List.getD (half l a b d 16) d 0))) b 0) : Nat) : Int) ^^^ BitVec.ofInt (IntKind.bits .u32) ((UInt32.toNat (List.getD (List.set (half l a b d 16) c ((List.getD (half l a b d 16) c 0) + (List.getD (half l a b d 16) d 0))) c 0) : Nat) : Int)).toNat : Int))) 7 (by kernel_rfl) (by kernel_rfl) rfl ?_
      intro ac404 En405
      rw [Go.Dbr.u32_xor (a := ((UInt32.toNat (List.getD (List.set (half l a b d 16) c ((List.getD (half l a b d 16) c 0) + (List.getD (half l a b d 16) d 0))) b 0) : Nat) : Int)) (b := ((UInt32.toNat (List.getD (List.set (half l a b d 16) c ((List.getD (half l a b d 16) c 0) + (List.getD (half l a b d 16) d 0))) c 0) : Nat) : Int)) (x := List.getD (List.set (half l a b d 16) c ((List.getD (half l a b d 16) c 0) + (List.getD (half l a b d 16) d 0))) b 0) (y := List.getD (List.set (half l a b d 16) c ((List.getD (half l a b d 16) c 0) + (List.getD (half l a b d 16) d 0))) c 0) rfl rfl] at En405
      refine any_at 8 (by kernel_rfl) rfl ?_
      have hM406 : Heap wo398 [] := Hv400.heap.pick [] (by kernel_rfl) (by decide)
      refine op_call (d := some 47) (f := 33) (args := #[.int .u32 ((UInt32.toNat ((List.getD (List.set (half l a b d 16) c ((List.getD (half l a b d 16) c 0) + (List.getD (half l a b d 16) d 0))) b 0) ^^^ (List.getD (List.set (half l a b d 16) c ((List.getD (half l a b d 16) c 0) + (List.getD (half l a b d 16) d 0))) c 0)) : Nat) : Int), .int .i64 12]) En405 (by kernel_rfl) ((left_ref _ ((List.getD (List.set (half l a b d 16) c ((List.getD (half l a b d 16) c 0) + (List.getD (half l a b d 16) d 0))) b 0) ^^^ (List.getD (List.set (half l a b d 16) c ((List.getD (half l a b d 16) c 0) + (List.getD (half l a b d 16) d 0))) c 0)) 12 (by omega) (by omega)).mono ?_)
      rintro _ wo408 ⟨rfl, he411⟩
      refine ⟨_, rfl, ?_⟩
      intro ac407 En409
      have Hv410 : Ev w [] wo408 [.box bk1 (u32s (List.set (half l a b d 16) c ((List.getD (half l a b d 16) c 0) + (List.getD (half l a b d 16) d 0)))) 42, .box bk6 (u32s (List.replicate 16 0)) 42] := Hv400.trans (Ev.call (R := [.box bk1 (u32s (List.set (half l a b d 16) c ((List.getD (half l a b d 16) c 0) + (List.getD (half l a b d 16) d 0)))) 42, .box bk6 (u32s (List.replicate 16 0)) 42]) Hv400.heap [0, 1] (by kernel_rfl) (by decide) he411)
      clear hM406 he411
      refine any_pure (d := some 48) (s := nv (Instr.indexAt 42 (.pointer (some ⟨bk1, 0, none⟩)) (.int .i64 ((b : Nat) : Int)))) En409 (v := .pointer (some ⟨bk1, b, none⟩)) 9 (by kernel_rfl) (funext fun _ => run_nv (Go.Dbr.run_indexarr (e := 23) (sz := 1) (m := 16) (j := b) (o := b) (by kernel_rfl) (by kernel_rfl) (by omega) (by omega) (by omega) _)) (by kernel_rfl) rfl ?_
      intro ac412 En413
      refine any_at 10 (by kernel_rfl) rfl ?_
      have hb414 : b < List.length (List.set (half l a b d 16) c ((List.getD (half l a b d 16) c 0) + (List.getD (half l a b d 16) d 0))) := by rw [(List.length_set.trans (half_len hl _ _ _ _))]; omega
      refine op_storebox2 (d := none) (t := 23) (b := bk1) (off := b) (k := 0) (v := .int .u32 ((UInt32.toNat (rotl ((List.getD (List.set (half l a b d 16) c ((List.getD (half l a b d 16) c 0) + (List.getD (half l a b d 16) d 0))) b 0) ^^^ (List.getD (List.set (half l a b d 16) c ((List.getD (half l a b d 16) c 0) + (List.getD (half l a b d 16) d 0))) c 0)) 12) : Nat) : Int)) En413 (by kernel_rfl) Hv410 rfl (u32s_getD hb414) (by kernel_rfl) rfl (u32s_set _ _ _) rfl ?_
      intro ac415 wo416  En417 Hv418
      exact any_end (by kernel_rfl) ⟨En417.sub (by kernel_rfl), Hv418.pick [0, 1] (by kernel_rfl) (by decide)⟩
    refine any_from hG ?_
    refine any_pureR (d := some 39) En318 (v := .int .i64 ((b : Nat) : Int)) 0 (by kernel_rfl) (by kernel_rfl) rfl ?_
    intro ac419 En420
    refine any_pureR (d := some 40) En420 (v := .int .i64 ((b : Nat) : Int)) 1 (by kernel_rfl) (by kernel_rfl) rfl ?_
    intro ac421 En422
    refine any_pure (d := some 41) (s := nv (Instr.indexAt 42 (.pointer (some ⟨bk1, 0, none⟩)) (.int .i64 ((b : Nat) : Int)))) En422 (v := .pointer (some ⟨bk1, b, none⟩)) 2 (by kernel_rfl) (funext fun _ => run_nv (Go.Dbr.run_indexarr (e := 23) (sz := 1) (m := 16) (j := b) (o := b) (by kernel_rfl) (by kernel_rfl) (by omega) (by omega) (by omega) _)) (by kernel_rfl) rfl ?_
    intro ac423 En424
    refine any_pureR (d := some 43) En424 (v := .int .i64 ((c : Nat) : Int)) 4 (by kernel_rfl) (by kernel_rfl) rfl ?_
    intro ac425 En426
    refine any_pure (d := some 44) (s := nv (Instr.indexAt 42 (.pointer (some ⟨bk1, 0, none⟩)) (.int .i64 ((c : Nat) : Int)))) En426 (v := .pointer (some ⟨bk1, c, none⟩)) 5 (by kernel_rfl) (funext fun _ => run_nv (Go.Dbr.run_indexarr (e := 23) (sz := 1) (m := 16) (j := c) (o := c) (by kernel_rfl) (by kernel_rfl) (by omega) (by omega) (by omega) _)) (by kernel_rfl) rfl ?_
    intro ac427 En428
    refine any_two 3 6 (by kernel_rfl) ?_ ?_
    · rintro _ rfl
      have hb429 : b < List.length (List.set (half l a b d 16) c ((List.getD (half l a b d 16) c 0) + (List.getD (half l a b d 16) d 0))) := by rw [(List.length_set.trans (half_len hl _ _ _ _))]; omega
      refine op_loadbox (d := some 42) (t := 23) (b := bk1) (off := b) (k := 0) (v := .int .u32 ((UInt32.toNat (List.getD (List.set (half l a b d 16) c ((List.getD (half l a b d 16) c 0) + (List.getD (half l a b d 16) d 0))) b 0) : Nat) : Int)) En428 (by kernel_rfl) wo320 rfl (u32s_getD hb429) (by kernel_rfl) ?_
      intro ac430 En431
      exact any_to hG (by kernel_rfl) (nd373 _ _ (En431.sub (by kernel_rfl)) (wo320.pick [0, 1] (by kernel_rfl) (by decide)))
    · rintro _ rfl
      have hb432 : c < List.length (List.set (half l a b d 16) c ((List.getD (half l a b d 16) c 0) + (List.getD (half l a b d 16) d 0))) := by rw [(List.length_set.trans (half_len hl _ _ _ _))]; omega
      refine op_loadbox (d := some 45) (t := 23) (b := bk1) (off := c) (k := 0) (v := .int .u32 ((UInt32.toNat (List.getD (List.set (half l a b d 16) c ((List.getD (half l a b d 16) c 0) + (List.getD (half l a b d 16) d 0))) c 0) : Nat) : Int)) En428 (by kernel_rfl) wo320 rfl (u32s_getD hb432) (by kernel_rfl) ?_
      intro ac433 En434
      exact any_to hG (by kernel_rfl) (nd396 _ _ (En434.sub (by kernel_rfl)) (wo320.pick [0, 1] (by kernel_rfl) (by decide)))
  rintro ac435 wo436 ⟨En437, Hv438⟩
  replace Hv438 : Ev w [] wo436 [.box bk1 (u32s (half (half l a b d 16) c d b 12)) 42, .box bk6 (u32s (List.replicate 16 0)) 42] := Hv438
  refine then_normal ?_
  refine wp_seq ?_
  refine region_cut (F := fun ac wo => Env ac 88 [(1, .int .i64 ((a : Nat) : Int)), (2, .int .i64 ((b : Nat) : Int)), (3, .int .i64 ((c : Nat) : Int)), (4, .int .i64 ((d : Nat) : Int)), (5, .pointer (some ⟨bk1, 0, none⟩)), (10, .pointer (some ⟨bk6, 0, none⟩))] ∧ Ev w [] wo [.box bk1 (u32s (List.set (half (half l a b d 16) c d b 12) a ((List.getD (half (half l a b d 16) c d b 12) a 0) + (List.getD (half (half l a b d 16) c d b 12) b 0)))) 42, .box bk6 (u32s (List.replicate 16 0)) 42]) ?_ ?_
  ·
    refine draw_any (by kernel_rfl) 10 (by kernel_rfl) ?_  -- region 5
    have wo439 := Hv438.trans (Ev.drew Hv438.heap)
    refine any_name fun G hG => ?_
    have nd480 : ∀ (ac : Act) (wo : World), Env ac 88 [(1, .int .i64 ((a : Nat) : Int)), (2, .int .i64 ((b : Nat) : Int)), (3, .int .i64 ((c : Nat) : Int)), (4, .int .i64 ((d : Nat) : Int)), (5, .pointer (some ⟨bk1, 0, none⟩)), (10, .pointer (some ⟨bk6, 0, none⟩)), (49, .int .i64 ((a : Nat) : Int)), (52, .int .u32 ((UInt32.toNat (List.getD (half (half l a b d 16) c d b 12) a 0) : Nat) : Int)), (54, .pointer (some ⟨bk1, b, none⟩))] → Ev w [] wo [.box bk1 (u32s (half (half l a b d 16) c d b 12)) 42, .box bk6 (u32s (List.replicate 16 0)) 42] → G 4 #[true, true, true, true, true, true, false, false, false, false] ac wo := by
      intro ac481 wo482 En483 Hv484
      refine any_from hG ?_
      refine any_at 6 (by kernel_rfl) rfl ?_
      have hb485 : b < List.length (half (half l a b d 16) c d b 12) := by rw [(half_len (half_len hl _ _ _ _) _ _ _ _)]; omega
      refine op_loadbox (d := some 55) (t := 23) (b := bk1) (off := b) (k := 0) (v := .int .u32 ((UInt32.toNat (List.getD (half (half l a b d 16) c d b 12) b 0) : Nat) : Int)) En483 (by kernel_rfl) Hv484 rfl (u32s_getD hb485) (by kernel_rfl) ?_
      intro ac486 En487
      refine any_pureR (d := some 56) En487 (v := .int .u32 (IntKind.wrap .u32 (((UInt32.toNat (List.getD (half (half l a b d 16) c d b 12) a 0) : Nat) : Int) + ((UInt32.toNat (List.getD (half (half l a b d 16) c d b 12) b 0) : Nat) : Int)))) 7 (by kernel_rfl) (by kernel_rfl) rfl ?_
      intro ac488 En489
      rw [Go.Dbr.u32_add (a := ((UInt32.toNat (List.getD (half (half l a b d 16) c d b 12) a 0) : Nat) : Int)) (b := ((UInt32.toNat (List.getD (half (half l a b d 16) c d b 12) b 0) : Nat) : Int)) (x := List.getD (half (half l a b d 16) c d b 12) a 0) (y := List.getD (half (half l a b d 16) c d b 12) b 0) rfl rfl] at En489
      refine any_pure (d := some 57) (s := nv (Instr.indexAt 42 (.pointer (some ⟨bk1, 0, none⟩)) (.int .i64 ((a : Nat) : Int)))) En489 (v := .pointer (some ⟨bk1, a, none⟩)) 8 (by kernel_rfl) (funext fun _ => run_nv (Go.Dbr.run_indexarr (e := 23) (sz := 1) (m := 16) (j := a) (o := a) (by kernel_rfl) (by kernel_rfl) (by omega) (by omega) (by omega) _)) (by kernel_rfl) rfl ?_
      intro ac490 En491
      refine any_at 9 (by kernel_rfl) rfl ?_
      have hb492 : a < List.length (half (half l a b d 16) c d b 12) := by rw [(half_len (half_len hl _ _ _ _) _ _ _ _)]; omega
      refine op_storebox2 (d := none) (t := 23) (b := bk1) (off := a) (k := 0) (v := .int .u32 ((UInt32.toNat ((List.getD (half (half l a b d 16) c d b 12) a 0) + (List.getD (half (half l a b d 16) c d b 12) b 0)) : Nat) : Int)) En491 (by kernel_rfl) Hv484 rfl (u32s_getD hb492) (by kernel_rfl) rfl (u32s_set _ _ _) rfl ?_
      intro ac493 wo494  En495 Hv496
      exact any_end (by kernel_rfl) ⟨En495.sub (by kernel_rfl), Hv496.pick [0, 1] (by kernel_rfl) (by decide)⟩
    have nd497 : ∀ (ac : Act) (wo : World), Env ac 88 [(1, .int .i64 ((a : Nat) : Int)), (2, .int .i64 ((b : Nat) : Int)), (3, .int .i64 ((c : Nat) : Int)), (4, .int .i64 ((d : Nat) : Int)), (5, .pointer (some ⟨bk1, 0, none⟩)), (10, .pointer (some ⟨bk6, 0, none⟩)), (49, .int .i64 ((a : Nat) : Int)), (51, .pointer (some ⟨bk1, a, none⟩)), (55, .int .u32 ((UInt32.toNat (List.getD (half (half l a b d 16) c d b 12) b 0) : Nat) : Int))] → Ev w [] wo [.box bk1 (u32s (half (half l a b d 16) c d b 12)) 42, .box bk6 (u32s (List.replicate 16 0)) 42] → G 4 #[true, true, true, false, true, true, true, false, false, false] ac wo := by
      intro ac498 wo499 En500 Hv501
      refine any_from hG ?_
      refine any_at 3 (by kernel_rfl) rfl ?_
      have hb502 : a < List.length (half (half l a b d 16) c d b 12) := by rw [(half_len (half_len hl _ _ _ _) _ _ _ _)]; omega
      refine op_loadbox (d := some 52) (t := 23) (b := bk1) (off := a) (k := 0) (v := .int .u32 ((UInt32.toNat (List.getD (half (half l a b d 16) c d b 12) a 0) : Nat) : Int)) En500 (by kernel_rfl) Hv501 rfl (u32s_getD hb502) (by kernel_rfl) ?_
      intro ac503 En504
      refine any_pureR (d := some 56) En504 (v := .int .u32 (IntKind.wrap .u32 (((UInt32.toNat (List.getD (half (half l a b d 16) c d b 12) a 0) : Nat) : Int) + ((UInt32.toNat (List.getD (half (half l a b d 16) c d b 12) b 0) : Nat) : Int)))) 7 (by kernel_rfl) (by kernel_rfl) rfl ?_
      intro ac505 En506
      rw [Go.Dbr.u32_add (a := ((UInt32.toNat (List.getD (half (half l a b d 16) c d b 12) a 0) : Nat) : Int)) (b := ((UInt32.toNat (List.getD (half (half l a b d 16) c d b 12) b 0) : Nat) : Int)) (x := List.getD (half (half l a b d 16) c d b 12) a 0) (y := List.getD (half (half l a b d 16) c d b 12) b 0) rfl rfl] at En506
      refine any_pure (d := some 57) (s := nv (Instr.indexAt 42 (.pointer (some ⟨bk1, 0, none⟩)) (.int .i64 ((a : Nat) : Int)))) En506 (v := .pointer (some ⟨bk1, a, none⟩)) 8 (by kernel_rfl) (funext fun _ => run_nv (Go.Dbr.run_indexarr (e := 23) (sz := 1) (m := 16) (j := a) (o := a) (by kernel_rfl) (by kernel_rfl) (by omega) (by omega) (by omega) _)) (by kernel_rfl) rfl ?_
      intro ac507 En508
      refine any_at 9 (by kernel_rfl) rfl ?_
      have hb509 : a < List.length (half (half l a b d 16) c d b 12) := by rw [(half_len (half_len hl _ _ _ _) _ _ _ _)]; omega
      refine op_storebox2 (d := none) (t := 23) (b := bk1) (off := a) (k := 0) (v := .int .u32 ((UInt32.toNat ((List.getD (half (half l a b d 16) c d b 12) a 0) + (List.getD (half (half l a b d 16) c d b 12) b 0)) : Nat) : Int)) En508 (by kernel_rfl) Hv501 rfl (u32s_getD hb509) (by kernel_rfl) rfl (u32s_set _ _ _) rfl ?_
      intro ac510 wo511  En512 Hv513
      exact any_end (by kernel_rfl) ⟨En512.sub (by kernel_rfl), Hv513.pick [0, 1] (by kernel_rfl) (by decide)⟩
    refine any_from hG ?_
    refine any_pureR (d := some 49) En437 (v := .int .i64 ((a : Nat) : Int)) 0 (by kernel_rfl) (by kernel_rfl) rfl ?_
    intro ac514 En515
    refine any_pureR (d := some 50) En515 (v := .int .i64 ((a : Nat) : Int)) 1 (by kernel_rfl) (by kernel_rfl) rfl ?_
    intro ac516 En517
    refine any_pure (d := some 51) (s := nv (Instr.indexAt 42 (.pointer (some ⟨bk1, 0, none⟩)) (.int .i64 ((a : Nat) : Int)))) En517 (v := .pointer (some ⟨bk1, a, none⟩)) 2 (by kernel_rfl) (funext fun _ => run_nv (Go.Dbr.run_indexarr (e := 23) (sz := 1) (m := 16) (j := a) (o := a) (by kernel_rfl) (by kernel_rfl) (by omega) (by omega) (by omega) _)) (by kernel_rfl) rfl ?_
    intro ac518 En519
    refine any_pureR (d := some 53) En519 (v := .int .i64 ((b : Nat) : Int)) 4 (by kernel_rfl) (by kernel_rfl) rfl ?_
    intro ac520 En521
    refine any_pure (d := some 54) (s := nv (Instr.indexAt 42 (.pointer (some ⟨bk1, 0, none⟩)) (.int .i64 ((b : Nat) : Int)))) En521 (v := .pointer (some ⟨bk1, b, none⟩)) 5 (by kernel_rfl) (funext fun _ => run_nv (Go.Dbr.run_indexarr (e := 23) (sz := 1) (m := 16) (j := b) (o := b) (by kernel_rfl) (by kernel_rfl) (by omega) (by omega) (by omega) _)) (by kernel_rfl) rfl ?_
    intro ac522 En523
    refine any_two 3 6 (by kernel_rfl) ?_ ?_
    · rintro _ rfl
      have hb524 : a < List.length (half (half l a b d 16) c d b 12) := by rw [(half_len (half_len hl _ _ _ _) _ _ _ _)]; omega
      refine op_loadbox (d := some 52) (t := 23) (b := bk1) (off := a) (k := 0) (v := .int .u32 ((UInt32.toNat (List.getD (half (half l a b d 16) c d b 12) a 0) : Nat) : Int)) En523 (by kernel_rfl) wo439 rfl (u32s_getD hb524) (by kernel_rfl) ?_
      intro ac525 En526
      exact any_to hG (by kernel_rfl) (nd480 _ _ (En526.sub (by kernel_rfl)) (wo439.pick [0, 1] (by kernel_rfl) (by decide)))
    · rintro _ rfl
      have hb527 : b < List.length (half (half l a b d 16) c d b 12) := by rw [(half_len (half_len hl _ _ _ _) _ _ _ _)]; omega
      refine op_loadbox (d := some 55) (t := 23) (b := bk1) (off := b) (k := 0) (v := .int .u32 ((UInt32.toNat (List.getD (half (half l a b d 16) c d b 12) b 0) : Nat) : Int)) En523 (by kernel_rfl) wo439 rfl (u32s_getD hb527) (by kernel_rfl) ?_
      intro ac528 En529
      exact any_to hG (by kernel_rfl) (nd497 _ _ (En529.sub (by kernel_rfl)) (wo439.pick [0, 1] (by kernel_rfl) (by decide)))
  rintro ac530 wo531 ⟨En532, Hv533⟩
  refine then_normal ?_
  refine wp_seq ?_
  refine region_cut (F := fun ac wo => Env ac 88 [(1, .int .i64 ((a : Nat) : Int)), (2, .int .i64 ((b : Nat) : Int)), (3, .int .i64 ((c : Nat) : Int)), (4, .int .i64 ((d : Nat) : Int)), (5, .pointer (some ⟨bk1, 0, none⟩)), (10, .pointer (some ⟨bk6, 0, none⟩))] ∧ Ev w [] wo [.box bk1 (u32s (List.set (List.set (half (half l a b d 16) c d b 12) a ((List.getD (half (half l a b d 16) c d b 12) a 0) + (List.getD (half (half l a b d 16) c d b 12) b 0))) d (rotl ((List.getD (List.set (half (half l a b d 16) c d b 12) a ((List.getD (half (half l a b d 16) c d b 12) a 0) + (List.getD (half (half l a b d 16) c d b 12) b 0))) d 0) ^^^ (List.getD (List.set (half (half l a b d 16) c d b 12) a ((List.getD (half (half l a b d 16) c d b 12) a 0) + (List.getD (half (half l a b d 16) c d b 12) b 0))) a 0)) 8))) 42, .box bk6 (u32s (List.replicate 16 0)) 42]) ?_ ?_
  ·
    refine draw_any (by kernel_rfl) 11 (by kernel_rfl) ?_  -- region 6
    have wo534 := Hv533.trans (Ev.drew Hv533.heap)
    refine any_name fun G hG => ?_
    have nd587 : ∀ (ac : Act) (wo : World), Env ac 88 [(1, .int .i64 ((a : Nat) : Int)), (2, .int .i64 ((b : Nat) : Int)), (3, .int .i64 ((c : Nat) : Int)), (4, .int .i64 ((d : Nat) : Int)), (5, .pointer (some ⟨bk1, 0, none⟩)), (10, .pointer (some ⟨bk6, 0, none⟩)), (58, .int .i64 ((d : Nat) : Int)), (61, .int .u32 ((UInt32.toNat (List.getD (List.set (half (half l a b d 16) c d b 12) a ((List.getD (half (half l a b d 16) c d b 12) a 0) + (List.getD (half (half l a b d 16) c d b 12) b 0))) d 0) : Nat) : Int)), (63, .pointer (some ⟨bk1, a, none⟩))] → Ev w [] wo [.box bk1 (u32s (List.set (half (half l a b d 16) c d b 12) a ((List.getD (half (half l a b d 16) c d b 12) a 0) + (List.getD (half (half l a b d 16) c d b 12) b 0)))) 42, .box bk6 (u32s (List.replicate 16 0)) 42] → G 5 #[true, true, true, true, true, true, false, false, false, false, false] ac wo := by
      intro ac588 wo589 En590 Hv591
      refine any_from hG ?_
      refine any_at 6 (by kernel_rfl) rfl ?_
      have hb592 : a < List.length (List.set (half (half l a b d 16) c d b 12) a ((List.getD (half (half l a b d 16) c d b 12) a 0) + (List.getD (half (half l a b d 16) c d b 12) b 0))) := by rw [(List.length_set.trans (half_len (half_len hl _ _ _ _) _ _ _ _))]; omega
      refine op_loadbox (d := some 64) (t := 23) (b := bk1) (off := a) (k := 0) (v := .int .u32 ((UInt32.toNat (List.getD (List.set (half (half l a b d 16) c d b 12) a ((List.getD (half (half l a b d 16) c d b 12) a 0) + (List.getD (half (half l a b d 16) c d b 12) b 0))) a 0) : Nat) : Int)) En590 (by kernel_rfl) Hv591 rfl (u32s_getD hb592) (by kernel_rfl) ?_
      intro ac593 En594
      refine any_pureR (d := some 65) En594 (v := .int .u32 (IntKind.wrap .u32 ((BitVec.ofInt (IntKind.bits .u32) ((UInt32.toNat (List.getD (List.set (half (half l a b d 16) c d b 12) a ((List.getD (half (half l a b d 16) c d b 12) a 0) + (List.getD (half (half l a b d 16) c d b 12) b 0))) d 0) : Nat) : Int) ^^^ BitVec.ofInt (IntKind.bits .u32) ((UInt32.toNat (List.getD (List.set (half (half l a b d 16) c d b 12) a ((List.getD (half (half l a b d 16) c d b 12) a 0) + (List.getD (half (half l a b d 16) c d b 12) b 0))) a 0) : Nat) : Int)).toNat : Int))) 7 (by kernel_rfl) (by kernel_rfl) rfl ?_
      intro ac595 En596
      rw [Go.Dbr.u32_xor (a := ((UInt32.toNat (List.getD (List.set (half (half l a b d 16) c d b 12) a ((List.getD (half (half l a b d 16) c d b 12) a 0) + (List.getD (half (half l a b d 16) c d b 12) b 0))) d 0) : Nat) : Int)) (b := ((UInt32.toNat (List.getD (List.set (half (half l a b d 16) c d b 12) a ((List.getD (half (half l a b d 16) c d b 12) a 0) + (List.getD (half (half l a b d 16) c d b 12) b 0))) a 0) : Nat) : Int)) (x := List.getD (List.set (half (half l a b d 16) c d b 12) a ((List.getD (half (half l a b d 16) c d b 12) a 0) + (List.getD (half (half l a b d 16) c d b 12) b 0))) d 0) (y := List.getD (List.set (half (half l a b d 16) c d b 12) a ((List.getD (half (half l a b d 16) c d b 12) a 0) + (List.getD (half (half l a b d 16) c d b 12) b 0))) a 0) rfl rfl] at En596
      refine any_at 8 (by kernel_rfl) rfl ?_
      have hM597 : Heap wo589 [] := Hv591.heap.pick [] (by kernel_rfl) (by decide)
      refine op_call (d := some 66) (f := 33) (args := #[.int .u32 ((UInt32.toNat ((List.getD (List.set (half (half l a b d 16) c d b 12) a ((List.getD (half (half l a b d 16) c d b 12) a 0) + (List.getD (half (half l a b d 16) c d b 12) b 0))) d 0) ^^^ (List.getD (List.set (half (half l a b d 16) c d b 12) a ((List.getD (half (half l a b d 16) c d b 12) a 0) + (List.getD (half (half l a b d 16) c d b 12) b 0))) a 0)) : Nat) : Int), .int .i64 8]) En596 (by kernel_rfl) ((left_ref _ ((List.getD (List.set (half (half l a b d 16) c d b 12) a ((List.getD (half (half l a b d 16) c d b 12) a 0) + (List.getD (half (half l a b d 16) c d b 12) b 0))) d 0) ^^^ (List.getD (List.set (half (half l a b d 16) c d b 12) a ((List.getD (half (half l a b d 16) c d b 12) a 0) + (List.getD (half (half l a b d 16) c d b 12) b 0))) a 0)) 8 (by omega) (by omega)).mono ?_)
      rintro _ wo599 ⟨rfl, he602⟩
      refine ⟨_, rfl, ?_⟩
      intro ac598 En600
      have Hv601 : Ev w [] wo599 [.box bk1 (u32s (List.set (half (half l a b d 16) c d b 12) a ((List.getD (half (half l a b d 16) c d b 12) a 0) + (List.getD (half (half l a b d 16) c d b 12) b 0)))) 42, .box bk6 (u32s (List.replicate 16 0)) 42] := Hv591.trans (Ev.call (R := [.box bk1 (u32s (List.set (half (half l a b d 16) c d b 12) a ((List.getD (half (half l a b d 16) c d b 12) a 0) + (List.getD (half (half l a b d 16) c d b 12) b 0)))) 42, .box bk6 (u32s (List.replicate 16 0)) 42]) Hv591.heap [0, 1] (by kernel_rfl) (by decide) he602)
      clear hM597 he602
      refine any_pure (d := some 67) (s := nv (Instr.indexAt 42 (.pointer (some ⟨bk1, 0, none⟩)) (.int .i64 ((d : Nat) : Int)))) En600 (v := .pointer (some ⟨bk1, d, none⟩)) 9 (by kernel_rfl) (funext fun _ => run_nv (Go.Dbr.run_indexarr (e := 23) (sz := 1) (m := 16) (j := d) (o := d) (by kernel_rfl) (by kernel_rfl) (by omega) (by omega) (by omega) _)) (by kernel_rfl) rfl ?_
      intro ac603 En604
      refine any_at 10 (by kernel_rfl) rfl ?_
      have hb605 : d < List.length (List.set (half (half l a b d 16) c d b 12) a ((List.getD (half (half l a b d 16) c d b 12) a 0) + (List.getD (half (half l a b d 16) c d b 12) b 0))) := by rw [(List.length_set.trans (half_len (half_len hl _ _ _ _) _ _ _ _))]; omega
      refine op_storebox2 (d := none) (t := 23) (b := bk1) (off := d) (k := 0) (v := .int .u32 ((UInt32.toNat (rotl ((List.getD (List.set (half (half l a b d 16) c d b 12) a ((List.getD (half (half l a b d 16) c d b 12) a 0) + (List.getD (half (half l a b d 16) c d b 12) b 0))) d 0) ^^^ (List.getD (List.set (half (half l a b d 16) c d b 12) a ((List.getD (half (half l a b d 16) c d b 12) a 0) + (List.getD (half (half l a b d 16) c d b 12) b 0))) a 0)) 8) : Nat) : Int)) En604 (by kernel_rfl) Hv601 rfl (u32s_getD hb605) (by kernel_rfl) rfl (u32s_set _ _ _) rfl ?_
      intro ac606 wo607  En608 Hv609
      exact any_end (by kernel_rfl) ⟨En608.sub (by kernel_rfl), Hv609.pick [0, 1] (by kernel_rfl) (by decide)⟩
    have nd610 : ∀ (ac : Act) (wo : World), Env ac 88 [(1, .int .i64 ((a : Nat) : Int)), (2, .int .i64 ((b : Nat) : Int)), (3, .int .i64 ((c : Nat) : Int)), (4, .int .i64 ((d : Nat) : Int)), (5, .pointer (some ⟨bk1, 0, none⟩)), (10, .pointer (some ⟨bk6, 0, none⟩)), (58, .int .i64 ((d : Nat) : Int)), (60, .pointer (some ⟨bk1, d, none⟩)), (64, .int .u32 ((UInt32.toNat (List.getD (List.set (half (half l a b d 16) c d b 12) a ((List.getD (half (half l a b d 16) c d b 12) a 0) + (List.getD (half (half l a b d 16) c d b 12) b 0))) a 0) : Nat) : Int))] → Ev w [] wo [.box bk1 (u32s (List.set (half (half l a b d 16) c d b 12) a ((List.getD (half (half l a b d 16) c d b 12) a 0) + (List.getD (half (half l a b d 16) c d b 12) b 0)))) 42, .box bk6 (u32s (List.replicate 16 0)) 42] → G 5 #[true, true, true, false, true, true, true, false, false, false, false] ac wo := by
      intro ac611 wo612 En613 Hv614
      refine any_from hG ?_
      refine any_at 3 (by kernel_rfl) rfl ?_
      have hb615 : d < List.length (List.set (half (half l a b d 16) c d b 12) a ((List.getD (half (half l a b d 16) c d b 12) a 0) + (List.getD (half (half l a b d 16) c d b 12) b 0))) := by rw [(List.length_set.trans (half_len (half_len hl _ _ _ _) _ _ _ _))]; omega
      refine op_loadbox (d := some 61) (t := 23) (b := bk1) (off := d) (k := 0) (v := .int .u32 ((UInt32.toNat (List.getD (List.set (half (half l a b d 16) c d b 12) a ((List.getD (half (half l a b d 16) c d b 12) a 0) + (List.getD (half (half l a b d 16) c d b 12) b 0))) d 0) : Nat) : Int)) En613 (by kernel_rfl) Hv614 rfl (u32s_getD hb615) (by kernel_rfl) ?_
      intro ac616 En617
      refine any_pureR (d := some 65) En617 (v := .int .u32 (IntKind.wrap .u32 ((BitVec.ofInt (IntKind.bits .u32) ((UInt32.toNat (List.getD (List.set (half (half l a b d 16) c d b 12) a ((List.getD (half (half l a b d 16) c d b 12) a 0) + (List.getD (half (half l a b d 16) c d b 12) b 0))) d 0) : Nat) : Int) ^^^ BitVec.ofInt (IntKind.bits .u32) ((UInt32.toNat (List.getD (List.set (half (half l a b d 16) c d b 12) a ((List.getD (half (half l a b d 16) c d b 12) a 0) + (List.getD (half (half l a b d 16) c d b 12) b 0))) a 0) : Nat) : Int)).toNat : Int))) 7 (by kernel_rfl) (by kernel_rfl) rfl ?_
      intro ac618 En619
      rw [Go.Dbr.u32_xor (a := ((UInt32.toNat (List.getD (List.set (half (half l a b d 16) c d b 12) a ((List.getD (half (half l a b d 16) c d b 12) a 0) + (List.getD (half (half l a b d 16) c d b 12) b 0))) d 0) : Nat) : Int)) (b := ((UInt32.toNat (List.getD (List.set (half (half l a b d 16) c d b 12) a ((List.getD (half (half l a b d 16) c d b 12) a 0) + (List.getD (half (half l a b d 16) c d b 12) b 0))) a 0) : Nat) : Int)) (x := List.getD (List.set (half (half l a b d 16) c d b 12) a ((List.getD (half (half l a b d 16) c d b 12) a 0) + (List.getD (half (half l a b d 16) c d b 12) b 0))) d 0) (y := List.getD (List.set (half (half l a b d 16) c d b 12) a ((List.getD (half (half l a b d 16) c d b 12) a 0) + (List.getD (half (half l a b d 16) c d b 12) b 0))) a 0) rfl rfl] at En619
      refine any_at 8 (by kernel_rfl) rfl ?_
      have hM620 : Heap wo612 [] := Hv614.heap.pick [] (by kernel_rfl) (by decide)
      refine op_call (d := some 66) (f := 33) (args := #[.int .u32 ((UInt32.toNat ((List.getD (List.set (half (half l a b d 16) c d b 12) a ((List.getD (half (half l a b d 16) c d b 12) a 0) + (List.getD (half (half l a b d 16) c d b 12) b 0))) d 0) ^^^ (List.getD (List.set (half (half l a b d 16) c d b 12) a ((List.getD (half (half l a b d 16) c d b 12) a 0) + (List.getD (half (half l a b d 16) c d b 12) b 0))) a 0)) : Nat) : Int), .int .i64 8]) En619 (by kernel_rfl) ((left_ref _ ((List.getD (List.set (half (half l a b d 16) c d b 12) a ((List.getD (half (half l a b d 16) c d b 12) a 0) + (List.getD (half (half l a b d 16) c d b 12) b 0))) d 0) ^^^ (List.getD (List.set (half (half l a b d 16) c d b 12) a ((List.getD (half (half l a b d 16) c d b 12) a 0) + (List.getD (half (half l a b d 16) c d b 12) b 0))) a 0)) 8 (by omega) (by omega)).mono ?_)
      rintro _ wo622 ⟨rfl, he625⟩
      refine ⟨_, rfl, ?_⟩
      intro ac621 En623
      have Hv624 : Ev w [] wo622 [.box bk1 (u32s (List.set (half (half l a b d 16) c d b 12) a ((List.getD (half (half l a b d 16) c d b 12) a 0) + (List.getD (half (half l a b d 16) c d b 12) b 0)))) 42, .box bk6 (u32s (List.replicate 16 0)) 42] := Hv614.trans (Ev.call (R := [.box bk1 (u32s (List.set (half (half l a b d 16) c d b 12) a ((List.getD (half (half l a b d 16) c d b 12) a 0) + (List.getD (half (half l a b d 16) c d b 12) b 0)))) 42, .box bk6 (u32s (List.replicate 16 0)) 42]) Hv614.heap [0, 1] (by kernel_rfl) (by decide) he625)
      clear hM620 he625
      refine any_pure (d := some 67) (s := nv (Instr.indexAt 42 (.pointer (some ⟨bk1, 0, none⟩)) (.int .i64 ((d : Nat) : Int)))) En623 (v := .pointer (some ⟨bk1, d, none⟩)) 9 (by kernel_rfl) (funext fun _ => run_nv (Go.Dbr.run_indexarr (e := 23) (sz := 1) (m := 16) (j := d) (o := d) (by kernel_rfl) (by kernel_rfl) (by omega) (by omega) (by omega) _)) (by kernel_rfl) rfl ?_
      intro ac626 En627
      refine any_at 10 (by kernel_rfl) rfl ?_
      have hb628 : d < List.length (List.set (half (half l a b d 16) c d b 12) a ((List.getD (half (half l a b d 16) c d b 12) a 0) + (List.getD (half (half l a b d 16) c d b 12) b 0))) := by rw [(List.length_set.trans (half_len (half_len hl _ _ _ _) _ _ _ _))]; omega
      refine op_storebox2 (d := none) (t := 23) (b := bk1) (off := d) (k := 0) (v := .int .u32 ((UInt32.toNat (rotl ((List.getD (List.set (half (half l a b d 16) c d b 12) a ((List.getD (half (half l a b d 16) c d b 12) a 0) + (List.getD (half (half l a b d 16) c d b 12) b 0))) d 0) ^^^ (List.getD (List.set (half (half l a b d 16) c d b 12) a ((List.getD (half (half l a b d 16) c d b 12) a 0) + (List.getD (half (half l a b d 16) c d b 12) b 0))) a 0)) 8) : Nat) : Int)) En627 (by kernel_rfl) Hv624 rfl (u32s_getD hb628) (by kernel_rfl) rfl (u32s_set _ _ _) rfl ?_
      intro ac629 wo630  En631 Hv632
      exact any_end (by kernel_rfl) ⟨En631.sub (by kernel_rfl), Hv632.pick [0, 1] (by kernel_rfl) (by decide)⟩
    refine any_from hG ?_
    refine any_pureR (d := some 58) En532 (v := .int .i64 ((d : Nat) : Int)) 0 (by kernel_rfl) (by kernel_rfl) rfl ?_
    intro ac633 En634
    refine any_pureR (d := some 59) En634 (v := .int .i64 ((d : Nat) : Int)) 1 (by kernel_rfl) (by kernel_rfl) rfl ?_
    intro ac635 En636
    refine any_pure (d := some 60) (s := nv (Instr.indexAt 42 (.pointer (some ⟨bk1, 0, none⟩)) (.int .i64 ((d : Nat) : Int)))) En636 (v := .pointer (some ⟨bk1, d, none⟩)) 2 (by kernel_rfl) (funext fun _ => run_nv (Go.Dbr.run_indexarr (e := 23) (sz := 1) (m := 16) (j := d) (o := d) (by kernel_rfl) (by kernel_rfl) (by omega) (by omega) (by omega) _)) (by kernel_rfl) rfl ?_
    intro ac637 En638
    refine any_pureR (d := some 62) En638 (v := .int .i64 ((a : Nat) : Int)) 4 (by kernel_rfl) (by kernel_rfl) rfl ?_
    intro ac639 En640
    refine any_pure (d := some 63) (s := nv (Instr.indexAt 42 (.pointer (some ⟨bk1, 0, none⟩)) (.int .i64 ((a : Nat) : Int)))) En640 (v := .pointer (some ⟨bk1, a, none⟩)) 5 (by kernel_rfl) (funext fun _ => run_nv (Go.Dbr.run_indexarr (e := 23) (sz := 1) (m := 16) (j := a) (o := a) (by kernel_rfl) (by kernel_rfl) (by omega) (by omega) (by omega) _)) (by kernel_rfl) rfl ?_
    intro ac641 En642
    refine any_two 3 6 (by kernel_rfl) ?_ ?_
    · rintro _ rfl
      have hb643 : d < List.length (List.set (half (half l a b d 16) c d b 12) a ((List.getD (half (half l a b d 16) c d b 12) a 0) + (List.getD (half (half l a b d 16) c d b 12) b 0))) := by rw [(List.length_set.trans (half_len (half_len hl _ _ _ _) _ _ _ _))]; omega
      refine op_loadbox (d := some 61) (t := 23) (b := bk1) (off := d) (k := 0) (v := .int .u32 ((UInt32.toNat (List.getD (List.set (half (half l a b d 16) c d b 12) a ((List.getD (half (half l a b d 16) c d b 12) a 0) + (List.getD (half (half l a b d 16) c d b 12) b 0))) d 0) : Nat) : Int)) En642 (by kernel_rfl) wo534 rfl (u32s_getD hb643) (by kernel_rfl) ?_
      intro ac644 En645
      exact any_to hG (by kernel_rfl) (nd587 _ _ (En645.sub (by kernel_rfl)) (wo534.pick [0, 1] (by kernel_rfl) (by decide)))
    · rintro _ rfl
      have hb646 : a < List.length (List.set (half (half l a b d 16) c d b 12) a ((List.getD (half (half l a b d 16) c d b 12) a 0) + (List.getD (half (half l a b d 16) c d b 12) b 0))) := by rw [(List.length_set.trans (half_len (half_len hl _ _ _ _) _ _ _ _))]; omega
      refine op_loadbox (d := some 64) (t := 23) (b := bk1) (off := a) (k := 0) (v := .int .u32 ((UInt32.toNat (List.getD (List.set (half (half l a b d 16) c d b 12) a ((List.getD (half (half l a b d 16) c d b 12) a 0) + (List.getD (half (half l a b d 16) c d b 12) b 0))) a 0) : Nat) : Int)) En642 (by kernel_rfl) wo534 rfl (u32s_getD hb646) (by kernel_rfl) ?_
      intro ac647 En648
      exact any_to hG (by kernel_rfl) (nd610 _ _ (En648.sub (by kernel_rfl)) (wo534.pick [0, 1] (by kernel_rfl) (by decide)))
  rintro ac649 wo650 ⟨En651, Hv652⟩
  replace Hv652 : Ev w [] wo650 [.box bk1 (u32s (half (half (half l a b d 16) c d b 12) a b d 8)) 42, .box bk6 (u32s (List.replicate 16 0)) 42] := Hv652
  refine then_normal ?_
  refine wp_seq ?_
  refine region_cut (F := fun ac wo => Env ac 88 [(1, .int .i64 ((a : Nat) : Int)), (2, .int .i64 ((b : Nat) : Int)), (3, .int .i64 ((c : Nat) : Int)), (4, .int .i64 ((d : Nat) : Int)), (5, .pointer (some ⟨bk1, 0, none⟩)), (10, .pointer (some ⟨bk6, 0, none⟩))] ∧ Ev w [] wo [.box bk1 (u32s (List.set (half (half (half l a b d 16) c d b 12) a b d 8) c ((List.getD (half (half (half l a b d 16) c d b 12) a b d 8) c 0) + (List.getD (half (half (half l a b d 16) c d b 12) a b d 8) d 0)))) 42, .box bk6 (u32s (List.replicate 16 0)) 42]) ?_ ?_
  ·
    refine draw_any (by kernel_rfl) 10 (by kernel_rfl) ?_  -- region 7
    have wo653 := Hv652.trans (Ev.drew Hv652.heap)
    refine any_name fun G hG => ?_
    have nd694 : ∀ (ac : Act) (wo : World), Env ac 88 [(1, .int .i64 ((a : Nat) : Int)), (2, .int .i64 ((b : Nat) : Int)), (3, .int .i64 ((c : Nat) : Int)), (4, .int .i64 ((d : Nat) : Int)), (5, .pointer (some ⟨bk1, 0, none⟩)), (10, .pointer (some ⟨bk6, 0, none⟩)), (68, .int .i64 ((c : Nat) : Int)), (71, .int .u32 ((UInt32.toNat (List.getD (half (half (half l a b d 16) c d b 12) a b d 8) c 0) : Nat) : Int)), (73, .pointer (some ⟨bk1, d, none⟩))] → Ev w [] wo [.box bk1 (u32s (half (half (half l a b d 16) c d b 12) a b d 8)) 42, .box bk6 (u32s (List.replicate 16 0)) 42] → G 4 #[true, true, true, true, true, true, false, false, false, false] ac wo := by
      intro ac695 wo696 En697 Hv698
      refine any_from hG ?_
      refine any_at 6 (by kernel_rfl) rfl ?_
      have hb699 : d < List.length (half (half (half l a b d 16) c d b 12) a b d 8) := by rw [(half_len (half_len (half_len hl _ _ _ _) _ _ _ _) _ _ _ _)]; omega
      refine op_loadbox (d := some 74) (t := 23) (b := bk1) (off := d) (k := 0) (v := .int .u32 ((UInt32.toNat (List.getD (half (half (half l a b d 16) c d b 12) a b d 8) d 0) : Nat) : Int)) En697 (by kernel_rfl) Hv698 rfl (u32s_getD hb699) (by kernel_rfl) ?_
      intro ac700 En701
      refine any_pureR (d := some 75) En701 (v := .int .u32 (IntKind.wrap .u32 (((UInt32.toNat (List.getD (half (half (half l a b d 16) c d b 12) a b d 8) c 0) : Nat) : Int) + ((UInt32.toNat (List.getD (half (half (half l a b d 16) c d b 12) a b d 8) d 0) : Nat) : Int)))) 7 (by kernel_rfl) (by kernel_rfl) rfl ?_
      intro ac702 En703
      rw [Go.Dbr.u32_add (a := ((UInt32.toNat (List.getD (half (half (half l a b d 16) c d b 12) a b d 8) c 0) : Nat) : Int)) (b := ((UInt32.toNat (List.getD (half (half (half l a b d 16) c d b 12) a b d 8) d 0) : Nat) : Int)) (x := List.getD (half (half (half l a b d 16) c d b 12) a b d 8) c 0) (y := List.getD (half (half (half l a b d 16) c d b 12) a b d 8) d 0) rfl rfl] at En703
      refine any_pure (d := some 76) (s := nv (Instr.indexAt 42 (.pointer (some ⟨bk1, 0, none⟩)) (.int .i64 ((c : Nat) : Int)))) En703 (v := .pointer (some ⟨bk1, c, none⟩)) 8 (by kernel_rfl) (funext fun _ => run_nv (Go.Dbr.run_indexarr (e := 23) (sz := 1) (m := 16) (j := c) (o := c) (by kernel_rfl) (by kernel_rfl) (by omega) (by omega) (by omega) _)) (by kernel_rfl) rfl ?_
      intro ac704 En705
      refine any_at 9 (by kernel_rfl) rfl ?_
      have hb706 : c < List.length (half (half (half l a b d 16) c d b 12) a b d 8) := by rw [(half_len (half_len (half_len hl _ _ _ _) _ _ _ _) _ _ _ _)]; omega
      refine op_storebox2 (d := none) (t := 23) (b := bk1) (off := c) (k := 0) (v := .int .u32 ((UInt32.toNat ((List.getD (half (half (half l a b d 16) c d b 12) a b d 8) c 0) + (List.getD (half (half (half l a b d 16) c d b 12) a b d 8) d 0)) : Nat) : Int)) En705 (by kernel_rfl) Hv698 rfl (u32s_getD hb706) (by kernel_rfl) rfl (u32s_set _ _ _) rfl ?_
      intro ac707 wo708  En709 Hv710
      exact any_end (by kernel_rfl) ⟨En709.sub (by kernel_rfl), Hv710.pick [0, 1] (by kernel_rfl) (by decide)⟩
    have nd711 : ∀ (ac : Act) (wo : World), Env ac 88 [(1, .int .i64 ((a : Nat) : Int)), (2, .int .i64 ((b : Nat) : Int)), (3, .int .i64 ((c : Nat) : Int)), (4, .int .i64 ((d : Nat) : Int)), (5, .pointer (some ⟨bk1, 0, none⟩)), (10, .pointer (some ⟨bk6, 0, none⟩)), (68, .int .i64 ((c : Nat) : Int)), (70, .pointer (some ⟨bk1, c, none⟩)), (74, .int .u32 ((UInt32.toNat (List.getD (half (half (half l a b d 16) c d b 12) a b d 8) d 0) : Nat) : Int))] → Ev w [] wo [.box bk1 (u32s (half (half (half l a b d 16) c d b 12) a b d 8)) 42, .box bk6 (u32s (List.replicate 16 0)) 42] → G 4 #[true, true, true, false, true, true, true, false, false, false] ac wo := by
      intro ac712 wo713 En714 Hv715
      refine any_from hG ?_
      refine any_at 3 (by kernel_rfl) rfl ?_
      have hb716 : c < List.length (half (half (half l a b d 16) c d b 12) a b d 8) := by rw [(half_len (half_len (half_len hl _ _ _ _) _ _ _ _) _ _ _ _)]; omega
      refine op_loadbox (d := some 71) (t := 23) (b := bk1) (off := c) (k := 0) (v := .int .u32 ((UInt32.toNat (List.getD (half (half (half l a b d 16) c d b 12) a b d 8) c 0) : Nat) : Int)) En714 (by kernel_rfl) Hv715 rfl (u32s_getD hb716) (by kernel_rfl) ?_
      intro ac717 En718
      refine any_pureR (d := some 75) En718 (v := .int .u32 (IntKind.wrap .u32 (((UInt32.toNat (List.getD (half (half (half l a b d 16) c d b 12) a b d 8) c 0) : Nat) : Int) + ((UInt32.toNat (List.getD (half (half (half l a b d 16) c d b 12) a b d 8) d 0) : Nat) : Int)))) 7 (by kernel_rfl) (by kernel_rfl) rfl ?_
      intro ac719 En720
      rw [Go.Dbr.u32_add (a := ((UInt32.toNat (List.getD (half (half (half l a b d 16) c d b 12) a b d 8) c 0) : Nat) : Int)) (b := ((UInt32.toNat (List.getD (half (half (half l a b d 16) c d b 12) a b d 8) d 0) : Nat) : Int)) (x := List.getD (half (half (half l a b d 16) c d b 12) a b d 8) c 0) (y := List.getD (half (half (half l a b d 16) c d b 12) a b d 8) d 0) rfl rfl] at En720
      refine any_pure (d := some 76) (s := nv (Instr.indexAt 42 (.pointer (some ⟨bk1, 0, none⟩)) (.int .i64 ((c : Nat) : Int)))) En720 (v := .pointer (some ⟨bk1, c, none⟩)) 8 (by kernel_rfl) (funext fun _ => run_nv (Go.Dbr.run_indexarr (e := 23) (sz := 1) (m := 16) (j := c) (o := c) (by kernel_rfl) (by kernel_rfl) (by omega) (by omega) (by omega) _)) (by kernel_rfl) rfl ?_
      intro ac721 En722
      refine any_at 9 (by kernel_rfl) rfl ?_
      have hb723 : c < List.length (half (half (half l a b d 16) c d b 12) a b d 8) := by rw [(half_len (half_len (half_len hl _ _ _ _) _ _ _ _) _ _ _ _)]; omega
      refine op_storebox2 (d := none) (t := 23) (b := bk1) (off := c) (k := 0) (v := .int .u32 ((UInt32.toNat ((List.getD (half (half (half l a b d 16) c d b 12) a b d 8) c 0) + (List.getD (half (half (half l a b d 16) c d b 12) a b d 8) d 0)) : Nat) : Int)) En722 (by kernel_rfl) Hv715 rfl (u32s_getD hb723) (by kernel_rfl) rfl (u32s_set _ _ _) rfl ?_
      intro ac724 wo725  En726 Hv727
      exact any_end (by kernel_rfl) ⟨En726.sub (by kernel_rfl), Hv727.pick [0, 1] (by kernel_rfl) (by decide)⟩
    refine any_from hG ?_
    refine any_pureR (d := some 68) En651 (v := .int .i64 ((c : Nat) : Int)) 0 (by kernel_rfl) (by kernel_rfl) rfl ?_
    intro ac728 En729
    refine any_pureR (d := some 69) En729 (v := .int .i64 ((c : Nat) : Int)) 1 (by kernel_rfl) (by kernel_rfl) rfl ?_
    intro ac730 En731
    refine any_pure (d := some 70) (s := nv (Instr.indexAt 42 (.pointer (some ⟨bk1, 0, none⟩)) (.int .i64 ((c : Nat) : Int)))) En731 (v := .pointer (some ⟨bk1, c, none⟩)) 2 (by kernel_rfl) (funext fun _ => run_nv (Go.Dbr.run_indexarr (e := 23) (sz := 1) (m := 16) (j := c) (o := c) (by kernel_rfl) (by kernel_rfl) (by omega) (by omega) (by omega) _)) (by kernel_rfl) rfl ?_
    intro ac732 En733
    refine any_pureR (d := some 72) En733 (v := .int .i64 ((d : Nat) : Int)) 4 (by kernel_rfl) (by kernel_rfl) rfl ?_
    intro ac734 En735
    refine any_pure (d := some 73) (s := nv (Instr.indexAt 42 (.pointer (some ⟨bk1, 0, none⟩)) (.int .i64 ((d : Nat) : Int)))) En735 (v := .pointer (some ⟨bk1, d, none⟩)) 5 (by kernel_rfl) (funext fun _ => run_nv (Go.Dbr.run_indexarr (e := 23) (sz := 1) (m := 16) (j := d) (o := d) (by kernel_rfl) (by kernel_rfl) (by omega) (by omega) (by omega) _)) (by kernel_rfl) rfl ?_
    intro ac736 En737
    refine any_two 3 6 (by kernel_rfl) ?_ ?_
    · rintro _ rfl
      have hb738 : c < List.length (half (half (half l a b d 16) c d b 12) a b d 8) := by rw [(half_len (half_len (half_len hl _ _ _ _) _ _ _ _) _ _ _ _)]; omega
      refine op_loadbox (d := some 71) (t := 23) (b := bk1) (off := c) (k := 0) (v := .int .u32 ((UInt32.toNat (List.getD (half (half (half l a b d 16) c d b 12) a b d 8) c 0) : Nat) : Int)) En737 (by kernel_rfl) wo653 rfl (u32s_getD hb738) (by kernel_rfl) ?_
      intro ac739 En740
      exact any_to hG (by kernel_rfl) (nd694 _ _ (En740.sub (by kernel_rfl)) (wo653.pick [0, 1] (by kernel_rfl) (by decide)))
    · rintro _ rfl
      have hb741 : d < List.length (half (half (half l a b d 16) c d b 12) a b d 8) := by rw [(half_len (half_len (half_len hl _ _ _ _) _ _ _ _) _ _ _ _)]; omega
      refine op_loadbox (d := some 74) (t := 23) (b := bk1) (off := d) (k := 0) (v := .int .u32 ((UInt32.toNat (List.getD (half (half (half l a b d 16) c d b 12) a b d 8) d 0) : Nat) : Int)) En737 (by kernel_rfl) wo653 rfl (u32s_getD hb741) (by kernel_rfl) ?_
      intro ac742 En743
      exact any_to hG (by kernel_rfl) (nd711 _ _ (En743.sub (by kernel_rfl)) (wo653.pick [0, 1] (by kernel_rfl) (by decide)))
  rintro ac744 wo745 ⟨En746, Hv747⟩
  refine then_normal ?_
  refine wp_seq ?_
  refine region_cut (F := fun ac wo => Env ac 88 [(1, .int .i64 ((a : Nat) : Int)), (2, .int .i64 ((b : Nat) : Int)), (3, .int .i64 ((c : Nat) : Int)), (4, .int .i64 ((d : Nat) : Int)), (5, .pointer (some ⟨bk1, 0, none⟩)), (10, .pointer (some ⟨bk6, 0, none⟩))] ∧ Ev w [] wo [.box bk1 (u32s (List.set (List.set (half (half (half l a b d 16) c d b 12) a b d 8) c ((List.getD (half (half (half l a b d 16) c d b 12) a b d 8) c 0) + (List.getD (half (half (half l a b d 16) c d b 12) a b d 8) d 0))) b (rotl ((List.getD (List.set (half (half (half l a b d 16) c d b 12) a b d 8) c ((List.getD (half (half (half l a b d 16) c d b 12) a b d 8) c 0) + (List.getD (half (half (half l a b d 16) c d b 12) a b d 8) d 0))) b 0) ^^^ (List.getD (List.set (half (half (half l a b d 16) c d b 12) a b d 8) c ((List.getD (half (half (half l a b d 16) c d b 12) a b d 8) c 0) + (List.getD (half (half (half l a b d 16) c d b 12) a b d 8) d 0))) c 0)) 7))) 42, .box bk6 (u32s (List.replicate 16 0)) 42]) ?_ ?_
  ·
    refine draw_any (by kernel_rfl) 11 (by kernel_rfl) ?_  -- region 8
    have wo748 := Hv747.trans (Ev.drew Hv747.heap)
    refine any_name fun G hG => ?_
    have nd801 : ∀ (ac : Act) (wo : World), Env ac 88 [(1, .int .i64 ((a : Nat) : Int)), (2, .int .i64 ((b : Nat) : Int)), (3, .int .i64 ((c : Nat) : Int)), (4, .int .i64 ((d : Nat) : Int)), (5, .pointer (some ⟨bk1, 0, none⟩)), (10, .pointer (some ⟨bk6, 0, none⟩)), (77, .int .i64 ((b : Nat) : Int)), (80, .int .u32 ((UInt32.toNat (List.getD (List.set (half (half (half l a b d 16) c d b 12) a b d 8) c ((List.getD (half (half (half l a b d 16) c d b 12) a b d 8) c 0) + (List.getD (half (half (half l a b d 16) c d b 12) a b d 8) d 0))) b 0) : Nat) : Int)), (82, .pointer (some ⟨bk1, c, none⟩))] → Ev w [] wo [.box bk1 (u32s (List.set (half (half (half l a b d 16) c d b 12) a b d 8) c ((List.getD (half (half (half l a b d 16) c d b 12) a b d 8) c 0) + (List.getD (half (half (half l a b d 16) c d b 12) a b d 8) d 0)))) 42, .box bk6 (u32s (List.replicate 16 0)) 42] → G 5 #[true, true, true, true, true, true, false, false, false, false, false] ac wo := by
      intro ac802 wo803 En804 Hv805
      refine any_from hG ?_
      refine any_at 6 (by kernel_rfl) rfl ?_
      have hb806 : c < List.length (List.set (half (half (half l a b d 16) c d b 12) a b d 8) c ((List.getD (half (half (half l a b d 16) c d b 12) a b d 8) c 0) + (List.getD (half (half (half l a b d 16) c d b 12) a b d 8) d 0))) := by rw [(List.length_set.trans (half_len (half_len (half_len hl _ _ _ _) _ _ _ _) _ _ _ _))]; omega
      refine op_loadbox (d := some 83) (t := 23) (b := bk1) (off := c) (k := 0) (v := .int .u32 ((UInt32.toNat (List.getD (List.set (half (half (half l a b d 16) c d b 12) a b d 8) c ((List.getD (half (half (half l a b d 16) c d b 12) a b d 8) c 0) + (List.getD (half (half (half l a b d 16) c d b 12) a b d 8) d 0))) c 0) : Nat) : Int)) En804 (by kernel_rfl) Hv805 rfl (u32s_getD hb806) (by kernel_rfl) ?_
      intro ac807 En808
      refine any_pureR (d := some 84) En808 (v := .int .u32 (IntKind.wrap .u32 ((BitVec.ofInt (IntKind.bits .u32) ((UInt32.toNat (List.getD (List.set (half (half (half l a b d 16) c d b 12) a b d 8) c ((List.getD (half (half (half l a b d 16) c d b 12) a b d 8) c 0) + (List.getD (half (half (half l a b d 16) c d b 12) a b d 8) d 0))) b 0) : Nat) : Int) ^^^ BitVec.ofInt (IntKind.bits .u32) ((UInt32.toNat (List.getD (List.set (half (half (half l a b d 16) c d b 12) a b d 8) c ((List.getD (half (half (half l a b d 16) c d b 12) a b d 8) c 0) + (List.getD (half (half (half l a b d 16) c d b 12) a b d 8) d 0))) c 0) : Nat) : Int)).toNat : Int))) 7 (by kernel_rfl) (by kernel_rfl) rfl ?_
      intro ac809 En810
      rw [Go.Dbr.u32_xor (a := ((UInt32.toNat (List.getD (List.set (half (half (half l a b d 16) c d b 12) a b d 8) c ((List.getD (half (half (half l a b d 16) c d b 12) a b d 8) c 0) + (List.getD (half (half (half l a b d 16) c d b 12) a b d 8) d 0))) b 0) : Nat) : Int)) (b := ((UInt32.toNat (List.getD (List.set (half (half (half l a b d 16) c d b 12) a b d 8) c ((List.getD (half (half (half l a b d 16) c d b 12) a b d 8) c 0) + (List.getD (half (half (half l a b d 16) c d b 12) a b d 8) d 0))) c 0) : Nat) : Int)) (x := List.getD (List.set (half (half (half l a b d 16) c d b 12) a b d 8) c ((List.getD (half (half (half l a b d 16) c d b 12) a b d 8) c 0) + (List.getD (half (half (half l a b d 16) c d b 12) a b d 8) d 0))) b 0) (y := List.getD (List.set (half (half (half l a b d 16) c d b 12) a b d 8) c ((List.getD (half (half (half l a b d 16) c d b 12) a b d 8) c 0) + (List.getD (half (half (half l a b d 16) c d b 12) a b d 8) d 0))) c 0) rfl rfl] at En810
      refine any_at 8 (by kernel_rfl) rfl ?_
      have hM811 : Heap wo803 [] := Hv805.heap.pick [] (by kernel_rfl) (by decide)
      refine op_call (d := some 85) (f := 33) (args := #[.int .u32 ((UInt32.toNat ((List.getD (List.set (half (half (half l a b d 16) c d b 12) a b d 8) c ((List.getD (half (half (half l a b d 16) c d b 12) a b d 8) c 0) + (List.getD (half (half (half l a b d 16) c d b 12) a b d 8) d 0))) b 0) ^^^ (List.getD (List.set (half (half (half l a b d 16) c d b 12) a b d 8) c ((List.getD (half (half (half l a b d 16) c d b 12) a b d 8) c 0) + (List.getD (half (half (half l a b d 16) c d b 12) a b d 8) d 0))) c 0)) : Nat) : Int), .int .i64 7]) En810 (by kernel_rfl) ((left_ref _ ((List.getD (List.set (half (half (half l a b d 16) c d b 12) a b d 8) c ((List.getD (half (half (half l a b d 16) c d b 12) a b d 8) c 0) + (List.getD (half (half (half l a b d 16) c d b 12) a b d 8) d 0))) b 0) ^^^ (List.getD (List.set (half (half (half l a b d 16) c d b 12) a b d 8) c ((List.getD (half (half (half l a b d 16) c d b 12) a b d 8) c 0) + (List.getD (half (half (half l a b d 16) c d b 12) a b d 8) d 0))) c 0)) 7 (by omega) (by omega)).mono ?_)
      rintro _ wo813 ⟨rfl, he816⟩
      refine ⟨_, rfl, ?_⟩
      intro ac812 En814
      have Hv815 : Ev w [] wo813 [.box bk1 (u32s (List.set (half (half (half l a b d 16) c d b 12) a b d 8) c ((List.getD (half (half (half l a b d 16) c d b 12) a b d 8) c 0) + (List.getD (half (half (half l a b d 16) c d b 12) a b d 8) d 0)))) 42, .box bk6 (u32s (List.replicate 16 0)) 42] := Hv805.trans (Ev.call (R := [.box bk1 (u32s (List.set (half (half (half l a b d 16) c d b 12) a b d 8) c ((List.getD (half (half (half l a b d 16) c d b 12) a b d 8) c 0) + (List.getD (half (half (half l a b d 16) c d b 12) a b d 8) d 0)))) 42, .box bk6 (u32s (List.replicate 16 0)) 42]) Hv805.heap [0, 1] (by kernel_rfl) (by decide) he816)
      clear hM811 he816
      refine any_pure (d := some 86) (s := nv (Instr.indexAt 42 (.pointer (some ⟨bk1, 0, none⟩)) (.int .i64 ((b : Nat) : Int)))) En814 (v := .pointer (some ⟨bk1, b, none⟩)) 9 (by kernel_rfl) (funext fun _ => run_nv (Go.Dbr.run_indexarr (e := 23) (sz := 1) (m := 16) (j := b) (o := b) (by kernel_rfl) (by kernel_rfl) (by omega) (by omega) (by omega) _)) (by kernel_rfl) rfl ?_
      intro ac817 En818
      refine any_at 10 (by kernel_rfl) rfl ?_
      have hb819 : b < List.length (List.set (half (half (half l a b d 16) c d b 12) a b d 8) c ((List.getD (half (half (half l a b d 16) c d b 12) a b d 8) c 0) + (List.getD (half (half (half l a b d 16) c d b 12) a b d 8) d 0))) := by rw [(List.length_set.trans (half_len (half_len (half_len hl _ _ _ _) _ _ _ _) _ _ _ _))]; omega
      refine op_storebox2 (d := none) (t := 23) (b := bk1) (off := b) (k := 0) (v := .int .u32 ((UInt32.toNat (rotl ((List.getD (List.set (half (half (half l a b d 16) c d b 12) a b d 8) c ((List.getD (half (half (half l a b d 16) c d b 12) a b d 8) c 0) + (List.getD (half (half (half l a b d 16) c d b 12) a b d 8) d 0))) b 0) ^^^ (List.getD (List.set (half (half (half l a b d 16) c d b 12) a b d 8) c ((List.getD (half (half (half l a b d 16) c d b 12) a b d 8) c 0) + (List.getD (half (half (half l a b d 16) c d b 12) a b d 8) d 0))) c 0)) 7) : Nat) : Int)) En818 (by kernel_rfl) Hv815 rfl (u32s_getD hb819) (by kernel_rfl) rfl (u32s_set _ _ _) rfl ?_
      intro ac820 wo821  En822 Hv823
      exact any_end (by kernel_rfl) ⟨En822.sub (by kernel_rfl), Hv823.pick [0, 1] (by kernel_rfl) (by decide)⟩
    have nd824 : ∀ (ac : Act) (wo : World), Env ac 88 [(1, .int .i64 ((a : Nat) : Int)), (2, .int .i64 ((b : Nat) : Int)), (3, .int .i64 ((c : Nat) : Int)), (4, .int .i64 ((d : Nat) : Int)), (5, .pointer (some ⟨bk1, 0, none⟩)), (10, .pointer (some ⟨bk6, 0, none⟩)), (77, .int .i64 ((b : Nat) : Int)), (79, .pointer (some ⟨bk1, b, none⟩)), (83, .int .u32 ((UInt32.toNat (List.getD (List.set (half (half (half l a b d 16) c d b 12) a b d 8) c ((List.getD (half (half (half l a b d 16) c d b 12) a b d 8) c 0) + (List.getD (half (half (half l a b d 16) c d b 12) a b d 8) d 0))) c 0) : Nat) : Int))] → Ev w [] wo [.box bk1 (u32s (List.set (half (half (half l a b d 16) c d b 12) a b d 8) c ((List.getD (half (half (half l a b d 16) c d b 12) a b d 8) c 0) + (List.getD (half (half (half l a b d 16) c d b 12) a b d 8) d 0)))) 42, .box bk6 (u32s (List.replicate 16 0)) 42] → G 5 #[true, true, true, false, true, true, true, false, false, false, false] ac wo := by
      intro ac825 wo826 En827 Hv828
      refine any_from hG ?_
      refine any_at 3 (by kernel_rfl) rfl ?_
      have hb829 : b < List.length (List.set (half (half (half l a b d 16) c d b 12) a b d 8) c ((List.getD (half (half (half l a b d 16) c d b 12) a b d 8) c 0) + (List.getD (half (half (half l a b d 16) c d b 12) a b d 8) d 0))) := by rw [(List.length_set.trans (half_len (half_len (half_len hl _ _ _ _) _ _ _ _) _ _ _ _))]; omega
      refine op_loadbox (d := some 80) (t := 23) (b := bk1) (off := b) (k := 0) (v := .int .u32 ((UInt32.toNat (List.getD (List.set (half (half (half l a b d 16) c d b 12) a b d 8) c ((List.getD (half (half (half l a b d 16) c d b 12) a b d 8) c 0) + (List.getD (half (half (half l a b d 16) c d b 12) a b d 8) d 0))) b 0) : Nat) : Int)) En827 (by kernel_rfl) Hv828 rfl (u32s_getD hb829) (by kernel_rfl) ?_
      intro ac830 En831
      refine any_pureR (d := some 84) En831 (v := .int .u32 (IntKind.wrap .u32 ((BitVec.ofInt (IntKind.bits .u32) ((UInt32.toNat (List.getD (List.set (half (half (half l a b d 16) c d b 12) a b d 8) c ((List.getD (half (half (half l a b d 16) c d b 12) a b d 8) c 0) + (List.getD (half (half (half l a b d 16) c d b 12) a b d 8) d 0))) b 0) : Nat) : Int) ^^^ BitVec.ofInt (IntKind.bits .u32) ((UInt32.toNat (List.getD (List.set (half (half (half l a b d 16) c d b 12) a b d 8) c ((List.getD (half (half (half l a b d 16) c d b 12) a b d 8) c 0) + (List.getD (half (half (half l a b d 16) c d b 12) a b d 8) d 0))) c 0) : Nat) : Int)).toNat : Int))) 7 (by kernel_rfl) (by kernel_rfl) rfl ?_
      intro ac832 En833
      rw [Go.Dbr.u32_xor (a := ((UInt32.toNat (List.getD (List.set (half (half (half l a b d 16) c d b 12) a b d 8) c ((List.getD (half (half (half l a b d 16) c d b 12) a b d 8) c 0) + (List.getD (half (half (half l a b d 16) c d b 12) a b d 8) d 0))) b 0) : Nat) : Int)) (b := ((UInt32.toNat (List.getD (List.set (half (half (half l a b d 16) c d b 12) a b d 8) c ((List.getD (half (half (half l a b d 16) c d b 12) a b d 8) c 0) + (List.getD (half (half (half l a b d 16) c d b 12) a b d 8) d 0))) c 0) : Nat) : Int)) (x := List.getD (List.set (half (half (half l a b d 16) c d b 12) a b d 8) c ((List.getD (half (half (half l a b d 16) c d b 12) a b d 8) c 0) + (List.getD (half (half (half l a b d 16) c d b 12) a b d 8) d 0))) b 0) (y := List.getD (List.set (half (half (half l a b d 16) c d b 12) a b d 8) c ((List.getD (half (half (half l a b d 16) c d b 12) a b d 8) c 0) + (List.getD (half (half (half l a b d 16) c d b 12) a b d 8) d 0))) c 0) rfl rfl] at En833
      refine any_at 8 (by kernel_rfl) rfl ?_
      have hM834 : Heap wo826 [] := Hv828.heap.pick [] (by kernel_rfl) (by decide)
      refine op_call (d := some 85) (f := 33) (args := #[.int .u32 ((UInt32.toNat ((List.getD (List.set (half (half (half l a b d 16) c d b 12) a b d 8) c ((List.getD (half (half (half l a b d 16) c d b 12) a b d 8) c 0) + (List.getD (half (half (half l a b d 16) c d b 12) a b d 8) d 0))) b 0) ^^^ (List.getD (List.set (half (half (half l a b d 16) c d b 12) a b d 8) c ((List.getD (half (half (half l a b d 16) c d b 12) a b d 8) c 0) + (List.getD (half (half (half l a b d 16) c d b 12) a b d 8) d 0))) c 0)) : Nat) : Int), .int .i64 7]) En833 (by kernel_rfl) ((left_ref _ ((List.getD (List.set (half (half (half l a b d 16) c d b 12) a b d 8) c ((List.getD (half (half (half l a b d 16) c d b 12) a b d 8) c 0) + (List.getD (half (half (half l a b d 16) c d b 12) a b d 8) d 0))) b 0) ^^^ (List.getD (List.set (half (half (half l a b d 16) c d b 12) a b d 8) c ((List.getD (half (half (half l a b d 16) c d b 12) a b d 8) c 0) + (List.getD (half (half (half l a b d 16) c d b 12) a b d 8) d 0))) c 0)) 7 (by omega) (by omega)).mono ?_)
      rintro _ wo836 ⟨rfl, he839⟩
      refine ⟨_, rfl, ?_⟩
      intro ac835 En837
      have Hv838 : Ev w [] wo836 [.box bk1 (u32s (List.set (half (half (half l a b d 16) c d b 12) a b d 8) c ((List.getD (half (half (half l a b d 16) c d b 12) a b d 8) c 0) + (List.getD (half (half (half l a b d 16) c d b 12) a b d 8) d 0)))) 42, .box bk6 (u32s (List.replicate 16 0)) 42] := Hv828.trans (Ev.call (R := [.box bk1 (u32s (List.set (half (half (half l a b d 16) c d b 12) a b d 8) c ((List.getD (half (half (half l a b d 16) c d b 12) a b d 8) c 0) + (List.getD (half (half (half l a b d 16) c d b 12) a b d 8) d 0)))) 42, .box bk6 (u32s (List.replicate 16 0)) 42]) Hv828.heap [0, 1] (by kernel_rfl) (by decide) he839)
      clear hM834 he839
      refine any_pure (d := some 86) (s := nv (Instr.indexAt 42 (.pointer (some ⟨bk1, 0, none⟩)) (.int .i64 ((b : Nat) : Int)))) En837 (v := .pointer (some ⟨bk1, b, none⟩)) 9 (by kernel_rfl) (funext fun _ => run_nv (Go.Dbr.run_indexarr (e := 23) (sz := 1) (m := 16) (j := b) (o := b) (by kernel_rfl) (by kernel_rfl) (by omega) (by omega) (by omega) _)) (by kernel_rfl) rfl ?_
      intro ac840 En841
      refine any_at 10 (by kernel_rfl) rfl ?_
      have hb842 : b < List.length (List.set (half (half (half l a b d 16) c d b 12) a b d 8) c ((List.getD (half (half (half l a b d 16) c d b 12) a b d 8) c 0) + (List.getD (half (half (half l a b d 16) c d b 12) a b d 8) d 0))) := by rw [(List.length_set.trans (half_len (half_len (half_len hl _ _ _ _) _ _ _ _) _ _ _ _))]; omega
      refine op_storebox2 (d := none) (t := 23) (b := bk1) (off := b) (k := 0) (v := .int .u32 ((UInt32.toNat (rotl ((List.getD (List.set (half (half (half l a b d 16) c d b 12) a b d 8) c ((List.getD (half (half (half l a b d 16) c d b 12) a b d 8) c 0) + (List.getD (half (half (half l a b d 16) c d b 12) a b d 8) d 0))) b 0) ^^^ (List.getD (List.set (half (half (half l a b d 16) c d b 12) a b d 8) c ((List.getD (half (half (half l a b d 16) c d b 12) a b d 8) c 0) + (List.getD (half (half (half l a b d 16) c d b 12) a b d 8) d 0))) c 0)) 7) : Nat) : Int)) En841 (by kernel_rfl) Hv838 rfl (u32s_getD hb842) (by kernel_rfl) rfl (u32s_set _ _ _) rfl ?_
      intro ac843 wo844  En845 Hv846
      exact any_end (by kernel_rfl) ⟨En845.sub (by kernel_rfl), Hv846.pick [0, 1] (by kernel_rfl) (by decide)⟩
    refine any_from hG ?_
    refine any_pureR (d := some 77) En746 (v := .int .i64 ((b : Nat) : Int)) 0 (by kernel_rfl) (by kernel_rfl) rfl ?_
    intro ac847 En848
    refine any_pureR (d := some 78) En848 (v := .int .i64 ((b : Nat) : Int)) 1 (by kernel_rfl) (by kernel_rfl) rfl ?_
    intro ac849 En850
    refine any_pure (d := some 79) (s := nv (Instr.indexAt 42 (.pointer (some ⟨bk1, 0, none⟩)) (.int .i64 ((b : Nat) : Int)))) En850 (v := .pointer (some ⟨bk1, b, none⟩)) 2 (by kernel_rfl) (funext fun _ => run_nv (Go.Dbr.run_indexarr (e := 23) (sz := 1) (m := 16) (j := b) (o := b) (by kernel_rfl) (by kernel_rfl) (by omega) (by omega) (by omega) _)) (by kernel_rfl) rfl ?_
    intro ac851 En852
    refine any_pureR (d := some 81) En852 (v := .int .i64 ((c : Nat) : Int)) 4 (by kernel_rfl) (by kernel_rfl) rfl ?_
    intro ac853 En854
    refine any_pure (d := some 82) (s := nv (Instr.indexAt 42 (.pointer (some ⟨bk1, 0, none⟩)) (.int .i64 ((c : Nat) : Int)))) En854 (v := .pointer (some ⟨bk1, c, none⟩)) 5 (by kernel_rfl) (funext fun _ => run_nv (Go.Dbr.run_indexarr (e := 23) (sz := 1) (m := 16) (j := c) (o := c) (by kernel_rfl) (by kernel_rfl) (by omega) (by omega) (by omega) _)) (by kernel_rfl) rfl ?_
    intro ac855 En856
    refine any_two 3 6 (by kernel_rfl) ?_ ?_
    · rintro _ rfl
      have hb857 : b < List.length (List.set (half (half (half l a b d 16) c d b 12) a b d 8) c ((List.getD (half (half (half l a b d 16) c d b 12) a b d 8) c 0) + (List.getD (half (half (half l a b d 16) c d b 12) a b d 8) d 0))) := by rw [(List.length_set.trans (half_len (half_len (half_len hl _ _ _ _) _ _ _ _) _ _ _ _))]; omega
      refine op_loadbox (d := some 80) (t := 23) (b := bk1) (off := b) (k := 0) (v := .int .u32 ((UInt32.toNat (List.getD (List.set (half (half (half l a b d 16) c d b 12) a b d 8) c ((List.getD (half (half (half l a b d 16) c d b 12) a b d 8) c 0) + (List.getD (half (half (half l a b d 16) c d b 12) a b d 8) d 0))) b 0) : Nat) : Int)) En856 (by kernel_rfl) wo748 rfl (u32s_getD hb857) (by kernel_rfl) ?_
      intro ac858 En859
      exact any_to hG (by kernel_rfl) (nd801 _ _ (En859.sub (by kernel_rfl)) (wo748.pick [0, 1] (by kernel_rfl) (by decide)))
    · rintro _ rfl
      have hb860 : c < List.length (List.set (half (half (half l a b d 16) c d b 12) a b d 8) c ((List.getD (half (half (half l a b d 16) c d b 12) a b d 8) c 0) + (List.getD (half (half (half l a b d 16) c d b 12) a b d 8) d 0))) := by rw [(List.length_set.trans (half_len (half_len (half_len hl _ _ _ _) _ _ _ _) _ _ _ _))]; omega
      refine op_loadbox (d := some 83) (t := 23) (b := bk1) (off := c) (k := 0) (v := .int .u32 ((UInt32.toNat (List.getD (List.set (half (half (half l a b d 16) c d b 12) a b d 8) c ((List.getD (half (half (half l a b d 16) c d b 12) a b d 8) c 0) + (List.getD (half (half (half l a b d 16) c d b 12) a b d 8) d 0))) c 0) : Nat) : Int)) En856 (by kernel_rfl) wo748 rfl (u32s_getD hb860) (by kernel_rfl) ?_
      intro ac861 En862
      exact any_to hG (by kernel_rfl) (nd824 _ _ (En862.sub (by kernel_rfl)) (wo748.pick [0, 1] (by kernel_rfl) (by decide)))
  rintro ac863 wo864 ⟨En865, Hv866⟩
  replace Hv866 : Ev w [] wo864 [.box bk1 (u32s (half (half (half (half l a b d 16) c d b 12) a b d 8) c d b 7)) 42, .box bk6 (u32s (List.replicate 16 0)) 42] := Hv866
  replace Hv866 : Ev w [] wo864 [.box bk1 (u32s (quart l a b c d)) 42, .box bk6 (u32s (List.replicate 16 0)) 42] := Hv866
  refine then_normal ?_
  refine wp_seq ?_
  refine region_from ?_  -- region 9
  refine from_op (by kernel_rfl) ?_
  refine op_loadaggbox (d := some 87) (t := 42) (b := bk1) (off := 0) (k := 0) (m := 16) (xs := u32s (quart l a b c d)) En865 (by kernel_rfl) Hv866 rfl (load_whole (u32s_lenh (quart_len hl _ _ _ _))) (u32s_lenh (quart_len hl _ _ _ _)) (by kernel_rfl) (by kernel_rfl) ?_
  intro ac867 En868
  refine from_op (by kernel_rfl) ?_
  refine op_storeaggbox (d := none) (t := 42) (b := bk6) (off := 0) (k := 1) (m := 16) (xs := u32s (quart l a b c d)) (v := .agg (List.toArray (u32s (quart l a b c d)))) (cs' := u32s (quart l a b c d)) En868 (by kernel_rfl) Hv866 rfl rfl (u32s_lenh (quart_len hl _ _ _ _)) (by rw [(u32s_lenh (List.length_replicate))]; decide) (by kernel_rfl) (u32s_one _) (store_whole (u32s_lenh (List.length_replicate))) (L' := [.box bk1 (u32s (quart l a b c d)) 42, .box bk6 (u32s (quart l a b c d)) 42]) rfl ?_
  intro ac869 wo870  En871 Hv872
  refine from_end (by kernel_rfl) ?_
  refine then_normal ?_
  refine wp_ret ?_
  refine d_cell1 (v := .agg (List.toArray (u32s (quart l a b c d)))) (t := 10) (T := 42) (ad := ⟨bk6, 0, none⟩) En871 (by kernel_rfl) (by kernel_rfl) (Ev.cellAgg (t := 42) (k := 1) (off := 0) (m := 16) (xs := u32s (quart l a b c d)) Hv872 rfl (load_whole (u32s_lenh (quart_len hl _ _ _ _))) (u32s_lenh (quart_len hl _ _ _ _)) (by kernel_rfl) (by kernel_rfl)) ?_
  exact ⟨rfl, Hv872.pick [] (by kernel_rfl) (by decide)⟩

end Go.Proofs.Ytnahplggflhdaaa
