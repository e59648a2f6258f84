/- Layer 9: words, quarters. -/
import Derived.Test.YtnahplggflhdaaaShape
import Derived.Test.YtnahplggflhdaaaCopy
import Derived.Test.YtnahplggflhdaaaHeld
namespace Go.Proofs.Ytnahplggflhdaaa
open Go.Dbr
set_option maxRecDepth 100000
set_option maxHeartbeats 2000000
set_option linter.unusedVariables false
set_option linter.unusedSimpArgs false

abbrev pt (b : Nat) : Value := .pointer (some (Addr.mk b 0 none))
abbrev ni (n : Nat) : Value := .int .i64 (n : Int)
def rotl (x : UInt32) (n : Nat) : UInt32 := (x <<< UInt32.ofNat n) ||| (x >>> UInt32.ofNat (32 - n))
/-- a half of a quarter round -/
def half (w : List UInt32) (a b d n : Nat) : List UInt32 :=
  List.set (List.set w a (List.getD w a 0 + List.getD w b 0)) d (rotl (List.getD (List.set w a (List.getD w a 0 + List.getD w b 0)) d 0 ^^^ List.getD (List.set w a (List.getD w a 0 + List.getD w b 0)) a 0) n)
theorem half_len {w : List UInt32} {m : Nat} (h : w.length = m) (a b d n : Nat) : (half w a b d n).length = m := by simp [half, h]
def quart (w : List UInt32) (a b c d : Nat) : List UInt32 := half (half (half (half w a b d 16) c d b 12) a b d 8) c d b 7
theorem quart_len {w : List UInt32} {m : Nat} (h : w.length = m) (a b c d : Nat) : (quart w a b c d).length = m := half_len (half_len (half_len (half_len h _ _ _ _) _ _ _ _) _ _ _ _) _ _ _ _
/-- so many bytes of a word, the lowest first -/
def partW (l : List UInt8) (i : Nat) : Nat → UInt32
  | 0 => 0
  | k + 1 => partW l i k ||| ((UInt8.toUInt32 (List.getD l (4 * i + k) 0)) <<< UInt32.ofNat (8 * k))
def wordsF (l : List UInt8) : List UInt32 := (List.range (l.length / 4)).map fun i => partW l i 4
theorem wordsF_len {l : List UInt8} {m : Nat} (h : l.length / 4 = m) : (wordsF l).length = m := by simp [wordsF, h]
theorem u64_and31 {n : Nat} (h : n < 32) {a b : Int} (ha : a = ((UInt64.toNat (UInt64.ofNat n) : Nat) : Int)) (hb : b = 31) : IntKind.wrap .u64 ((BitVec.ofInt (IntKind.bits .u64) a &&& BitVec.ofInt (IntKind.bits .u64) b).toNat : Int) = ((n : Nat) : Int) := by
  rw [Go.Dbr.u64_and (x := UInt64.ofNat n) (y := 31) ha (by rw [hb]; rfl)]
  congr 1
  rw [UInt64.toNat_and]
  have h1 : (UInt64.ofNat n).toNat = n := by first | (show (BitVec.ofNat 64 n).toNat = n; rw [BitVec.toNat_ofNat]; omega) | (simp; omega)
  rw [h1]
  show n &&& 31 = n
  rw [show (31 : Nat) = 2 ^ 5 - 1 from rfl, Nat.and_two_pow_sub_one_eq_mod]
  omega

theorem rotate_go (w : World) (x : UInt32) (n : Nat) (h0 : 0 < n) (hn : n < 32) : Calls Try.prog 21 #[uv32 x, ni n] w fun e w' => e = .returned (.int .u32 ((UInt32.toNat (rotl x n) : Nat) : Int)) ∧ Ev w [] w' [] := by
 refine d_start [(0, uv32 x), (1, ni n)] 17 Go.Proofs.Try.func21 Go.Proofs.Try.ntmps21 rfl (by kernel_rfl) (by kernel_rfl) ?_
 intro act0 En0
 have Hv0 : Ev w [] w [] := Ev.refl (Heap.nil _)
 refine wp_seq ?_
 refine region_from ?_
 refine d_pures [(0, uv32 x), (1, ni n), (4, .int .u32 0)] [.int .u32 0] 1 En0 (by kernel_rfl) (by kernel_rfl) rfl ?_
 intro ac1 En2
 refine from_end (by kernel_rfl) ?_
 refine then_normal ?_
 refine wp_seq ?_
 refine region_from ?_
 refine d_pures [(0, uv32 x), (4, .int .u32 0), (7, .int .u64 (IntKind.wrap .u64 ((n : Nat) : Int)))] [ni n, .int .u64 (IntKind.wrap .u64 ((n : Nat) : Int))] 2 En2 (by kernel_rfl) (by kernel_rfl) rfl ?_
 intro ac3 En4
 rw [Go.Dbr.nat_to_u64 (a := ((n : Nat) : Int)) (n := n) rfl] at En4
 refine d_pures [(0, uv32 x), (4, .int .u32 0), (8, .int .u64 (IntKind.wrap .u64 ((BitVec.ofInt (IntKind.bits .u64) ((UInt64.toNat (UInt64.ofNat n) : Nat) : Int) &&& BitVec.ofInt (IntKind.bits .u64) (31 : Int)).toNat : Int)))] [.int .u64 (IntKind.wrap .u64 ((BitVec.ofInt (IntKind.bits .u64) ((UInt64.toNat (UInt64.ofNat n) : Nat) : Int) &&& BitVec.ofInt (IntKind.bits .u64) (31 : Int)).toNat : Int))] 3 En4 (by kernel_rfl) (by kernel_rfl) rfl ?_
 intro ac5 En6
 rw [u64_and31 (n := n) hn rfl rfl] at En6
 refine d_pures [(0, uv32 x), (4, .int .u32 0), (5, .int .u64 ((n : Nat) : Int))] [.int .u64 ((n : Nat) : Int)] 4 En6 (by kernel_rfl) (by kernel_rfl) rfl ?_
 intro ac7 En8
 refine from_end (by kernel_rfl) ?_
 refine then_normal ?_
 refine wp_seq ?_
 refine region_from ?_
 refine d_pures [(0, uv32 x), (4, .int .u32 0), (5, .int .u64 ((n : Nat) : Int)), (9, uv32 x), (10, .int .u64 ((n : Nat) : Int))] [uv32 x, .int .u64 ((n : Nat) : Int)] 2 En8 (by kernel_rfl) (by kernel_rfl) rfl ?_
 intro ac9 En10
 refine from_op (by kernel_rfl) ?_
 refine op_val (d := some 11) (x := Op.shift .shl .u32 ((UInt32.toNat x : Nat) : Int) .u64 ((n : Nat) : Int)) (v := .int .u32 ((UInt32.toNat (x <<< UInt32.ofNat n) : Nat) : Int)) En10 (by kernel_rfl) (Go.Dbr.run_shl_u32 x .u64 n (by omega) _) ?_
 intro ac11 En12
 refine d_pures [(4, .int .u32 0), (11, .int .u32 ((UInt32.toNat (x <<< UInt32.ofNat n) : Nat) : Int)), (12, uv32 x), (14, .int .u64 (IntKind.wrap .u64 ((32 : Int) - ((n : Nat) : Int))))] [uv32 x, .int .u64 ((n : Nat) : Int), .int .u64 (IntKind.wrap .u64 ((32 : Int) - ((n : Nat) : Int)))] 6 En12 (by kernel_rfl) (by kernel_rfl) rfl ?_
 intro ac13 En14
 rw [Go.Dbr.wru64 (e := (32 : Int) - ((n : Nat) : Int)) (x := ((32 - n : Nat) : Int)) (by omega) (by omega) (by omega)] at En14
 refine from_op (by kernel_rfl) ?_
 refine op_val (d := some 15) (x := Op.shift .shr .u32 ((UInt32.toNat x : Nat) : Int) .u64 ((32 - n : Nat) : Int)) (v := .int .u32 ((UInt32.toNat (x >>> UInt32.ofNat (32 - n)) : Nat) : Int)) En14 (by kernel_rfl) (Go.Dbr.run_shr_u32 x .u64 (32 - n) (by omega) _) ?_
 intro ac15 En16
 refine d_pures [(4, .int .u32 0), (16, .int .u32 (IntKind.wrap .u32 ((BitVec.ofInt (IntKind.bits .u32) ((UInt32.toNat (x <<< UInt32.ofNat n) : Nat) : Int) ||| BitVec.ofInt (IntKind.bits .u32) ((UInt32.toNat (x >>> UInt32.ofNat (32 - n)) : Nat) : Int)).toNat : Int)))] [.int .u32 (IntKind.wrap .u32 ((BitVec.ofInt (IntKind.bits .u32) ((UInt32.toNat (x <<< UInt32.ofNat n) : Nat) : Int) ||| BitVec.ofInt (IntKind.bits .u32) ((UInt32.toNat (x >>> UInt32.ofNat (32 - n)) : Nat) : Int)).toNat : Int))] 8 En16 (by kernel_rfl) (by kernel_rfl) rfl ?_
 intro ac17 En18
 rw [Go.Dbr.u32_or (a := ((UInt32.toNat (x <<< UInt32.ofNat n) : Nat) : Int)) (b := ((UInt32.toNat (x >>> UInt32.ofNat (32 - n)) : Nat) : Int)) (x := x <<< UInt32.ofNat n) (y := x >>> UInt32.ofNat (32 - n)) rfl rfl] at En18
 refine d_pures [(4, .int .u32 ((UInt32.toNat ((x <<< UInt32.ofNat n) ||| (x >>> UInt32.ofNat (32 - n))) : Nat) : Int))] [.int .u32 ((UInt32.toNat ((x <<< UInt32.ofNat n) ||| (x >>> UInt32.ofNat (32 - n))) : Nat) : Int)] 9 En18 (by kernel_rfl) (by kernel_rfl) rfl ?_
 intro ac19 En20
 refine from_end (by kernel_rfl) ?_
 refine then_normal ?_
 refine wp_ret ?_
 refine d_ret1 (t := 4) (v := .int .u32 ((UInt32.toNat ((x <<< UInt32.ofNat n) ||| (x >>> UInt32.ofNat (32 - n))) : Nat) : Int)) En20 (by kernel_rfl) (by kernel_rfl) ?_
 exact ⟨rfl, Hv0.pick [] (by kernel_rfl) (by decide)⟩

theorem left_ref (w : World) (x : UInt32) (n : Nat) (h0 : 0 < n) (hn : n < 32) : Calls Try.prog 33 #[uv32 x, ni n] w fun e w' => e = .returned (.int .u32 ((UInt32.toNat (rotl x n) : Nat) : Int)) ∧ Ev w [] w' [] := by
 refine d_start [(0, uv32 x), (1, ni n)] 13 Go.Proofs.Try.func33 Go.Proofs.Try.ntmps33 rfl (by kernel_rfl) (by kernel_rfl) ?_
 intro act0 En0
 have Hv0 : Ev w [] w [] := Ev.refl (Heap.nil _)
 refine wp_seq ?_
 refine region_from ?_
 refine d_pures [(0, uv32 x), (1, ni n), (4, .int .u32 0)] [.int .u32 0] 1 En0 (by kernel_rfl) (by kernel_rfl) rfl ?_
 intro ac1 En2
 refine from_end (by kernel_rfl) ?_
 refine then_normal ?_
 refine wp_seq ?_
 refine region_cut (F := fun ac wo => Env ac 13 [(4, .int .u32 ((UInt32.toNat ((x <<< UInt32.ofNat n) ||| (x >>> UInt32.ofNat (32 - n))) : Nat) : Int))] ∧ Ev w [] wo []) ?_ ?_
 ·
  refine draw_any (by kernel_rfl) 9 (by kernel_rfl) ?_
  have wo3 := Hv0.trans (Ev.drew Hv0.heap)
  refine any_pureR (d := some 5) En2 (v := uv32 x) 0 (by kernel_rfl) (by kernel_rfl) rfl ?_
  intro ac22 En23
  refine any_pureR (d := some 6) En23 (v := ni n) 1 (by kernel_rfl) (by kernel_rfl) rfl ?_
  intro ac24 En25
  refine any_pure (d := some 7) (s := nv (Op.shift .shl .u32 ((UInt32.toNat x : Nat) : Int) .i64 ((n : Nat) : Int))) En25 (v := .int .u32 ((UInt32.toNat (x <<< UInt32.ofNat n) : Nat) : Int)) 2 (by kernel_rfl) (funext fun _ => run_nv (Go.Dbr.run_shl_u32 x .i64 n (by omega) _)) (by kernel_rfl) rfl ?_
  intro ac26 En27
  refine any_pureR (d := some 8) En27 (v := uv32 x) 3 (by kernel_rfl) (by kernel_rfl) rfl ?_
  intro ac28 En29
  refine any_pureR (d := some 9) En29 (v := ni n) 4 (by kernel_rfl) (by kernel_rfl) rfl ?_
  intro ac30 En31
  refine any_pureR (d := some 10) En31 (v := .int .i64 (IntKind.wrap .i64 ((32 : Int) - ((n : Nat) : Int)))) 5 (by kernel_rfl) (by kernel_rfl) rfl ?_
  intro ac32 En33
  rw [Go.Dbr.wr64 (e := (32 : Int) - ((n : Nat) : Int)) (x := ((32 - n : Nat) : Int)) (by omega) (by omega) (by omega)] at En33
  refine any_pure (d := some 11) (s := nv (Op.shift .shr .u32 ((UInt32.toNat x : Nat) : Int) .i64 ((32 - n : Nat) : Int))) En33 (v := .int .u32 ((UInt32.toNat (x >>> UInt32.ofNat (32 - n)) : Nat) : Int)) 6 (by kernel_rfl) (funext fun _ => run_nv (Go.Dbr.run_shr_u32 x .i64 (32 - n) (by omega) _)) (by kernel_rfl) rfl ?_
  intro ac34 En35
  refine any_pureR (d := some 12) En35 (v := .int .u32 (IntKind.wrap .u32 ((BitVec.ofInt (IntKind.bits .u32) ((UInt32.toNat (x <<< UInt32.ofNat n) : Nat) : Int) ||| BitVec.ofInt (IntKind.bits .u32) ((UInt32.toNat (x >>> UInt32.ofNat (32 - n)) : Nat) : Int)).toNat : Int))) 7 (by kernel_rfl) (by kernel_rfl) rfl ?_
  intro ac36 En37
  rw [Go.Dbr.u32_or (a := ((UInt32.toNat (x <<< UInt32.ofNat n) : Nat) : Int)) (b := ((UInt32.toNat (x >>> UInt32.ofNat (32 - n)) : Nat) : Int)) (x := x <<< UInt32.ofNat n) (y := x >>> UInt32.ofNat (32 - n)) rfl rfl] at En37
  refine any_pureR (d := some 4) En37 (v := .int .u32 ((UInt32.toNat ((x <<< UInt32.ofNat n) ||| (x >>> UInt32.ofNat (32 - n))) : Nat) : Int)) 8 (by kernel_rfl) (by kernel_rfl) rfl ?_
  intro ac38 En39
  exact any_end (by kernel_rfl) ⟨En39.sub (by kernel_rfl), wo3.pick [] (by kernel_rfl) (by decide)⟩
 rintro ac40 wo41 ⟨En42, Hv43⟩
 refine then_normal ?_
 refine wp_ret ?_
 refine d_ret1 (t := 4) (v := .int .u32 ((UInt32.toNat ((x <<< UInt32.ofNat n) ||| (x >>> UInt32.ofNat (32 - n))) : Nat) : Int)) En42 (by kernel_rfl) (by kernel_rfl) ?_
 exact ⟨rfl, Hv43.pick [] (by kernel_rfl) (by decide)⟩

theorem half_go (w : World) (bw : Nat) (l : List UInt32) (hl : List.length l = 16) (a b d n : Nat) (ha : a < 16) (hb : b < 16) (hd : d < 16) (h0 : 0 < n) (hn : n < 32) (hH : Heap w [.box bw (u32s l) 42]) : Calls Try.prog 20 #[ni a, ni b, ni d, ni n, pt bw] w fun e w' => e = .returned (.tuple #[]) ∧ Ev w [.box bw (u32s l) 42] w' [.box bw (u32s (half l a b d n)) 42] := by
 refine d_start [(0, ni a), (1, ni b), (2, ni d), (3, ni n), (4, pt bw)] 28 Go.Proofs.Try.func20 Go.Proofs.Try.ntmps20 rfl (by kernel_rfl) (by kernel_rfl) ?_
 intro act0 En0
 have Hv0 : Ev w [.box bw (u32s l) 42] w [.box bw (u32s l) 42] := Ev.refl (hH)
 refine wp_seq ?_
 refine region_cut (F := fun ac wo => Env ac 28 [(0, ni a), (2, ni d), (3, ni n), (4, pt bw)] ∧ Ev w [.box bw (u32s l) 42] wo [.box bw (u32s (List.set l a ((List.getD l a 0) + (List.getD l b 0)))) 42]) ?_ ?_
 ·
  refine h_start (fun wv => Ev w [.box bw (u32s l) 42] wv [.box bw (u32s l) 42]) [8] (by kernel_rfl) 9 (by kernel_rfl) ?_
  have wo1 := Hv0.trans (Ev.drew Hv0.heap)
  refine h_pureR (d := some 9) En0 (v := ni a) 0 (by kernel_rfl) (by kernel_rfl) rfl (fun _ => wo1.pick [0] (by kernel_rfl) (by decide)) ?_
  intro ac63 En64
  refine h_free (d := some 10) (s := nv (Instr.indexAt 42 (pt bw) (ni a))) En64 (v := .pointer (some ⟨bw, a, none⟩)) 1 (by kernel_rfl) (fun _ => run_nv (Go.Dbr.run_indexarr (e := 23) (sz := 1) (m := 16) (j := a) (o := a) (by kernel_rfl) (by kernel_rfl) (by omega) (by omega) (by omega) _)) (by kernel_rfl) rfl (fun _ => wo1.pick [0] (by kernel_rfl) (by decide)) ?_
  intro ac65 En66
  have hb67 : a < List.length l := by rw [hl]; omega
  refine h_read (d := some 11) (s := nv (Instr.loadAt 23 (.pointer (some ⟨bw, a, none⟩)))) En66 (v := .int .u32 ((UInt32.toNat (List.getD l a 0) : Nat) : Int)) 2 (by kernel_rfl) (fun w hS => run_nv (run_load1 (by kernel_rfl) (hS.heap.cell (k := 0) rfl (u32s_getD hb67)))) (by kernel_rfl) rfl (wo1.pick [0] (by kernel_rfl) (by decide)) ?_
  intro ac68 En69
  refine h_pureR (d := some 12) En69 (v := ni b) 3 (by kernel_rfl) (by kernel_rfl) rfl (fun _ => wo1.pick [0] (by kernel_rfl) (by decide)) ?_
  intro ac70 En71
  refine h_free (d := some 13) (s := nv (Instr.indexAt 42 (pt bw) (ni b))) En71 (v := .pointer (some ⟨bw, b, none⟩)) 4 (by kernel_rfl) (fun _ => run_nv (Go.Dbr.run_indexarr (e := 23) (sz := 1) (m := 16) (j := b) (o := b) (by kernel_rfl) (by kernel_rfl) (by omega) (by omega) (by omega) _)) (by kernel_rfl) rfl (fun _ => wo1.pick [0] (by kernel_rfl) (by decide)) ?_
  intro ac72 En73
  have hb74 : b < List.length l := by rw [hl]; omega
  refine h_read (d := some 14) (s := nv (Instr.loadAt 23 (.pointer (some ⟨bw, b, none⟩)))) En73 (v := .int .u32 ((UInt32.toNat (List.getD l b 0) : Nat) : Int)) 5 (by kernel_rfl) (fun w hS => run_nv (run_load1 (by kernel_rfl) (hS.heap.cell (k := 0) rfl (u32s_getD hb74)))) (by kernel_rfl) rfl (wo1.pick [0] (by kernel_rfl) (by decide)) ?_
  intro ac75 En76
  refine h_pureR (d := some 15) En76 (v := .int .u32 (IntKind.wrap .u32 (((UInt32.toNat (List.getD l a 0) : Nat) : Int) + ((UInt32.toNat (List.getD l b 0) : Nat) : Int)))) 6 (by kernel_rfl) (by kernel_rfl) rfl (fun _ => wo1.pick [0] (by kernel_rfl) (by decide)) ?_
  intro ac77 En78
  rw [Go.Dbr.u32_add (a := ((UInt32.toNat (List.getD l a 0) : Nat) : Int)) (b := ((UInt32.toNat (List.getD l b 0) : Nat) : Int)) (x := List.getD l a 0) (y := List.getD l b 0) rfl rfl] at En78
  refine h_free (d := some 16) (s := nv (Instr.indexAt 42 (pt bw) (ni a))) En78 (v := .pointer (some ⟨bw, a, none⟩)) 7 (by kernel_rfl) (fun _ => run_nv (Go.Dbr.run_indexarr (e := 23) (sz := 1) (m := 16) (j := a) (o := a) (by kernel_rfl) (by kernel_rfl) (by omega) (by omega) (by omega) _)) (by kernel_rfl) rfl (fun _ => wo1.pick [0] (by kernel_rfl) (by decide)) ?_
  intro ac79 En80
  refine h_at 8 (by kernel_rfl) rfl ?_
  have hb81 : a < List.length l := by rw [hl]; omega
  refine op_storebox2 (d := none) (t := 23) (b := bw) (off := a) (k := 0) (v := .int .u32 ((UInt32.toNat ((List.getD l a 0) + (List.getD l b 0)) : Nat) : Int)) En80 (by kernel_rfl) wo1 rfl (u32s_getD hb81) (by kernel_rfl) rfl (u32s_set _ _ _) rfl ?_
  intro ac82 wo83  En84 Hv85
  refine ⟨not_yet (by kernel_rfl), ?_⟩
  exact h_end (by kernel_rfl) ⟨En84.sub (by kernel_rfl), Hv85.pick [0] (by kernel_rfl) (by decide)⟩
 rintro ac86 wo87 ⟨En88, Hv89⟩
 refine then_normal ?_
 refine region_cut (F := fun ac wo => Env ac 28 [(0, ni a), (4, pt bw)] ∧ Ev w [.box bw (u32s l) 42] wo [.box bw (u32s (List.set (List.set l a ((List.getD l a 0) + (List.getD l b 0))) d (rotl ((List.getD (List.set l a ((List.getD l a 0) + (List.getD l b 0))) d 0) ^^^ (List.getD (List.set l a ((List.getD l a 0) + (List.getD l b 0))) a 0)) n))) 42]) ?_ ?_
 ·
  refine h_start (fun wv => Ev w [.box bw (u32s l) 42] wv [.box bw (u32s (List.set l a ((List.getD l a 0) + (List.getD l b 0)))) 42]) [11] (by kernel_rfl) 12 (by kernel_rfl) ?_
  have wo90 := Hv89.trans (Ev.drew Hv89.heap)
  refine h_pureR (d := some 17) En88 (v := ni d) 0 (by kernel_rfl) (by kernel_rfl) rfl (fun _ => wo90.pick [0] (by kernel_rfl) (by decide)) ?_
  intro ac178 En179
  refine h_pureR (d := some 18) En179 (v := ni d) 1 (by kernel_rfl) (by kernel_rfl) rfl (fun _ => wo90.pick [0] (by kernel_rfl) (by decide)) ?_
  intro ac180 En181
  refine h_free (d := some 19) (s := nv (Instr.indexAt 42 (pt bw) (ni d))) En181 (v := .pointer (some ⟨bw, d, none⟩)) 2 (by kernel_rfl) (fun _ => run_nv (Go.Dbr.run_indexarr (e := 23) (sz := 1) (m := 16) (j := d) (o := d) (by kernel_rfl) (by kernel_rfl) (by omega) (by omega) (by omega) _)) (by kernel_rfl) rfl (fun _ => wo90.pick [0] (by kernel_rfl) (by decide)) ?_
  intro ac182 En183
  have hb184 : d < List.length (List.set l a ((List.getD l a 0) + (List.getD l b 0))) := by rw [(List.length_set.trans hl)]; omega
  refine h_read (d := some 20) (s := nv (Instr.loadAt 23 (.pointer (some ⟨bw, d, none⟩)))) En183 (v := .int .u32 ((UInt32.toNat (List.getD (List.set l a ((List.getD l a 0) + (List.getD l b 0))) d 0) : Nat) : Int)) 3 (by kernel_rfl) (fun w hS => run_nv (run_load1 (by kernel_rfl) (hS.heap.cell (k := 0) rfl (u32s_getD hb184)))) (by kernel_rfl) rfl (wo90.pick [0] (by kernel_rfl) (by decide)) ?_
  intro ac185 En186
  refine h_pureR (d := some 21) En186 (v := ni a) 4 (by kernel_rfl) (by kernel_rfl) rfl (fun _ => wo90.pick [0] (by kernel_rfl) (by decide)) ?_
  intro ac187 En188
  refine h_free (d := some 22) (s := nv (Instr.indexAt 42 (pt bw) (ni a))) En188 (v := .pointer (some ⟨bw, a, none⟩)) 5 (by kernel_rfl) (fun _ => run_nv (Go.Dbr.run_indexarr (e := 23) (sz := 1) (m := 16) (j := a) (o := a) (by kernel_rfl) (by kernel_rfl) (by omega) (by omega) (by omega) _)) (by kernel_rfl) rfl (fun _ => wo90.pick [0] (by kernel_rfl) (by decide)) ?_
  intro ac189 En190
  have hb191 : a < List.length (List.set l a ((List.getD l a 0) + (List.getD l b 0))) := by rw [(List.length_set.trans hl)]; omega
  refine h_read (d := some 23) (s := nv (Instr.loadAt 23 (.pointer (some ⟨bw, a, none⟩)))) En190 (v := .int .u32 ((UInt32.toNat (List.getD (List.set l a ((List.getD l a 0) + (List.getD l b 0))) a 0) : Nat) : Int)) 6 (by kernel_rfl) (fun w hS => run_nv (run_load1 (by kernel_rfl) (hS.heap.cell (k := 0) rfl (u32s_getD hb191)))) (by kernel_rfl) rfl (wo90.pick [0] (by kernel_rfl) (by decide)) ?_
  intro ac192 En193
  refine h_pureR (d := some 24) En193 (v := .int .u32 (IntKind.wrap .u32 ((BitVec.ofInt (IntKind.bits .u32) ((UInt32.toNat (List.getD (List.set l a ((List.getD l a 0) + (List.getD l b 0))) d 0) : Nat) : Int) ^^^ BitVec.ofInt (IntKind.bits .u32) ((UInt32.toNat (List.getD (List.set l a ((List.getD l a 0) + (List.getD l b 0))) a 0) : Nat) : Int)).toNat : Int))) 7 (by kernel_rfl) (by kernel_rfl) rfl (fun _ => wo90.pick [0] (by kernel_rfl) (by decide)) ?_
  intro ac194 En195
  rw [Go.Dbr.u32_xor (a := ((UInt32.toNat (List.getD (List.set l a ((List.getD l a 0) + (List.getD l b 0))) d 0) : Nat) : Int)) (b := ((UInt32.toNat (List.getD (List.set l a ((List.getD l a 0) + (List.getD l b 0))) a 0) : Nat) : Int)) (x := List.getD (List.set l a ((List.getD l a 0) + (List.getD l b 0))) d 0) (y := List.getD (List.set l a ((List.getD l a 0) + (List.getD l b 0))) a 0) rfl rfl] at En195
  refine h_pureR (d := some 25) En195 (v := ni n) 8 (by kernel_rfl) (by kernel_rfl) rfl (fun _ => wo90.pick [0] (by kernel_rfl) (by decide)) ?_
  intro ac196 En197
  refine h_at 9 (by kernel_rfl) rfl ?_
  have hM198 : Heap wo87.drew [] := wo90.heap.pick [] (by kernel_rfl) (by decide)
  refine op_call (d := some 26) (f := 21) (args := #[.int .u32 ((UInt32.toNat ((List.getD (List.set l a ((List.getD l a 0) + (List.getD l b 0))) d 0) ^^^ (List.getD (List.set l a ((List.getD l a 0) + (List.getD l b 0))) a 0)) : Nat) : Int), ni n]) En197 (by kernel_rfl) ((rotate_go _ ((List.getD (List.set l a ((List.getD l a 0) + (List.getD l b 0))) d 0) ^^^ (List.getD (List.set l a ((List.getD l a 0) + (List.getD l b 0))) a 0)) n (by omega) (by omega)).mono ?_)
  rintro _ wo200 ⟨rfl, he203⟩
  refine ⟨_, rfl, ?_⟩
  intro ac199 En201
  have Hv202 : Ev w [.box bw (u32s l) 42] wo200 [.box bw (u32s (List.set l a ((List.getD l a 0) + (List.getD l b 0)))) 42] := wo90.trans (Ev.call (R := [.box bw (u32s (List.set l a ((List.getD l a 0) + (List.getD l b 0)))) 42]) wo90.heap [0] (by kernel_rfl) (by decide) he203)
  clear hM198 he203
  refine ⟨fun _ => Hv202.pick [0] (by kernel_rfl) (by decide), ?_⟩
  refine h_free (d := some 27) (s := nv (Instr.indexAt 42 (pt bw) (ni d))) En201 (v := .pointer (some ⟨bw, d, none⟩)) 10 (by kernel_rfl) (fun _ => run_nv (Go.Dbr.run_indexarr (e := 23) (sz := 1) (m := 16) (j := d) (o := d) (by kernel_rfl) (by kernel_rfl) (by omega) (by omega) (by omega) _)) (by kernel_rfl) rfl (fun _ => Hv202.pick [0] (by kernel_rfl) (by decide)) ?_
  intro ac204 En205
  refine h_at 11 (by kernel_rfl) rfl ?_
  have hb206 : d < List.length (List.set l a ((List.getD l a 0) + (List.getD l b 0))) := by rw [(List.length_set.trans hl)]; omega
  refine op_storebox2 (d := none) (t := 23) (b := bw) (off := d) (k := 0) (v := .int .u32 ((UInt32.toNat (rotl ((List.getD (List.set l a ((List.getD l a 0) + (List.getD l b 0))) d 0) ^^^ (List.getD (List.set l a ((List.getD l a 0) + (List.getD l b 0))) a 0)) n) : Nat) : Int)) En205 (by kernel_rfl) Hv202 rfl (u32s_getD hb206) (by kernel_rfl) rfl (u32s_set _ _ _) rfl ?_
  intro ac207 wo208  En209 Hv210
  refine ⟨not_yet (by kernel_rfl), ?_⟩
  exact h_end (by kernel_rfl) ⟨En209.sub (by kernel_rfl), Hv210.pick [0] (by kernel_rfl) (by decide)⟩
 rintro ac211 wo212 ⟨En213, Hv214⟩
 refine d_end0 En213 (by kernel_rfl) ?_
 exact ⟨rfl, Hv214.pick [0] (by kernel_rfl) (by decide)⟩

theorem quart_go (w : World) (bw bh : Nat) (l : List UInt32) (hl : List.length l = 16) (a b c d : Nat) (ha : a < 16) (hb : b < 16) (hc : c < 16) (hd : d < 16) (hH : Heap w [.box bw (u32s l) 42, .box bh [.func (.func 20) #[] #[pt bw]] 46]) : Calls Try.prog 22 #[ni a, ni b, ni c, ni d, pt bh] w fun e w' => e = .returned (.tuple #[]) ∧ Ev w [.box bw (u32s l) 42, .box bh [.func (.func 20) #[] #[pt bw]] 46] w' [.box bw (u32s (quart l a b c d)) 42, .box bh [.func (.func 20) #[] #[pt bw]] 46] := by
 refine d_start [(0, ni a), (1, ni b), (2, ni c), (3, ni d), (4, pt bh)] 29 Go.Proofs.Try.func22 Go.Proofs.Try.ntmps22 rfl (by kernel_rfl) (by kernel_rfl) ?_
 intro act0 En0
 have Hv0 : Ev w [.box bw (u32s l) 42, .box bh [.func (.func 20) #[] #[pt bw]] 46] w [.box bw (u32s l) 42, .box bh [.func (.func 20) #[] #[pt bw]] 46] := Ev.refl (hH)
 refine wp_seq ?_
 refine region_from ?_
 refine from_op (by kernel_rfl) ?_
 refine op_loadbox (d := some 9) (t := 46) (b := bh) (off := 0) (k := 1) (v := .func (.func 20) #[] #[pt bw]) En0 (by kernel_rfl) Hv0 rfl rfl (by kernel_rfl) ?_
 intro ac1 En2
 refine d_pures [(0, ni a), (1, ni b), (2, ni c), (3, ni d), (4, pt bh), (9, .func (.func 20) #[] #[pt bw]), (10, ni a), (11, ni b), (12, ni d)] [ni a, ni b, ni d] 4 En2 (by kernel_rfl) (by kernel_rfl) rfl ?_
 intro ac3 En4
 refine from_op (by kernel_rfl) ?_
 have hM5 : Heap w [.box bw (u32s l) 42] := Hv0.heap.pick [0] (by kernel_rfl) (by decide)
 refine op_call (d := some 13) (f := 20) (args := #[ni a, ni b, ni d, .int .i64 16, pt bw]) En4 (by kernel_rfl) ((half_go _ bw l hl a b d 16 (by omega) (by omega) (by omega) (by omega) (by omega) hM5).mono ?_)
 rintro _ wo7 ⟨rfl, he10⟩
 refine ⟨_, rfl, ?_⟩
 intro ac6 En8
 have Hv9 : Ev w [.box bw (u32s l) 42, .box bh [.func (.func 20) #[] #[pt bw]] 46] wo7 [.box bw (u32s (half l a b d 16)) 42, .box bh [.func (.func 20) #[] #[pt bw]] 46] := Hv0.trans (Ev.call (R := [.box bh [.func (.func 20) #[] #[pt bw]] 46]) Hv0.heap [0, 1] (by kernel_rfl) (by decide) he10)
 clear hM5 he10
 refine from_end (by kernel_rfl) ?_
 refine then_normal ?_
 refine wp_seq ?_
 refine region_from ?_
 refine from_op (by kernel_rfl) ?_
 refine op_loadbox (d := some 14) (t := 46) (b := bh) (off := 0) (k := 1) (v := .func (.func 20) #[] #[pt bw]) En8 (by kernel_rfl) Hv9 rfl rfl (by kernel_rfl) ?_
 intro ac11 En12
 refine d_pures [(0, ni a), (1, ni b), (2, ni c), (3, ni d), (4, pt bh), (14, .func (.func 20) #[] #[pt bw]), (15, ni c), (16, ni d), (17, ni b)] [ni c, ni d, ni b] 4 En12 (by kernel_rfl) (by kernel_rfl) rfl ?_
 intro ac13 En14
 refine from_op (by kernel_rfl) ?_
 have hM15 : Heap wo7 [.box bw (u32s (half l a b d 16)) 42] := Hv9.heap.pick [0] (by kernel_rfl) (by decide)
 refine op_call (d := some 18) (f := 20) (args := #[ni c, ni d, ni b, .int .i64 12, pt bw]) En14 (by kernel_rfl) ((half_go _ bw (half l a b d 16) (half_len hl _ _ _ _) c d b 12 (by omega) (by omega) (by omega) (by omega) (by omega) hM15).mono ?_)
 rintro _ wo17 ⟨rfl, he20⟩
 refine ⟨_, rfl, ?_⟩
 intro ac16 En18
 have Hv19 : Ev w [.box bw (u32s l) 42, .box bh [.func (.func 20) #[] #[pt bw]] 46] wo17 [.box bw (u32s (half (half l a b d 16) c d b 12)) 42, .box bh [.func (.func 20) #[] #[pt bw]] 46] := Hv9.trans (Ev.call (R := [.box bh [.func (.func 20) #[] #[pt bw]] 46]) Hv9.heap [0, 1] (by kernel_rfl) (by decide) he20)
 clear hM15 he20
 refine from_end (by kernel_rfl) ?_
 refine then_normal ?_
 refine wp_seq ?_
 refine region_from ?_
 refine from_op (by kernel_rfl) ?_
 refine op_loadbox (d := some 19) (t := 46) (b := bh) (off := 0) (k := 1) (v := .func (.func 20) #[] #[pt bw]) En18 (by kernel_rfl) Hv19 rfl rfl (by kernel_rfl) ?_
 intro ac21 En22
 refine d_pures [(0, ni a), (1, ni b), (2, ni c), (3, ni d), (4, pt bh), (19, .func (.func 20) #[] #[pt bw]), (20, ni a), (21, ni b), (22, ni d)] [ni a, ni b, ni d] 4 En22 (by kernel_rfl) (by kernel_rfl) rfl ?_
 intro ac23 En24
 refine from_op (by kernel_rfl) ?_
 have hM25 : Heap wo17 [.box bw (u32s (half (half l a b d 16) c d b 12)) 42] := Hv19.heap.pick [0] (by kernel_rfl) (by decide)
 refine op_call (d := some 23) (f := 20) (args := #[ni a, ni b, ni d, .int .i64 8, pt bw]) En24 (by kernel_rfl) ((half_go _ bw (half (half l a b d 16) c d b 12) (half_len (half_len hl _ _ _ _) _ _ _ _) a b d 8 (by omega) (by omega) (by omega) (by omega) (by omega) hM25).mono ?_)
 rintro _ wo27 ⟨rfl, he30⟩
 refine ⟨_, rfl, ?_⟩
 intro ac26 En28
 have Hv29 : Ev w [.box bw (u32s l) 42, .box bh [.func (.func 20) #[] #[pt bw]] 46] wo27 [.box bw (u32s (half (half (half l a b d 16) c d b 12) a b d 8)) 42, .box bh [.func (.func 20) #[] #[pt bw]] 46] := Hv19.trans (Ev.call (R := [.box bh [.func (.func 20) #[] #[pt bw]] 46]) Hv19.heap [0, 1] (by kernel_rfl) (by decide) he30)
 clear hM25 he30
 refine from_end (by kernel_rfl) ?_
 refine then_normal ?_
 refine region_from ?_
 refine from_op (by kernel_rfl) ?_
 refine op_loadbox (d := some 24) (t := 46) (b := bh) (off := 0) (k := 1) (v := .func (.func 20) #[] #[pt bw]) En28 (by kernel_rfl) Hv29 rfl rfl (by kernel_rfl) ?_
 intro ac31 En32
 refine d_pures [(0, ni a), (1, ni b), (2, ni c), (3, ni d), (4, pt bh), (24, .func (.func 20) #[] #[pt bw]), (25, ni c), (26, ni d), (27, ni b)] [ni c, ni d, ni b] 4 En32 (by kernel_rfl) (by kernel_rfl) rfl ?_
 intro ac33 En34
 refine from_op (by kernel_rfl) ?_
 have hM35 : Heap wo27 [.box bw (u32s (half (half (half l a b d 16) c d b 12) a b d 8)) 42] := Hv29.heap.pick [0] (by kernel_rfl) (by decide)
 refine op_call (d := some 28) (f := 20) (args := #[ni c, ni d, ni b, .int .i64 7, pt bw]) En34 (by kernel_rfl) ((half_go _ bw (half (half (half l a b d 16) c d b 12) a b d 8) (half_len (half_len (half_len hl _ _ _ _) _ _ _ _) _ _ _ _) c d b 7 (by omega) (by omega) (by omega) (by omega) (by omega) hM35).mono ?_)
 rintro _ wo37 ⟨rfl, he40⟩
 refine ⟨_, rfl, ?_⟩
 intro ac36 En38
 have Hv39 : Ev w [.box bw (u32s l) 42, .box bh [.func (.func 20) #[] #[pt bw]] 46] wo37 [.box bw (u32s (half (half (half (half l a b d 16) c d b 12) a b d 8) c d b 7)) 42, .box bh [.func (.func 20) #[] #[pt bw]] 46] := Hv29.trans (Ev.call (R := [.box bh [.func (.func 20) #[] #[pt bw]] 46]) Hv29.heap [0, 1] (by kernel_rfl) (by decide) he40)
 clear hM35 he40
 refine from_end (by kernel_rfl) ?_
 refine d_end0 En38 (by kernel_rfl) ?_
 exact ⟨rfl, Hv39.pick [0, 1] (by kernel_rfl) (by decide)⟩

theorem quart_ref (w : World) (l : List UInt32) (hl : List.length l = 16) (a b c d : Nat) (ha : a < 16) (hb : b < 16) (hc : c < 16) (hd : d < 16) : Calls Try.prog 24 #[.agg (List.toArray (u32s l)), ni a, ni b, ni c, ni d] w fun e w' => e = .returned (.agg (List.toArray (u32s (quart l a b c d)))) ∧ Ev w [] w' [] := by
 refine d_start [(0, .agg (List.toArray (u32s l))), (1, ni a), (2, ni b), (3, ni c), (4, ni d)] 88 Go.Proofs.Try.func24 Go.Proofs.Try.ntmps24 rfl (by kernel_rfl) (by kernel_rfl) ?_
 intro act0 En0
 have Hv0 : Ev w [] w [] := Ev.refl (Heap.nil _)
 refine wp_seq ?_
 refine region_from ?_
 refine from_op (by kernel_rfl) ?_
 refine op_newbox (d := some 5) (T := 42) (v := .agg (List.toArray (u32s l))) (cs := u32s l) En0 (by kernel_rfl) rfl Hv0 ?_
 intro ac2 wo3 bk1 En4 Hv5
 refine from_op (by kernel_rfl) ?_
 refine op_alloc (d := some 10) (T := 42) (x := .tuple #[]) (z := .agg (List.toArray (u32s (List.replicate 16 0)))) (cs := u32s (List.replicate 16 0)) En4 (by kernel_rfl) (by kernel_rfl) (by kernel_rfl) Hv5 ?_
 intro ac7 wo8 bk6 En9 Hv10
 refine from_end (by kernel_rfl) ?_
 refine then_normal ?_
 refine wp_seq ?_
 refine region_cut (F := fun ac wo => Env ac 88 [(1, ni a), (2, ni b), (3, ni c), (4, ni d), (5, pt bk1), (10, pt bk6)] ∧ Ev w [] wo [.box bk1 (u32s (List.set l a ((List.getD l a 0) + (List.getD l b 0)))) 42, .box bk6 (u32s (List.replicate 16 0)) 42]) ?_ ?_
 ·
  refine h_start (fun wv => Ev w [] wv [.box bk1 (u32s l) 42]) [9] (by kernel_rfl) 10 (by kernel_rfl) ?_
  have wo11 := Hv10.trans (Ev.drew Hv10.heap)
  refine h_pureR (d := some 11) En9 (v := ni a) 0 (by kernel_rfl) (by kernel_rfl) rfl (fun _ => wo11.pick [0] (by kernel_rfl) (by decide)) ?_
  intro ac77 En78
  refine h_pureR (d := some 12) En78 (v := ni a) 1 (by kernel_rfl) (by kernel_rfl) rfl (fun _ => wo11.pick [0] (by kernel_rfl) (by decide)) ?_
  intro ac79 En80
  refine h_free (d := some 13) (s := nv (Instr.indexAt 42 (pt bk1) (ni a))) En80 (v := .pointer (some ⟨bk1, a, none⟩)) 2 (by kernel_rfl) (fun _ => run_nv (Go.Dbr.run_indexarr (e := 23) (sz := 1) (m := 16) (j := a) (o := a) (by kernel_rfl) (by kernel_rfl) (by omega) (by omega) (by omega) _)) (by kernel_rfl) rfl (fun _ => wo11.pick [0] (by kernel_rfl) (by decide)) ?_
  intro ac81 En82
  have hb83 : a < List.length l := by rw [hl]; omega
  refine h_read (d := some 14) (s := nv (Instr.loadAt 23 (.pointer (some ⟨bk1, a, none⟩)))) En82 (v := .int .u32 ((UInt32.toNat (List.getD l a 0) : Nat) : Int)) 3 (by kernel_rfl) (fun w hS => run_nv (run_load1 (by kernel_rfl) (hS.heap.cell (k := 0) rfl (u32s_getD hb83)))) (by kernel_rfl) rfl (wo11.pick [0] (by kernel_rfl) (by decide)) ?_
  intro ac84 En85
  refine h_pureR (d := some 15) En85 (v := ni b) 4 (by kernel_rfl) (by kernel_rfl) rfl (fun _ => wo11.pick [0] (by kernel_rfl) (by decide)) ?_
  intro ac86 En87
  refine h_free (d := some 16) (s := nv (Instr.indexAt 42 (pt bk1) (ni b))) En87 (v := .pointer (some ⟨bk1, b, none⟩)) 5 (by kernel_rfl) (fun _ => run_nv (Go.Dbr.run_indexarr (e := 23) (sz := 1) (m := 16) (j := b) (o := b) (by kernel_rfl) (by kernel_rfl) (by omega) (by omega) (by omega) _)) (by kernel_rfl) rfl (fun _ => wo11.pick [0] (by kernel_rfl) (by decide)) ?_
  intro ac88 En89
  have hb90 : b < List.length l := by rw [hl]; omega
  refine h_read (d := some 17) (s := nv (Instr.loadAt 23 (.pointer (some ⟨bk1, b, none⟩)))) En89 (v := .int .u32 ((UInt32.toNat (List.getD l b 0) : Nat) : Int)) 6 (by kernel_rfl) (fun w hS => run_nv (run_load1 (by kernel_rfl) (hS.heap.cell (k := 0) rfl (u32s_getD hb90)))) (by kernel_rfl) rfl (wo11.pick [0] (by kernel_rfl) (by decide)) ?_
  intro ac91 En92
  refine h_pureR (d := some 18) En92 (v := .int .u32 (IntKind.wrap .u32 (((UInt32.toNat (List.getD l a 0) : Nat) : Int) + ((UInt32.toNat (List.getD l b 0) : Nat) : Int)))) 7 (by kernel_rfl) (by kernel_rfl) rfl (fun _ => wo11.pick [0] (by kernel_rfl) (by decide)) ?_
  intro ac93 En94
  rw [Go.Dbr.u32_add (a := ((UInt32.toNat (List.getD l a 0) : Nat) : Int)) (b := ((UInt32.toNat (List.getD l b 0) : Nat) : Int)) (x := List.getD l a 0) (y := List.getD l b 0) rfl rfl] at En94
  refine h_free (d := some 19) (s := nv (Instr.indexAt 42 (pt bk1) (ni a))) En94 (v := .pointer (some ⟨bk1, a, none⟩)) 8 (by kernel_rfl) (fun _ => run_nv (Go.Dbr.run_indexarr (e := 23) (sz := 1) (m := 16) (j := a) (o := a) (by kernel_rfl) (by kernel_rfl) (by omega) (by omega) (by omega) _)) (by kernel_rfl) rfl (fun _ => wo11.pick [0] (by kernel_rfl) (by decide)) ?_
  intro ac95 En96
  refine h_at 9 (by kernel_rfl) rfl ?_
  have hb97 : a < List.length l := by rw [hl]; omega
  refine op_storebox2 (d := none) (t := 23) (b := bk1) (off := a) (k := 0) (v := .int .u32 ((UInt32.toNat ((List.getD l a 0) + (List.getD l b 0)) : Nat) : Int)) En96 (by kernel_rfl) wo11 rfl (u32s_getD hb97) (by kernel_rfl) rfl (u32s_set _ _ _) rfl ?_
  intro ac98 wo99  En100 Hv101
  refine ⟨not_yet (by kernel_rfl), ?_⟩
  exact h_end (by kernel_rfl) ⟨En100.sub (by kernel_rfl), Hv101.pick [0, 1] (by kernel_rfl) (by decide)⟩
 rintro ac102 wo103 ⟨En104, Hv105⟩
 refine then_normal ?_
 refine wp_seq ?_
 refine region_cut (F := fun ac wo => Env ac 88 [(1, ni a), (2, ni b), (3, ni c), (4, ni d), (5, pt bk1), (10, pt bk6)] ∧ Ev w [] wo [.box bk1 (u32s (List.set (List.set l a ((List.getD l a 0) + (List.getD l b 0))) d (rotl ((List.getD (List.set l a ((List.getD l a 0) + (List.getD l b 0))) d 0) ^^^ (List.getD (List.set l a ((List.getD l a 0) + (List.getD l b 0))) a 0)) 16))) 42, .box bk6 (u32s (List.replicate 16 0)) 42]) ?_ ?_
 ·
  refine h_start (fun wv => Ev w [] wv [.box bk1 (u32s (List.set l a ((List.getD l a 0) + (List.getD l b 0)))) 42]) [10] (by kernel_rfl) 11 (by kernel_rfl) ?_
  have wo106 := Hv105.trans (Ev.drew Hv105.heap)
  refine h_pureR (d := some 20) En104 (v := ni d) 0 (by kernel_rfl) (by kernel_rfl) rfl (fun _ => wo106.pick [0] (by kernel_rfl) (by decide)) ?_
  intro ac190 En191
  refine h_pureR (d := some 21) En191 (v := ni d) 1 (by kernel_rfl) (by kernel_rfl) rfl (fun _ => wo106.pick [0] (by kernel_rfl) (by decide)) ?_
  intro ac192 En193
  refine h_free (d := some 22) (s := nv (Instr.indexAt 42 (pt bk1) (ni d))) En193 (v := .pointer (some ⟨bk1, d, none⟩)) 2 (by kernel_rfl) (fun _ => run_nv (Go.Dbr.run_indexarr (e := 23) (sz := 1) (m := 16) (j := d) (o := d) (by kernel_rfl) (by kernel_rfl) (by omega) (by omega) (by omega) _)) (by kernel_rfl) rfl (fun _ => wo106.pick [0] (by kernel_rfl) (by decide)) ?_
  intro ac194 En195
  have hb196 : d < List.length (List.set l a ((List.getD l a 0) + (List.getD l b 0))) := by rw [(List.length_set.trans hl)]; omega
  refine h_read (d := some 23) (s := nv (Instr.loadAt 23 (.pointer (some ⟨bk1, d, none⟩)))) En195 (v := .int .u32 ((UInt32.toNat (List.getD (List.set l a ((List.getD l a 0) + (List.getD l b 0))) d 0) : Nat) : Int)) 3 (by kernel_rfl) (fun w hS => run_nv (run_load1 (by kernel_rfl) (hS.heap.cell (k := 0) rfl (u32s_getD hb196)))) (by kernel_rfl) rfl (wo106.pick [0] (by kernel_rfl) (by decide)) ?_
  intro ac197 En198
  refine h_pureR (d := some 24) En198 (v := ni a) 4 (by kernel_rfl) (by kernel_rfl) rfl (fun _ => wo106.pick [0] (by kernel_rfl) (by decide)) ?_
  intro ac199 En200
  refine h_free (d := some 25) (s := nv (Instr.indexAt 42 (pt bk1) (ni a))) En200 (v := .pointer (some ⟨bk1, a, none⟩)) 5 (by kernel_rfl) (fun _ => run_nv (Go.Dbr.run_indexarr (e := 23) (sz := 1) (m := 16) (j := a) (o := a) (by kernel_rfl) (by kernel_rfl) (by omega) (by omega) (by omega) _)) (by kernel_rfl) rfl (fun _ => wo106.pick [0] (by kernel_rfl) (by decide)) ?_
  intro ac201 En202
  have hb203 : a < List.length (List.set l a ((List.getD l a 0) + (List.getD l b 0))) := by rw [(List.length_set.trans hl)]; omega
  refine h_read (d := some 26) (s := nv (Instr.loadAt 23 (.pointer (some ⟨bk1, a, none⟩)))) En202 (v := .int .u32 ((UInt32.toNat (List.getD (List.set l a ((List.getD l a 0) + (List.getD l b 0))) a 0) : Nat) : Int)) 6 (by kernel_rfl) (fun w hS => run_nv (run_load1 (by kernel_rfl) (hS.heap.cell (k := 0) rfl (u32s_getD hb203)))) (by kernel_rfl) rfl (wo106.pick [0] (by kernel_rfl) (by decide)) ?_
  intro ac204 En205
  refine h_pureR (d := some 27) En205 (v := .int .u32 (IntKind.wrap .u32 ((BitVec.ofInt (IntKind.bits .u32) ((UInt32.toNat (List.getD (List.set l a ((List.getD l a 0) + (List.getD l b 0))) d 0) : Nat) : Int) ^^^ BitVec.ofInt (IntKind.bits .u32) ((UInt32.toNat (List.getD (List.set l a ((List.getD l a 0) + (List.getD l b 0))) a 0) : Nat) : Int)).toNat : Int))) 7 (by kernel_rfl) (by kernel_rfl) rfl (fun _ => wo106.pick [0] (by kernel_rfl) (by decide)) ?_
  intro ac206 En207
  rw [Go.Dbr.u32_xor (a := ((UInt32.toNat (List.getD (List.set l a ((List.getD l a 0) + (List.getD l b 0))) d 0) : Nat) : Int)) (b := ((UInt32.toNat (List.getD (List.set l a ((List.getD l a 0) + (List.getD l b 0))) a 0) : Nat) : Int)) (x := List.getD (List.set l a ((List.getD l a 0) + (List.getD l b 0))) d 0) (y := List.getD (List.set l a ((List.getD l a 0) + (List.getD l b 0))) a 0) rfl rfl] at En207
  refine h_at 8 (by kernel_rfl) rfl ?_
  have hM208 : Heap wo103.drew [] := wo106.heap.pick [] (by kernel_rfl) (by decide)
  refine op_call (d := some 28) (f := 33) (args := #[.int .u32 ((UInt32.toNat ((List.getD (List.set l a ((List.getD l a 0) + (List.getD l b 0))) d 0) ^^^ (List.getD (List.set l a ((List.getD l a 0) + (List.getD l b 0))) a 0)) : Nat) : Int), .int .i64 16]) En207 (by kernel_rfl) ((left_ref _ ((List.getD (List.set l a ((List.getD l a 0) + (List.getD l b 0))) d 0) ^^^ (List.getD (List.set l a ((List.getD l a 0) + (List.getD l b 0))) a 0)) 16 (by omega) (by omega)).mono ?_)
  rintro _ wo210 ⟨rfl, he213⟩
  refine ⟨_, rfl, ?_⟩
  intro ac209 En211
  have Hv212 : Ev w [] wo210 [.box bk1 (u32s (List.set l a ((List.getD l a 0) + (List.getD l b 0)))) 42, .box bk6 (u32s (List.replicate 16 0)) 42] := wo106.trans (Ev.call (R := [.box bk1 (u32s (List.set l a ((List.getD l a 0) + (List.getD l b 0)))) 42, .box bk6 (u32s (List.replicate 16 0)) 42]) wo106.heap [0, 1] (by kernel_rfl) (by decide) he213)
  clear hM208 he213
  refine ⟨fun _ => Hv212.pick [0] (by kernel_rfl) (by decide), ?_⟩
  refine h_free (d := some 29) (s := nv (Instr.indexAt 42 (pt bk1) (ni d))) En211 (v := .pointer (some ⟨bk1, d, none⟩)) 9 (by kernel_rfl) (fun _ => run_nv (Go.Dbr.run_indexarr (e := 23) (sz := 1) (m := 16) (j := d) (o := d) (by kernel_rfl) (by kernel_rfl) (by omega) (by omega) (by omega) _)) (by kernel_rfl) rfl (fun _ => Hv212.pick [0] (by kernel_rfl) (by decide)) ?_
  intro ac214 En215
  refine h_at 10 (by kernel_rfl) rfl ?_
  have hb216 : d < List.length (List.set l a ((List.getD l a 0) + (List.getD l b 0))) := by rw [(List.length_set.trans hl)]; omega
  refine op_storebox2 (d := none) (t := 23) (b := bk1) (off := d) (k := 0) (v := .int .u32 ((UInt32.toNat (rotl ((List.getD (List.set l a ((List.getD l a 0) + (List.getD l b 0))) d 0) ^^^ (List.getD (List.set l a ((List.getD l a 0) + (List.getD l b 0))) a 0)) 16) : Nat) : Int)) En215 (by kernel_rfl) Hv212 rfl (u32s_getD hb216) (by kernel_rfl) rfl (u32s_set _ _ _) rfl ?_
  intro ac217 wo218  En219 Hv220
  refine ⟨not_yet (by kernel_rfl), ?_⟩
  exact h_end (by kernel_rfl) ⟨En219.sub (by kernel_rfl), Hv220.pick [0, 1] (by kernel_rfl) (by decide)⟩
 rintro ac221 wo222 ⟨En223, Hv224⟩
 replace Hv224 : Ev w [] wo222 [.box bk1 (u32s (half l a b d 16)) 42, .box bk6 (u32s (List.replicate 16 0)) 42] := Hv224
 refine then_normal ?_
 refine wp_seq ?_
 refine region_cut (F := fun ac wo => Env ac 88 [(1, ni a), (2, ni b), (3, ni c), (4, ni d), (5, pt bk1), (10, pt bk6)] ∧ Ev w [] wo [.box bk1 (u32s (List.set (half l a b d 16) c ((List.getD (half l a b d 16) c 0) + (List.getD (half l a b d 16) d 0)))) 42, .box bk6 (u32s (List.replicate 16 0)) 42]) ?_ ?_
 ·
  refine h_start (fun wv => Ev w [] wv [.box bk1 (u32s (half l a b d 16)) 42]) [9] (by kernel_rfl) 10 (by kernel_rfl) ?_
  have wo225 := Hv224.trans (Ev.drew Hv224.heap)
  refine h_pureR (d := some 30) En223 (v := ni c) 0 (by kernel_rfl) (by kernel_rfl) rfl (fun _ => wo225.pick [0] (by kernel_rfl) (by decide)) ?_
  intro ac291 En292
  refine h_pureR (d := some 31) En292 (v := ni c) 1 (by kernel_rfl) (by kernel_rfl) rfl (fun _ => wo225.pick [0] (by kernel_rfl) (by decide)) ?_
  intro ac293 En294
  refine h_free (d := some 32) (s := nv (Instr.indexAt 42 (pt bk1) (ni c))) En294 (v := .pointer (some ⟨bk1, c, none⟩)) 2 (by kernel_rfl) (fun _ => run_nv (Go.Dbr.run_indexarr (e := 23) (sz := 1) (m := 16) (j := c) (o := c) (by kernel_rfl) (by kernel_rfl) (by omega) (by omega) (by omega) _)) (by kernel_rfl) rfl (fun _ => wo225.pick [0] (by kernel_rfl) (by decide)) ?_
  intro ac295 En296
  have hb297 : c < List.length (half l a b d 16) := by rw [(half_len hl _ _ _ _)]; omega
  refine h_read (d := some 33) (s := nv (Instr.loadAt 23 (.pointer (some ⟨bk1, c, none⟩)))) En296 (v := .int .u32 ((UInt32.toNat (List.getD (half l a b d 16) c 0) : Nat) : Int)) 3 (by kernel_rfl) (fun w hS => run_nv (run_load1 (by kernel_rfl) (hS.heap.cell (k := 0) rfl (u32s_getD hb297)))) (by kernel_rfl) rfl (wo225.pick [0] (by kernel_rfl) (by decide)) ?_
  intro ac298 En299
  refine h_pureR (d := some 34) En299 (v := ni d) 4 (by kernel_rfl) (by kernel_rfl) rfl (fun _ => wo225.pick [0] (by kernel_rfl) (by decide)) ?_
  intro ac300 En301
  refine h_free (d := some 35) (s := nv (Instr.indexAt 42 (pt bk1) (ni d))) En301 (v := .pointer (some ⟨bk1, d, none⟩)) 5 (by kernel_rfl) (fun _ => run_nv (Go.Dbr.run_indexarr (e := 23) (sz := 1) (m := 16) (j := d) (o := d) (by kernel_rfl) (by kernel_rfl) (by omega) (by omega) (by omega) _)) (by kernel_rfl) rfl (fun _ => wo225.pick [0] (by kernel_rfl) (by decide)) ?_
  intro ac302 En303
  have hb304 : d < List.length (half l a b d 16) := by rw [(half_len hl _ _ _ _)]; omega
  refine h_read (d := some 36) (s := nv (Instr.loadAt 23 (.pointer (some ⟨bk1, d, none⟩)))) En303 (v := .int .u32 ((UInt32.toNat (List.getD (half l a b d 16) d 0) : Nat) : Int)) 6 (by kernel_rfl) (fun w hS => run_nv (run_load1 (by kernel_rfl) (hS.heap.cell (k := 0) rfl (u32s_getD hb304)))) (by kernel_rfl) rfl (wo225.pick [0] (by kernel_rfl) (by decide)) ?_
  intro ac305 En306
  refine h_pureR (d := some 37) En306 (v := .int .u32 (IntKind.wrap .u32 (((UInt32.toNat (List.getD (half l a b d 16) c 0) : Nat) : Int) + ((UInt32.toNat (List.getD (half l a b d 16) d 0) : Nat) : Int)))) 7 (by kernel_rfl) (by kernel_rfl) rfl (fun _ => wo225.pick [0] (by kernel_rfl) (by decide)) ?_
  intro ac307 En308
  rw [Go.Dbr.u32_add (a := ((UInt32.toNat (List.getD (half l a b d 16) c 0) : Nat) : Int)) (b := ((UInt32.toNat (List.getD (half l a b d 16) d 0) : Nat) : Int)) (x := List.getD (half l a b d 16) c 0) (y := List.getD (half l a b d 16) d 0) rfl rfl] at En308
  refine h_free (d := some 38) (s := nv (Instr.indexAt 42 (pt bk1) (ni c))) En308 (v := .pointer (some ⟨bk1, c, none⟩)) 8 (by kernel_rfl) (fun _ => run_nv (Go.Dbr.run_indexarr (e := 23) (sz := 1) (m := 16) (j := c) (o := c) (by kernel_rfl) (by kernel_rfl) (by omega) (by omega) (by omega) _)) (by kernel_rfl) rfl (fun _ => wo225.pick [0] (by kernel_rfl) (by decide)) ?_
  intro ac309 En310
  refine h_at 9 (by kernel_rfl) rfl ?_
  have hb311 : c < List.length (half l a b d 16) := by rw [(half_len hl _ _ _ _)]; omega
  refine op_storebox2 (d := none) (t := 23) (b := bk1) (off := c) (k := 0) (v := .int .u32 ((UInt32.toNat ((List.getD (half l a b d 16) c 0) + (List.getD (half l a b d 16) d 0)) : Nat) : Int)) En310 (by kernel_rfl) wo225 rfl (u32s_getD hb311) (by kernel_rfl) rfl (u32s_set _ _ _) rfl ?_
  intro ac312 wo313  En314 Hv315
  refine ⟨not_yet (by kernel_rfl), ?_⟩
  exact h_end (by kernel_rfl) ⟨En314.sub (by kernel_rfl), Hv315.pick [0, 1] (by kernel_rfl) (by decide)⟩
 rintro ac316 wo317 ⟨En318, Hv319⟩
 refine then_normal ?_
 refine wp_seq ?_
 refine region_cut (F := fun ac wo => Env ac 88 [(1, ni a), (2, ni b), (3, ni c), (4, ni d), (5, pt bk1), (10, pt bk6)] ∧ Ev w [] wo [.box bk1 (u32s (List.set (List.set (half l a b d 16) c ((List.getD (half l a b d 16) c 0) + (List.getD (half l a b d 16) d 0))) b (rotl ((List.getD (List.set (half l a b d 16) c ((List.getD (half l a b d 16) c 0) + (List.getD (half l a b d 16) d 0))) b 0) ^^^ (List.getD (List.set (half l a b d 16) c ((List.getD (half l a b d 16) c 0) + (List.getD (half l a b d 16) d 0))) c 0)) 12))) 42, .box bk6 (u32s (List.replicate 16 0)) 42]) ?_ ?_
 ·
  refine h_start (fun wv => Ev w [] wv [.box bk1 (u32s (List.set (half l a b d 16) c ((List.getD (half l a b d 16) c 0) + (List.getD (half l a b d 16) d 0)))) 42]) [10] (by kernel_rfl) 11 (by kernel_rfl) ?_
  have wo320 := Hv319.trans (Ev.drew Hv319.heap)
  refine h_pureR (d := some 39) En318 (v := ni b) 0 (by kernel_rfl) (by kernel_rfl) rfl (fun _ => wo320.pick [0] (by kernel_rfl) (by decide)) ?_
  intro ac404 En405
  refine h_pureR (d := some 40) En405 (v := ni b) 1 (by kernel_rfl) (by kernel_rfl) rfl (fun _ => wo320.pick [0] (by kernel_rfl) (by decide)) ?_
  intro ac406 En407
  refine h_free (d := some 41) (s := nv (Instr.indexAt 42 (pt bk1) (ni b))) En407 (v := .pointer (some ⟨bk1, b, none⟩)) 2 (by kernel_rfl) (fun _ => run_nv (Go.Dbr.run_indexarr (e := 23) (sz := 1) (m := 16) (j := b) (o := b) (by kernel_rfl) (by kernel_rfl) (by omega) (by omega) (by omega) _)) (by kernel_rfl) rfl (fun _ => wo320.pick [0] (by kernel_rfl) (by decide)) ?_
  intro ac408 En409
  have hb410 : b < List.length (List.set (half l a b d 16) c ((List.getD (half l a b d 16) c 0) + (List.getD (half l a b d 16) d 0))) := by rw [(List.length_set.trans (half_len hl _ _ _ _))]; omega
  refine h_read (d := some 42) (s := nv (Instr.loadAt 23 (.pointer (some ⟨bk1, b, none⟩)))) En409 (v := .int .u32 ((UInt32.toNat (List.getD (List.set (half l a b d 16) c ((List.getD (half l a b d 16) c 0) + (List.getD (half l a b d 16) d 0))) b 0) : Nat) : Int)) 3 (by kernel_rfl) (fun w hS => run_nv (run_load1 (by kernel_rfl) (hS.heap.cell (k := 0) rfl (u32s_getD hb410)))) (by kernel_rfl) rfl (wo320.pick [0] (by kernel_rfl) (by decide)) ?_
  intro ac411 En412
  refine h_pureR (d := some 43) En412 (v := ni c) 4 (by kernel_rfl) (by kernel_rfl) rfl (fun _ => wo320.pick [0] (by kernel_rfl) (by decide)) ?_
  intro ac413 En414
  refine h_free (d := some 44) (s := nv (Instr.indexAt 42 (pt bk1) (ni c))) En414 (v := .pointer (some ⟨bk1, c, none⟩)) 5 (by kernel_rfl) (fun _ => run_nv (Go.Dbr.run_indexarr (e := 23) (sz := 1) (m := 16) (j := c) (o := c) (by kernel_rfl) (by kernel_rfl) (by omega) (by omega) (by omega) _)) (by kernel_rfl) rfl (fun _ => wo320.pick [0] (by kernel_rfl) (by decide)) ?_
  intro ac415 En416
  have hb417 : c < List.length (List.set (half l a b d 16) c ((List.getD (half l a b d 16) c 0) + (List.getD (half l a b d 16) d 0))) := by rw [(List.length_set.trans (half_len hl _ _ _ _))]; omega
  refine h_read (d := some 45) (s := nv (Instr.loadAt 23 (.pointer (some ⟨bk1, c, none⟩)))) En416 (v := .int .u32 ((UInt32.toNat (List.getD (List.set (half l a b d 16) c ((List.getD (half l a b d 16) c 0) + (List.getD (half l a b d 16) d 0))) c 0) : Nat) : Int)) 6 (by kernel_rfl) (fun w hS => run_nv (run_load1 (by kernel_rfl) (hS.heap.cell (k := 0) rfl (u32s_getD hb417)))) (by kernel_rfl) rfl (wo320.pick [0] (by kernel_rfl) (by decide)) ?_
  intro ac418 En419
  refine h_pureR (d := some 46) En419 (v := .int .u32 (IntKind.wrap .u32 ((BitVec.ofInt (IntKind.bits .u32) ((UInt32.toNat (List.getD (List.set (half l a b d 16) c ((List.getD (half l a b d 16) c 0) + (List.getD (half l a b d 16) d 0))) b 0) : Nat) : Int) ^^^ BitVec.ofInt (IntKind.bits .u32) ((UInt32.toNat (List.getD (List.set (half l a b d 16) c ((List.getD (half l a b d 16) c 0) + (List.getD (half l a b d 16) d 0))) c 0) : Nat) : Int)).toNat : Int))) 7 (by kernel_rfl) (by kernel_rfl) rfl (fun _ => wo320.pick [0] (by kernel_rfl) (by decide)) ?_
  intro ac420 En421
  rw [Go.Dbr.u32_xor (a := ((UInt32.toNat (List.getD (List.set (half l a b d 16) c ((List.getD (half l a b d 16) c 0) + (List.getD (half l a b d 16) d 0))) b 0) : Nat) : Int)) (b := ((UInt32.toNat (List.getD (List.set (half l a b d 16) c ((List.getD (half l a b d 16) c 0) + (List.getD (half l a b d 16) d 0))) c 0) : Nat) : Int)) (x := List.getD (List.set (half l a b d 16) c ((List.getD (half l a b d 16) c 0) + (List.getD (half l a b d 16) d 0))) b 0) (y := List.getD (List.set (half l a b d 16) c ((List.getD (half l a b d 16) c 0) + (List.getD (half l a b d 16) d 0))) c 0) rfl rfl] at En421
  refine h_at 8 (by kernel_rfl) rfl ?_
  have hM422 : Heap wo317.drew [] := wo320.heap.pick [] (by kernel_rfl) (by decide)
  refine op_call (d := some 47) (f := 33) (args := #[.int .u32 ((UInt32.toNat ((List.getD (List.set (half l a b d 16) c ((List.getD (half l a b d 16) c 0) + (List.getD (half l a b d 16) d 0))) b 0) ^^^ (List.getD (List.set (half l a b d 16) c ((List.getD (half l a b d 16) c 0) + (List.getD (half l a b d 16) d 0))) c 0)) : Nat) : Int), .int .i64 12]) En421 (by kernel_rfl) ((left_ref _ ((List.getD (List.set (half l a b d 16) c ((List.getD (half l a b d 16) c 0) + (List.getD (half l a b d 16) d 0))) b 0) ^^^ (List.getD (List.set (half l a b d 16) c ((List.getD (half l a b d 16) c 0) + (List.getD (half l a b d 16) d 0))) c 0)) 12 (by omega) (by omega)).mono ?_)
  rintro _ wo424 ⟨rfl, he427⟩
  refine ⟨_, rfl, ?_⟩
  intro ac423 En425
  have Hv426 : Ev w [] wo424 [.box bk1 (u32s (List.set (half l a b d 16) c ((List.getD (half l a b d 16) c 0) + (List.getD (half l a b d 16) d 0)))) 42, .box bk6 (u32s (List.replicate 16 0)) 42] := wo320.trans (Ev.call (R := [.box bk1 (u32s (List.set (half l a b d 16) c ((List.getD (half l a b d 16) c 0) + (List.getD (half l a b d 16) d 0)))) 42, .box bk6 (u32s (List.replicate 16 0)) 42]) wo320.heap [0, 1] (by kernel_rfl) (by decide) he427)
  clear hM422 he427
  refine ⟨fun _ => Hv426.pick [0] (by kernel_rfl) (by decide), ?_⟩
  refine h_free (d := some 48) (s := nv (Instr.indexAt 42 (pt bk1) (ni b))) En425 (v := .pointer (some ⟨bk1, b, none⟩)) 9 (by kernel_rfl) (fun _ => run_nv (Go.Dbr.run_indexarr (e := 23) (sz := 1) (m := 16) (j := b) (o := b) (by kernel_rfl) (by kernel_rfl) (by omega) (by omega) (by omega) _)) (by kernel_rfl) rfl (fun _ => Hv426.pick [0] (by kernel_rfl) (by decide)) ?_
  intro ac428 En429
  refine h_at 10 (by kernel_rfl) rfl ?_
  have hb430 : b < List.length (List.set (half l a b d 16) c ((List.getD (half l a b d 16) c 0) + (List.getD (half l a b d 16) d 0))) := by rw [(List.length_set.trans (half_len hl _ _ _ _))]; omega
  refine op_storebox2 (d := none) (t := 23) (b := bk1) (off := b) (k := 0) (v := .int .u32 ((UInt32.toNat (rotl ((List.getD (List.set (half l a b d 16) c ((List.getD (half l a b d 16) c 0) + (List.getD (half l a b d 16) d 0))) b 0) ^^^ (List.getD (List.set (half l a b d 16) c ((List.getD (half l a b d 16) c 0) + (List.getD (half l a b d 16) d 0))) c 0)) 12) : Nat) : Int)) En429 (by kernel_rfl) Hv426 rfl (u32s_getD hb430) (by kernel_rfl) rfl (u32s_set _ _ _) rfl ?_
  intro ac431 wo432  En433 Hv434
  refine ⟨not_yet (by kernel_rfl), ?_⟩
  exact h_end (by kernel_rfl) ⟨En433.sub (by kernel_rfl), Hv434.pick [0, 1] (by kernel_rfl) (by decide)⟩
 rintro ac435 wo436 ⟨En437, Hv438⟩
 replace Hv438 : Ev w [] wo436 [.box bk1 (u32s (half (half l a b d 16) c d b 12)) 42, .box bk6 (u32s (List.replicate 16 0)) 42] := Hv438
 refine then_normal ?_
 refine wp_seq ?_
 refine region_cut (F := fun ac wo => Env ac 88 [(1, ni a), (2, ni b), (3, ni c), (4, ni d), (5, pt bk1), (10, pt bk6)] ∧ Ev w [] wo [.box bk1 (u32s (List.set (half (half l a b d 16) c d b 12) a ((List.getD (half (half l a b d 16) c d b 12) a 0) + (List.getD (half (half l a b d 16) c d b 12) b 0)))) 42, .box bk6 (u32s (List.replicate 16 0)) 42]) ?_ ?_
 ·
  refine h_start (fun wv => Ev w [] wv [.box bk1 (u32s (half (half l a b d 16) c d b 12)) 42]) [9] (by kernel_rfl) 10 (by kernel_rfl) ?_
  have wo439 := Hv438.trans (Ev.drew Hv438.heap)
  refine h_pureR (d := some 49) En437 (v := ni a) 0 (by kernel_rfl) (by kernel_rfl) rfl (fun _ => wo439.pick [0] (by kernel_rfl) (by decide)) ?_
  intro ac505 En506
  refine h_pureR (d := some 50) En506 (v := ni a) 1 (by kernel_rfl) (by kernel_rfl) rfl (fun _ => wo439.pick [0] (by kernel_rfl) (by decide)) ?_
  intro ac507 En508
  refine h_free (d := some 51) (s := nv (Instr.indexAt 42 (pt bk1) (ni a))) En508 (v := .pointer (some ⟨bk1, a, none⟩)) 2 (by kernel_rfl) (fun _ => run_nv (Go.Dbr.run_indexarr (e := 23) (sz := 1) (m := 16) (j := a) (o := a) (by kernel_rfl) (by kernel_rfl) (by omega) (by omega) (by omega) _)) (by kernel_rfl) rfl (fun _ => wo439.pick [0] (by kernel_rfl) (by decide)) ?_
  intro ac509 En510
  have hb511 : a < List.length (half (half l a b d 16) c d b 12) := by rw [(half_len (half_len hl _ _ _ _) _ _ _ _)]; omega
  refine h_read (d := some 52) (s := nv (Instr.loadAt 23 (.pointer (some ⟨bk1, a, none⟩)))) En510 (v := .int .u32 ((UInt32.toNat (List.getD (half (half l a b d 16) c d b 12) a 0) : Nat) : Int)) 3 (by kernel_rfl) (fun w hS => run_nv (run_load1 (by kernel_rfl) (hS.heap.cell (k := 0) rfl (u32s_getD hb511)))) (by kernel_rfl) rfl (wo439.pick [0] (by kernel_rfl) (by decide)) ?_
  intro ac512 En513
  refine h_pureR (d := some 53) En513 (v := ni b) 4 (by kernel_rfl) (by kernel_rfl) rfl (fun _ => wo439.pick [0] (by kernel_rfl) (by decide)) ?_
  intro ac514 En515
  refine h_free (d := some 54) (s := nv (Instr.indexAt 42 (pt bk1) (ni b))) En515 (v := .pointer (some ⟨bk1, b, none⟩)) 5 (by kernel_rfl) (fun _ => run_nv (Go.Dbr.run_indexarr (e := 23) (sz := 1) (m := 16) (j := b) (o := b) (by kernel_rfl) (by kernel_rfl) (by omega) (by omega) (by omega) _)) (by kernel_rfl) rfl (fun _ => wo439.pick [0] (by kernel_rfl) (by decide)) ?_
  intro ac516 En517
  have hb518 : b < List.length (half (half l a b d 16) c d b 12) := by rw [(half_len (half_len hl _ _ _ _) _ _ _ _)]; omega
  refine h_read (d := some 55) (s := nv (Instr.loadAt 23 (.pointer (some ⟨bk1, b, none⟩)))) En517 (v := .int .u32 ((UInt32.toNat (List.getD (half (half l a b d 16) c d b 12) b 0) : Nat) : Int)) 6 (by kernel_rfl) (fun w hS => run_nv (run_load1 (by kernel_rfl) (hS.heap.cell (k := 0) rfl (u32s_getD hb518)))) (by kernel_rfl) rfl (wo439.pick [0] (by kernel_rfl) (by decide)) ?_
  intro ac519 En520
  refine h_pureR (d := some 56) En520 (v := .int .u32 (IntKind.wrap .u32 (((UInt32.toNat (List.getD (half (half l a b d 16) c d b 12) a 0) : Nat) : Int) + ((UInt32.toNat (List.getD (half (half l a b d 16) c d b 12) b 0) : Nat) : Int)))) 7 (by kernel_rfl) (by kernel_rfl) rfl (fun _ => wo439.pick [0] (by kernel_rfl) (by decide)) ?_
  intro ac521 En522
  rw [Go.Dbr.u32_add (a := ((UInt32.toNat (List.getD (half (half l a b d 16) c d b 12) a 0) : Nat) : Int)) (b := ((UInt32.toNat (List.getD (half (half l a b d 16) c d b 12) b 0) : Nat) : Int)) (x := List.getD (half (half l a b d 16) c d b 12) a 0) (y := List.getD (half (half l a b d 16) c d b 12) b 0) rfl rfl] at En522
  refine h_free (d := some 57) (s := nv (Instr.indexAt 42 (pt bk1) (ni a))) En522 (v := .pointer (some ⟨bk1, a, none⟩)) 8 (by kernel_rfl) (fun _ => run_nv (Go.Dbr.run_indexarr (e := 23) (sz := 1) (m := 16) (j := a) (o := a) (by kernel_rfl) (by kernel_rfl) (by omega) (by omega) (by omega) _)) (by kernel_rfl) rfl (fun _ => wo439.pick [0] (by kernel_rfl) (by decide)) ?_
  intro ac523 En524
  refine h_at 9 (by kernel_rfl) rfl ?_
  have hb525 : a < List.length (half (half l a b d 16) c d b 12) := by rw [(half_len (half_len hl _ _ _ _) _ _ _ _)]; omega
  refine op_storebox2 (d := none) (t := 23) (b := bk1) (off := a) (k := 0) (v := .int .u32 ((UInt32.toNat ((List.getD (half (half l a b d 16) c d b 12) a 0) + (List.getD (half (half l a b d 16) c d b 12) b 0)) : Nat) : Int)) En524 (by kernel_rfl) wo439 rfl (u32s_getD hb525) (by kernel_rfl) rfl (u32s_set _ _ _) rfl ?_
  intro ac526 wo527  En528 Hv529
  refine ⟨not_yet (by kernel_rfl), ?_⟩
  exact h_end (by kernel_rfl) ⟨En528.sub (by kernel_rfl), Hv529.pick [0, 1] (by kernel_rfl) (by decide)⟩
 rintro ac530 wo531 ⟨En532, Hv533⟩
 refine then_normal ?_
 refine wp_seq ?_
 refine region_cut (F := fun ac wo => Env ac 88 [(1, ni a), (2, ni b), (3, ni c), (4, ni d), (5, pt bk1), (10, pt bk6)] ∧ Ev w [] wo [.box bk1 (u32s (List.set (List.set (half (half l a b d 16) c d b 12) a ((List.getD (half (half l a b d 16) c d b 12) a 0) + (List.getD (half (half l a b d 16) c d b 12) b 0))) d (rotl ((List.getD (List.set (half (half l a b d 16) c d b 12) a ((List.getD (half (half l a b d 16) c d b 12) a 0) + (List.getD (half (half l a b d 16) c d b 12) b 0))) d 0) ^^^ (List.getD (List.set (half (half l a b d 16) c d b 12) a ((List.getD (half (half l a b d 16) c d b 12) a 0) + (List.getD (half (half l a b d 16) c d b 12) b 0))) a 0)) 8))) 42, .box bk6 (u32s (List.replicate 16 0)) 42]) ?_ ?_
 ·
  refine h_start (fun wv => Ev w [] wv [.box bk1 (u32s (List.set (half (half l a b d 16) c d b 12) a ((List.getD (half (half l a b d 16) c d b 12) a 0) + (List.getD (half (half l a b d 16) c d b 12) b 0)))) 42]) [10] (by kernel_rfl) 11 (by kernel_rfl) ?_
  have wo534 := Hv533.trans (Ev.drew Hv533.heap)
  refine h_pureR (d := some 58) En532 (v := ni d) 0 (by kernel_rfl) (by kernel_rfl) rfl (fun _ => wo534.pick [0] (by kernel_rfl) (by decide)) ?_
  intro ac618 En619
  refine h_pureR (d := some 59) En619 (v := ni d) 1 (by kernel_rfl) (by kernel_rfl) rfl (fun _ => wo534.pick [0] (by kernel_rfl) (by decide)) ?_
  intro ac620 En621
  refine h_free (d := some 60) (s := nv (Instr.indexAt 42 (pt bk1) (ni d))) En621 (v := .pointer (some ⟨bk1, d, none⟩)) 2 (by kernel_rfl) (fun _ => run_nv (Go.Dbr.run_indexarr (e := 23) (sz := 1) (m := 16) (j := d) (o := d) (by kernel_rfl) (by kernel_rfl) (by omega) (by omega) (by omega) _)) (by kernel_rfl) rfl (fun _ => wo534.pick [0] (by kernel_rfl) (by decide)) ?_
  intro ac622 En623
  have hb624 : d < List.length (List.set (half (half l a b d 16) c d b 12) a ((List.getD (half (half l a b d 16) c d b 12) a 0) + (List.getD (half (half l a b d 16) c d b 12) b 0))) := by rw [(List.length_set.trans (half_len (half_len hl _ _ _ _) _ _ _ _))]; omega
  refine h_read (d := some 61) (s := nv (Instr.loadAt 23 (.pointer (some ⟨bk1, d, none⟩)))) En623 (v := .int .u32 ((UInt32.toNat (List.getD (List.set (half (half l a b d 16) c d b 12) a ((List.getD (half (half l a b d 16) c d b 12) a 0) + (List.getD (half (half l a b d 16) c d b 12) b 0))) d 0) : Nat) : Int)) 3 (by kernel_rfl) (fun w hS => run_nv (run_load1 (by kernel_rfl) (hS.heap.cell (k := 0) rfl (u32s_getD hb624)))) (by kernel_rfl) rfl (wo534.pick [0] (by kernel_rfl) (by decide)) ?_
  intro ac625 En626
  refine h_pureR (d := some 62) En626 (v := ni a) 4 (by kernel_rfl) (by kernel_rfl) rfl (fun _ => wo534.pick [0] (by kernel_rfl) (by decide)) ?_
  intro ac627 En628
  refine h_free (d := some 63) (s := nv (Instr.indexAt 42 (pt bk1) (ni a))) En628 (v := .pointer (some ⟨bk1, a, none⟩)) 5 (by kernel_rfl) (fun _ => run_nv (Go.Dbr.run_indexarr (e := 23) (sz := 1) (m := 16) (j := a) (o := a) (by kernel_rfl) (by kernel_rfl) (by omega) (by omega) (by omega) _)) (by kernel_rfl) rfl (fun _ => wo534.pick [0] (by kernel_rfl) (by decide)) ?_
  intro ac629 En630
  have hb631 : a < List.length (List.set (half (half l a b d 16) c d b 12) a ((List.getD (half (half l a b d 16) c d b 12) a 0) + (List.getD (half (half l a b d 16) c d b 12) b 0))) := by rw [(List.length_set.trans (half_len (half_len hl _ _ _ _) _ _ _ _))]; omega
  refine h_read (d := some 64) (s := nv (Instr.loadAt 23 (.pointer (some ⟨bk1, a, none⟩)))) En630 (v := .int .u32 ((UInt32.toNat (List.getD (List.set (half (half l a b d 16) c d b 12) a ((List.getD (half (half l a b d 16) c d b 12) a 0) + (List.getD (half (half l a b d 16) c d b 12) b 0))) a 0) : Nat) : Int)) 6 (by kernel_rfl) (fun w hS => run_nv (run_load1 (by kernel_rfl) (hS.heap.cell (k := 0) rfl (u32s_getD hb631)))) (by kernel_rfl) rfl (wo534.pick [0] (by kernel_rfl) (by decide)) ?_
  intro ac632 En633
  refine h_pureR (d := some 65) En633 (v := .int .u32 (IntKind.wrap .u32 ((BitVec.ofInt (IntKind.bits .u32) ((UInt32.toNat (List.getD (List.set (half (half l a b d 16) c d b 12) a ((List.getD (half (half l a b d 16) c d b 12) a 0) + (List.getD (half (half l a b d 16) c d b 12) b 0))) d 0) : Nat) : Int) ^^^ BitVec.ofInt (IntKind.bits .u32) ((UInt32.toNat (List.getD (List.set (half (half l a b d 16) c d b 12) a ((List.getD (half (half l a b d 16) c d b 12) a 0) + (List.getD (half (half l a b d 16) c d b 12) b 0))) a 0) : Nat) : Int)).toNat : Int))) 7 (by kernel_rfl) (by kernel_rfl) rfl (fun _ => wo534.pick [0] (by kernel_rfl) (by decide)) ?_
  intro ac634 En635
  rw [Go.Dbr.u32_xor (a := ((UInt32.toNat (List.getD (List.set (half (half l a b d 16) c d b 12) a ((List.getD (half (half l a b d 16) c d b 12) a 0) + (List.getD (half (half l a b d 16) c d b 12) b 0))) d 0) : Nat) : Int)) (b := ((UInt32.toNat (List.getD (List.set (half (half l a b d 16) c d b 12) a ((List.getD (half (half l a b d 16) c d b 12) a 0) + (List.getD (half (half l a b d 16) c d b 12) b 0))) a 0) : Nat) : Int)) (x := List.getD (List.set (half (half l a b d 16) c d b 12) a ((List.getD (half (half l a b d 16) c d b 12) a 0) + (List.getD (half (half l a b d 16) c d b 12) b 0))) d 0) (y := List.getD (List.set (half (half l a b d 16) c d b 12) a ((List.getD (half (half l a b d 16) c d b 12) a 0) + (List.getD (half (half l a b d 16) c d b 12) b 0))) a 0) rfl rfl] at En635
  refine h_at 8 (by kernel_rfl) rfl ?_
  have hM636 : Heap wo531.drew [] := wo534.heap.pick [] (by kernel_rfl) (by decide)
  refine op_call (d := some 66) (f := 33) (args := #[.int .u32 ((UInt32.toNat ((List.getD (List.set (half (half l a b d 16) c d b 12) a ((List.getD (half (half l a b d 16) c d b 12) a 0) + (List.getD (half (half l a b d 16) c d b 12) b 0))) d 0) ^^^ (List.getD (List.set (half (half l a b d 16) c d b 12) a ((List.getD (half (half l a b d 16) c d b 12) a 0) + (List.getD (half (half l a b d 16) c d b 12) b 0))) a 0)) : Nat) : Int), .int .i64 8]) En635 (by kernel_rfl) ((left_ref _ ((List.getD (List.set (half (half l a b d 16) c d b 12) a ((List.getD (half (half l a b d 16) c d b 12) a 0) + (List.getD (half (half l a b d 16) c d b 12) b 0))) d 0) ^^^ (List.getD (List.set (half (half l a b d 16) c d b 12) a ((List.getD (half (half l a b d 16) c d b 12) a 0) + (List.getD (half (half l a b d 16) c d b 12) b 0))) a 0)) 8 (by omega) (by omega)).mono ?_)
  rintro _ wo638 ⟨rfl, he641⟩
  refine ⟨_, rfl, ?_⟩
  intro ac637 En639
  have Hv640 : Ev w [] wo638 [.box bk1 (u32s (List.set (half (half l a b d 16) c d b 12) a ((List.getD (half (half l a b d 16) c d b 12) a 0) + (List.getD (half (half l a b d 16) c d b 12) b 0)))) 42, .box bk6 (u32s (List.replicate 16 0)) 42] := wo534.trans (Ev.call (R := [.box bk1 (u32s (List.set (half (half l a b d 16) c d b 12) a ((List.getD (half (half l a b d 16) c d b 12) a 0) + (List.getD (half (half l a b d 16) c d b 12) b 0)))) 42, .box bk6 (u32s (List.replicate 16 0)) 42]) wo534.heap [0, 1] (by kernel_rfl) (by decide) he641)
  clear hM636 he641
  refine ⟨fun _ => Hv640.pick [0] (by kernel_rfl) (by decide), ?_⟩
  refine h_free (d := some 67) (s := nv (Instr.indexAt 42 (pt bk1) (ni d))) En639 (v := .pointer (some ⟨bk1, d, none⟩)) 9 (by kernel_rfl) (fun _ => run_nv (Go.Dbr.run_indexarr (e := 23) (sz := 1) (m := 16) (j := d) (o := d) (by kernel_rfl) (by kernel_rfl) (by omega) (by omega) (by omega) _)) (by kernel_rfl) rfl (fun _ => Hv640.pick [0] (by kernel_rfl) (by decide)) ?_
  intro ac642 En643
  refine h_at 10 (by kernel_rfl) rfl ?_
  have hb644 : d < List.length (List.set (half (half l a b d 16) c d b 12) a ((List.getD (half (half l a b d 16) c d b 12) a 0) + (List.getD (half (half l a b d 16) c d b 12) b 0))) := by rw [(List.length_set.trans (half_len (half_len hl _ _ _ _) _ _ _ _))]; omega
  refine op_storebox2 (d := none) (t := 23) (b := bk1) (off := d) (k := 0) (v := .int .u32 ((UInt32.toNat (rotl ((List.getD (List.set (half (half l a b d 16) c d b 12) a ((List.getD (half (half l a b d 16) c d b 12) a 0) + (List.getD (half (half l a b d 16) c d b 12) b 0))) d 0) ^^^ (List.getD (List.set (half (half l a b d 16) c d b 12) a ((List.getD (half (half l a b d 16) c d b 12) a 0) + (List.getD (half (half l a b d 16) c d b 12) b 0))) a 0)) 8) : Nat) : Int)) En643 (by kernel_rfl) Hv640 rfl (u32s_getD hb644) (by kernel_rfl) rfl (u32s_set _ _ _) rfl ?_
  intro ac645 wo646  En647 Hv648
  refine ⟨not_yet (by kernel_rfl), ?_⟩
  exact h_end (by kernel_rfl) ⟨En647.sub (by kernel_rfl), Hv648.pick [0, 1] (by kernel_rfl) (by decide)⟩
 rintro ac649 wo650 ⟨En651, Hv652⟩
 replace Hv652 : Ev w [] wo650 [.box bk1 (u32s (half (half (half l a b d 16) c d b 12) a b d 8)) 42, .box bk6 (u32s (List.replicate 16 0)) 42] := Hv652
 refine then_normal ?_
 refine wp_seq ?_
 refine region_cut (F := fun ac wo => Env ac 88 [(1, ni a), (2, ni b), (3, ni c), (4, ni d), (5, pt bk1), (10, pt bk6)] ∧ Ev w [] wo [.box bk1 (u32s (List.set (half (half (half l a b d 16) c d b 12) a b d 8) c ((List.getD (half (half (half l a b d 16) c d b 12) a b d 8) c 0) + (List.getD (half (half (half l a b d 16) c d b 12) a b d 8) d 0)))) 42, .box bk6 (u32s (List.replicate 16 0)) 42]) ?_ ?_
 ·
  refine h_start (fun wv => Ev w [] wv [.box bk1 (u32s (half (half (half l a b d 16) c d b 12) a b d 8)) 42]) [9] (by kernel_rfl) 10 (by kernel_rfl) ?_
  have wo653 := Hv652.trans (Ev.drew Hv652.heap)
  refine h_pureR (d := some 68) En651 (v := ni c) 0 (by kernel_rfl) (by kernel_rfl) rfl (fun _ => wo653.pick [0] (by kernel_rfl) (by decide)) ?_
  intro ac719 En720
  refine h_pureR (d := some 69) En720 (v := ni c) 1 (by kernel_rfl) (by kernel_rfl) rfl (fun _ => wo653.pick [0] (by kernel_rfl) (by decide)) ?_
  intro ac721 En722
  refine h_free (d := some 70) (s := nv (Instr.indexAt 42 (pt bk1) (ni c))) En722 (v := .pointer (some ⟨bk1, c, none⟩)) 2 (by kernel_rfl) (fun _ => run_nv (Go.Dbr.run_indexarr (e := 23) (sz := 1) (m := 16) (j := c) (o := c) (by kernel_rfl) (by kernel_rfl) (by omega) (by omega) (by omega) _)) (by kernel_rfl) rfl (fun _ => wo653.pick [0] (by kernel_rfl) (by decide)) ?_
  intro ac723 En724
  have hb725 : c < List.length (half (half (half l a b d 16) c d b 12) a b d 8) := by rw [(half_len (half_len (half_len hl _ _ _ _) _ _ _ _) _ _ _ _)]; omega
  refine h_read (d := some 71) (s := nv (Instr.loadAt 23 (.pointer (some ⟨bk1, c, none⟩)))) En724 (v := .int .u32 ((UInt32.toNat (List.getD (half (half (half l a b d 16) c d b 12) a b d 8) c 0) : Nat) : Int)) 3 (by kernel_rfl) (fun w hS => run_nv (run_load1 (by kernel_rfl) (hS.heap.cell (k := 0) rfl (u32s_getD hb725)))) (by kernel_rfl) rfl (wo653.pick [0] (by kernel_rfl) (by decide)) ?_
  intro ac726 En727
  refine h_pureR (d := some 72) En727 (v := ni d) 4 (by kernel_rfl) (by kernel_rfl) rfl (fun _ => wo653.pick [0] (by kernel_rfl) (by decide)) ?_
  intro ac728 En729
  refine h_free (d := some 73) (s := nv (Instr.indexAt 42 (pt bk1) (ni d))) En729 (v := .pointer (some ⟨bk1, d, none⟩)) 5 (by kernel_rfl) (fun _ => run_nv (Go.Dbr.run_indexarr (e := 23) (sz := 1) (m := 16) (j := d) (o := d) (by kernel_rfl) (by kernel_rfl) (by omega) (by omega) (by omega) _)) (by kernel_rfl) rfl (fun _ => wo653.pick [0] (by kernel_rfl) (by decide)) ?_
  intro ac730 En731
  have hb732 : d < List.length (half (half (half l a b d 16) c d b 12) a b d 8) := by rw [(half_len (half_len (half_len hl _ _ _ _) _ _ _ _) _ _ _ _)]; omega
  refine h_read (d := some 74) (s := nv (Instr.loadAt 23 (.pointer (some ⟨bk1, d, none⟩)))) En731 (v := .int .u32 ((UInt32.toNat (List.getD (half (half (half l a b d 16) c d b 12) a b d 8) d 0) : Nat) : Int)) 6 (by kernel_rfl) (fun w hS => run_nv (run_load1 (by kernel_rfl) (hS.heap.cell (k := 0) rfl (u32s_getD hb732)))) (by kernel_rfl) rfl (wo653.pick [0] (by kernel_rfl) (by decide)) ?_
  intro ac733 En734
  refine h_pureR (d := some 75) En734 (v := .int .u32 (IntKind.wrap .u32 (((UInt32.toNat (List.getD (half (half (half l a b d 16) c d b 12) a b d 8) c 0) : Nat) : Int) + ((UInt32.toNat (List.getD (half (half (half l a b d 16) c d b 12) a b d 8) d 0) : Nat) : Int)))) 7 (by kernel_rfl) (by kernel_rfl) rfl (fun _ => wo653.pick [0] (by kernel_rfl) (by decide)) ?_
  intro ac735 En736
  rw [Go.Dbr.u32_add (a := ((UInt32.toNat (List.getD (half (half (half l a b d 16) c d b 12) a b d 8) c 0) : Nat) : Int)) (b := ((UInt32.toNat (List.getD (half (half (half l a b d 16) c d b 12) a b d 8) d 0) : Nat) : Int)) (x := List.getD (half (half (half l a b d 16) c d b 12) a b d 8) c 0) (y := List.getD (half (half (half l a b d 16) c d b 12) a b d 8) d 0) rfl rfl] at En736
  refine h_free (d := some 76) (s := nv (Instr.indexAt 42 (pt bk1) (ni c))) En736 (v := .pointer (some ⟨bk1, c, none⟩)) 8 (by kernel_rfl) (fun _ => run_nv (Go.Dbr.run_indexarr (e := 23) (sz := 1) (m := 16) (j := c) (o := c) (by kernel_rfl) (by kernel_rfl) (by omega) (by omega) (by omega) _)) (by kernel_rfl) rfl (fun _ => wo653.pick [0] (by kernel_rfl) (by decide)) ?_
  intro ac737 En738
  refine h_at 9 (by kernel_rfl) rfl ?_
  have hb739 : c < List.length (half (half (half l a b d 16) c d b 12) a b d 8) := by rw [(half_len (half_len (half_len hl _ _ _ _) _ _ _ _) _ _ _ _)]; omega
  refine op_storebox2 (d := none) (t := 23) (b := bk1) (off := c) (k := 0) (v := .int .u32 ((UInt32.toNat ((List.getD (half (half (half l a b d 16) c d b 12) a b d 8) c 0) + (List.getD (half (half (half l a b d 16) c d b 12) a b d 8) d 0)) : Nat) : Int)) En738 (by kernel_rfl) wo653 rfl (u32s_getD hb739) (by kernel_rfl) rfl (u32s_set _ _ _) rfl ?_
  intro ac740 wo741  En742 Hv743
  refine ⟨not_yet (by kernel_rfl), ?_⟩
  exact h_end (by kernel_rfl) ⟨En742.sub (by kernel_rfl), Hv743.pick [0, 1] (by kernel_rfl) (by decide)⟩
 rintro ac744 wo745 ⟨En746, Hv747⟩
 refine then_normal ?_
 refine wp_seq ?_
 refine region_cut (F := fun ac wo => Env ac 88 [(1, ni a), (2, ni b), (3, ni c), (4, ni d), (5, pt bk1), (10, pt bk6)] ∧ Ev w [] wo [.box bk1 (u32s (List.set (List.set (half (half (half l a b d 16) c d b 12) a b d 8) c ((List.getD (half (half (half l a b d 16) c d b 12) a b d 8) c 0) + (List.getD (half (half (half l a b d 16) c d b 12) a b d 8) d 0))) b (rotl ((List.getD (List.set (half (half (half l a b d 16) c d b 12) a b d 8) c ((List.getD (half (half (half l a b d 16) c d b 12) a b d 8) c 0) + (List.getD (half (half (half l a b d 16) c d b 12) a b d 8) d 0))) b 0) ^^^ (List.getD (List.set (half (half (half l a b d 16) c d b 12) a b d 8) c ((List.getD (half (half (half l a b d 16) c d b 12) a b d 8) c 0) + (List.getD (half (half (half l a b d 16) c d b 12) a b d 8) d 0))) c 0)) 7))) 42, .box bk6 (u32s (List.replicate 16 0)) 42]) ?_ ?_
 ·
  refine h_start (fun wv => Ev w [] wv [.box bk1 (u32s (List.set (half (half (half l a b d 16) c d b 12) a b d 8) c ((List.getD (half (half (half l a b d 16) c d b 12) a b d 8) c 0) + (List.getD (half (half (half l a b d 16) c d b 12) a b d 8) d 0)))) 42]) [10] (by kernel_rfl) 11 (by kernel_rfl) ?_
  have wo748 := Hv747.trans (Ev.drew Hv747.heap)
  refine h_pureR (d := some 77) En746 (v := ni b) 0 (by kernel_rfl) (by kernel_rfl) rfl (fun _ => wo748.pick [0] (by kernel_rfl) (by decide)) ?_
  intro ac832 En833
  refine h_pureR (d := some 78) En833 (v := ni b) 1 (by kernel_rfl) (by kernel_rfl) rfl (fun _ => wo748.pick [0] (by kernel_rfl) (by decide)) ?_
  intro ac834 En835
  refine h_free (d := some 79) (s := nv (Instr.indexAt 42 (pt bk1) (ni b))) En835 (v := .pointer (some ⟨bk1, b, none⟩)) 2 (by kernel_rfl) (fun _ => run_nv (Go.Dbr.run_indexarr (e := 23) (sz := 1) (m := 16) (j := b) (o := b) (by kernel_rfl) (by kernel_rfl) (by omega) (by omega) (by omega) _)) (by kernel_rfl) rfl (fun _ => wo748.pick [0] (by kernel_rfl) (by decide)) ?_
  intro ac836 En837
  have hb838 : b < List.length (List.set (half (half (half l a b d 16) c d b 12) a b d 8) c ((List.getD (half (half (half l a b d 16) c d b 12) a b d 8) c 0) + (List.getD (half (half (half l a b d 16) c d b 12) a b d 8) d 0))) := by rw [(List.length_set.trans (half_len (half_len (half_len hl _ _ _ _) _ _ _ _) _ _ _ _))]; omega
  refine h_read (d := some 80) (s := nv (Instr.loadAt 23 (.pointer (some ⟨bk1, b, none⟩)))) En837 (v := .int .u32 ((UInt32.toNat (List.getD (List.set (half (half (half l a b d 16) c d b 12) a b d 8) c ((List.getD (half (half (half l a b d 16) c d b 12) a b d 8) c 0) + (List.getD (half (half (half l a b d 16) c d b 12) a b d 8) d 0))) b 0) : Nat) : Int)) 3 (by kernel_rfl) (fun w hS => run_nv (run_load1 (by kernel_rfl) (hS.heap.cell (k := 0) rfl (u32s_getD hb838)))) (by kernel_rfl) rfl (wo748.pick [0] (by kernel_rfl) (by decide)) ?_
  intro ac839 En840
  refine h_pureR (d := some 81) En840 (v := ni c) 4 (by kernel_rfl) (by kernel_rfl) rfl (fun _ => wo748.pick [0] (by kernel_rfl) (by decide)) ?_
  intro ac841 En842
  refine h_free (d := some 82) (s := nv (Instr.indexAt 42 (pt bk1) (ni c))) En842 (v := .pointer (some ⟨bk1, c, none⟩)) 5 (by kernel_rfl) (fun _ => run_nv (Go.Dbr.run_indexarr (e := 23) (sz := 1) (m := 16) (j := c) (o := c) (by kernel_rfl) (by kernel_rfl) (by omega) (by omega) (by omega) _)) (by kernel_rfl) rfl (fun _ => wo748.pick [0] (by kernel_rfl) (by decide)) ?_
  intro ac843 En844
  have hb845 : c < List.length (List.set (half (half (half l a b d 16) c d b 12) a b d 8) c ((List.getD (half (half (half l a b d 16) c d b 12) a b d 8) c 0) + (List.getD (half (half (half l a b d 16) c d b 12) a b d 8) d 0))) := by rw [(List.length_set.trans (half_len (half_len (half_len hl _ _ _ _) _ _ _ _) _ _ _ _))]; omega
  refine h_read (d := some 83) (s := nv (Instr.loadAt 23 (.pointer (some ⟨bk1, c, none⟩)))) En844 (v := .int .u32 ((UInt32.toNat (List.getD (List.set (half (half (half l a b d 16) c d b 12) a b d 8) c ((List.getD (half (half (half l a b d 16) c d b 12) a b d 8) c 0) + (List.getD (half (half (half l a b d 16) c d b 12) a b d 8) d 0))) c 0) : Nat) : Int)) 6 (by kernel_rfl) (fun w hS => run_nv (run_load1 (by kernel_rfl) (hS.heap.cell (k := 0) rfl (u32s_getD hb845)))) (by kernel_rfl) rfl (wo748.pick [0] (by kernel_rfl) (by decide)) ?_
  intro ac846 En847
  refine h_pureR (d := some 84) En847 (v := .int .u32 (IntKind.wrap .u32 ((BitVec.ofInt (IntKind.bits .u32) ((UInt32.toNat (List.getD (List.set (half (half (half l a b d 16) c d b 12) a b d 8) c ((List.getD (half (half (half l a b d 16) c d b 12) a b d 8) c 0) + (List.getD (half (half (half l a b d 16) c d b 12) a b d 8) d 0))) b 0) : Nat) : Int) ^^^ BitVec.ofInt (IntKind.bits .u32) ((UInt32.toNat (List.getD (List.set (half (half (half l a b d 16) c d b 12) a b d 8) c ((List.getD (half (half (half l a b d 16) c d b 12) a b d 8) c 0) + (List.getD (half (half (half l a b d 16) c d b 12) a b d 8) d 0))) c 0) : Nat) : Int)).toNat : Int))) 7 (by kernel_rfl) (by kernel_rfl) rfl (fun _ => wo748.pick [0] (by kernel_rfl) (by decide)) ?_
  intro ac848 En849
  rw [Go.Dbr.u32_xor (a := ((UInt32.toNat (List.getD (List.set (half (half (half l a b d 16) c d b 12) a b d 8) c ((List.getD (half (half (half l a b d 16) c d b 12) a b d 8) c 0) + (List.getD (half (half (half l a b d 16) c d b 12) a b d 8) d 0))) b 0) : Nat) : Int)) (b := ((UInt32.toNat (List.getD (List.set (half (half (half l a b d 16) c d b 12) a b d 8) c ((List.getD (half (half (half l a b d 16) c d b 12) a b d 8) c 0) + (List.getD (half (half (half l a b d 16) c d b 12) a b d 8) d 0))) c 0) : Nat) : Int)) (x := List.getD (List.set (half (half (half l a b d 16) c d b 12) a b d 8) c ((List.getD (half (half (half l a b d 16) c d b 12) a b d 8) c 0) + (List.getD (half (half (half l a b d 16) c d b 12) a b d 8) d 0))) b 0) (y := List.getD (List.set (half (half (half l a b d 16) c d b 12) a b d 8) c ((List.getD (half (half (half l a b d 16) c d b 12) a b d 8) c 0) + (List.getD (half (half (half l a b d 16) c d b 12) a b d 8) d 0))) c 0) rfl rfl] at En849
  refine h_at 8 (by kernel_rfl) rfl ?_
  have hM850 : Heap wo745.drew [] := wo748.heap.pick [] (by kernel_rfl) (by decide)
  refine op_call (d := some 85) (f := 33) (args := #[.int .u32 ((UInt32.toNat ((List.getD (List.set (half (half (half l a b d 16) c d b 12) a b d 8) c ((List.getD (half (half (half l a b d 16) c d b 12) a b d 8) c 0) + (List.getD (half (half (half l a b d 16) c d b 12) a b d 8) d 0))) b 0) ^^^ (List.getD (List.set (half (half (half l a b d 16) c d b 12) a b d 8) c ((List.getD (half (half (half l a b d 16) c d b 12) a b d 8) c 0) + (List.getD (half (half (half l a b d 16) c d b 12) a b d 8) d 0))) c 0)) : Nat) : Int), .int .i64 7]) En849 (by kernel_rfl) ((left_ref _ ((List.getD (List.set (half (half (half l a b d 16) c d b 12) a b d 8) c ((List.getD (half (half (half l a b d 16) c d b 12) a b d 8) c 0) + (List.getD (half (half (half l a b d 16) c d b 12) a b d 8) d 0))) b 0) ^^^ (List.getD (List.set (half (half (half l a b d 16) c d b 12) a b d 8) c ((List.getD (half (half (half l a b d 16) c d b 12) a b d 8) c 0) + (List.getD (half (half (half l a b d 16) c d b 12) a b d 8) d 0))) c 0)) 7 (by omega) (by omega)).mono ?_)
  rintro _ wo852 ⟨rfl, he855⟩
  refine ⟨_, rfl, ?_⟩
  intro ac851 En853
  have Hv854 : Ev w [] wo852 [.box bk1 (u32s (List.set (half (half (half l a b d 16) c d b 12) a b d 8) c ((List.getD (half (half (half l a b d 16) c d b 12) a b d 8) c 0) + (List.getD (half (half (half l a b d 16) c d b 12) a b d 8) d 0)))) 42, .box bk6 (u32s (List.replicate 16 0)) 42] := wo748.trans (Ev.call (R := [.box bk1 (u32s (List.set (half (half (half l a b d 16) c d b 12) a b d 8) c ((List.getD (half (half (half l a b d 16) c d b 12) a b d 8) c 0) + (List.getD (half (half (half l a b d 16) c d b 12) a b d 8) d 0)))) 42, .box bk6 (u32s (List.replicate 16 0)) 42]) wo748.heap [0, 1] (by kernel_rfl) (by decide) he855)
  clear hM850 he855
  refine ⟨fun _ => Hv854.pick [0] (by kernel_rfl) (by decide), ?_⟩
  refine h_free (d := some 86) (s := nv (Instr.indexAt 42 (pt bk1) (ni b))) En853 (v := .pointer (some ⟨bk1, b, none⟩)) 9 (by kernel_rfl) (fun _ => run_nv (Go.Dbr.run_indexarr (e := 23) (sz := 1) (m := 16) (j := b) (o := b) (by kernel_rfl) (by kernel_rfl) (by omega) (by omega) (by omega) _)) (by kernel_rfl) rfl (fun _ => Hv854.pick [0] (by kernel_rfl) (by decide)) ?_
  intro ac856 En857
  refine h_at 10 (by kernel_rfl) rfl ?_
  have hb858 : b < List.length (List.set (half (half (half l a b d 16) c d b 12) a b d 8) c ((List.getD (half (half (half l a b d 16) c d b 12) a b d 8) c 0) + (List.getD (half (half (half l a b d 16) c d b 12) a b d 8) d 0))) := by rw [(List.length_set.trans (half_len (half_len (half_len hl _ _ _ _) _ _ _ _) _ _ _ _))]; omega
  refine op_storebox2 (d := none) (t := 23) (b := bk1) (off := b) (k := 0) (v := .int .u32 ((UInt32.toNat (rotl ((List.getD (List.set (half (half (half l a b d 16) c d b 12) a b d 8) c ((List.getD (half (half (half l a b d 16) c d b 12) a b d 8) c 0) + (List.getD (half (half (half l a b d 16) c d b 12) a b d 8) d 0))) b 0) ^^^ (List.getD (List.set (half (half (half l a b d 16) c d b 12) a b d 8) c ((List.getD (half (half (half l a b d 16) c d b 12) a b d 8) c 0) + (List.getD (half (half (half l a b d 16) c d b 12) a b d 8) d 0))) c 0)) 7) : Nat) : Int)) En857 (by kernel_rfl) Hv854 rfl (u32s_getD hb858) (by kernel_rfl) rfl (u32s_set _ _ _) rfl ?_
  intro ac859 wo860  En861 Hv862
  refine ⟨not_yet (by kernel_rfl), ?_⟩
  exact h_end (by kernel_rfl) ⟨En861.sub (by kernel_rfl), Hv862.pick [0, 1] (by kernel_rfl) (by decide)⟩
 rintro ac863 wo864 ⟨En865, Hv866⟩
 replace Hv866 : Ev w [] wo864 [.box bk1 (u32s (half (half (half (half l a b d 16) c d b 12) a b d 8) c d b 7)) 42, .box bk6 (u32s (List.replicate 16 0)) 42] := Hv866
 replace Hv866 : Ev w [] wo864 [.box bk1 (u32s (quart l a b c d)) 42, .box bk6 (u32s (List.replicate 16 0)) 42] := Hv866
 refine then_normal ?_
 refine wp_seq ?_
 refine region_from ?_
 refine from_op (by kernel_rfl) ?_
 refine op_loadaggbox (d := some 87) (t := 42) (b := bk1) (off := 0) (k := 0) (m := 16) (xs := u32s (quart l a b c d)) En865 (by kernel_rfl) Hv866 rfl (load_whole (u32s_lenh (quart_len hl _ _ _ _))) (u32s_lenh (quart_len hl _ _ _ _)) (by kernel_rfl) (by kernel_rfl) ?_
 intro ac867 En868
 refine from_op (by kernel_rfl) ?_
 refine op_storeaggbox (d := none) (t := 42) (b := bk6) (off := 0) (k := 1) (m := 16) (xs := u32s (quart l a b c d)) (v := .agg (List.toArray (u32s (quart l a b c d)))) (cs' := u32s (quart l a b c d)) En868 (by kernel_rfl) Hv866 rfl rfl (u32s_lenh (quart_len hl _ _ _ _)) (by rw [(u32s_lenh (List.length_replicate))]; decide) (by kernel_rfl) (u32s_one _) (store_whole (u32s_lenh (List.length_replicate))) (L' := [.box bk1 (u32s (quart l a b c d)) 42, .box bk6 (u32s (quart l a b c d)) 42]) rfl ?_
 intro ac869 wo870  En871 Hv872
 refine from_end (by kernel_rfl) ?_
 refine then_normal ?_
 refine wp_ret ?_
 refine d_cell1 (v := .agg (List.toArray (u32s (quart l a b c d)))) (t := 10) (T := 42) (ad := ⟨bk6, 0, none⟩) En871 (by kernel_rfl) (by kernel_rfl) (Ev.cellAgg (t := 42) (k := 1) (off := 0) (m := 16) (xs := u32s (quart l a b c d)) Hv872 rfl (load_whole (u32s_lenh (quart_len hl _ _ _ _))) (u32s_lenh (quart_len hl _ _ _ _)) (by kernel_rfl) (by kernel_rfl)) ?_
 exact ⟨rfl, Hv872.pick [] (by kernel_rfl) (by decide)⟩

end Go.Proofs.Ytnahplggflhdaaa
