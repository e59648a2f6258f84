/- Layer 9: numbers below 2^130 and a little more: sums, products. -/
import Derived.Test.YtnahplggflhdaaaC2
import Derived.Test.YtnahplggflhdaaaWide
namespace Go.Proofs.Ytnahplggflhdaaa
open Go.Dbr
set_option maxRecDepth 100000
set_option maxHeartbeats 2000000
set_option linter.unusedVariables false
set_option linter.unusedSimpArgs false

abbrev B64 : Nat := 18446744073709551616
def plusF (l : List UInt64) (lo hi top : UInt64) : List UInt64 :=
  [addLo (List.getD l 0 0) lo 0, addLo (List.getD l 1 0) hi (addHi (List.getD l 0 0) lo 0), List.getD l 2 0 + (top + addHi (List.getD l 1 0) hi (addHi (List.getD l 0 0) lo 0))]
theorem plusF_len (l : List UInt64) (lo hi top : UInt64) : (plusF l lo hi top).length = 3 := rfl
theorem plusF_val {l : List UInt64} (hl : l.length = 3) (lo hi top : UInt64) (hb : dv B64 l + lo.toNat + B64 * hi.toNat + B64 * (B64 * top.toNat) < B64 * (B64 * B64)) : dv B64 (plusF l lo hi top) = dv B64 l + lo.toNat + B64 * hi.toNat + B64 * (B64 * top.toNat) := by
  match l, hl with
  | [a, b, c], _ =>
    have e1 := add_val (x := a) (y := lo) (c := 0)
    have e2 := add_val (x := b) (y := hi) (c := addHi a lo 0)
    have e0 : (0 : UInt64).toNat = 0 := rfl
    simp only [plusF, dv, List.getD, List.getElem?_cons_zero, List.getElem?_cons_succ, Option.getD_some, UInt64.toNat_add] at hb ⊢
    simp only [B64] at *
    omega

theorem mul_go (w : World) (x y : UInt64) : Calls Try.prog 36 #[uv64 x, uv64 y] w fun e w' => e = .returned (.tuple #[.int .u64 ((UInt64.toNat (mulHi x y) : Nat) : Int), .int .u64 ((UInt64.toNat (x * y) : Nat) : Int)]) ∧ Ev w [] w' [] := by
 refine d_start [(0, uv64 x), (1, uv64 y)] 51 Go.Proofs.Try.func36 Go.Proofs.Try.ntmps36 rfl (by kernel_rfl) (by kernel_rfl) ?_
 intro act0 En0
 have Hv0 : Ev w [] w [] := Ev.refl (Heap.nil _)
 refine wp_seq ?_
 refine region_from ?_
 refine d_pures [(0, uv64 x), (1, uv64 y), (4, .int .u64 0), (5, .int .u64 0)] [.int .u64 0, .int .u64 0] 2 En0 (by kernel_rfl) (by kernel_rfl) rfl ?_
 intro ac1 En2
 refine from_end (by kernel_rfl) ?_
 refine then_normal ?_
 refine wp_seq ?_
 refine region_from ?_
 refine d_pures [(0, uv64 x), (1, uv64 y), (4, .int .u64 0), (5, .int .u64 0), (15, .int .u64 (IntKind.wrap .u64 ((BitVec.ofInt (IntKind.bits .u64) ((UInt64.toNat x : Nat) : Int) &&& BitVec.ofInt (IntKind.bits .u64) (4294967295 : Int)).toNat : Int)))] [uv64 x, .int .u64 (IntKind.wrap .u64 ((BitVec.ofInt (IntKind.bits .u64) ((UInt64.toNat x : Nat) : Int) &&& BitVec.ofInt (IntKind.bits .u64) (4294967295 : Int)).toNat : Int))] 2 En2 (by kernel_rfl) (by kernel_rfl) rfl ?_
 intro ac3 En4
 rw [Go.Dbr.u64_and (a := ((UInt64.toNat x : Nat) : Int)) (b := (4294967295 : Int)) (x := x) (y := (4294967295 : UInt64)) rfl rfl] at En4
 refine d_pures [(0, uv64 x), (1, uv64 y), (4, .int .u64 0), (5, .int .u64 0), (6, .int .u64 ((UInt64.toNat (x &&& (4294967295 : UInt64)) : Nat) : Int))] [.int .u64 ((UInt64.toNat (x &&& (4294967295 : UInt64)) : Nat) : Int)] 3 En4 (by kernel_rfl) (by kernel_rfl) rfl ?_
 intro ac5 En6
 refine from_end (by kernel_rfl) ?_
 refine then_normal ?_
 refine wp_seq ?_
 refine region_from ?_
 refine d_pures [(0, uv64 x), (1, uv64 y), (4, .int .u64 0), (5, .int .u64 0), (6, .int .u64 ((UInt64.toNat (x &&& (4294967295 : UInt64)) : Nat) : Int)), (17, .int .u64 (Int.fdiv ((UInt64.toNat x : Nat) : Int) (2 ^ 32)))] [uv64 x, .int .u64 (Int.fdiv ((UInt64.toNat x : Nat) : Int) (2 ^ 32))] 2 En6 (by kernel_rfl) (by kernel_rfl) rfl ?_
 intro ac7 En8
 rw [Go.Dbr.u64_shr (a := ((UInt64.toNat x : Nat) : Int)) (x := x) (n := 32) rfl (by decide)] at En8
 refine d_pures [(0, uv64 x), (1, uv64 y), (4, .int .u64 0), (5, .int .u64 0), (6, .int .u64 ((UInt64.toNat (x &&& (4294967295 : UInt64)) : Nat) : Int)), (7, .int .u64 ((UInt64.toNat (x >>> UInt64.ofNat 32) : Nat) : Int))] [.int .u64 ((UInt64.toNat (x >>> UInt64.ofNat 32) : Nat) : Int)] 3 En8 (by kernel_rfl) (by kernel_rfl) rfl ?_
 intro ac9 En10
 refine from_end (by kernel_rfl) ?_
 refine then_normal ?_
 refine wp_seq ?_
 refine region_from ?_
 refine d_pures [(0, uv64 x), (1, uv64 y), (4, .int .u64 0), (5, .int .u64 0), (6, .int .u64 ((UInt64.toNat (x &&& (4294967295 : UInt64)) : Nat) : Int)), (7, .int .u64 ((UInt64.toNat (x >>> UInt64.ofNat 32) : Nat) : Int)), (19, .int .u64 (IntKind.wrap .u64 ((BitVec.ofInt (IntKind.bits .u64) ((UInt64.toNat y : Nat) : Int) &&& BitVec.ofInt (IntKind.bits .u64) (4294967295 : Int)).toNat : Int)))] [uv64 y, .int .u64 (IntKind.wrap .u64 ((BitVec.ofInt (IntKind.bits .u64) ((UInt64.toNat y : Nat) : Int) &&& BitVec.ofInt (IntKind.bits .u64) (4294967295 : Int)).toNat : Int))] 2 En10 (by kernel_rfl) (by kernel_rfl) rfl ?_
 intro ac11 En12
 rw [Go.Dbr.u64_and (a := ((UInt64.toNat y : Nat) : Int)) (b := (4294967295 : Int)) (x := y) (y := (4294967295 : UInt64)) rfl rfl] at En12
 refine d_pures [(0, uv64 x), (1, uv64 y), (4, .int .u64 0), (5, .int .u64 0), (6, .int .u64 ((UInt64.toNat (x &&& (4294967295 : UInt64)) : Nat) : Int)), (7, .int .u64 ((UInt64.toNat (x >>> UInt64.ofNat 32) : Nat) : Int)), (8, .int .u64 ((UInt64.toNat (y &&& (4294967295 : UInt64)) : Nat) : Int))] [.int .u64 ((UInt64.toNat (y &&& (4294967295 : UInt64)) : Nat) : Int)] 3 En12 (by kernel_rfl) (by kernel_rfl) rfl ?_
 intro ac13 En14
 refine from_end (by kernel_rfl) ?_
 refine then_normal ?_
 refine wp_seq ?_
 refine region_from ?_
 refine d_pures [(0, uv64 x), (1, uv64 y), (4, .int .u64 0), (5, .int .u64 0), (6, .int .u64 ((UInt64.toNat (x &&& (4294967295 : UInt64)) : Nat) : Int)), (7, .int .u64 ((UInt64.toNat (x >>> UInt64.ofNat 32) : Nat) : Int)), (8, .int .u64 ((UInt64.toNat (y &&& (4294967295 : UInt64)) : Nat) : Int)), (21, .int .u64 (Int.fdiv ((UInt64.toNat y : Nat) : Int) (2 ^ 32)))] [uv64 y, .int .u64 (Int.fdiv ((UInt64.toNat y : Nat) : Int) (2 ^ 32))] 2 En14 (by kernel_rfl) (by kernel_rfl) rfl ?_
 intro ac15 En16
 rw [Go.Dbr.u64_shr (a := ((UInt64.toNat y : Nat) : Int)) (x := y) (n := 32) rfl (by decide)] at En16
 refine d_pures [(0, uv64 x), (1, uv64 y), (4, .int .u64 0), (5, .int .u64 0), (6, .int .u64 ((UInt64.toNat (x &&& (4294967295 : UInt64)) : Nat) : Int)), (7, .int .u64 ((UInt64.toNat (x >>> UInt64.ofNat 32) : Nat) : Int)), (8, .int .u64 ((UInt64.toNat (y &&& (4294967295 : UInt64)) : Nat) : Int)), (9, .int .u64 ((UInt64.toNat (y >>> UInt64.ofNat 32) : Nat) : Int))] [.int .u64 ((UInt64.toNat (y >>> UInt64.ofNat 32) : Nat) : Int)] 3 En16 (by kernel_rfl) (by kernel_rfl) rfl ?_
 intro ac17 En18
 refine from_end (by kernel_rfl) ?_
 refine then_normal ?_
 refine wp_seq ?_
 refine region_from ?_
 refine d_pures [(0, uv64 x), (1, uv64 y), (4, .int .u64 0), (5, .int .u64 0), (6, .int .u64 ((UInt64.toNat (x &&& (4294967295 : UInt64)) : Nat) : Int)), (7, .int .u64 ((UInt64.toNat (x >>> UInt64.ofNat 32) : Nat) : Int)), (8, .int .u64 ((UInt64.toNat (y &&& (4294967295 : UInt64)) : Nat) : Int)), (9, .int .u64 ((UInt64.toNat (y >>> UInt64.ofNat 32) : Nat) : Int)), (24, .int .u64 (IntKind.wrap .u64 (((UInt64.toNat (x &&& (4294967295 : UInt64)) : Nat) : Int) * ((UInt64.toNat (y &&& (4294967295 : UInt64)) : Nat) : Int))))] [.int .u64 ((UInt64.toNat (x &&& (4294967295 : UInt64)) : Nat) : Int), .int .u64 ((UInt64.toNat (y &&& (4294967295 : UInt64)) : Nat) : Int), .int .u64 (IntKind.wrap .u64 (((UInt64.toNat (x &&& (4294967295 : UInt64)) : Nat) : Int) * ((UInt64.toNat (y &&& (4294967295 : UInt64)) : Nat) : Int)))] 3 En18 (by kernel_rfl) (by kernel_rfl) rfl ?_
 intro ac19 En20
 rw [Go.Dbr.u64_mul (a := ((UInt64.toNat (x &&& (4294967295 : UInt64)) : Nat) : Int)) (b := ((UInt64.toNat (y &&& (4294967295 : UInt64)) : Nat) : Int)) (x := x &&& (4294967295 : UInt64)) (y := y &&& (4294967295 : UInt64)) rfl rfl] at En20
 refine d_pures [(0, uv64 x), (1, uv64 y), (4, .int .u64 0), (5, .int .u64 0), (6, .int .u64 ((UInt64.toNat (x &&& (4294967295 : UInt64)) : Nat) : Int)), (7, .int .u64 ((UInt64.toNat (x >>> UInt64.ofNat 32) : Nat) : Int)), (8, .int .u64 ((UInt64.toNat (y &&& (4294967295 : UInt64)) : Nat) : Int)), (9, .int .u64 ((UInt64.toNat (y >>> UInt64.ofNat 32) : Nat) : Int)), (10, .int .u64 ((UInt64.toNat ((x &&& (4294967295 : UInt64)) * (y &&& (4294967295 : UInt64))) : Nat) : Int))] [.int .u64 ((UInt64.toNat ((x &&& (4294967295 : UInt64)) * (y &&& (4294967295 : UInt64))) : Nat) : Int)] 4 En20 (by kernel_rfl) (by kernel_rfl) rfl ?_
 intro ac21 En22
 refine from_end (by kernel_rfl) ?_
 refine then_normal ?_
 refine wp_seq ?_
 refine region_from ?_
 refine d_pures [(0, uv64 x), (1, uv64 y), (4, .int .u64 0), (5, .int .u64 0), (6, .int .u64 ((UInt64.toNat (x &&& (4294967295 : UInt64)) : Nat) : Int)), (7, .int .u64 ((UInt64.toNat (x >>> UInt64.ofNat 32) : Nat) : Int)), (8, .int .u64 ((UInt64.toNat (y &&& (4294967295 : UInt64)) : Nat) : Int)), (9, .int .u64 ((UInt64.toNat (y >>> UInt64.ofNat 32) : Nat) : Int)), (10, .int .u64 ((UInt64.toNat ((x &&& (4294967295 : UInt64)) * (y &&& (4294967295 : UInt64))) : Nat) : Int)), (27, .int .u64 (IntKind.wrap .u64 (((UInt64.toNat (x >>> UInt64.ofNat 32) : Nat) : Int) * ((UInt64.toNat (y &&& (4294967295 : UInt64)) : Nat) : Int))))] [.int .u64 ((UInt64.toNat (x >>> UInt64.ofNat 32) : Nat) : Int), .int .u64 ((UInt64.toNat (y &&& (4294967295 : UInt64)) : Nat) : Int), .int .u64 (IntKind.wrap .u64 (((UInt64.toNat (x >>> UInt64.ofNat 32) : Nat) : Int) * ((UInt64.toNat (y &&& (4294967295 : UInt64)) : Nat) : Int)))] 3 En22 (by kernel_rfl) (by kernel_rfl) rfl ?_
 intro ac23 En24
 rw [Go.Dbr.u64_mul (a := ((UInt64.toNat (x >>> UInt64.ofNat 32) : Nat) : Int)) (b := ((UInt64.toNat (y &&& (4294967295 : UInt64)) : Nat) : Int)) (x := x >>> UInt64.ofNat 32) (y := y &&& (4294967295 : UInt64)) rfl rfl] at En24
 refine d_pures [(0, uv64 x), (1, uv64 y), (4, .int .u64 0), (5, .int .u64 0), (6, .int .u64 ((UInt64.toNat (x &&& (4294967295 : UInt64)) : Nat) : Int)), (7, .int .u64 ((UInt64.toNat (x >>> UInt64.ofNat 32) : Nat) : Int)), (8, .int .u64 ((UInt64.toNat (y &&& (4294967295 : UInt64)) : Nat) : Int)), (9, .int .u64 ((UInt64.toNat (y >>> UInt64.ofNat 32) : Nat) : Int)), (27, .int .u64 ((UInt64.toNat ((x >>> UInt64.ofNat 32) * (y &&& (4294967295 : UInt64))) : Nat) : Int)), (29, .int .u64 (Int.fdiv ((UInt64.toNat ((x &&& (4294967295 : UInt64)) * (y &&& (4294967295 : UInt64))) : Nat) : Int) (2 ^ 32)))] [.int .u64 ((UInt64.toNat ((x &&& (4294967295 : UInt64)) * (y &&& (4294967295 : UInt64))) : Nat) : Int), .int .u64 (Int.fdiv ((UInt64.toNat ((x &&& (4294967295 : UInt64)) * (y &&& (4294967295 : UInt64))) : Nat) : Int) (2 ^ 32))] 5 En24 (by kernel_rfl) (by kernel_rfl) rfl ?_
 intro ac25 En26
 rw [Go.Dbr.u64_shr (a := ((UInt64.toNat ((x &&& (4294967295 : UInt64)) * (y &&& (4294967295 : UInt64))) : Nat) : Int)) (x := (x &&& (4294967295 : UInt64)) * (y &&& (4294967295 : UInt64))) (n := 32) rfl (by decide)] at En26
 refine d_pures [(0, uv64 x), (1, uv64 y), (4, .int .u64 0), (5, .int .u64 0), (6, .int .u64 ((UInt64.toNat (x &&& (4294967295 : UInt64)) : Nat) : Int)), (7, .int .u64 ((UInt64.toNat (x >>> UInt64.ofNat 32) : Nat) : Int)), (8, .int .u64 ((UInt64.toNat (y &&& (4294967295 : UInt64)) : Nat) : Int)), (9, .int .u64 ((UInt64.toNat (y >>> UInt64.ofNat 32) : Nat) : Int)), (30, .int .u64 (IntKind.wrap .u64 (((UInt64.toNat ((x >>> UInt64.ofNat 32) * (y &&& (4294967295 : UInt64))) : Nat) : Int) + ((UInt64.toNat (((x &&& (4294967295 : UInt64)) * (y &&& (4294967295 : UInt64))) >>> UInt64.ofNat 32) : Nat) : Int))))] [.int .u64 (IntKind.wrap .u64 (((UInt64.toNat ((x >>> UInt64.ofNat 32) * (y &&& (4294967295 : UInt64))) : Nat) : Int) + ((UInt64.toNat (((x &&& (4294967295 : UInt64)) * (y &&& (4294967295 : UInt64))) >>> UInt64.ofNat 32) : Nat) : Int)))] 6 En26 (by kernel_rfl) (by kernel_rfl) rfl ?_
 intro ac27 En28
 rw [Go.Dbr.u64_add (a := ((UInt64.toNat ((x >>> UInt64.ofNat 32) * (y &&& (4294967295 : UInt64))) : Nat) : Int)) (b := ((UInt64.toNat (((x &&& (4294967295 : UInt64)) * (y &&& (4294967295 : UInt64))) >>> UInt64.ofNat 32) : Nat) : Int)) (x := (x >>> UInt64.ofNat 32) * (y &&& (4294967295 : UInt64))) (y := ((x &&& (4294967295 : UInt64)) * (y &&& (4294967295 : UInt64))) >>> UInt64.ofNat 32) rfl rfl] at En28
 refine d_pures [(0, uv64 x), (1, uv64 y), (4, .int .u64 0), (5, .int .u64 0), (6, .int .u64 ((UInt64.toNat (x &&& (4294967295 : UInt64)) : Nat) : Int)), (7, .int .u64 ((UInt64.toNat (x >>> UInt64.ofNat 32) : Nat) : Int)), (8, .int .u64 ((UInt64.toNat (y &&& (4294967295 : UInt64)) : Nat) : Int)), (9, .int .u64 ((UInt64.toNat (y >>> UInt64.ofNat 32) : Nat) : Int)), (11, .int .u64 ((UInt64.toNat (((x >>> UInt64.ofNat 32) * (y &&& (4294967295 : UInt64))) + (((x &&& (4294967295 : UInt64)) * (y &&& (4294967295 : UInt64))) >>> UInt64.ofNat 32)) : Nat) : Int))] [.int .u64 ((UInt64.toNat (((x >>> UInt64.ofNat 32) * (y &&& (4294967295 : UInt64))) + (((x &&& (4294967295 : UInt64)) * (y &&& (4294967295 : UInt64))) >>> UInt64.ofNat 32)) : Nat) : Int)] 7 En28 (by kernel_rfl) (by kernel_rfl) rfl ?_
 intro ac29 En30
 refine from_end (by kernel_rfl) ?_
 refine then_normal ?_
 refine wp_seq ?_
 refine region_from ?_
 refine d_pures [(0, uv64 x), (1, uv64 y), (4, .int .u64 0), (5, .int .u64 0), (6, .int .u64 ((UInt64.toNat (x &&& (4294967295 : UInt64)) : Nat) : Int)), (7, .int .u64 ((UInt64.toNat (x >>> UInt64.ofNat 32) : Nat) : Int)), (8, .int .u64 ((UInt64.toNat (y &&& (4294967295 : UInt64)) : Nat) : Int)), (9, .int .u64 ((UInt64.toNat (y >>> UInt64.ofNat 32) : Nat) : Int)), (11, .int .u64 ((UInt64.toNat (((x >>> UInt64.ofNat 32) * (y &&& (4294967295 : UInt64))) + (((x &&& (4294967295 : UInt64)) * (y &&& (4294967295 : UInt64))) >>> UInt64.ofNat 32)) : Nat) : Int)), (32, .int .u64 (IntKind.wrap .u64 ((BitVec.ofInt (IntKind.bits .u64) ((UInt64.toNat (((x >>> UInt64.ofNat 32) * (y &&& (4294967295 : UInt64))) + (((x &&& (4294967295 : UInt64)) * (y &&& (4294967295 : UInt64))) >>> UInt64.ofNat 32)) : Nat) : Int) &&& BitVec.ofInt (IntKind.bits .u64) (4294967295 : Int)).toNat : Int)))] [.int .u64 ((UInt64.toNat (((x >>> UInt64.ofNat 32) * (y &&& (4294967295 : UInt64))) + (((x &&& (4294967295 : UInt64)) * (y &&& (4294967295 : UInt64))) >>> UInt64.ofNat 32)) : Nat) : Int), .int .u64 (IntKind.wrap .u64 ((BitVec.ofInt (IntKind.bits .u64) ((UInt64.toNat (((x >>> UInt64.ofNat 32) * (y &&& (4294967295 : UInt64))) + (((x &&& (4294967295 : UInt64)) * (y &&& (4294967295 : UInt64))) >>> UInt64.ofNat 32)) : Nat) : Int) &&& BitVec.ofInt (IntKind.bits .u64) (4294967295 : Int)).toNat : Int))] 2 En30 (by kernel_rfl) (by kernel_rfl) rfl ?_
 intro ac31 En32
 rw [Go.Dbr.u64_and (a := ((UInt64.toNat (((x >>> UInt64.ofNat 32) * (y &&& (4294967295 : UInt64))) + (((x &&& (4294967295 : UInt64)) * (y &&& (4294967295 : UInt64))) >>> UInt64.ofNat 32)) : Nat) : Int)) (b := (4294967295 : Int)) (x := ((x >>> UInt64.ofNat 32) * (y &&& (4294967295 : UInt64))) + (((x &&& (4294967295 : UInt64)) * (y &&& (4294967295 : UInt64))) >>> UInt64.ofNat 32)) (y := (4294967295 : UInt64)) rfl rfl] at En32
 refine d_pures [(0, uv64 x), (1, uv64 y), (4, .int .u64 0), (5, .int .u64 0), (6, .int .u64 ((UInt64.toNat (x &&& (4294967295 : UInt64)) : Nat) : Int)), (7, .int .u64 ((UInt64.toNat (x >>> UInt64.ofNat 32) : Nat) : Int)), (8, .int .u64 ((UInt64.toNat (y &&& (4294967295 : UInt64)) : Nat) : Int)), (9, .int .u64 ((UInt64.toNat (y >>> UInt64.ofNat 32) : Nat) : Int)), (11, .int .u64 ((UInt64.toNat (((x >>> UInt64.ofNat 32) * (y &&& (4294967295 : UInt64))) + (((x &&& (4294967295 : UInt64)) * (y &&& (4294967295 : UInt64))) >>> UInt64.ofNat 32)) : Nat) : Int)), (12, .int .u64 ((UInt64.toNat ((((x >>> UInt64.ofNat 32) * (y &&& (4294967295 : UInt64))) + (((x &&& (4294967295 : UInt64)) * (y &&& (4294967295 : UInt64))) >>> UInt64.ofNat 32)) &&& (4294967295 : UInt64)) : Nat) : Int))] [.int .u64 ((UInt64.toNat ((((x >>> UInt64.ofNat 32) * (y &&& (4294967295 : UInt64))) + (((x &&& (4294967295 : UInt64)) * (y &&& (4294967295 : UInt64))) >>> UInt64.ofNat 32)) &&& (4294967295 : UInt64)) : Nat) : Int)] 3 En32 (by kernel_rfl) (by kernel_rfl) rfl ?_
 intro ac33 En34
 refine from_end (by kernel_rfl) ?_
 refine then_normal ?_
 refine wp_seq ?_
 refine region_from ?_
 refine d_pures [(0, uv64 x), (1, uv64 y), (4, .int .u64 0), (5, .int .u64 0), (6, .int .u64 ((UInt64.toNat (x &&& (4294967295 : UInt64)) : Nat) : Int)), (7, .int .u64 ((UInt64.toNat (x >>> UInt64.ofNat 32) : Nat) : Int)), (8, .int .u64 ((UInt64.toNat (y &&& (4294967295 : UInt64)) : Nat) : Int)), (9, .int .u64 ((UInt64.toNat (y >>> UInt64.ofNat 32) : Nat) : Int)), (11, .int .u64 ((UInt64.toNat (((x >>> UInt64.ofNat 32) * (y &&& (4294967295 : UInt64))) + (((x &&& (4294967295 : UInt64)) * (y &&& (4294967295 : UInt64))) >>> UInt64.ofNat 32)) : Nat) : Int)), (12, .int .u64 ((UInt64.toNat ((((x >>> UInt64.ofNat 32) * (y &&& (4294967295 : UInt64))) + (((x &&& (4294967295 : UInt64)) * (y &&& (4294967295 : UInt64))) >>> UInt64.ofNat 32)) &&& (4294967295 : UInt64)) : Nat) : Int)), (34, .int .u64 (Int.fdiv ((UInt64.toNat (((x >>> UInt64.ofNat 32) * (y &&& (4294967295 : UInt64))) + (((x &&& (4294967295 : UInt64)) * (y &&& (4294967295 : UInt64))) >>> UInt64.ofNat 32)) : Nat) : Int) (2 ^ 32)))] [.int .u64 ((UInt64.toNat (((x >>> UInt64.ofNat 32) * (y &&& (4294967295 : UInt64))) + (((x &&& (4294967295 : UInt64)) * (y &&& (4294967295 : UInt64))) >>> UInt64.ofNat 32)) : Nat) : Int), .int .u64 (Int.fdiv ((UInt64.toNat (((x >>> UInt64.ofNat 32) * (y &&& (4294967295 : UInt64))) + (((x &&& (4294967295 : UInt64)) * (y &&& (4294967295 : UInt64))) >>> UInt64.ofNat 32)) : Nat) : Int) (2 ^ 32))] 2 En34 (by kernel_rfl) (by kernel_rfl) rfl ?_
 intro ac35 En36
 rw [Go.Dbr.u64_shr (a := ((UInt64.toNat (((x >>> UInt64.ofNat 32) * (y &&& (4294967295 : UInt64))) + (((x &&& (4294967295 : UInt64)) * (y &&& (4294967295 : UInt64))) >>> UInt64.ofNat 32)) : Nat) : Int)) (x := ((x >>> UInt64.ofNat 32) * (y &&& (4294967295 : UInt64))) + (((x &&& (4294967295 : UInt64)) * (y &&& (4294967295 : UInt64))) >>> UInt64.ofNat 32)) (n := 32) rfl (by decide)] at En36
 refine d_pures [(0, uv64 x), (1, uv64 y), (4, .int .u64 0), (5, .int .u64 0), (6, .int .u64 ((UInt64.toNat (x &&& (4294967295 : UInt64)) : Nat) : Int)), (7, .int .u64 ((UInt64.toNat (x >>> UInt64.ofNat 32) : Nat) : Int)), (8, .int .u64 ((UInt64.toNat (y &&& (4294967295 : UInt64)) : Nat) : Int)), (9, .int .u64 ((UInt64.toNat (y >>> UInt64.ofNat 32) : Nat) : Int)), (11, .int .u64 ((UInt64.toNat (((x >>> UInt64.ofNat 32) * (y &&& (4294967295 : UInt64))) + (((x &&& (4294967295 : UInt64)) * (y &&& (4294967295 : UInt64))) >>> UInt64.ofNat 32)) : Nat) : Int)), (12, .int .u64 ((UInt64.toNat ((((x >>> UInt64.ofNat 32) * (y &&& (4294967295 : UInt64))) + (((x &&& (4294967295 : UInt64)) * (y &&& (4294967295 : UInt64))) >>> UInt64.ofNat 32)) &&& (4294967295 : UInt64)) : Nat) : Int)), (13, .int .u64 ((UInt64.toNat ((((x >>> UInt64.ofNat 32) * (y &&& (4294967295 : UInt64))) + (((x &&& (4294967295 : UInt64)) * (y &&& (4294967295 : UInt64))) >>> UInt64.ofNat 32)) >>> UInt64.ofNat 32) : Nat) : Int))] [.int .u64 ((UInt64.toNat ((((x >>> UInt64.ofNat 32) * (y &&& (4294967295 : UInt64))) + (((x &&& (4294967295 : UInt64)) * (y &&& (4294967295 : UInt64))) >>> UInt64.ofNat 32)) >>> UInt64.ofNat 32) : Nat) : Int)] 3 En36 (by kernel_rfl) (by kernel_rfl) rfl ?_
 intro ac37 En38
 refine from_end (by kernel_rfl) ?_
 refine then_normal ?_
 refine wp_seq ?_
 refine region_from ?_
 refine d_pures [(0, uv64 x), (1, uv64 y), (4, .int .u64 0), (5, .int .u64 0), (6, .int .u64 ((UInt64.toNat (x &&& (4294967295 : UInt64)) : Nat) : Int)), (7, .int .u64 ((UInt64.toNat (x >>> UInt64.ofNat 32) : Nat) : Int)), (8, .int .u64 ((UInt64.toNat (y &&& (4294967295 : UInt64)) : Nat) : Int)), (9, .int .u64 ((UInt64.toNat (y >>> UInt64.ofNat 32) : Nat) : Int)), (11, .int .u64 ((UInt64.toNat (((x >>> UInt64.ofNat 32) * (y &&& (4294967295 : UInt64))) + (((x &&& (4294967295 : UInt64)) * (y &&& (4294967295 : UInt64))) >>> UInt64.ofNat 32)) : Nat) : Int)), (12, .int .u64 ((UInt64.toNat ((((x >>> UInt64.ofNat 32) * (y &&& (4294967295 : UInt64))) + (((x &&& (4294967295 : UInt64)) * (y &&& (4294967295 : UInt64))) >>> UInt64.ofNat 32)) &&& (4294967295 : UInt64)) : Nat) : Int)), (13, .int .u64 ((UInt64.toNat ((((x >>> UInt64.ofNat 32) * (y &&& (4294967295 : UInt64))) + (((x &&& (4294967295 : UInt64)) * (y &&& (4294967295 : UInt64))) >>> UInt64.ofNat 32)) >>> UInt64.ofNat 32) : Nat) : Int)), (35, .int .u64 ((UInt64.toNat ((((x >>> UInt64.ofNat 32) * (y &&& (4294967295 : UInt64))) + (((x &&& (4294967295 : UInt64)) * (y &&& (4294967295 : UInt64))) >>> UInt64.ofNat 32)) &&& (4294967295 : UInt64)) : Nat) : Int)), (38, .int .u64 (IntKind.wrap .u64 (((UInt64.toNat (x &&& (4294967295 : UInt64)) : Nat) : Int) * ((UInt64.toNat (y >>> UInt64.ofNat 32) : Nat) : Int))))] [.int .u64 ((UInt64.toNat ((((x >>> UInt64.ofNat 32) * (y &&& (4294967295 : UInt64))) + (((x &&& (4294967295 : UInt64)) * (y &&& (4294967295 : UInt64))) >>> UInt64.ofNat 32)) &&& (4294967295 : UInt64)) : Nat) : Int), .int .u64 ((UInt64.toNat (x &&& (4294967295 : UInt64)) : Nat) : Int), .int .u64 ((UInt64.toNat (y >>> UInt64.ofNat 32) : Nat) : Int), .int .u64 (IntKind.wrap .u64 (((UInt64.toNat (x &&& (4294967295 : UInt64)) : Nat) : Int) * ((UInt64.toNat (y >>> UInt64.ofNat 32) : Nat) : Int)))] 4 En38 (by kernel_rfl) (by kernel_rfl) rfl ?_
 intro ac39 En40
 rw [Go.Dbr.u64_mul (a := ((UInt64.toNat (x &&& (4294967295 : UInt64)) : Nat) : Int)) (b := ((UInt64.toNat (y >>> UInt64.ofNat 32) : Nat) : Int)) (x := x &&& (4294967295 : UInt64)) (y := y >>> UInt64.ofNat 32) rfl rfl] at En40
 refine d_pures [(0, uv64 x), (1, uv64 y), (4, .int .u64 0), (5, .int .u64 0), (6, .int .u64 ((UInt64.toNat (x &&& (4294967295 : UInt64)) : Nat) : Int)), (7, .int .u64 ((UInt64.toNat (x >>> UInt64.ofNat 32) : Nat) : Int)), (8, .int .u64 ((UInt64.toNat (y &&& (4294967295 : UInt64)) : Nat) : Int)), (9, .int .u64 ((UInt64.toNat (y >>> UInt64.ofNat 32) : Nat) : Int)), (11, .int .u64 ((UInt64.toNat (((x >>> UInt64.ofNat 32) * (y &&& (4294967295 : UInt64))) + (((x &&& (4294967295 : UInt64)) * (y &&& (4294967295 : UInt64))) >>> UInt64.ofNat 32)) : Nat) : Int)), (12, .int .u64 ((UInt64.toNat ((((x >>> UInt64.ofNat 32) * (y &&& (4294967295 : UInt64))) + (((x &&& (4294967295 : UInt64)) * (y &&& (4294967295 : UInt64))) >>> UInt64.ofNat 32)) &&& (4294967295 : UInt64)) : Nat) : Int)), (13, .int .u64 ((UInt64.toNat ((((x >>> UInt64.ofNat 32) * (y &&& (4294967295 : UInt64))) + (((x &&& (4294967295 : UInt64)) * (y &&& (4294967295 : UInt64))) >>> UInt64.ofNat 32)) >>> UInt64.ofNat 32) : Nat) : Int)), (39, .int .u64 (IntKind.wrap .u64 (((UInt64.toNat ((((x >>> UInt64.ofNat 32) * (y &&& (4294967295 : UInt64))) + (((x &&& (4294967295 : UInt64)) * (y &&& (4294967295 : UInt64))) >>> UInt64.ofNat 32)) &&& (4294967295 : UInt64)) : Nat) : Int) + ((UInt64.toNat ((x &&& (4294967295 : UInt64)) * (y >>> UInt64.ofNat 32)) : Nat) : Int))))] [.int .u64 (IntKind.wrap .u64 (((UInt64.toNat ((((x >>> UInt64.ofNat 32) * (y &&& (4294967295 : UInt64))) + (((x &&& (4294967295 : UInt64)) * (y &&& (4294967295 : UInt64))) >>> UInt64.ofNat 32)) &&& (4294967295 : UInt64)) : Nat) : Int) + ((UInt64.toNat ((x &&& (4294967295 : UInt64)) * (y >>> UInt64.ofNat 32)) : Nat) : Int)))] 5 En40 (by kernel_rfl) (by kernel_rfl) rfl ?_
 intro ac41 En42
 rw [Go.Dbr.u64_add (a := ((UInt64.toNat ((((x >>> UInt64.ofNat 32) * (y &&& (4294967295 : UInt64))) + (((x &&& (4294967295 : UInt64)) * (y &&& (4294967295 : UInt64))) >>> UInt64.ofNat 32)) &&& (4294967295 : UInt64)) : Nat) : Int)) (b := ((UInt64.toNat ((x &&& (4294967295 : UInt64)) * (y >>> UInt64.ofNat 32)) : Nat) : Int)) (x := (((x >>> UInt64.ofNat 32) * (y &&& (4294967295 : UInt64))) + (((x &&& (4294967295 : UInt64)) * (y &&& (4294967295 : UInt64))) >>> UInt64.ofNat 32)) &&& (4294967295 : UInt64)) (y := (x &&& (4294967295 : UInt64)) * (y >>> UInt64.ofNat 32)) rfl rfl] at En42
 refine d_pures [(0, uv64 x), (1, uv64 y), (4, .int .u64 0), (5, .int .u64 0), (6, .int .u64 ((UInt64.toNat (x &&& (4294967295 : UInt64)) : Nat) : Int)), (7, .int .u64 ((UInt64.toNat (x >>> UInt64.ofNat 32) : Nat) : Int)), (8, .int .u64 ((UInt64.toNat (y &&& (4294967295 : UInt64)) : Nat) : Int)), (9, .int .u64 ((UInt64.toNat (y >>> UInt64.ofNat 32) : Nat) : Int)), (11, .int .u64 ((UInt64.toNat (((x >>> UInt64.ofNat 32) * (y &&& (4294967295 : UInt64))) + (((x &&& (4294967295 : UInt64)) * (y &&& (4294967295 : UInt64))) >>> UInt64.ofNat 32)) : Nat) : Int)), (12, .int .u64 ((UInt64.toNat (((((x >>> UInt64.ofNat 32) * (y &&& (4294967295 : UInt64))) + (((x &&& (4294967295 : UInt64)) * (y &&& (4294967295 : UInt64))) >>> UInt64.ofNat 32)) &&& (4294967295 : UInt64)) + ((x &&& (4294967295 : UInt64)) * (y >>> UInt64.ofNat 32))) : Nat) : Int)), (13, .int .u64 ((UInt64.toNat ((((x >>> UInt64.ofNat 32) * (y &&& (4294967295 : UInt64))) + (((x &&& (4294967295 : UInt64)) * (y &&& (4294967295 : UInt64))) >>> UInt64.ofNat 32)) >>> UInt64.ofNat 32) : Nat) : Int))] [.int .u64 ((UInt64.toNat (((((x >>> UInt64.ofNat 32) * (y &&& (4294967295 : UInt64))) + (((x &&& (4294967295 : UInt64)) * (y &&& (4294967295 : UInt64))) >>> UInt64.ofNat 32)) &&& (4294967295 : UInt64)) + ((x &&& (4294967295 : UInt64)) * (y >>> UInt64.ofNat 32))) : Nat) : Int)] 6 En42 (by kernel_rfl) (by kernel_rfl) rfl ?_
 intro ac43 En44
 refine from_end (by kernel_rfl) ?_
 refine then_normal ?_
 refine wp_seq ?_
 refine region_from ?_
 refine d_pures [(0, uv64 x), (1, uv64 y), (4, .int .u64 0), (5, .int .u64 0), (6, .int .u64 ((UInt64.toNat (x &&& (4294967295 : UInt64)) : Nat) : Int)), (7, .int .u64 ((UInt64.toNat (x >>> UInt64.ofNat 32) : Nat) : Int)), (8, .int .u64 ((UInt64.toNat (y &&& (4294967295 : UInt64)) : Nat) : Int)), (9, .int .u64 ((UInt64.toNat (y >>> UInt64.ofNat 32) : Nat) : Int)), (11, .int .u64 ((UInt64.toNat (((x >>> UInt64.ofNat 32) * (y &&& (4294967295 : UInt64))) + (((x &&& (4294967295 : UInt64)) * (y &&& (4294967295 : UInt64))) >>> UInt64.ofNat 32)) : Nat) : Int)), (12, .int .u64 ((UInt64.toNat (((((x >>> UInt64.ofNat 32) * (y &&& (4294967295 : UInt64))) + (((x &&& (4294967295 : UInt64)) * (y &&& (4294967295 : UInt64))) >>> UInt64.ofNat 32)) &&& (4294967295 : UInt64)) + ((x &&& (4294967295 : UInt64)) * (y >>> UInt64.ofNat 32))) : Nat) : Int)), (13, .int .u64 ((UInt64.toNat ((((x >>> UInt64.ofNat 32) * (y &&& (4294967295 : UInt64))) + (((x &&& (4294967295 : UInt64)) * (y &&& (4294967295 : UInt64))) >>> UInt64.ofNat 32)) >>> UInt64.ofNat 32) : Nat) : Int)), (42, .int .u64 (IntKind.wrap .u64 (((UInt64.toNat (x >>> UInt64.ofNat 32) : Nat) : Int) * ((UInt64.toNat (y >>> UInt64.ofNat 32) : Nat) : Int))))] [.int .u64 ((UInt64.toNat (x >>> UInt64.ofNat 32) : Nat) : Int), .int .u64 ((UInt64.toNat (y >>> UInt64.ofNat 32) : Nat) : Int), .int .u64 (IntKind.wrap .u64 (((UInt64.toNat (x >>> UInt64.ofNat 32) : Nat) : Int) * ((UInt64.toNat (y >>> UInt64.ofNat 32) : Nat) : Int)))] 3 En44 (by kernel_rfl) (by kernel_rfl) rfl ?_
 intro ac45 En46
 rw [Go.Dbr.u64_mul (a := ((UInt64.toNat (x >>> UInt64.ofNat 32) : Nat) : Int)) (b := ((UInt64.toNat (y >>> UInt64.ofNat 32) : Nat) : Int)) (x := x >>> UInt64.ofNat 32) (y := y >>> UInt64.ofNat 32) rfl rfl] at En46
 refine d_pures [(0, uv64 x), (1, uv64 y), (4, .int .u64 0), (5, .int .u64 0), (6, .int .u64 ((UInt64.toNat (x &&& (4294967295 : UInt64)) : Nat) : Int)), (7, .int .u64 ((UInt64.toNat (x >>> UInt64.ofNat 32) : Nat) : Int)), (8, .int .u64 ((UInt64.toNat (y &&& (4294967295 : UInt64)) : Nat) : Int)), (9, .int .u64 ((UInt64.toNat (y >>> UInt64.ofNat 32) : Nat) : Int)), (11, .int .u64 ((UInt64.toNat (((x >>> UInt64.ofNat 32) * (y &&& (4294967295 : UInt64))) + (((x &&& (4294967295 : UInt64)) * (y &&& (4294967295 : UInt64))) >>> UInt64.ofNat 32)) : Nat) : Int)), (12, .int .u64 ((UInt64.toNat (((((x >>> UInt64.ofNat 32) * (y &&& (4294967295 : UInt64))) + (((x &&& (4294967295 : UInt64)) * (y &&& (4294967295 : UInt64))) >>> UInt64.ofNat 32)) &&& (4294967295 : UInt64)) + ((x &&& (4294967295 : UInt64)) * (y >>> UInt64.ofNat 32))) : Nat) : Int)), (44, .int .u64 (IntKind.wrap .u64 (((UInt64.toNat ((x >>> UInt64.ofNat 32) * (y >>> UInt64.ofNat 32)) : Nat) : Int) + ((UInt64.toNat ((((x >>> UInt64.ofNat 32) * (y &&& (4294967295 : UInt64))) + (((x &&& (4294967295 : UInt64)) * (y &&& (4294967295 : UInt64))) >>> UInt64.ofNat 32)) >>> UInt64.ofNat 32) : Nat) : Int))))] [.int .u64 ((UInt64.toNat ((((x >>> UInt64.ofNat 32) * (y &&& (4294967295 : UInt64))) + (((x &&& (4294967295 : UInt64)) * (y &&& (4294967295 : UInt64))) >>> UInt64.ofNat 32)) >>> UInt64.ofNat 32) : Nat) : Int), .int .u64 (IntKind.wrap .u64 (((UInt64.toNat ((x >>> UInt64.ofNat 32) * (y >>> UInt64.ofNat 32)) : Nat) : Int) + ((UInt64.toNat ((((x >>> UInt64.ofNat 32) * (y &&& (4294967295 : UInt64))) + (((x &&& (4294967295 : UInt64)) * (y &&& (4294967295 : UInt64))) >>> UInt64.ofNat 32)) >>> UInt64.ofNat 32) : Nat) : Int)))] 5 En46 (by kernel_rfl) (by kernel_rfl) rfl ?_
 intro ac47 En48
 rw [Go.Dbr.u64_add (a := ((UInt64.toNat ((x >>> UInt64.ofNat 32) * (y >>> UInt64.ofNat 32)) : Nat) : Int)) (b := ((UInt64.toNat ((((x >>> UInt64.ofNat 32) * (y &&& (4294967295 : UInt64))) + (((x &&& (4294967295 : UInt64)) * (y &&& (4294967295 : UInt64))) >>> UInt64.ofNat 32)) >>> UInt64.ofNat 32) : Nat) : Int)) (x := (x >>> UInt64.ofNat 32) * (y >>> UInt64.ofNat 32)) (y := (((x >>> UInt64.ofNat 32) * (y &&& (4294967295 : UInt64))) + (((x &&& (4294967295 : UInt64)) * (y &&& (4294967295 : UInt64))) >>> UInt64.ofNat 32)) >>> UInt64.ofNat 32) rfl rfl] at En48
 refine d_pures [(0, uv64 x), (1, uv64 y), (4, .int .u64 0), (5, .int .u64 0), (6, .int .u64 ((UInt64.toNat (x &&& (4294967295 : UInt64)) : Nat) : Int)), (7, .int .u64 ((UInt64.toNat (x >>> UInt64.ofNat 32) : Nat) : Int)), (8, .int .u64 ((UInt64.toNat (y &&& (4294967295 : UInt64)) : Nat) : Int)), (9, .int .u64 ((UInt64.toNat (y >>> UInt64.ofNat 32) : Nat) : Int)), (11, .int .u64 ((UInt64.toNat (((x >>> UInt64.ofNat 32) * (y &&& (4294967295 : UInt64))) + (((x &&& (4294967295 : UInt64)) * (y &&& (4294967295 : UInt64))) >>> UInt64.ofNat 32)) : Nat) : Int)), (12, .int .u64 ((UInt64.toNat (((((x >>> UInt64.ofNat 32) * (y &&& (4294967295 : UInt64))) + (((x &&& (4294967295 : UInt64)) * (y &&& (4294967295 : UInt64))) >>> UInt64.ofNat 32)) &&& (4294967295 : UInt64)) + ((x &&& (4294967295 : UInt64)) * (y >>> UInt64.ofNat 32))) : Nat) : Int)), (44, .int .u64 ((UInt64.toNat (((x >>> UInt64.ofNat 32) * (y >>> UInt64.ofNat 32)) + ((((x >>> UInt64.ofNat 32) * (y &&& (4294967295 : UInt64))) + (((x &&& (4294967295 : UInt64)) * (y &&& (4294967295 : UInt64))) >>> UInt64.ofNat 32)) >>> UInt64.ofNat 32)) : Nat) : Int)), (46, .int .u64 (Int.fdiv ((UInt64.toNat (((((x >>> UInt64.ofNat 32) * (y &&& (4294967295 : UInt64))) + (((x &&& (4294967295 : UInt64)) * (y &&& (4294967295 : UInt64))) >>> UInt64.ofNat 32)) &&& (4294967295 : UInt64)) + ((x &&& (4294967295 : UInt64)) * (y >>> UInt64.ofNat 32))) : Nat) : Int) (2 ^ 32)))] [.int .u64 ((UInt64.toNat (((((x >>> UInt64.ofNat 32) * (y &&& (4294967295 : UInt64))) + (((x &&& (4294967295 : UInt64)) * (y &&& (4294967295 : UInt64))) >>> UInt64.ofNat 32)) &&& (4294967295 : UInt64)) + ((x &&& (4294967295 : UInt64)) * (y >>> UInt64.ofNat 32))) : Nat) : Int), .int .u64 (Int.fdiv ((UInt64.toNat (((((x >>> UInt64.ofNat 32) * (y &&& (4294967295 : UInt64))) + (((x &&& (4294967295 : UInt64)) * (y &&& (4294967295 : UInt64))) >>> UInt64.ofNat 32)) &&& (4294967295 : UInt64)) + ((x &&& (4294967295 : UInt64)) * (y >>> UInt64.ofNat 32))) : Nat) : Int) (2 ^ 32))] 7 En48 (by kernel_rfl) (by kernel_rfl) rfl ?_
 intro ac49 En50
 rw [Go.Dbr.u64_shr (a := ((UInt64.toNat (((((x >>> UInt64.ofNat 32) * (y &&& (4294967295 : UInt64))) + (((x &&& (4294967295 : UInt64)) * (y &&& (4294967295 : UInt64))) >>> UInt64.ofNat 32)) &&& (4294967295 : UInt64)) + ((x &&& (4294967295 : UInt64)) * (y >>> UInt64.ofNat 32))) : Nat) : Int)) (x := ((((x >>> UInt64.ofNat 32) * (y &&& (4294967295 : UInt64))) + (((x &&& (4294967295 : UInt64)) * (y &&& (4294967295 : UInt64))) >>> UInt64.ofNat 32)) &&& (4294967295 : UInt64)) + ((x &&& (4294967295 : UInt64)) * (y >>> UInt64.ofNat 32))) (n := 32) rfl (by decide)] at En50
 refine d_pures [(0, uv64 x), (1, uv64 y), (4, .int .u64 0), (5, .int .u64 0), (6, .int .u64 ((UInt64.toNat (x &&& (4294967295 : UInt64)) : Nat) : Int)), (7, .int .u64 ((UInt64.toNat (x >>> UInt64.ofNat 32) : Nat) : Int)), (8, .int .u64 ((UInt64.toNat (y &&& (4294967295 : UInt64)) : Nat) : Int)), (9, .int .u64 ((UInt64.toNat (y >>> UInt64.ofNat 32) : Nat) : Int)), (11, .int .u64 ((UInt64.toNat (((x >>> UInt64.ofNat 32) * (y &&& (4294967295 : UInt64))) + (((x &&& (4294967295 : UInt64)) * (y &&& (4294967295 : UInt64))) >>> UInt64.ofNat 32)) : Nat) : Int)), (12, .int .u64 ((UInt64.toNat (((((x >>> UInt64.ofNat 32) * (y &&& (4294967295 : UInt64))) + (((x &&& (4294967295 : UInt64)) * (y &&& (4294967295 : UInt64))) >>> UInt64.ofNat 32)) &&& (4294967295 : UInt64)) + ((x &&& (4294967295 : UInt64)) * (y >>> UInt64.ofNat 32))) : Nat) : Int)), (47, .int .u64 (IntKind.wrap .u64 (((UInt64.toNat (((x >>> UInt64.ofNat 32) * (y >>> UInt64.ofNat 32)) + ((((x >>> UInt64.ofNat 32) * (y &&& (4294967295 : UInt64))) + (((x &&& (4294967295 : UInt64)) * (y &&& (4294967295 : UInt64))) >>> UInt64.ofNat 32)) >>> UInt64.ofNat 32)) : Nat) : Int) + ((UInt64.toNat ((((((x >>> UInt64.ofNat 32) * (y &&& (4294967295 : UInt64))) + (((x &&& (4294967295 : UInt64)) * (y &&& (4294967295 : UInt64))) >>> UInt64.ofNat 32)) &&& (4294967295 : UInt64)) + ((x &&& (4294967295 : UInt64)) * (y >>> UInt64.ofNat 32))) >>> UInt64.ofNat 32) : Nat) : Int))))] [.int .u64 (IntKind.wrap .u64 (((UInt64.toNat (((x >>> UInt64.ofNat 32) * (y >>> UInt64.ofNat 32)) + ((((x >>> UInt64.ofNat 32) * (y &&& (4294967295 : UInt64))) + (((x &&& (4294967295 : UInt64)) * (y &&& (4294967295 : UInt64))) >>> UInt64.ofNat 32)) >>> UInt64.ofNat 32)) : Nat) : Int) + ((UInt64.toNat ((((((x >>> UInt64.ofNat 32) * (y &&& (4294967295 : UInt64))) + (((x &&& (4294967295 : UInt64)) * (y &&& (4294967295 : UInt64))) >>> UInt64.ofNat 32)) &&& (4294967295 : UInt64)) + ((x &&& (4294967295 : UInt64)) * (y >>> UInt64.ofNat 32))) >>> UInt64.ofNat 32) : Nat) : Int)))] 8 En50 (by kernel_rfl) (by kernel_rfl) rfl ?_
 intro ac51 En52
 rw [Go.Dbr.u64_add (a := ((UInt64.toNat (((x >>> UInt64.ofNat 32) * (y >>> UInt64.ofNat 32)) + ((((x >>> UInt64.ofNat 32) * (y &&& (4294967295 : UInt64))) + (((x &&& (4294967295 : UInt64)) * (y &&& (4294967295 : UInt64))) >>> UInt64.ofNat 32)) >>> UInt64.ofNat 32)) : Nat) : Int)) (b := ((UInt64.toNat ((((((x >>> UInt64.ofNat 32) * (y &&& (4294967295 : UInt64))) + (((x &&& (4294967295 : UInt64)) * (y &&& (4294967295 : UInt64))) >>> UInt64.ofNat 32)) &&& (4294967295 : UInt64)) + ((x &&& (4294967295 : UInt64)) * (y >>> UInt64.ofNat 32))) >>> UInt64.ofNat 32) : Nat) : Int)) (x := ((x >>> UInt64.ofNat 32) * (y >>> UInt64.ofNat 32)) + ((((x >>> UInt64.ofNat 32) * (y &&& (4294967295 : UInt64))) + (((x &&& (4294967295 : UInt64)) * (y &&& (4294967295 : UInt64))) >>> UInt64.ofNat 32)) >>> UInt64.ofNat 32)) (y := (((((x >>> UInt64.ofNat 32) * (y &&& (4294967295 : UInt64))) + (((x &&& (4294967295 : UInt64)) * (y &&& (4294967295 : UInt64))) >>> UInt64.ofNat 32)) &&& (4294967295 : UInt64)) + ((x &&& (4294967295 : UInt64)) * (y >>> UInt64.ofNat 32))) >>> UInt64.ofNat 32) rfl rfl] at En52
 refine d_pures [(0, uv64 x), (1, uv64 y), (4, .int .u64 ((UInt64.toNat ((((x >>> UInt64.ofNat 32) * (y >>> UInt64.ofNat 32)) + ((((x >>> UInt64.ofNat 32) * (y &&& (4294967295 : UInt64))) + (((x &&& (4294967295 : UInt64)) * (y &&& (4294967295 : UInt64))) >>> UInt64.ofNat 32)) >>> UInt64.ofNat 32)) + ((((((x >>> UInt64.ofNat 32) * (y &&& (4294967295 : UInt64))) + (((x &&& (4294967295 : UInt64)) * (y &&& (4294967295 : UInt64))) >>> UInt64.ofNat 32)) &&& (4294967295 : UInt64)) + ((x &&& (4294967295 : UInt64)) * (y >>> UInt64.ofNat 32))) >>> UInt64.ofNat 32)) : Nat) : Int)), (5, .int .u64 0), (6, .int .u64 ((UInt64.toNat (x &&& (4294967295 : UInt64)) : Nat) : Int)), (7, .int .u64 ((UInt64.toNat (x >>> UInt64.ofNat 32) : Nat) : Int)), (8, .int .u64 ((UInt64.toNat (y &&& (4294967295 : UInt64)) : Nat) : Int)), (9, .int .u64 ((UInt64.toNat (y >>> UInt64.ofNat 32) : Nat) : Int)), (11, .int .u64 ((UInt64.toNat (((x >>> UInt64.ofNat 32) * (y &&& (4294967295 : UInt64))) + (((x &&& (4294967295 : UInt64)) * (y &&& (4294967295 : UInt64))) >>> UInt64.ofNat 32)) : Nat) : Int)), (12, .int .u64 ((UInt64.toNat (((((x >>> UInt64.ofNat 32) * (y &&& (4294967295 : UInt64))) + (((x &&& (4294967295 : UInt64)) * (y &&& (4294967295 : UInt64))) >>> UInt64.ofNat 32)) &&& (4294967295 : UInt64)) + ((x &&& (4294967295 : UInt64)) * (y >>> UInt64.ofNat 32))) : Nat) : Int))] [.int .u64 ((UInt64.toNat ((((x >>> UInt64.ofNat 32) * (y >>> UInt64.ofNat 32)) + ((((x >>> UInt64.ofNat 32) * (y &&& (4294967295 : UInt64))) + (((x &&& (4294967295 : UInt64)) * (y &&& (4294967295 : UInt64))) >>> UInt64.ofNat 32)) >>> UInt64.ofNat 32)) + ((((((x >>> UInt64.ofNat 32) * (y &&& (4294967295 : UInt64))) + (((x &&& (4294967295 : UInt64)) * (y &&& (4294967295 : UInt64))) >>> UInt64.ofNat 32)) &&& (4294967295 : UInt64)) + ((x &&& (4294967295 : UInt64)) * (y >>> UInt64.ofNat 32))) >>> UInt64.ofNat 32)) : Nat) : Int)] 9 En52 (by kernel_rfl) (by kernel_rfl) rfl ?_
 intro ac53 En54
 refine from_end (by kernel_rfl) ?_
 refine then_normal ?_
 refine wp_seq ?_
 refine region_from ?_
 refine d_pures [(0, uv64 x), (1, uv64 y), (4, .int .u64 ((UInt64.toNat ((((x >>> UInt64.ofNat 32) * (y >>> UInt64.ofNat 32)) + ((((x >>> UInt64.ofNat 32) * (y &&& (4294967295 : UInt64))) + (((x &&& (4294967295 : UInt64)) * (y &&& (4294967295 : UInt64))) >>> UInt64.ofNat 32)) >>> UInt64.ofNat 32)) + ((((((x >>> UInt64.ofNat 32) * (y &&& (4294967295 : UInt64))) + (((x &&& (4294967295 : UInt64)) * (y &&& (4294967295 : UInt64))) >>> UInt64.ofNat 32)) &&& (4294967295 : UInt64)) + ((x &&& (4294967295 : UInt64)) * (y >>> UInt64.ofNat 32))) >>> UInt64.ofNat 32)) : Nat) : Int)), (5, .int .u64 0), (6, .int .u64 ((UInt64.toNat (x &&& (4294967295 : UInt64)) : Nat) : Int)), (7, .int .u64 ((UInt64.toNat (x >>> UInt64.ofNat 32) : Nat) : Int)), (8, .int .u64 ((UInt64.toNat (y &&& (4294967295 : UInt64)) : Nat) : Int)), (9, .int .u64 ((UInt64.toNat (y >>> UInt64.ofNat 32) : Nat) : Int)), (11, .int .u64 ((UInt64.toNat (((x >>> UInt64.ofNat 32) * (y &&& (4294967295 : UInt64))) + (((x &&& (4294967295 : UInt64)) * (y &&& (4294967295 : UInt64))) >>> UInt64.ofNat 32)) : Nat) : Int)), (12, .int .u64 ((UInt64.toNat (((((x >>> UInt64.ofNat 32) * (y &&& (4294967295 : UInt64))) + (((x &&& (4294967295 : UInt64)) * (y &&& (4294967295 : UInt64))) >>> UInt64.ofNat 32)) &&& (4294967295 : UInt64)) + ((x &&& (4294967295 : UInt64)) * (y >>> UInt64.ofNat 32))) : Nat) : Int)), (50, .int .u64 (IntKind.wrap .u64 (((UInt64.toNat x : Nat) : Int) * ((UInt64.toNat y : Nat) : Int))))] [uv64 x, uv64 y, .int .u64 (IntKind.wrap .u64 (((UInt64.toNat x : Nat) : Int) * ((UInt64.toNat y : Nat) : Int)))] 3 En54 (by kernel_rfl) (by kernel_rfl) rfl ?_
 intro ac55 En56
 rw [Go.Dbr.u64_mul (a := ((UInt64.toNat x : Nat) : Int)) (b := ((UInt64.toNat y : Nat) : Int)) (x := x) (y := y) rfl rfl] at En56
 refine d_pures [(0, uv64 x), (1, uv64 y), (4, .int .u64 ((UInt64.toNat ((((x >>> UInt64.ofNat 32) * (y >>> UInt64.ofNat 32)) + ((((x >>> UInt64.ofNat 32) * (y &&& (4294967295 : UInt64))) + (((x &&& (4294967295 : UInt64)) * (y &&& (4294967295 : UInt64))) >>> UInt64.ofNat 32)) >>> UInt64.ofNat 32)) + ((((((x >>> UInt64.ofNat 32) * (y &&& (4294967295 : UInt64))) + (((x &&& (4294967295 : UInt64)) * (y &&& (4294967295 : UInt64))) >>> UInt64.ofNat 32)) &&& (4294967295 : UInt64)) + ((x &&& (4294967295 : UInt64)) * (y >>> UInt64.ofNat 32))) >>> UInt64.ofNat 32)) : Nat) : Int)), (5, .int .u64 ((UInt64.toNat (x * y) : Nat) : Int)), (6, .int .u64 ((UInt64.toNat (x &&& (4294967295 : UInt64)) : Nat) : Int)), (7, .int .u64 ((UInt64.toNat (x >>> UInt64.ofNat 32) : Nat) : Int)), (8, .int .u64 ((UInt64.toNat (y &&& (4294967295 : UInt64)) : Nat) : Int)), (9, .int .u64 ((UInt64.toNat (y >>> UInt64.ofNat 32) : Nat) : Int)), (11, .int .u64 ((UInt64.toNat (((x >>> UInt64.ofNat 32) * (y &&& (4294967295 : UInt64))) + (((x &&& (4294967295 : UInt64)) * (y &&& (4294967295 : UInt64))) >>> UInt64.ofNat 32)) : Nat) : Int)), (12, .int .u64 ((UInt64.toNat (((((x >>> UInt64.ofNat 32) * (y &&& (4294967295 : UInt64))) + (((x &&& (4294967295 : UInt64)) * (y &&& (4294967295 : UInt64))) >>> UInt64.ofNat 32)) &&& (4294967295 : UInt64)) + ((x &&& (4294967295 : UInt64)) * (y >>> UInt64.ofNat 32))) : Nat) : Int))] [.int .u64 ((UInt64.toNat (x * y) : Nat) : Int)] 4 En56 (by kernel_rfl) (by kernel_rfl) rfl ?_
 intro ac57 En58
 refine from_end (by kernel_rfl) ?_
 refine then_normal ?_
 refine wp_ret ?_
 refine d_ret2 (t := 4) (u := 5) (v := .int .u64 ((UInt64.toNat ((((x >>> UInt64.ofNat 32) * (y >>> UInt64.ofNat 32)) + ((((x >>> UInt64.ofNat 32) * (y &&& (4294967295 : UInt64))) + (((x &&& (4294967295 : UInt64)) * (y &&& (4294967295 : UInt64))) >>> UInt64.ofNat 32)) >>> UInt64.ofNat 32)) + ((((((x >>> UInt64.ofNat 32) * (y &&& (4294967295 : UInt64))) + (((x &&& (4294967295 : UInt64)) * (y &&& (4294967295 : UInt64))) >>> UInt64.ofNat 32)) &&& (4294967295 : UInt64)) + ((x &&& (4294967295 : UInt64)) * (y >>> UInt64.ofNat 32))) >>> UInt64.ofNat 32)) : Nat) : Int)) (x := .int .u64 ((UInt64.toNat (x * y) : Nat) : Int)) En58 (by kernel_rfl) (by kernel_rfl) (by kernel_rfl) ?_
 have e : (((x >>> UInt64.ofNat 32) * (y >>> UInt64.ofNat 32)) + ((((x >>> UInt64.ofNat 32) * (y &&& (4294967295 : UInt64))) + (((x &&& (4294967295 : UInt64)) * (y &&& (4294967295 : UInt64))) >>> UInt64.ofNat 32)) >>> UInt64.ofNat 32)) + ((((((x >>> UInt64.ofNat 32) * (y &&& (4294967295 : UInt64))) + (((x &&& (4294967295 : UInt64)) * (y &&& (4294967295 : UInt64))) >>> UInt64.ofNat 32)) &&& (4294967295 : UInt64)) + ((x &&& (4294967295 : UInt64)) * (y >>> UInt64.ofNat 32))) >>> UInt64.ofNat 32) = mulHi x y := mul_high x y
 exact ⟨by rw [e], Hv0.pick [] (by kernel_rfl) (by decide)⟩

theorem plus_go (w : World) (l : List UInt64) (hl : List.length l = 3) (lo hi top : UInt64) : Calls Try.prog 26 #[.agg (List.toArray (u64s l)), uv64 lo, uv64 hi, uv64 top] w fun e w' => e = .returned (.agg (List.toArray (u64s (plusF l lo hi top)))) ∧ Ev w [] w' [] := by
 refine d_start [(0, .agg (List.toArray (u64s l))), (1, uv64 lo), (2, uv64 hi), (3, uv64 top)] 35 Go.Proofs.Try.func26 Go.Proofs.Try.ntmps26 rfl (by kernel_rfl) (by kernel_rfl) ?_
 intro act0 En0
 have Hv0 : Ev w [] w [] := Ev.refl (Heap.nil _)
 refine wp_seq ?_
 refine region_from ?_
 refine from_op (by kernel_rfl) ?_
 refine op_newbox (d := some 4) (T := 54) (v := .agg (List.toArray (u64s l))) (cs := u64s l) En0 (by kernel_rfl) rfl Hv0 ?_
 intro ac2 wo3 bk1 En4 Hv5
 refine from_op (by kernel_rfl) ?_
 refine op_alloc (d := some 8) (T := 54) (x := .tuple #[]) (z := .agg (List.toArray (u64s (List.replicate 3 0)))) (cs := u64s (List.replicate 3 0)) En4 (by kernel_rfl) (by kernel_rfl) (by kernel_rfl) Hv5 ?_
 intro ac7 wo8 bk6 En9 Hv10
 refine from_end (by kernel_rfl) ?_
 refine then_normal ?_
 refine wp_seq ?_
 refine region_from ?_
 refine d_pures [(1, uv64 lo), (2, uv64 hi), (3, uv64 top), (4, pt bk1), (8, pt bk6), (9, .int .u64 0)] [.int .u64 0] 1 En9 (by kernel_rfl) (by kernel_rfl) rfl ?_
 intro ac11 En12
 refine from_end (by kernel_rfl) ?_
 refine then_normal ?_
 refine wp_seq ?_
 refine region_from ?_
 refine from_op (by kernel_rfl) ?_
 refine op_val (d := some 11) (x := Instr.indexAt 54 (pt bk1) (.int .i64 0)) (v := pt bk1) En12 (by kernel_rfl) (Go.Dbr.run_indexarr (e := 49) (sz := 1) (m := 3) (j := 0) (o := 0) (by kernel_rfl) (by kernel_rfl) (by omega) (by omega) (by omega) _) ?_
 intro ac13 En14
 refine from_op (by kernel_rfl) ?_
 have hb15 : 0 < List.length l := by rw [hl]; omega
 refine op_loadbox (d := some 12) (t := 49) (b := bk1) (off := 0) (k := 0) (v := .int .u64 ((UInt64.toNat (List.getD l 0 0) : Nat) : Int)) En14 (by kernel_rfl) Hv10 rfl (u64s_getD hb15) (by kernel_rfl) ?_
 intro ac16 En17
 refine d_pures [(2, uv64 hi), (3, uv64 top), (4, pt bk1), (8, pt bk6), (9, .int .u64 0), (12, .int .u64 ((UInt64.toNat (List.getD l 0 0) : Nat) : Int)), (13, uv64 lo)] [uv64 lo] 3 En17 (by kernel_rfl) (by kernel_rfl) rfl ?_
 intro ac18 En19
 refine from_op (by kernel_rfl) ?_
 refine op_ext (d := some 14) (f := 34) (args := #[.int .u64 ((UInt64.toNat (List.getD l 0 0) : Nat) : Int), uv64 lo, .int .u64 ((UInt64.toNat (0 : UInt64) : Nat) : Int)]) (v := .tuple #[.int .u64 ((UInt64.toNat (addLo (List.getD l 0 0) lo (0 : UInt64)) : Nat) : Int), .int .u64 ((UInt64.toNat (addHi (List.getD l 0 0) lo (0 : UInt64)) : Nat) : Int)]) En19 (by kernel_rfl) (Go.Dbr.ext_add64 Go.Proofs.Try.func34 (by kernel_rfl) (by kernel_rfl) (by kernel_rfl) (by kernel_rfl) (List.getD l 0 0) lo (0 : UInt64) (by decide)) ?_
 intro ac20 En21
 refine d_pures [(2, uv64 hi), (3, uv64 top), (4, pt bk1), (8, pt bk6), (9, .int .u64 0), (15, .int .u64 ((UInt64.toNat (addLo (List.getD l 0 0) lo (0 : UInt64)) : Nat) : Int)), (16, .int .u64 ((UInt64.toNat (addHi (List.getD l 0 0) lo (0 : UInt64)) : Nat) : Int))] [.tuple #[.int .u64 ((UInt64.toNat (addLo (List.getD l 0 0) lo (0 : UInt64)) : Nat) : Int), .int .u64 ((UInt64.toNat (addHi (List.getD l 0 0) lo (0 : UInt64)) : Nat) : Int)], .int .u64 ((UInt64.toNat (addLo (List.getD l 0 0) lo (0 : UInt64)) : Nat) : Int), .int .u64 ((UInt64.toNat (addHi (List.getD l 0 0) lo (0 : UInt64)) : Nat) : Int)] 7 En21 (by kernel_rfl) (by kernel_rfl) rfl ?_
 intro ac22 En23
 refine from_op (by kernel_rfl) ?_
 refine op_val (d := some 17) (x := Instr.indexAt 54 (pt bk1) (.int .i64 0)) (v := pt bk1) En23 (by kernel_rfl) (Go.Dbr.run_indexarr (e := 49) (sz := 1) (m := 3) (j := 0) (o := 0) (by kernel_rfl) (by kernel_rfl) (by omega) (by omega) (by omega) _) ?_
 intro ac24 En25
 refine from_op (by kernel_rfl) ?_
 have hb26 : 0 < List.length l := by rw [hl]; omega
 refine op_storebox2 (d := none) (t := 49) (b := bk1) (off := 0) (k := 0) (v := .int .u64 ((UInt64.toNat (addLo (List.getD l 0 0) lo (0 : UInt64)) : Nat) : Int)) En25 (by kernel_rfl) Hv10 rfl (u64s_getD hb26) (by kernel_rfl) rfl (u64s_set _ _ _) (L' := [.box bk1 (u64s (List.set l 0 (addLo (List.getD l 0 0) lo (0 : UInt64)))) 54, .box bk6 (u64s (List.replicate 3 0)) 54]) rfl ?_
 intro ac27 wo28  En29 Hv30
 refine d_pures [(2, uv64 hi), (3, uv64 top), (4, pt bk1), (8, pt bk6), (9, .int .u64 ((UInt64.toNat (addHi (List.getD l 0 0) lo (0 : UInt64)) : Nat) : Int))] [.int .u64 ((UInt64.toNat (addHi (List.getD l 0 0) lo (0 : UInt64)) : Nat) : Int)] 10 En29 (by kernel_rfl) (by kernel_rfl) rfl ?_
 intro ac31 En32
 refine from_end (by kernel_rfl) ?_
 refine then_normal ?_
 refine wp_seq ?_
 refine region_from ?_
 refine from_op (by kernel_rfl) ?_
 refine op_val (d := some 19) (x := Instr.indexAt 54 (pt bk1) (.int .i64 1)) (v := .pointer (some ⟨bk1, 1, none⟩)) En32 (by kernel_rfl) (Go.Dbr.run_indexarr (e := 49) (sz := 1) (m := 3) (j := 1) (o := 1) (by kernel_rfl) (by kernel_rfl) (by omega) (by omega) (by omega) _) ?_
 intro ac33 En34
 refine from_op (by kernel_rfl) ?_
 have hb35 : 1 < List.length (List.set l 0 (addLo (List.getD l 0 0) lo (0 : UInt64))) := by rw [(List.length_set.trans hl)]; omega
 refine op_loadbox (d := some 20) (t := 49) (b := bk1) (off := 1) (k := 0) (v := .int .u64 ((UInt64.toNat (List.getD (List.set l 0 (addLo (List.getD l 0 0) lo (0 : UInt64))) 1 0) : Nat) : Int)) En34 (by kernel_rfl) Hv30 rfl (u64s_getD hb35) (by kernel_rfl) ?_
 intro ac36 En37
 refine d_pures [(3, uv64 top), (4, pt bk1), (8, pt bk6), (9, .int .u64 ((UInt64.toNat (addHi (List.getD l 0 0) lo (0 : UInt64)) : Nat) : Int)), (20, .int .u64 ((UInt64.toNat (List.getD (List.set l 0 (addLo (List.getD l 0 0) lo (0 : UInt64))) 1 0) : Nat) : Int)), (21, uv64 hi), (22, .int .u64 ((UInt64.toNat (addHi (List.getD l 0 0) lo (0 : UInt64)) : Nat) : Int))] [uv64 hi, .int .u64 ((UInt64.toNat (addHi (List.getD l 0 0) lo (0 : UInt64)) : Nat) : Int)] 4 En37 (by kernel_rfl) (by kernel_rfl) rfl ?_
 intro ac38 En39
 refine from_op (by kernel_rfl) ?_
 refine op_ext (d := some 23) (f := 34) (args := #[.int .u64 ((UInt64.toNat (List.getD (List.set l 0 (addLo (List.getD l 0 0) lo (0 : UInt64))) 1 0) : Nat) : Int), uv64 hi, .int .u64 ((UInt64.toNat (addHi (List.getD l 0 0) lo (0 : UInt64)) : Nat) : Int)]) (v := .tuple #[.int .u64 ((UInt64.toNat (addLo (List.getD (List.set l 0 (addLo (List.getD l 0 0) lo (0 : UInt64))) 1 0) hi (addHi (List.getD l 0 0) lo (0 : UInt64))) : Nat) : Int), .int .u64 ((UInt64.toNat (addHi (List.getD (List.set l 0 (addLo (List.getD l 0 0) lo (0 : UInt64))) 1 0) hi (addHi (List.getD l 0 0) lo (0 : UInt64))) : Nat) : Int)]) En39 (by kernel_rfl) (Go.Dbr.ext_add64 Go.Proofs.Try.func34 (by kernel_rfl) (by kernel_rfl) (by kernel_rfl) (by kernel_rfl) (List.getD (List.set l 0 (addLo (List.getD l 0 0) lo (0 : UInt64))) 1 0) hi (addHi (List.getD l 0 0) lo (0 : UInt64)) (addHi_le (by decide))) ?_
 intro ac40 En41
 refine d_pures [(3, uv64 top), (4, pt bk1), (8, pt bk6), (9, .int .u64 ((UInt64.toNat (addHi (List.getD l 0 0) lo (0 : UInt64)) : Nat) : Int)), (24, .int .u64 ((UInt64.toNat (addLo (List.getD (List.set l 0 (addLo (List.getD l 0 0) lo (0 : UInt64))) 1 0) hi (addHi (List.getD l 0 0) lo (0 : UInt64))) : Nat) : Int)), (25, .int .u64 ((UInt64.toNat (addHi (List.getD (List.set l 0 (addLo (List.getD l 0 0) lo (0 : UInt64))) 1 0) hi (addHi (List.getD l 0 0) lo (0 : UInt64))) : Nat) : Int))] [.tuple #[.int .u64 ((UInt64.toNat (addLo (List.getD (List.set l 0 (addLo (List.getD l 0 0) lo (0 : UInt64))) 1 0) hi (addHi (List.getD l 0 0) lo (0 : UInt64))) : Nat) : Int), .int .u64 ((UInt64.toNat (addHi (List.getD (List.set l 0 (addLo (List.getD l 0 0) lo (0 : UInt64))) 1 0) hi (addHi (List.getD l 0 0) lo (0 : UInt64))) : Nat) : Int)], .int .u64 ((UInt64.toNat (addLo (List.getD (List.set l 0 (addLo (List.getD l 0 0) lo (0 : UInt64))) 1 0) hi (addHi (List.getD l 0 0) lo (0 : UInt64))) : Nat) : Int), .int .u64 ((UInt64.toNat (addHi (List.getD (List.set l 0 (addLo (List.getD l 0 0) lo (0 : UInt64))) 1 0) hi (addHi (List.getD l 0 0) lo (0 : UInt64))) : Nat) : Int)] 8 En41 (by kernel_rfl) (by kernel_rfl) rfl ?_
 intro ac42 En43
 refine from_op (by kernel_rfl) ?_
 refine op_val (d := some 26) (x := Instr.indexAt 54 (pt bk1) (.int .i64 1)) (v := .pointer (some ⟨bk1, 1, none⟩)) En43 (by kernel_rfl) (Go.Dbr.run_indexarr (e := 49) (sz := 1) (m := 3) (j := 1) (o := 1) (by kernel_rfl) (by kernel_rfl) (by omega) (by omega) (by omega) _) ?_
 intro ac44 En45
 refine from_op (by kernel_rfl) ?_
 have hb46 : 1 < List.length (List.set l 0 (addLo (List.getD l 0 0) lo (0 : UInt64))) := by rw [(List.length_set.trans hl)]; omega
 refine op_storebox2 (d := none) (t := 49) (b := bk1) (off := 1) (k := 0) (v := .int .u64 ((UInt64.toNat (addLo (List.getD (List.set l 0 (addLo (List.getD l 0 0) lo (0 : UInt64))) 1 0) hi (addHi (List.getD l 0 0) lo (0 : UInt64))) : Nat) : Int)) En45 (by kernel_rfl) Hv30 rfl (u64s_getD hb46) (by kernel_rfl) rfl (u64s_set _ _ _) (L' := [.box bk1 (u64s (List.set (List.set l 0 (addLo (List.getD l 0 0) lo (0 : UInt64))) 1 (addLo (List.getD (List.set l 0 (addLo (List.getD l 0 0) lo (0 : UInt64))) 1 0) hi (addHi (List.getD l 0 0) lo (0 : UInt64))))) 54, .box bk6 (u64s (List.replicate 3 0)) 54]) rfl ?_
 intro ac47 wo48  En49 Hv50
 refine d_pures [(3, uv64 top), (4, pt bk1), (8, pt bk6), (9, .int .u64 ((UInt64.toNat (addHi (List.getD (List.set l 0 (addLo (List.getD l 0 0) lo (0 : UInt64))) 1 0) hi (addHi (List.getD l 0 0) lo (0 : UInt64))) : Nat) : Int))] [.int .u64 ((UInt64.toNat (addHi (List.getD (List.set l 0 (addLo (List.getD l 0 0) lo (0 : UInt64))) 1 0) hi (addHi (List.getD l 0 0) lo (0 : UInt64))) : Nat) : Int)] 11 En49 (by kernel_rfl) (by kernel_rfl) rfl ?_
 intro ac51 En52
 refine from_end (by kernel_rfl) ?_
 refine then_normal ?_
 refine wp_seq ?_
 refine region_from ?_
 refine from_op (by kernel_rfl) ?_
 refine op_val (d := some 27) (x := Instr.indexAt 54 (pt bk1) (.int .i64 2)) (v := .pointer (some ⟨bk1, 2, none⟩)) En52 (by kernel_rfl) (Go.Dbr.run_indexarr (e := 49) (sz := 1) (m := 3) (j := 2) (o := 2) (by kernel_rfl) (by kernel_rfl) (by omega) (by omega) (by omega) _) ?_
 intro ac53 En54
 refine from_op (by kernel_rfl) ?_
 have hb55 : 2 < List.length (List.set (List.set l 0 (addLo (List.getD l 0 0) lo (0 : UInt64))) 1 (addLo (List.getD (List.set l 0 (addLo (List.getD l 0 0) lo (0 : UInt64))) 1 0) hi (addHi (List.getD l 0 0) lo (0 : UInt64)))) := by rw [(List.length_set.trans (List.length_set.trans hl))]; omega
 refine op_loadbox (d := some 28) (t := 49) (b := bk1) (off := 2) (k := 0) (v := .int .u64 ((UInt64.toNat (List.getD (List.set (List.set l 0 (addLo (List.getD l 0 0) lo (0 : UInt64))) 1 (addLo (List.getD (List.set l 0 (addLo (List.getD l 0 0) lo (0 : UInt64))) 1 0) hi (addHi (List.getD l 0 0) lo (0 : UInt64)))) 2 0) : Nat) : Int)) En54 (by kernel_rfl) Hv50 rfl (u64s_getD hb55) (by kernel_rfl) ?_
 intro ac56 En57
 refine d_pures [(4, pt bk1), (8, pt bk6), (9, .int .u64 ((UInt64.toNat (addHi (List.getD (List.set l 0 (addLo (List.getD l 0 0) lo (0 : UInt64))) 1 0) hi (addHi (List.getD l 0 0) lo (0 : UInt64))) : Nat) : Int)), (28, .int .u64 ((UInt64.toNat (List.getD (List.set (List.set l 0 (addLo (List.getD l 0 0) lo (0 : UInt64))) 1 (addLo (List.getD (List.set l 0 (addLo (List.getD l 0 0) lo (0 : UInt64))) 1 0) hi (addHi (List.getD l 0 0) lo (0 : UInt64)))) 2 0) : Nat) : Int)), (31, .int .u64 (IntKind.wrap .u64 (((UInt64.toNat top : Nat) : Int) + ((UInt64.toNat (addHi (List.getD (List.set l 0 (addLo (List.getD l 0 0) lo (0 : UInt64))) 1 0) hi (addHi (List.getD l 0 0) lo (0 : UInt64))) : Nat) : Int))))] [uv64 top, .int .u64 ((UInt64.toNat (addHi (List.getD (List.set l 0 (addLo (List.getD l 0 0) lo (0 : UInt64))) 1 0) hi (addHi (List.getD l 0 0) lo (0 : UInt64))) : Nat) : Int), .int .u64 (IntKind.wrap .u64 (((UInt64.toNat top : Nat) : Int) + ((UInt64.toNat (addHi (List.getD (List.set l 0 (addLo (List.getD l 0 0) lo (0 : UInt64))) 1 0) hi (addHi (List.getD l 0 0) lo (0 : UInt64))) : Nat) : Int)))] 5 En57 (by kernel_rfl) (by kernel_rfl) rfl ?_
 intro ac58 En59
 rw [Go.Dbr.u64_add (a := ((UInt64.toNat top : Nat) : Int)) (b := ((UInt64.toNat (addHi (List.getD (List.set l 0 (addLo (List.getD l 0 0) lo (0 : UInt64))) 1 0) hi (addHi (List.getD l 0 0) lo (0 : UInt64))) : Nat) : Int)) (x := top) (y := addHi (List.getD (List.set l 0 (addLo (List.getD l 0 0) lo (0 : UInt64))) 1 0) hi (addHi (List.getD l 0 0) lo (0 : UInt64))) rfl rfl] at En59
 refine d_pures [(4, pt bk1), (8, pt bk6), (9, .int .u64 ((UInt64.toNat (addHi (List.getD (List.set l 0 (addLo (List.getD l 0 0) lo (0 : UInt64))) 1 0) hi (addHi (List.getD l 0 0) lo (0 : UInt64))) : Nat) : Int)), (32, .int .u64 (IntKind.wrap .u64 (((UInt64.toNat (List.getD (List.set (List.set l 0 (addLo (List.getD l 0 0) lo (0 : UInt64))) 1 (addLo (List.getD (List.set l 0 (addLo (List.getD l 0 0) lo (0 : UInt64))) 1 0) hi (addHi (List.getD l 0 0) lo (0 : UInt64)))) 2 0) : Nat) : Int) + ((UInt64.toNat (top + (addHi (List.getD (List.set l 0 (addLo (List.getD l 0 0) lo (0 : UInt64))) 1 0) hi (addHi (List.getD l 0 0) lo (0 : UInt64)))) : Nat) : Int))))] [.int .u64 (IntKind.wrap .u64 (((UInt64.toNat (List.getD (List.set (List.set l 0 (addLo (List.getD l 0 0) lo (0 : UInt64))) 1 (addLo (List.getD (List.set l 0 (addLo (List.getD l 0 0) lo (0 : UInt64))) 1 0) hi (addHi (List.getD l 0 0) lo (0 : UInt64)))) 2 0) : Nat) : Int) + ((UInt64.toNat (top + (addHi (List.getD (List.set l 0 (addLo (List.getD l 0 0) lo (0 : UInt64))) 1 0) hi (addHi (List.getD l 0 0) lo (0 : UInt64)))) : Nat) : Int)))] 6 En59 (by kernel_rfl) (by kernel_rfl) rfl ?_
 intro ac60 En61
 rw [Go.Dbr.u64_add (a := ((UInt64.toNat (List.getD (List.set (List.set l 0 (addLo (List.getD l 0 0) lo (0 : UInt64))) 1 (addLo (List.getD (List.set l 0 (addLo (List.getD l 0 0) lo (0 : UInt64))) 1 0) hi (addHi (List.getD l 0 0) lo (0 : UInt64)))) 2 0) : Nat) : Int)) (b := ((UInt64.toNat (top + (addHi (List.getD (List.set l 0 (addLo (List.getD l 0 0) lo (0 : UInt64))) 1 0) hi (addHi (List.getD l 0 0) lo (0 : UInt64)))) : Nat) : Int)) (x := List.getD (List.set (List.set l 0 (addLo (List.getD l 0 0) lo (0 : UInt64))) 1 (addLo (List.getD (List.set l 0 (addLo (List.getD l 0 0) lo (0 : UInt64))) 1 0) hi (addHi (List.getD l 0 0) lo (0 : UInt64)))) 2 0) (y := top + (addHi (List.getD (List.set l 0 (addLo (List.getD l 0 0) lo (0 : UInt64))) 1 0) hi (addHi (List.getD l 0 0) lo (0 : UInt64)))) rfl rfl] at En61
 refine from_op (by kernel_rfl) ?_
 refine op_val (d := some 33) (x := Instr.indexAt 54 (pt bk1) (.int .i64 2)) (v := .pointer (some ⟨bk1, 2, none⟩)) En61 (by kernel_rfl) (Go.Dbr.run_indexarr (e := 49) (sz := 1) (m := 3) (j := 2) (o := 2) (by kernel_rfl) (by kernel_rfl) (by omega) (by omega) (by omega) _) ?_
 intro ac62 En63
 refine from_op (by kernel_rfl) ?_
 have hb64 : 2 < List.length (List.set (List.set l 0 (addLo (List.getD l 0 0) lo (0 : UInt64))) 1 (addLo (List.getD (List.set l 0 (addLo (List.getD l 0 0) lo (0 : UInt64))) 1 0) hi (addHi (List.getD l 0 0) lo (0 : UInt64)))) := by rw [(List.length_set.trans (List.length_set.trans hl))]; omega
 refine op_storebox2 (d := none) (t := 49) (b := bk1) (off := 2) (k := 0) (v := .int .u64 ((UInt64.toNat ((List.getD (List.set (List.set l 0 (addLo (List.getD l 0 0) lo (0 : UInt64))) 1 (addLo (List.getD (List.set l 0 (addLo (List.getD l 0 0) lo (0 : UInt64))) 1 0) hi (addHi (List.getD l 0 0) lo (0 : UInt64)))) 2 0) + (top + (addHi (List.getD (List.set l 0 (addLo (List.getD l 0 0) lo (0 : UInt64))) 1 0) hi (addHi (List.getD l 0 0) lo (0 : UInt64))))) : Nat) : Int)) En63 (by kernel_rfl) Hv50 rfl (u64s_getD hb64) (by kernel_rfl) rfl (u64s_set _ _ _) (L' := [.box bk1 (u64s (List.set (List.set (List.set l 0 (addLo (List.getD l 0 0) lo (0 : UInt64))) 1 (addLo (List.getD (List.set l 0 (addLo (List.getD l 0 0) lo (0 : UInt64))) 1 0) hi (addHi (List.getD l 0 0) lo (0 : UInt64)))) 2 ((List.getD (List.set (List.set l 0 (addLo (List.getD l 0 0) lo (0 : UInt64))) 1 (addLo (List.getD (List.set l 0 (addLo (List.getD l 0 0) lo (0 : UInt64))) 1 0) hi (addHi (List.getD l 0 0) lo (0 : UInt64)))) 2 0) + (top + (addHi (List.getD (List.set l 0 (addLo (List.getD l 0 0) lo (0 : UInt64))) 1 0) hi (addHi (List.getD l 0 0) lo (0 : UInt64))))))) 54, .box bk6 (u64s (List.replicate 3 0)) 54]) rfl ?_
 intro ac65 wo66  En67 Hv68
 refine from_end (by kernel_rfl) ?_
 rw [show (List.set (List.set (List.set l 0 (addLo (List.getD l 0 0) lo (0 : UInt64))) 1 (addLo (List.getD (List.set l 0 (addLo (List.getD l 0 0) lo (0 : UInt64))) 1 0) hi (addHi (List.getD l 0 0) lo (0 : UInt64)))) 2 ((List.getD (List.set (List.set l 0 (addLo (List.getD l 0 0) lo (0 : UInt64))) 1 (addLo (List.getD (List.set l 0 (addLo (List.getD l 0 0) lo (0 : UInt64))) 1 0) hi (addHi (List.getD l 0 0) lo (0 : UInt64)))) 2 0) + (top + (addHi (List.getD (List.set l 0 (addLo (List.getD l 0 0) lo (0 : UInt64))) 1 0) hi (addHi (List.getD l 0 0) lo (0 : UInt64)))))) = (plusF l lo hi top) from (by match l, hl with | [a, b, c], _ => rfl)] at Hv68
 refine then_normal ?_
 refine wp_seq ?_
 refine region_from ?_
 refine from_op (by kernel_rfl) ?_
 refine op_loadaggbox (d := some 34) (t := 54) (b := bk1) (off := 0) (k := 0) (m := 3) (xs := u64s (plusF l lo hi top)) En67 (by kernel_rfl) Hv68 rfl (load_whole (u64s_lenh (plusF_len l lo hi top))) (u64s_lenh (plusF_len l lo hi top)) (by kernel_rfl) (by kernel_rfl) ?_
 intro ac69 En70
 refine from_op (by kernel_rfl) ?_
 refine op_storeaggbox (d := none) (t := 54) (b := bk6) (off := 0) (k := 1) (m := 3) (xs := u64s (plusF l lo hi top)) (v := .agg (List.toArray (u64s (plusF l lo hi top)))) (cs' := u64s (plusF l lo hi top)) En70 (by kernel_rfl) Hv68 rfl rfl (u64s_lenh (plusF_len l lo hi top)) (by rw [(u64s_lenh (List.length_replicate))]; decide) (by kernel_rfl) (u64s_one _) (store_whole (u64s_lenh (List.length_replicate))) (L' := [.box bk1 (u64s (plusF l lo hi top)) 54, .box bk6 (u64s (plusF l lo hi top)) 54]) rfl ?_
 intro ac71 wo72  En73 Hv74
 refine from_end (by kernel_rfl) ?_
 refine then_normal ?_
 refine wp_ret ?_
 refine d_cell1 (v := .agg (List.toArray (u64s (plusF l lo hi top)))) (t := 8) (T := 54) (ad := ⟨bk6, 0, none⟩) En73 (by kernel_rfl) (by kernel_rfl) (Ev.cellAgg (t := 54) (k := 1) (off := 0) (m := 3) (xs := u64s (plusF l lo hi top)) Hv74 rfl (load_whole (u64s_lenh (plusF_len l lo hi top))) (u64s_lenh (plusF_len l lo hi top)) (by kernel_rfl) (by kernel_rfl)) ?_
 exact ⟨rfl, Hv74.pick [] (by kernel_rfl) (by decide)⟩

theorem mac_nat {B d0 d1 d2 t1 u1 lo1 c1 lo2 c2 ab L H Q : Nat} (e1 : d1 + t1 * Q = d0 + lo1 * Q) (e2 : d2 + u1 * (Q * B) = d1 + lo2 * (Q * B)) (v1 : lo1 + B * c1 = t1 + L + 0) (v2 : lo2 + B * c2 = u1 + H + c1) (v3 : L + B * H = ab) : d2 + c2 * (Q * B * B) = d0 + ab * Q := by
  have r1 : u1 * (Q * B) = B * (u1 * Q) := by rw [← Nat.mul_assoc, Nat.mul_comm]
  have r2 : lo2 * (Q * B) = B * (lo2 * Q) := by rw [← Nat.mul_assoc, Nat.mul_comm]
  have r3 : c2 * (Q * B * B) = B * (B * (c2 * Q)) := by rw [← Nat.mul_assoc, Nat.mul_comm _ B, ← Nat.mul_assoc c2, Nat.mul_comm _ B]
  have w1 : lo1 * Q + B * (c1 * Q) = t1 * Q + L * Q := by
    have h := congrArg (· * Q) v1
    simp only [Nat.add_mul, Nat.mul_assoc, Nat.zero_mul, Nat.add_zero] at h
    exact h
  have w2 : B * (lo2 * Q) + B * (B * (c2 * Q)) = B * (u1 * Q) + B * (H * Q) + B * (c1 * Q) := by
    have h := congrArg (fun z => B * (z * Q)) v2
    simp only [Nat.add_mul, Nat.mul_add, Nat.mul_assoc] at h
    exact h
  have w3 : L * Q + B * (H * Q) = ab * Q := by
    have h := congrArg (· * Q) v3
    simp only [Nat.add_mul, Nat.mul_assoc] at h
    exact h
  rw [r1, r2] at e2
  rw [r3]
  omega
theorem mac_begin {l l1 : List UInt64} {p q : Nat} {a b : UInt64} (hl : l.length = 4) (hp : p + 1 < 4) (hq : q = B64 ^ p) (e1 : List.set l p (addLo (List.getD l p 0) (a * b) 0) = l1) :
    dv B64 (List.set l1 (p + 1) (addLo (List.getD l1 (p + 1) 0) (mulHi a b) (addHi (List.getD l p 0) (a * b) 0))) + (addHi (List.getD l1 (p + 1) 0) (mulHi a b) (addHi (List.getD l p 0) (a * b) 0)).toNat * B64 ^ (p + 2) = dv B64 l + a.toNat * b.toNat * q := by
  have hl1 : l1.length = 4 := by rw [← e1]; simpa using hl
  have d1 := dv_set B64 (addLo (List.getD l p 0) (a * b) 0) l p (by omega)
  have d2 := dv_set B64 (addLo (List.getD l1 (p + 1) 0) (mulHi a b) (addHi (List.getD l p 0) (a * b) 0)) l1 (p + 1) (by omega)
  rw [e1] at d1
  rw [hq]
  exact mac_nat d1 d2 add_val add_val mul_val
theorem mac_step {l : List UInt64} {i V : Nat} {c : UInt64} (hi : i < l.length) (h : dv B64 l + c.toNat * B64 ^ i = V) :
    dv B64 (List.set l i (addLo (List.getD l i 0) 0 c)) + (addHi (List.getD l i 0) 0 c).toNat * B64 ^ (i + 1) = V := by
  have d1 := dv_set B64 (addLo (List.getD l i 0) 0 c) l i hi
  have v1 := add_val (x := List.getD l i 0) (y := 0) (c := c)
  have e0 : (0 : UInt64).toNat = 0 := rfl
  rw [e0] at v1
  have w1 := congrArg (· * B64 ^ i) v1
  simp only [Nat.add_mul, Nat.mul_assoc, Nat.zero_mul, Nat.add_zero] at w1
  have r : (addHi (List.getD l i 0) 0 c).toNat * B64 ^ (i + 1) = B64 * ((addHi (List.getD l i 0) 0 c).toNat * B64 ^ i) := by rw [Nat.pow_succ, ← Nat.mul_assoc, Nat.mul_comm]
  rw [r]
  generalize (addHi (List.getD l i 0) 0 c).toNat * B64 ^ i = z1 at *
  generalize (addLo (List.getD l i 0) 0 c).toNat * B64 ^ i = z2 at *
  generalize (List.getD l i 0).toNat * B64 ^ i = z3 at *
  generalize c.toNat * B64 ^ i = z4 at *
  simp only [B64] at *
  omega
theorem mac_end {l : List UInt64} {i V : Nat} {c : UInt64} (hi : i ≤ 4) (h : dv B64 l + c.toNat * B64 ^ i = V) (hV : V < 115792089237316195423570985008687907853269984665640564039457584007913129639936) (hx : ¬ i < 4 ∨ c.toNat = 0) : dv B64 l = V := by
  rcases hx with h4 | h0
  · have : i = 4 := by omega
    subst this
    rcases Nat.eq_zero_or_pos c.toNat with h0 | h0
    · rw [h0] at h; omega
    · have := Nat.mul_le_mul_right (B64 ^ 4) h0
      have e4 : B64 ^ 4 = 115792089237316195423570985008687907853269984665640564039457584007913129639936 := rfl
      rw [e4] at this h
      omega
  · rw [h0] at h
    omega

theorem mac_go (w : World) (bt : Nat) (l : List UInt64) (hl : List.length l = 4) (p q : Nat) (hq : q = B64 ^ p) (a b : UInt64) (hp : p + 1 < 4) (hV : dv B64 l + UInt64.toNat a * UInt64.toNat b * q < 115792089237316195423570985008687907853269984665640564039457584007913129639936) (hH : Heap w [.box bt (u64s l) 65]) : Calls Try.prog 35 #[ni p, uv64 a, uv64 b, pt bt] w fun e w' => ∃ l', e = .returned (.tuple #[]) ∧ Ev w [.box bt (u64s l) 65] w' [.box bt (u64s l') 65] ∧ List.length l' = 4 ∧ dv B64 l' = dv B64 l + UInt64.toNat a * UInt64.toNat b * q := by
 refine d_start [(0, ni p), (1, uv64 a), (2, uv64 b), (3, pt bt)] 60 Go.Proofs.Try.func35 Go.Proofs.Try.ntmps35 rfl (by kernel_rfl) (by kernel_rfl) ?_
 intro act0 En0
 have Hv0 : Ev w [.box bt (u64s l) 65] w [.box bt (u64s l) 65] := Ev.refl (hH)
 refine wp_seq ?_
 refine region_from ?_
 refine d_pures [(0, ni p), (3, pt bt), (12, uv64 a), (13, uv64 b)] [uv64 a, uv64 b] 2 En0 (by kernel_rfl) (by kernel_rfl) rfl ?_
 intro ac1 En2
 refine from_op (by kernel_rfl) ?_
 have hM3 : Heap w [] := Hv0.heap.pick [] (by kernel_rfl) (by decide)
 refine op_call (d := some 14) (f := 36) (args := #[uv64 a, uv64 b]) En2 (by kernel_rfl) ((mul_go _ a b).mono ?_)
 rintro _ wo5 ⟨rfl, he8⟩
 refine ⟨_, rfl, ?_⟩
 intro ac4 En6
 have Hv7 : Ev w [.box bt (u64s l) 65] wo5 [.box bt (u64s l) 65] := Hv0.trans (Ev.call (R := [.box bt (u64s l) 65]) Hv0.heap [0] (by kernel_rfl) (by decide) he8)
 clear hM3 he8
 refine d_pures [(0, ni p), (3, pt bt), (7, .int .u64 ((UInt64.toNat (mulHi a b) : Nat) : Int)), (8, .int .u64 ((UInt64.toNat (a * b) : Nat) : Int))] [.tuple #[.int .u64 ((UInt64.toNat (mulHi a b) : Nat) : Int), .int .u64 ((UInt64.toNat (a * b) : Nat) : Int)], .int .u64 ((UInt64.toNat (mulHi a b) : Nat) : Int), .int .u64 ((UInt64.toNat (a * b) : Nat) : Int), .int .u64 ((UInt64.toNat (mulHi a b) : Nat) : Int), .int .u64 ((UInt64.toNat (a * b) : Nat) : Int)] 8 En6 (by kernel_rfl) (by kernel_rfl) rfl ?_
 intro ac9 En10
 refine from_end (by kernel_rfl) ?_
 refine then_normal ?_
 refine wp_seq ?_
 refine region_from ?_
 refine d_pures [(0, ni p), (3, pt bt), (7, .int .u64 ((UInt64.toNat (mulHi a b) : Nat) : Int)), (8, .int .u64 ((UInt64.toNat (a * b) : Nat) : Int)), (9, .int .u64 0)] [.int .u64 0] 1 En10 (by kernel_rfl) (by kernel_rfl) rfl ?_
 intro ac11 En12
 refine from_end (by kernel_rfl) ?_
 refine then_normal ?_
 refine wp_seq ?_
 refine region_from ?_
 refine d_pures [(0, ni p), (3, pt bt), (7, .int .u64 ((UInt64.toNat (mulHi a b) : Nat) : Int)), (8, .int .u64 ((UInt64.toNat (a * b) : Nat) : Int)), (9, .int .u64 0), (18, ni p), (19, ni p)] [ni p, ni p] 2 En12 (by kernel_rfl) (by kernel_rfl) rfl ?_
 intro ac13 En14
 refine from_op (by kernel_rfl) ?_
 refine op_val (d := some 20) (x := Instr.indexAt 65 (pt bt) (ni p)) (v := .pointer (some ⟨bt, p, none⟩)) En14 (by kernel_rfl) (Go.Dbr.run_indexarr (e := 49) (sz := 1) (m := 4) (j := p) (o := p) (by kernel_rfl) (by kernel_rfl) (by omega) (by omega) (by omega) _) ?_
 intro ac15 En16
 refine from_op (by kernel_rfl) ?_
 have hb17 : p < List.length l := by rw [hl]; omega
 refine op_loadbox (d := some 21) (t := 49) (b := bt) (off := p) (k := 0) (v := .int .u64 ((UInt64.toNat (List.getD l p 0) : Nat) : Int)) En16 (by kernel_rfl) Hv7 rfl (u64s_getD hb17) (by kernel_rfl) ?_
 intro ac18 En19
 refine d_pures [(0, ni p), (3, pt bt), (7, .int .u64 ((UInt64.toNat (mulHi a b) : Nat) : Int)), (9, .int .u64 0), (18, ni p), (21, .int .u64 ((UInt64.toNat (List.getD l p 0) : Nat) : Int)), (22, .int .u64 ((UInt64.toNat (a * b) : Nat) : Int))] [.int .u64 ((UInt64.toNat (a * b) : Nat) : Int)] 5 En19 (by kernel_rfl) (by kernel_rfl) rfl ?_
 intro ac20 En21
 refine from_op (by kernel_rfl) ?_
 refine op_ext (d := some 23) (f := 34) (args := #[.int .u64 ((UInt64.toNat (List.getD l p 0) : Nat) : Int), .int .u64 ((UInt64.toNat (a * b) : Nat) : Int), .int .u64 ((UInt64.toNat (0 : UInt64) : Nat) : Int)]) (v := .tuple #[.int .u64 ((UInt64.toNat (addLo (List.getD l p 0) (a * b) (0 : UInt64)) : Nat) : Int), .int .u64 ((UInt64.toNat (addHi (List.getD l p 0) (a * b) (0 : UInt64)) : Nat) : Int)]) En21 (by kernel_rfl) (Go.Dbr.ext_add64 Go.Proofs.Try.func34 (by kernel_rfl) (by kernel_rfl) (by kernel_rfl) (by kernel_rfl) (List.getD l p 0) (a * b) (0 : UInt64) (by decide)) ?_
 intro ac22 En23
 refine d_pures [(0, ni p), (3, pt bt), (7, .int .u64 ((UInt64.toNat (mulHi a b) : Nat) : Int)), (9, .int .u64 0), (18, ni p), (24, .int .u64 ((UInt64.toNat (addLo (List.getD l p 0) (a * b) (0 : UInt64)) : Nat) : Int)), (25, .int .u64 ((UInt64.toNat (addHi (List.getD l p 0) (a * b) (0 : UInt64)) : Nat) : Int))] [.tuple #[.int .u64 ((UInt64.toNat (addLo (List.getD l p 0) (a * b) (0 : UInt64)) : Nat) : Int), .int .u64 ((UInt64.toNat (addHi (List.getD l p 0) (a * b) (0 : UInt64)) : Nat) : Int)], .int .u64 ((UInt64.toNat (addLo (List.getD l p 0) (a * b) (0 : UInt64)) : Nat) : Int), .int .u64 ((UInt64.toNat (addHi (List.getD l p 0) (a * b) (0 : UInt64)) : Nat) : Int)] 9 En23 (by kernel_rfl) (by kernel_rfl) rfl ?_
 intro ac24 En25
 refine from_op (by kernel_rfl) ?_
 refine op_val (d := some 26) (x := Instr.indexAt 65 (pt bt) (ni p)) (v := .pointer (some ⟨bt, p, none⟩)) En25 (by kernel_rfl) (Go.Dbr.run_indexarr (e := 49) (sz := 1) (m := 4) (j := p) (o := p) (by kernel_rfl) (by kernel_rfl) (by omega) (by omega) (by omega) _) ?_
 intro ac26 En27
 refine from_op (by kernel_rfl) ?_
 have hb28 : p < List.length l := by rw [hl]; omega
 refine op_storebox2 (d := none) (t := 49) (b := bt) (off := p) (k := 0) (v := .int .u64 ((UInt64.toNat (addLo (List.getD l p 0) (a * b) (0 : UInt64)) : Nat) : Int)) En27 (by kernel_rfl) Hv7 rfl (u64s_getD hb28) (by kernel_rfl) rfl (u64s_set _ _ _) (L' := [.box bt (u64s (List.set l p (addLo (List.getD l p 0) (a * b) (0 : UInt64)))) 65]) rfl ?_
 intro ac29 wo30  En31 Hv32
 refine d_pures [(0, ni p), (3, pt bt), (7, .int .u64 ((UInt64.toNat (mulHi a b) : Nat) : Int)), (9, .int .u64 ((UInt64.toNat (addHi (List.getD l p 0) (a * b) (0 : UInt64)) : Nat) : Int))] [.int .u64 ((UInt64.toNat (addHi (List.getD l p 0) (a * b) (0 : UInt64)) : Nat) : Int)] 12 En31 (by kernel_rfl) (by kernel_rfl) rfl ?_
 intro ac33 En34
 refine from_end (by kernel_rfl) ?_
 refine then_normal ?_
 refine wp_seq ?_
 refine region_from ?_
 refine d_pures [(0, ni p), (3, pt bt), (7, .int .u64 ((UInt64.toNat (mulHi a b) : Nat) : Int)), (9, .int .u64 ((UInt64.toNat (addHi (List.getD l p 0) (a * b) (0 : UInt64)) : Nat) : Int)), (29, .int .i64 (IntKind.wrap .i64 (((p : Nat) : Int) + (1 : Int))))] [ni p, .int .i64 (IntKind.wrap .i64 (((p : Nat) : Int) + (1 : Int)))] 2 En34 (by kernel_rfl) (by kernel_rfl) rfl ?_
 intro ac35 En36
 rw [Go.Dbr.wr64 (e := ((p : Nat) : Int) + (1 : Int)) (x := ((p + 1 : Nat) : Int)) (by omega) (by omega) (by omega)] at En36
 refine d_pures [(0, ni p), (3, pt bt), (7, .int .u64 ((UInt64.toNat (mulHi a b) : Nat) : Int)), (9, .int .u64 ((UInt64.toNat (addHi (List.getD l p 0) (a * b) (0 : UInt64)) : Nat) : Int)), (29, .int .i64 ((p + 1 : Nat) : Int)), (31, .int .i64 (IntKind.wrap .i64 (((p : Nat) : Int) + (1 : Int))))] [ni p, .int .i64 (IntKind.wrap .i64 (((p : Nat) : Int) + (1 : Int)))] 4 En36 (by kernel_rfl) (by kernel_rfl) rfl ?_
 intro ac37 En38
 rw [Go.Dbr.wr64 (e := ((p : Nat) : Int) + (1 : Int)) (x := ((p + 1 : Nat) : Int)) (by omega) (by omega) (by omega)] at En38
 refine from_op (by kernel_rfl) ?_
 refine op_val (d := some 32) (x := Instr.indexAt 65 (pt bt) (.int .i64 ((p + 1 : Nat) : Int))) (v := .pointer (some ⟨bt, p + 1, none⟩)) En38 (by kernel_rfl) (Go.Dbr.run_indexarr (e := 49) (sz := 1) (m := 4) (j := p + 1) (o := p + 1) (by kernel_rfl) (by kernel_rfl) (by omega) (by omega) (by omega) _) ?_
 intro ac39 En40
 refine from_op (by kernel_rfl) ?_
 have hb41 : p + 1 < List.length (List.set l p (addLo (List.getD l p 0) (a * b) (0 : UInt64))) := by rw [(List.length_set.trans hl)]; omega
 refine op_loadbox (d := some 33) (t := 49) (b := bt) (off := p + 1) (k := 0) (v := .int .u64 ((UInt64.toNat (List.getD (List.set l p (addLo (List.getD l p 0) (a * b) (0 : UInt64))) (p + 1) 0) : Nat) : Int)) En40 (by kernel_rfl) Hv32 rfl (u64s_getD hb41) (by kernel_rfl) ?_
 intro ac42 En43
 refine d_pures [(0, ni p), (3, pt bt), (9, .int .u64 ((UInt64.toNat (addHi (List.getD l p 0) (a * b) (0 : UInt64)) : Nat) : Int)), (29, .int .i64 ((p + 1 : Nat) : Int)), (33, .int .u64 ((UInt64.toNat (List.getD (List.set l p (addLo (List.getD l p 0) (a * b) (0 : UInt64))) (p + 1) 0) : Nat) : Int)), (34, .int .u64 ((UInt64.toNat (mulHi a b) : Nat) : Int)), (35, .int .u64 ((UInt64.toNat (addHi (List.getD l p 0) (a * b) (0 : UInt64)) : Nat) : Int))] [.int .u64 ((UInt64.toNat (mulHi a b) : Nat) : Int), .int .u64 ((UInt64.toNat (addHi (List.getD l p 0) (a * b) (0 : UInt64)) : Nat) : Int)] 8 En43 (by kernel_rfl) (by kernel_rfl) rfl ?_
 intro ac44 En45
 refine from_op (by kernel_rfl) ?_
 refine op_ext (d := some 36) (f := 34) (args := #[.int .u64 ((UInt64.toNat (List.getD (List.set l p (addLo (List.getD l p 0) (a * b) (0 : UInt64))) (p + 1) 0) : Nat) : Int), .int .u64 ((UInt64.toNat (mulHi a b) : Nat) : Int), .int .u64 ((UInt64.toNat (addHi (List.getD l p 0) (a * b) (0 : UInt64)) : Nat) : Int)]) (v := .tuple #[.int .u64 ((UInt64.toNat (addLo (List.getD (List.set l p (addLo (List.getD l p 0) (a * b) (0 : UInt64))) (p + 1) 0) (mulHi a b) (addHi (List.getD l p 0) (a * b) (0 : UInt64))) : Nat) : Int), .int .u64 ((UInt64.toNat (addHi (List.getD (List.set l p (addLo (List.getD l p 0) (a * b) (0 : UInt64))) (p + 1) 0) (mulHi a b) (addHi (List.getD l p 0) (a * b) (0 : UInt64))) : Nat) : Int)]) En45 (by kernel_rfl) (Go.Dbr.ext_add64 Go.Proofs.Try.func34 (by kernel_rfl) (by kernel_rfl) (by kernel_rfl) (by kernel_rfl) (List.getD (List.set l p (addLo (List.getD l p 0) (a * b) (0 : UInt64))) (p + 1) 0) (mulHi a b) (addHi (List.getD l p 0) (a * b) (0 : UInt64)) (addHi_le (by decide))) ?_
 intro ac46 En47
 refine d_pures [(0, ni p), (3, pt bt), (9, .int .u64 ((UInt64.toNat (addHi (List.getD l p 0) (a * b) (0 : UInt64)) : Nat) : Int)), (29, .int .i64 ((p + 1 : Nat) : Int)), (37, .int .u64 ((UInt64.toNat (addLo (List.getD (List.set l p (addLo (List.getD l p 0) (a * b) (0 : UInt64))) (p + 1) 0) (mulHi a b) (addHi (List.getD l p 0) (a * b) (0 : UInt64))) : Nat) : Int)), (38, .int .u64 ((UInt64.toNat (addHi (List.getD (List.set l p (addLo (List.getD l p 0) (a * b) (0 : UInt64))) (p + 1) 0) (mulHi a b) (addHi (List.getD l p 0) (a * b) (0 : UInt64))) : Nat) : Int))] [.tuple #[.int .u64 ((UInt64.toNat (addLo (List.getD (List.set l p (addLo (List.getD l p 0) (a * b) (0 : UInt64))) (p + 1) 0) (mulHi a b) (addHi (List.getD l p 0) (a * b) (0 : UInt64))) : Nat) : Int), .int .u64 ((UInt64.toNat (addHi (List.getD (List.set l p (addLo (List.getD l p 0) (a * b) (0 : UInt64))) (p + 1) 0) (mulHi a b) (addHi (List.getD l p 0) (a * b) (0 : UInt64))) : Nat) : Int)], .int .u64 ((UInt64.toNat (addLo (List.getD (List.set l p (addLo (List.getD l p 0) (a * b) (0 : UInt64))) (p + 1) 0) (mulHi a b) (addHi (List.getD l p 0) (a * b) (0 : UInt64))) : Nat) : Int), .int .u64 ((UInt64.toNat (addHi (List.getD (List.set l p (addLo (List.getD l p 0) (a * b) (0 : UInt64))) (p + 1) 0) (mulHi a b) (addHi (List.getD l p 0) (a * b) (0 : UInt64))) : Nat) : Int)] 12 En47 (by kernel_rfl) (by kernel_rfl) rfl ?_
 intro ac48 En49
 refine from_op (by kernel_rfl) ?_
 refine op_val (d := some 39) (x := Instr.indexAt 65 (pt bt) (.int .i64 ((p + 1 : Nat) : Int))) (v := .pointer (some ⟨bt, p + 1, none⟩)) En49 (by kernel_rfl) (Go.Dbr.run_indexarr (e := 49) (sz := 1) (m := 4) (j := p + 1) (o := p + 1) (by kernel_rfl) (by kernel_rfl) (by omega) (by omega) (by omega) _) ?_
 intro ac50 En51
 refine from_op (by kernel_rfl) ?_
 have hb52 : p + 1 < List.length (List.set l p (addLo (List.getD l p 0) (a * b) (0 : UInt64))) := by rw [(List.length_set.trans hl)]; omega
 refine op_storebox2 (d := none) (t := 49) (b := bt) (off := p + 1) (k := 0) (v := .int .u64 ((UInt64.toNat (addLo (List.getD (List.set l p (addLo (List.getD l p 0) (a * b) (0 : UInt64))) (p + 1) 0) (mulHi a b) (addHi (List.getD l p 0) (a * b) (0 : UInt64))) : Nat) : Int)) En51 (by kernel_rfl) Hv32 rfl (u64s_getD hb52) (by kernel_rfl) rfl (u64s_set _ _ _) (L' := [.box bt (u64s (List.set (List.set l p (addLo (List.getD l p 0) (a * b) (0 : UInt64))) (p + 1) (addLo (List.getD (List.set l p (addLo (List.getD l p 0) (a * b) (0 : UInt64))) (p + 1) 0) (mulHi a b) (addHi (List.getD l p 0) (a * b) (0 : UInt64))))) 65]) rfl ?_
 intro ac53 wo54  En55 Hv56
 refine d_pures [(0, ni p), (3, pt bt), (9, .int .u64 ((UInt64.toNat (addHi (List.getD (List.set l p (addLo (List.getD l p 0) (a * b) (0 : UInt64))) (p + 1) 0) (mulHi a b) (addHi (List.getD l p 0) (a * b) (0 : UInt64))) : Nat) : Int))] [.int .u64 ((UInt64.toNat (addHi (List.getD (List.set l p (addLo (List.getD l p 0) (a * b) (0 : UInt64))) (p + 1) 0) (mulHi a b) (addHi (List.getD l p 0) (a * b) (0 : UInt64))) : Nat) : Int)] 15 En55 (by kernel_rfl) (by kernel_rfl) rfl ?_
 intro ac57 En58
 refine from_end (by kernel_rfl) ?_
 refine then_normal ?_
 refine wp_seq ?_
 refine region_from ?_
 refine d_pures [(0, ni p), (3, pt bt), (9, .int .u64 ((UInt64.toNat (addHi (List.getD (List.set l p (addLo (List.getD l p 0) (a * b) (0 : UInt64))) (p + 1) 0) (mulHi a b) (addHi (List.getD l p 0) (a * b) (0 : UInt64))) : Nat) : Int)), (41, .int .i64 (IntKind.wrap .i64 (((p : Nat) : Int) + (2 : Int))))] [ni p, .int .i64 (IntKind.wrap .i64 (((p : Nat) : Int) + (2 : Int)))] 2 En58 (by kernel_rfl) (by kernel_rfl) rfl ?_
 intro ac59 En60
 rw [Go.Dbr.wr64 (e := ((p : Nat) : Int) + (2 : Int)) (x := ((p + 2 : Nat) : Int)) (by omega) (by omega) (by omega)] at En60
 refine d_pures [(0, ni p), (3, pt bt), (9, .int .u64 ((UInt64.toNat (addHi (List.getD (List.set l p (addLo (List.getD l p 0) (a * b) (0 : UInt64))) (p + 1) 0) (mulHi a b) (addHi (List.getD l p 0) (a * b) (0 : UInt64))) : Nat) : Int)), (10, .int .i64 ((p + 2 : Nat) : Int))] [.int .i64 ((p + 2 : Nat) : Int)] 3 En60 (by kernel_rfl) (by kernel_rfl) rfl ?_
 intro ac61 En62
 refine from_end (by kernel_rfl) ?_
 refine then_normal ?_
 refine wp_block ?_
 refine loop_m (fun ms63 ac wo => ∃ (i : Nat) (l2 : List UInt64) (c : UInt64), ms63 = (4 - i : Nat) ∧ Env ac 60 [(0, ni p), (3, pt bt), (9, uv64 c), (10, ni i)] ∧ Ev w [.box bt (u64s l) 65] wo [.box bt (u64s l2) 65] ∧ (i ≤ 4) ∧ (List.length l2 = 4) ∧ (UInt64.toNat c ≤ 1) ∧ (dv B64 l2 + UInt64.toNat c * B64 ^ i = dv B64 l + UInt64.toNat a * UInt64.toNat b * q)) ⟨_, p + 2, List.set (List.set l p (addLo (List.getD l p 0) (a * b) (0 : UInt64))) (p + 1) (addLo (List.getD (List.set l p (addLo (List.getD l p 0) (a * b) (0 : UInt64))) (p + 1) 0) (mulHi a b) (addHi (List.getD l p 0) (a * b) (0 : UInt64))), addHi (List.getD (List.set l p (addLo (List.getD l p 0) (a * b) (0 : UInt64))) (p + 1) 0) (mulHi a b) (addHi (List.getD l p 0) (a * b) (0 : UInt64)), rfl, En62.sub (by kernel_rfl), Hv56.pick [0] (by kernel_rfl) (by decide), by omega, (List.length_set.trans (List.length_set.trans hl)), (addHi_le (addHi_le (by decide))), mac_begin hl hp hq rfl⟩ ?_
 rintro mm69 ac65 wo66 ⟨i, l2, c, rfl, En67, Hv68, hi, hl2, hc, hv2⟩
 refine wp_seq ?_
 refine wp_seq ?_
 refine region_from ?_
 refine d_pures [(0, ni p), (3, pt bt), (9, uv64 c), (10, ni i), (44, .bool (decide (((i : Nat) : Int) < (4 : Int))))] [ni i, .bool (decide (((i : Nat) : Int) < (4 : Int))), .bool (decide (((i : Nat) : Int) < (4 : Int)))] 3 En67 (by kernel_rfl) (by kernel_rfl) rfl ?_
 intro ac70 En71
 rcases Bool.eq_false_or_eq_true (decide (((i : Nat) : Int) < (4 : Int))) with hb72 | hb72
 ·
  rw [hb72] at En71
  have hp73 : ((i : Nat) : Int) < (4 : Int) := of_decide_eq_true hb72
  refine d_pures [(0, ni p), (3, pt bt), (9, uv64 c), (10, ni i), (47, .bool (decide (((UInt64.toNat c : Nat) : Int) > (0 : Int))))] [uv64 c, .bool (decide (((UInt64.toNat c : Nat) : Int) > (0 : Int))), .bool (decide (((UInt64.toNat c : Nat) : Int) > (0 : Int)))] 6 En71 (by kernel_rfl) (by kernel_rfl) rfl ?_
  intro ac74 En75
  refine from_end (by kernel_rfl) ?_
  refine then_normal ?_
  refine cond_at En75 (t := decide (((UInt64.toNat c : Nat) : Int) > (0 : Int))) (by kernel_rfl) (fun hc76 => ?_) (fun hc76 => ?_)
  ·
   replace hc76 : ((UInt64.toNat c : Nat) : Int) > (0 : Int) := of_decide_eq_true hc76
   refine wp_skip ?_
   refine then_normal ?_
   refine wp_seq ?_
   refine wp_block ?_
   refine region_from ?_
   refine d_pures [(0, ni p), (3, pt bt), (9, uv64 c), (10, ni i), (51, ni i), (52, ni i)] [ni i, ni i] 2 En75 (by kernel_rfl) (by kernel_rfl) rfl ?_
   intro ac77 En78
   refine from_op (by kernel_rfl) ?_
   refine op_val (d := some 53) (x := Instr.indexAt 65 (pt bt) (ni i)) (v := .pointer (some ⟨bt, i, none⟩)) En78 (by kernel_rfl) (Go.Dbr.run_indexarr (e := 49) (sz := 1) (m := 4) (j := i) (o := i) (by kernel_rfl) (by kernel_rfl) (by omega) (by omega) (by omega) _) ?_
   intro ac79 En80
   refine from_op (by kernel_rfl) ?_
   have hb81 : i < List.length l2 := by rw [hl2]; omega
   refine op_loadbox (d := some 54) (t := 49) (b := bt) (off := i) (k := 0) (v := .int .u64 ((UInt64.toNat (List.getD l2 i 0) : Nat) : Int)) En80 (by kernel_rfl) Hv68 rfl (u64s_getD hb81) (by kernel_rfl) ?_
   intro ac82 En83
   refine d_pures [(0, ni p), (3, pt bt), (9, uv64 c), (10, ni i), (51, ni i), (54, .int .u64 ((UInt64.toNat (List.getD l2 i 0) : Nat) : Int)), (55, uv64 c)] [uv64 c] 5 En83 (by kernel_rfl) (by kernel_rfl) rfl ?_
   intro ac84 En85
   refine from_op (by kernel_rfl) ?_
   refine op_ext (d := some 56) (f := 34) (args := #[.int .u64 ((UInt64.toNat (List.getD l2 i 0) : Nat) : Int), .int .u64 ((UInt64.toNat (0 : UInt64) : Nat) : Int), uv64 c]) (v := .tuple #[.int .u64 ((UInt64.toNat (addLo (List.getD l2 i 0) (0 : UInt64) c) : Nat) : Int), .int .u64 ((UInt64.toNat (addHi (List.getD l2 i 0) (0 : UInt64) c) : Nat) : Int)]) En85 (by kernel_rfl) (Go.Dbr.ext_add64 Go.Proofs.Try.func34 (by kernel_rfl) (by kernel_rfl) (by kernel_rfl) (by kernel_rfl) (List.getD l2 i 0) (0 : UInt64) c hc) ?_
   intro ac86 En87
   refine d_pures [(0, ni p), (3, pt bt), (9, uv64 c), (10, ni i), (51, ni i), (57, .int .u64 ((UInt64.toNat (addLo (List.getD l2 i 0) (0 : UInt64) c) : Nat) : Int)), (58, .int .u64 ((UInt64.toNat (addHi (List.getD l2 i 0) (0 : UInt64) c) : Nat) : Int))] [.tuple #[.int .u64 ((UInt64.toNat (addLo (List.getD l2 i 0) (0 : UInt64) c) : Nat) : Int), .int .u64 ((UInt64.toNat (addHi (List.getD l2 i 0) (0 : UInt64) c) : Nat) : Int)], .int .u64 ((UInt64.toNat (addLo (List.getD l2 i 0) (0 : UInt64) c) : Nat) : Int), .int .u64 ((UInt64.toNat (addHi (List.getD l2 i 0) (0 : UInt64) c) : Nat) : Int)] 9 En87 (by kernel_rfl) (by kernel_rfl) rfl ?_
   intro ac88 En89
   refine from_op (by kernel_rfl) ?_
   refine op_val (d := some 59) (x := Instr.indexAt 65 (pt bt) (ni i)) (v := .pointer (some ⟨bt, i, none⟩)) En89 (by kernel_rfl) (Go.Dbr.run_indexarr (e := 49) (sz := 1) (m := 4) (j := i) (o := i) (by kernel_rfl) (by kernel_rfl) (by omega) (by omega) (by omega) _) ?_
   intro ac90 En91
   refine from_op (by kernel_rfl) ?_
   have hb92 : i < List.length l2 := by rw [hl2]; omega
   refine op_storebox2 (d := none) (t := 49) (b := bt) (off := i) (k := 0) (v := .int .u64 ((UInt64.toNat (addLo (List.getD l2 i 0) (0 : UInt64) c) : Nat) : Int)) En91 (by kernel_rfl) Hv68 rfl (u64s_getD hb92) (by kernel_rfl) rfl (u64s_set _ _ _) (L' := [.box bt (u64s (List.set l2 i (addLo (List.getD l2 i 0) (0 : UInt64) c))) 65]) rfl ?_
   intro ac93 wo94  En95 Hv96
   refine d_pures [(0, ni p), (3, pt bt), (9, .int .u64 ((UInt64.toNat (addHi (List.getD l2 i 0) (0 : UInt64) c) : Nat) : Int)), (10, ni i)] [.int .u64 ((UInt64.toNat (addHi (List.getD l2 i 0) (0 : UInt64) c) : Nat) : Int)] 12 En95 (by kernel_rfl) (by kernel_rfl) rfl ?_
   intro ac97 En98
   refine from_end (by kernel_rfl) ?_
   refine block_normal ?_
   refine then_normal ?_
   refine region_from ?_
   refine d_pures [(0, ni p), (3, pt bt), (9, .int .u64 ((UInt64.toNat (addHi (List.getD l2 i 0) (0 : UInt64) c) : Nat) : Int)), (10, ni i), (49, .int .i64 (IntKind.wrap .i64 (((i : Nat) : Int) + (1 : Int))))] [ni i, .int .i64 (IntKind.wrap .i64 (((i : Nat) : Int) + (1 : Int)))] 2 En98 (by kernel_rfl) (by kernel_rfl) rfl ?_
   intro ac99 En100
   rw [Go.Dbr.wr64 (e := ((i : Nat) : Int) + (1 : Int)) (x := ((i + 1 : Nat) : Int)) (by omega) (by omega) (by omega)] at En100
   refine d_pures [(0, ni p), (3, pt bt), (9, .int .u64 ((UInt64.toNat (addHi (List.getD l2 i 0) (0 : UInt64) c) : Nat) : Int)), (10, .int .i64 ((i + 1 : Nat) : Int))] [.int .i64 ((i + 1 : Nat) : Int)] 3 En100 (by kernel_rfl) (by kernel_rfl) rfl ?_
   intro ac101 En102
   refine from_end (by kernel_rfl) ?_
   refine then_normal ?_
   refine ⟨_, ⟨i + 1, List.set l2 i (addLo (List.getD l2 i 0) (0 : UInt64) c), addHi (List.getD l2 i 0) (0 : UInt64) c, rfl, En102.sub (by kernel_rfl), Hv96.pick [0] (by kernel_rfl) (by decide), by omega, (List.length_set.trans hl2), addHi_le hc, mac_step (by omega) hv2⟩, ?_⟩
   omega
  ·
   replace hc76 : ¬ (((UInt64.toNat c : Nat) : Int) > (0 : Int)) := of_decide_eq_false hc76
   refine wp_exit ?_
   refine then_exit ?_
   refine then_exit ?_
   refine block_exit ?_
   refine d_end0 En75 (by kernel_rfl) ?_
   exact ⟨_, rfl, Hv68.pick [0] (by kernel_rfl) (by decide), hl2, mac_end hi hv2 hV (by first | (left; omega) | (right; omega))⟩
 ·
  rw [hb72] at En71
  have hp103 : ¬ (((i : Nat) : Int) < (4 : Int)) := of_decide_eq_false hb72
  refine d_pures [(0, ni p), (3, pt bt), (9, uv64 c), (10, ni i), (47, .bool false)] [undef, undef, .bool false] 6 En71 (by kernel_rfl) (by kernel_rfl) rfl ?_
  intro ac104 En105
  refine from_end (by kernel_rfl) ?_
  refine then_normal ?_
  refine cond_false En105 (t := false) (by kernel_rfl) rfl ?_
  refine wp_exit ?_
  refine then_exit ?_
  refine then_exit ?_
  refine block_exit ?_
  refine d_end0 En105 (by kernel_rfl) ?_
  exact ⟨_, rfl, Hv68.pick [0] (by kernel_rfl) (by decide), hl2, mac_end hi hv2 hV (by first | (left; omega) | (right; omega))⟩

end Go.Proofs.Ytnahplggflhdaaa
