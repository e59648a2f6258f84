/- Walks of layer 1: what stands around the proxy. -/
import Derived.Test.YtjocdckmgdonjaaBytes
import Derived.Test.YtjocdckmgdonjaaRows
namespace Go.Proofs.Ytjocdckmgdonjaa
open Go.Dbr
set_option maxRecDepth 100000

def afterU (a b : UInt64) : UInt64 := if a.toNat + b.toNat ≤ 9223372036854775807 then a + b else 9223372036854775807
theorem afterU_add {a b : UInt64} (h : a.toNat + b.toNat ≤ 9223372036854775807) : ((UInt64.toNat (afterU a b) : Nat) : Int) = ((UInt64.toNat (a + b) : Nat) : Int) := by
  unfold afterU
  rw [if_pos h]
theorem afterU_max {a b : UInt64} (h : 9223372036854775807 < a.toNat + b.toNat) : ((UInt64.toNat (afterU a b) : Nat) : Int) = 9223372036854775807 := by
  unfold afterU
  rw [if_neg (by omega)]
  rfl

theorem after_ref (a b : UInt64) (w : World) : Calls Try.prog 14 #[.int .u64 ((UInt64.toNat a : Nat) : Int), .int .u64 ((UInt64.toNat b : Nat) : Int)] w fun e w' => e = .returned (.int .u64 ((UInt64.toNat (afterU a b) : Nat) : Int)) ∧ Ev w [] w' [] := by
  refine d_start [(0, .int .u64 ((UInt64.toNat a : Nat) : Int)), (1, .int .u64 ((UInt64.toNat b : Nat) : Int))] 16 Go.Proofs.Try.func14 Go.Proofs.Try.ntmps14 rfl (by kernel_rfl) (by kernel_rfl) ?_
  intro act0 En0
  have Hv0 : Ev w [] w [] := Ev.refl (Heap.nil _)
  refine wp_seq ?_
  refine region_from ?_  -- region 0
  refine d_pures [(0, .int .u64 ((UInt64.toNat a : Nat) : Int)), (1, .int .u64 ((UInt64.toNat b : Nat) : Int)), (4, .int .u64 0)] [.int .u64 0] 1 En0 (by kernel_rfl) (by kernel_rfl) rfl ?_
  intro ac1 En2
  refine from_end (by kernel_rfl) ?_
  refine then_normal ?_
  refine wp_seq ?_
  refine wp_seq ?_
  refine region_from ?_  -- region 1
  refine d_pures [(0, .int .u64 ((UInt64.toNat a : Nat) : Int)), (1, .int .u64 ((UInt64.toNat b : Nat) : Int)), (4, .int .u64 0), (7, .bool (decide (((UInt64.toNat a : Nat) : Int) > (9223372036854775807 : Int))))] [.int .u64 ((UInt64.toNat a : Nat) : Int), .bool (decide (((UInt64.toNat a : Nat) : Int) > (9223372036854775807 : Int))), .bool (decide (((UInt64.toNat a : Nat) : Int) > (9223372036854775807 : Int)))] 3 En2 (by kernel_rfl) (by kernel_rfl) rfl ?_
  intro ac3 En4
  rcases Bool.eq_false_or_eq_true (decide (((UInt64.toNat a : Nat) : Int) > (9223372036854775807 : Int))) with hb5 | hb5
  · rw [hb5] at En4
    have hp6 : ((UInt64.toNat a : Nat) : Int) > (9223372036854775807 : Int) := by simpa using hb5
    refine d_pures [(0, .int .u64 ((UInt64.toNat a : Nat) : Int)), (1, .int .u64 ((UInt64.toNat b : Nat) : Int)), (4, .int .u64 0), (12, .bool true)] [undef, undef, undef, undef, .bool true] 8 En4 (by kernel_rfl) (by kernel_rfl) rfl ?_
    intro ac7 En8
    refine from_end (by kernel_rfl) ?_
    refine then_normal ?_
    refine cond_true En8 (t := true) (by kernel_rfl) rfl ?_
    refine wp_seq ?_
    refine region_from ?_  -- region 2
    refine d_pures [(0, .int .u64 ((UInt64.toNat a : Nat) : Int)), (1, .int .u64 ((UInt64.toNat b : Nat) : Int)), (4, .int .u64 9223372036854775807)] [.int .u64 9223372036854775807] 1 En8 (by kernel_rfl) (by kernel_rfl) rfl ?_
    intro ac9 En10
    refine from_end (by kernel_rfl) ?_
    refine then_normal ?_
    refine wp_ret ?_
    refine then_ret ?_
    refine d_ret1 (t := 4) (v := .int .u64 9223372036854775807) En10 (by kernel_rfl) (by kernel_rfl) ?_
    have q1 := UInt64.toNat_sub 9223372036854775807 a
    have q0 : (9223372036854775807 : UInt64).toNat = 9223372036854775807 := rfl
    have q2 := UInt64.toNat_add a b
    have q3 := a.toNat_lt
    have q4 := b.toNat_lt
    refine ⟨?_, by assumption⟩
    first | rw [afterU_max (by omega)] | rw [afterU_add (by omega)]
  · rw [hb5] at En4
    have hp11 : ¬ (((UInt64.toNat a : Nat) : Int) > (9223372036854775807 : Int)) := by simpa using hb5
    refine d_pures [(0, .int .u64 ((UInt64.toNat a : Nat) : Int)), (1, .int .u64 ((UInt64.toNat b : Nat) : Int)), (4, .int .u64 0), (7, .bool false), (8, .int .u64 ((UInt64.toNat b : Nat) : Int)), (10, .int .u64 (IntKind.wrap .u64 ((9223372036854775807 : Int) - ((UInt64.toNat a : Nat) : Int))))] [.int .u64 ((UInt64.toNat b : Nat) : Int), .int .u64 ((UInt64.toNat a : Nat) : Int), .int .u64 (IntKind.wrap .u64 ((9223372036854775807 : Int) - ((UInt64.toNat a : Nat) : Int)))] 6 En4 (by kernel_rfl) (by kernel_rfl) rfl ?_
    intro ac12 En13
    rw [Go.Dbr.u64_sub (a := (9223372036854775807 : Int)) (b := ((UInt64.toNat a : Nat) : Int)) (x := (9223372036854775807 : UInt64)) (y := a) rfl rfl] at En13
    refine d_pures [(0, .int .u64 ((UInt64.toNat a : Nat) : Int)), (1, .int .u64 ((UInt64.toNat b : Nat) : Int)), (4, .int .u64 0), (12, .bool (decide (((UInt64.toNat b : Nat) : Int) > ((UInt64.toNat ((9223372036854775807 : UInt64) - a) : Nat) : Int))))] [.bool (decide (((UInt64.toNat b : Nat) : Int) > ((UInt64.toNat ((9223372036854775807 : UInt64) - a) : Nat) : Int))), .bool (decide (((UInt64.toNat b : Nat) : Int) > ((UInt64.toNat ((9223372036854775807 : UInt64) - a) : Nat) : Int)))] 8 En13 (by kernel_rfl) (by kernel_rfl) rfl ?_
    intro ac14 En15
    refine from_end (by kernel_rfl) ?_
    refine then_normal ?_
    refine cond_at En15 (t := decide (((UInt64.toNat b : Nat) : Int) > ((UInt64.toNat ((9223372036854775807 : UInt64) - a) : Nat) : Int))) (by kernel_rfl) (fun hc16 => ?_) (fun hc16 => ?_)
    ·
      replace hc16 : ((UInt64.toNat b : Nat) : Int) > ((UInt64.toNat ((9223372036854775807 : UInt64) - a) : Nat) : Int) := by simpa using hc16
      refine wp_seq ?_
      refine region_from ?_  -- region 2
      refine d_pures [(0, .int .u64 ((UInt64.toNat a : Nat) : Int)), (1, .int .u64 ((UInt64.toNat b : Nat) : Int)), (4, .int .u64 9223372036854775807)] [.int .u64 9223372036854775807] 1 En15 (by kernel_rfl) (by kernel_rfl) rfl ?_
      intro ac17 En18
      refine from_end (by kernel_rfl) ?_
      refine then_normal ?_
      refine wp_ret ?_
      refine then_ret ?_
      refine d_ret1 (t := 4) (v := .int .u64 9223372036854775807) En18 (by kernel_rfl) (by kernel_rfl) ?_
      have q1 := UInt64.toNat_sub 9223372036854775807 a
      have q0 : (9223372036854775807 : UInt64).toNat = 9223372036854775807 := rfl
      have q2 := UInt64.toNat_add a b
      have q3 := a.toNat_lt
      have q4 := b.toNat_lt
      refine ⟨?_, by assumption⟩
      first | rw [afterU_max (by omega)] | rw [afterU_add (by omega)]
    ·
      replace hc16 : ¬ (((UInt64.toNat b : Nat) : Int) > ((UInt64.toNat ((9223372036854775807 : UInt64) - a) : Nat) : Int)) := by simpa using hc16
      refine wp_skip ?_
      refine then_normal ?_
      refine wp_seq ?_
      refine region_from ?_  -- region 3
      refine d_pures [(0, .int .u64 ((UInt64.toNat a : Nat) : Int)), (1, .int .u64 ((UInt64.toNat b : Nat) : Int)), (4, .int .u64 0), (15, .int .u64 (IntKind.wrap .u64 (((UInt64.toNat a : Nat) : Int) + ((UInt64.toNat b : Nat) : Int))))] [.int .u64 ((UInt64.toNat a : Nat) : Int), .int .u64 ((UInt64.toNat b : Nat) : Int), .int .u64 (IntKind.wrap .u64 (((UInt64.toNat a : Nat) : Int) + ((UInt64.toNat b : Nat) : Int)))] 3 En15 (by kernel_rfl) (by kernel_rfl) rfl ?_
      intro ac19 En20
      rw [Go.Dbr.u64_add (a := ((UInt64.toNat a : Nat) : Int)) (b := ((UInt64.toNat b : Nat) : Int)) (x := a) (y := b) rfl rfl] at En20
      refine d_pures [(0, .int .u64 ((UInt64.toNat a : Nat) : Int)), (1, .int .u64 ((UInt64.toNat b : Nat) : Int)), (4, .int .u64 ((UInt64.toNat (a + b) : Nat) : Int))] [.int .u64 ((UInt64.toNat (a + b) : Nat) : Int)] 4 En20 (by kernel_rfl) (by kernel_rfl) rfl ?_
      intro ac21 En22
      refine from_end (by kernel_rfl) ?_
      refine then_normal ?_
      refine wp_ret ?_
      refine d_ret1 (t := 4) (v := .int .u64 ((UInt64.toNat (a + b) : Nat) : Int)) En22 (by kernel_rfl) (by kernel_rfl) ?_
      have q1 := UInt64.toNat_sub 9223372036854775807 a
      have q0 : (9223372036854775807 : UInt64).toNat = 9223372036854775807 := rfl
      have q2 := UInt64.toNat_add a b
      have q3 := a.toNat_lt
      have q4 := b.toNat_lt
      refine ⟨?_, by assumption⟩
      first | rw [afterU_max (by omega)] | rw [afterU_add (by omega)]

theorem after_prog (a b : UInt64) (w : World) : Calls Try.prog 15 #[.int .u64 ((UInt64.toNat a : Nat) : Int), .int .u64 ((UInt64.toNat b : Nat) : Int)] w fun e w' => e = .returned (.int .u64 ((UInt64.toNat (afterU a b) : Nat) : Int)) ∧ Ev w [] w' [] := by
  refine d_start [(0, .int .u64 ((UInt64.toNat a : Nat) : Int)), (1, .int .u64 ((UInt64.toNat b : Nat) : Int))] 17 Go.Proofs.Try.func15 Go.Proofs.Try.ntmps15 rfl (by kernel_rfl) (by kernel_rfl) ?_
  intro act0 En0
  have Hv0 : Ev w [] w [] := Ev.refl (Heap.nil _)
  refine wp_seq ?_
  refine region_from ?_  -- region 0
  refine d_pures [(0, .int .u64 ((UInt64.toNat a : Nat) : Int)), (1, .int .u64 ((UInt64.toNat b : Nat) : Int)), (4, .int .u64 0)] [.int .u64 0] 1 En0 (by kernel_rfl) (by kernel_rfl) rfl ?_
  intro ac1 En2
  refine from_end (by kernel_rfl) ?_
  refine then_normal ?_
  refine wp_seq ?_
  refine wp_seq ?_
  refine region_from ?_  -- region 1
  refine d_pures [(0, .int .u64 ((UInt64.toNat a : Nat) : Int)), (4, .int .u64 0), (8, .int .u64 (IntKind.wrap .u64 (((UInt64.toNat a : Nat) : Int) + ((UInt64.toNat b : Nat) : Int))))] [.int .u64 ((UInt64.toNat a : Nat) : Int), .int .u64 ((UInt64.toNat b : Nat) : Int), .int .u64 (IntKind.wrap .u64 (((UInt64.toNat a : Nat) : Int) + ((UInt64.toNat b : Nat) : Int)))] 3 En2 (by kernel_rfl) (by kernel_rfl) rfl ?_
  intro ac3 En4
  rw [Go.Dbr.u64_add (a := ((UInt64.toNat a : Nat) : Int)) (b := ((UInt64.toNat b : Nat) : Int)) (x := a) (y := b) rfl rfl] at En4
  refine d_pures [(0, .int .u64 ((UInt64.toNat a : Nat) : Int)), (4, .int .u64 0), (5, .int .u64 ((UInt64.toNat (a + b) : Nat) : Int))] [.int .u64 ((UInt64.toNat (a + b) : Nat) : Int)] 4 En4 (by kernel_rfl) (by kernel_rfl) rfl ?_
  intro ac5 En6
  refine from_end (by kernel_rfl) ?_
  refine then_normal ?_
  refine wp_seq ?_
  refine region_from ?_  -- region 2
  refine d_pures [(0, .int .u64 ((UInt64.toNat a : Nat) : Int)), (4, .int .u64 0), (5, .int .u64 ((UInt64.toNat (a + b) : Nat) : Int)), (12, .bool (decide (((UInt64.toNat (a + b) : Nat) : Int) ≥ ((UInt64.toNat a : Nat) : Int))))] [.int .u64 ((UInt64.toNat (a + b) : Nat) : Int), .int .u64 ((UInt64.toNat a : Nat) : Int), .bool (decide (((UInt64.toNat (a + b) : Nat) : Int) ≥ ((UInt64.toNat a : Nat) : Int))), .bool (decide (((UInt64.toNat (a + b) : Nat) : Int) ≥ ((UInt64.toNat a : Nat) : Int)))] 4 En6 (by kernel_rfl) (by kernel_rfl) rfl ?_
  intro ac7 En8
  rcases Bool.eq_false_or_eq_true (decide (((UInt64.toNat (a + b) : Nat) : Int) ≥ ((UInt64.toNat a : Nat) : Int))) with hb9 | hb9
  · rw [hb9] at En8
    have hp10 : ((UInt64.toNat (a + b) : Nat) : Int) ≥ ((UInt64.toNat a : Nat) : Int) := by simpa using hb9
    refine d_pures [(0, .int .u64 ((UInt64.toNat a : Nat) : Int)), (4, .int .u64 0), (5, .int .u64 ((UInt64.toNat (a + b) : Nat) : Int)), (15, .bool (decide (((UInt64.toNat (a + b) : Nat) : Int) ≤ (9223372036854775807 : Int))))] [.int .u64 ((UInt64.toNat (a + b) : Nat) : Int), .bool (decide (((UInt64.toNat (a + b) : Nat) : Int) ≤ (9223372036854775807 : Int))), .bool (decide (((UInt64.toNat (a + b) : Nat) : Int) ≤ (9223372036854775807 : Int)))] 7 En8 (by kernel_rfl) (by kernel_rfl) rfl ?_
    intro ac11 En12
    refine from_end (by kernel_rfl) ?_
    refine then_normal ?_
    refine cond_at En12 (t := decide (((UInt64.toNat (a + b) : Nat) : Int) ≤ (9223372036854775807 : Int))) (by kernel_rfl) (fun hc13 => ?_) (fun hc13 => ?_)
    ·
      replace hc13 : ((UInt64.toNat (a + b) : Nat) : Int) ≤ (9223372036854775807 : Int) := by simpa using hc13
      refine wp_seq ?_
      refine region_from ?_  -- region 3
      refine d_pures [(0, .int .u64 ((UInt64.toNat a : Nat) : Int)), (4, .int .u64 ((UInt64.toNat (a + b) : Nat) : Int)), (5, .int .u64 ((UInt64.toNat (a + b) : Nat) : Int))] [.int .u64 ((UInt64.toNat (a + b) : Nat) : Int), .int .u64 ((UInt64.toNat (a + b) : Nat) : Int)] 2 En12 (by kernel_rfl) (by kernel_rfl) rfl ?_
      intro ac14 En15
      refine from_end (by kernel_rfl) ?_
      refine then_normal ?_
      refine wp_ret ?_
      refine then_ret ?_
      refine d_ret1 (t := 4) (v := .int .u64 ((UInt64.toNat (a + b) : Nat) : Int)) En15 (by kernel_rfl) (by kernel_rfl) ?_
      have q1 := UInt64.toNat_sub 9223372036854775807 a
      have q0 : (9223372036854775807 : UInt64).toNat = 9223372036854775807 := rfl
      have q2 := UInt64.toNat_add a b
      have q3 := a.toNat_lt
      have q4 := b.toNat_lt
      refine ⟨?_, by assumption⟩
      first | rw [afterU_max (by omega)] | rw [afterU_add (by omega)]
    ·
      replace hc13 : ¬ (((UInt64.toNat (a + b) : Nat) : Int) ≤ (9223372036854775807 : Int)) := by simpa using hc13
      refine wp_skip ?_
      refine then_normal ?_
      refine wp_seq ?_
      refine region_from ?_  -- region 4
      refine d_pures [(0, .int .u64 ((UInt64.toNat a : Nat) : Int)), (4, .int .u64 9223372036854775807), (5, .int .u64 ((UInt64.toNat (a + b) : Nat) : Int))] [.int .u64 9223372036854775807] 1 En12 (by kernel_rfl) (by kernel_rfl) rfl ?_
      intro ac16 En17
      refine from_end (by kernel_rfl) ?_
      refine then_normal ?_
      refine wp_ret ?_
      refine d_ret1 (t := 4) (v := .int .u64 9223372036854775807) En17 (by kernel_rfl) (by kernel_rfl) ?_
      have q1 := UInt64.toNat_sub 9223372036854775807 a
      have q0 : (9223372036854775807 : UInt64).toNat = 9223372036854775807 := rfl
      have q2 := UInt64.toNat_add a b
      have q3 := a.toNat_lt
      have q4 := b.toNat_lt
      refine ⟨?_, by assumption⟩
      first | rw [afterU_max (by omega)] | rw [afterU_add (by omega)]
  · rw [hb9] at En8
    have hp18 : ¬ (((UInt64.toNat (a + b) : Nat) : Int) ≥ ((UInt64.toNat a : Nat) : Int)) := by simpa using hb9
    refine d_pures [(0, .int .u64 ((UInt64.toNat a : Nat) : Int)), (4, .int .u64 0), (5, .int .u64 ((UInt64.toNat (a + b) : Nat) : Int)), (15, .bool false)] [undef, undef, .bool false] 7 En8 (by kernel_rfl) (by kernel_rfl) rfl ?_
    intro ac19 En20
    refine from_end (by kernel_rfl) ?_
    refine then_normal ?_
    refine cond_false En20 (t := false) (by kernel_rfl) rfl ?_
    refine wp_skip ?_
    refine then_normal ?_
    refine wp_seq ?_
    refine region_from ?_  -- region 4
    refine d_pures [(0, .int .u64 ((UInt64.toNat a : Nat) : Int)), (4, .int .u64 9223372036854775807), (5, .int .u64 ((UInt64.toNat (a + b) : Nat) : Int))] [.int .u64 9223372036854775807] 1 En20 (by kernel_rfl) (by kernel_rfl) rfl ?_
    intro ac21 En22
    refine from_end (by kernel_rfl) ?_
    refine then_normal ?_
    refine wp_ret ?_
    refine d_ret1 (t := 4) (v := .int .u64 9223372036854775807) En22 (by kernel_rfl) (by kernel_rfl) ?_
    have q1 := UInt64.toNat_sub 9223372036854775807 a
    have q0 : (9223372036854775807 : UInt64).toNat = 9223372036854775807 := rfl
    have q2 := UInt64.toNat_add a b
    have q3 := a.toNat_lt
    have q4 := b.toNat_lt
    refine ⟨?_, by assumption⟩
    first | rw [afterU_max (by omega)] | rw [afterU_add (by omega)]

theorem now_prog (b : Nat) (x : UInt64) (w : World) (hh : Heap w [.box b [.int .u64 ((UInt64.toNat x : Nat) : Int)] 37]) : Calls Try.prog 12 #[.pointer (some ⟨b, 0, none⟩)] w fun e w' => e = .returned (.int .u64 ((UInt64.toNat x : Nat) : Int)) ∧ Ev w [.box b [.int .u64 ((UInt64.toNat x : Nat) : Int)] 37] w' [.box b [.int .u64 ((UInt64.toNat x : Nat) : Int)] 37] := by
  refine d_start [(0, .pointer (some ⟨b, 0, none⟩))] 7 Go.Proofs.Try.func12 Go.Proofs.Try.ntmps12 rfl (by kernel_rfl) (by kernel_rfl) ?_
  intro act0 En0
  have Hv0 : Ev w [.box b [.int .u64 ((UInt64.toNat x : Nat) : Int)] 37] w [.box b [.int .u64 ((UInt64.toNat x : Nat) : Int)] 37] := Ev.refl (hh)
  refine wp_seq ?_
  refine region_from ?_  -- region 0
  refine d_pures [(0, .pointer (some ⟨b, 0, none⟩)), (2, .int .u64 0)] [.int .u64 0] 1 En0 (by kernel_rfl) (by kernel_rfl) rfl ?_
  intro ac1 En2
  refine from_end (by kernel_rfl) ?_
  refine then_normal ?_
  refine wp_seq ?_
  refine region_from ?_  -- region 1
  refine d_pures [(2, .int .u64 0), (5, .pointer (some ⟨b, 0, none⟩))] [.pointer (some ⟨b, 0, none⟩), .pointer (some ⟨b, 0, none⟩), .pointer (some ⟨b, 0, none⟩)] 3 En2 (by kernel_rfl) (by kernel_rfl) rfl ?_
  intro ac3 En4
  refine from_op (by kernel_rfl) ?_
  refine op_loadbox (d := some 6) (t := 23) (b := b) (off := 0) (k := 0) (v := .int .u64 ((UInt64.toNat x : Nat) : Int)) En4 (by kernel_rfl) Hv0 rfl rfl (by kernel_rfl) ?_
  intro ac5 En6
  refine d_pures [(2, .int .u64 ((UInt64.toNat x : Nat) : Int))] [.int .u64 ((UInt64.toNat x : Nat) : Int)] 5 En6 (by kernel_rfl) (by kernel_rfl) rfl ?_
  intro ac7 En8
  refine from_end (by kernel_rfl) ?_
  refine then_normal ?_
  refine wp_ret ?_
  refine d_ret1 (t := 2) (v := .int .u64 ((UInt64.toNat x : Nat) : Int)) En8 (by kernel_rfl) (by kernel_rfl) ?_
  exact ⟨rfl, Hv0⟩

theorem tick_prog (b : Nat) (x n : UInt64) (w : World) (hh : Heap w [.box b [.int .u64 ((UInt64.toNat x : Nat) : Int)] 37]) : Calls Try.prog 13 #[.pointer (some ⟨b, 0, none⟩), .int .u64 ((UInt64.toNat n : Nat) : Int)] w fun e w' => e = .returned (.tuple #[]) ∧ Ev w [.box b [.int .u64 ((UInt64.toNat x : Nat) : Int)] 37] w' [.box b [.int .u64 ((UInt64.toNat (afterU x n) : Nat) : Int)] 37] := by
  refine d_start [(0, .pointer (some ⟨b, 0, none⟩)), (1, .int .u64 ((UInt64.toNat n : Nat) : Int))] 13 Go.Proofs.Try.func13 Go.Proofs.Try.ntmps13 rfl (by kernel_rfl) (by kernel_rfl) ?_
  intro act0 En0
  have Hv0 : Ev w [.box b [.int .u64 ((UInt64.toNat x : Nat) : Int)] 37] w [.box b [.int .u64 ((UInt64.toNat x : Nat) : Int)] 37] := Ev.refl (hh)
  refine region_from ?_  -- region 0
  refine d_pures [(1, .int .u64 ((UInt64.toNat n : Nat) : Int)), (4, .pointer (some ⟨b, 0, none⟩)), (7, .pointer (some ⟨b, 0, none⟩))] [.pointer (some ⟨b, 0, none⟩), .pointer (some ⟨b, 0, none⟩), .pointer (some ⟨b, 0, none⟩), .pointer (some ⟨b, 0, none⟩)] 4 En0 (by kernel_rfl) (by kernel_rfl) rfl ?_
  intro ac1 En2
  refine from_op (by kernel_rfl) ?_
  refine op_loadbox (d := some 8) (t := 23) (b := b) (off := 0) (k := 0) (v := .int .u64 ((UInt64.toNat x : Nat) : Int)) En2 (by kernel_rfl) Hv0 rfl rfl (by kernel_rfl) ?_
  intro ac3 En4
  refine d_pures [(4, .pointer (some ⟨b, 0, none⟩)), (8, .int .u64 ((UInt64.toNat x : Nat) : Int)), (9, .int .u64 ((UInt64.toNat n : Nat) : Int))] [.int .u64 ((UInt64.toNat n : Nat) : Int)] 6 En4 (by kernel_rfl) (by kernel_rfl) rfl ?_
  intro ac5 En6
  refine from_op (by kernel_rfl) ?_
  have hM7 : Heap w [] := Hv0.heap.pick [] (by kernel_rfl) (by decide)
  refine op_call (d := some 10) (f := 15) (args := #[.int .u64 ((UInt64.toNat x : Nat) : Int), .int .u64 ((UInt64.toNat n : Nat) : Int)]) En6 (by kernel_rfl) ((after_prog x n _).mono ?_)
  rintro _ wo9 ⟨rfl, he12⟩
  refine ⟨_, rfl, ?_⟩
  intro ac8 En10
  have Hv11 : Ev w [.box b [.int .u64 ((UInt64.toNat x : Nat) : Int)] 37] wo9 [.box b [.int .u64 ((UInt64.toNat x : Nat) : Int)] 37] := Hv0.trans (Ev.call (R := [.box b [.int .u64 ((UInt64.toNat x : Nat) : Int)] 37]) Hv0.heap [0] (by kernel_rfl) (by decide) he12)
  clear hM7 he12
  refine d_pures [(10, .int .u64 ((UInt64.toNat (afterU x n) : Nat) : Int)), (12, .pointer (some ⟨b, 0, none⟩))] [.pointer (some ⟨b, 0, none⟩), .pointer (some ⟨b, 0, none⟩)] 9 En10 (by kernel_rfl) (by kernel_rfl) rfl ?_
  intro ac13 En14
  refine from_op (by kernel_rfl) ?_
  refine op_storebox (d := none) (t := 23) (b := b) (off := 0) (k := 0) (v := .int .u64 ((UInt64.toNat (afterU x n) : Nat) : Int)) (old := .int .u64 ((UInt64.toNat x : Nat) : Int)) En14 (by kernel_rfl) Hv11 rfl rfl (by kernel_rfl) rfl (L' := [.box b [.int .u64 ((UInt64.toNat (afterU x n) : Nat) : Int)] 37]) rfl ?_
  intro ac15 wo16  En17 Hv18
  refine from_end (by kernel_rfl) ?_
  refine d_end0 En17 (by kernel_rfl) ?_
  exact ⟨rfl, Hv18⟩

theorem newrand_prog (ai : Option Addr) (ci : Nat) (l : List UInt8) (seed : UInt64) (w : World) (hi : InB w [] ai ci l) : Calls Try.prog 8 #[.slice ai (List.length l) ci, .int .u64 ((UInt64.toNat seed : Nat) : Int)] w fun e w' => ∃ ao co b, e = .returned (.pointer (some ⟨b, 0, none⟩)) ∧ Ev w [] w' [.vec ao co 1 (bys l) 5, .box b [.slice ao (List.length l) co, .int .u64 ((UInt64.toNat seed : Nat) : Int)] 56] := by
  have hs := hi.small
  refine d_start [(0, .slice ai (List.length l) ci), (1, .int .u64 ((UInt64.toNat seed : Nat) : Int))] 10 Go.Proofs.Try.func8 Go.Proofs.Try.ntmps8 rfl (by kernel_rfl) (by kernel_rfl) ?_
  intro act0 En0
  have Hv0 : Ev w [] w [] := Ev.refl (Heap.nil _)
  refine wp_seq ?_
  refine region_from ?_  -- region 0
  refine d_pures [(0, .slice ai (List.length l) ci), (1, .int .u64 ((UInt64.toNat seed : Nat) : Int)), (4, .pointer none)] [.pointer none] 1 En0 (by kernel_rfl) (by kernel_rfl) rfl ?_
  intro ac1 En2
  refine from_end (by kernel_rfl) ?_
  refine then_normal ?_
  refine wp_seq ?_
  refine region_from ?_  -- region 1
  refine d_pures [(1, .int .u64 ((UInt64.toNat seed : Nat) : Int)), (4, .pointer none), (5, .slice ai (List.length l) ci)] [.slice ai (List.length l) ci] 1 En2 (by kernel_rfl) (by kernel_rfl) rfl ?_
  intro ac3 En4
  refine from_op (by kernel_rfl) ?_
  have Hv5 : Ev w [] w [.vec none 0 1 (bys []) 5] := Ev.nil (sz := 1) (T := 5) Hv0
  refine op_append (d := some 6) (t := 22) (tx := 22) (ty := 22) (T := 5) (k := 0) (ao := none) (cap := 0) (sz := 1) (p := 0) (m := List.length l) (xs := bys []) (ys := bys l) (x := .slice ai (List.length l) ci) (bytes := 1) En4 (by kernel_rfl) Hv5 rfl (bys_lenn (by simp)) (Reads.src (size := 1) (tx := 22) (e' := 5) (by kernel_rfl) (hi.ev Hv5).reads (bys_len _) hi.nz (bys_one _)) (by kernel_rfl) (z := .int .u8 0) (by kernel_rfl) rfl (by decide) (by omega) (by unfold maxLen; omega) ?_
  intro ac10 wo11 ao6 cp7 En12 Hv13 _ _
  rw [bys_nil_append] at Hv13
  have ehz8 : 0 + List.length l = List.length l := (by first | (simp; done) | (simp; omega) | omega)
  rw [ehz8] at En12
  refine d_pures [(4, .pointer none), (8, .agg #[.slice ao6 (List.length l) cp7, .int .u64 ((UInt64.toNat seed : Nat) : Int)])] [.int .u64 ((UInt64.toNat seed : Nat) : Int), .agg #[.slice ao6 (List.length l) cp7, .int .u64 ((UInt64.toNat seed : Nat) : Int)]] 4 En12 (by kernel_rfl) (by kernel_rfl) rfl ?_
  intro ac14 En15
  refine from_op (by kernel_rfl) ?_
  refine op_newbox (d := some 9) (T := 56) (v := .agg #[.slice ao6 (List.length l) cp7, .int .u64 ((UInt64.toNat seed : Nat) : Int)]) (cs := [.slice ao6 (List.length l) cp7, .int .u64 ((UInt64.toNat seed : Nat) : Int)]) En15 (by kernel_rfl) rfl Hv13 ?_
  intro ac17 wo18 bk16 En19 Hv20
  refine d_pures [(4, .pointer (some ⟨bk16, 0, none⟩))] [.pointer (some ⟨bk16, 0, none⟩)] 6 En19 (by kernel_rfl) (by kernel_rfl) rfl ?_
  intro ac21 En22
  refine from_end (by kernel_rfl) ?_
  refine then_normal ?_
  refine wp_ret ?_
  refine d_ret1 (t := 4) (v := .pointer (some ⟨bk16, 0, none⟩)) En22 (by kernel_rfl) (by kernel_rfl) ?_
  exact ⟨ao6, cp7, bk16, rfl, Hv20.pick [0, 1] (by kernel_rfl) (by decide)⟩

theorem newrand_ref (ai : Option Addr) (ci : Nat) (l : List UInt8) (seed : UInt64) (w : World) (hi : InB w [] ai ci l) : Calls Try.prog 9 #[.slice ai (List.length l) ci, .int .u64 ((UInt64.toNat seed : Nat) : Int)] w fun e w' => ∃ ao co b, e = .returned (.pointer (some ⟨b, 0, none⟩)) ∧ Ev w [] w' [.vec ao co 1 (bys l) 5, .box b [.slice ao (List.length l) co, .int .u64 ((UInt64.toNat seed : Nat) : Int), .slice none 0 0] 58] := by
  have hs := hi.small
  refine d_start [(0, .slice ai (List.length l) ci), (1, .int .u64 ((UInt64.toNat seed : Nat) : Int))] 11 Go.Proofs.Try.func9 Go.Proofs.Try.ntmps9 rfl (by kernel_rfl) (by kernel_rfl) ?_
  intro act0 En0
  have Hv0 : Ev w [] w [] := Ev.refl (Heap.nil _)
  refine wp_seq ?_
  refine region_from ?_  -- region 0
  refine d_pures [(0, .slice ai (List.length l) ci), (1, .int .u64 ((UInt64.toNat seed : Nat) : Int)), (4, .pointer none)] [.pointer none] 1 En0 (by kernel_rfl) (by kernel_rfl) rfl ?_
  intro ac1 En2
  refine from_end (by kernel_rfl) ?_
  refine then_normal ?_
  refine wp_seq ?_
  refine region_from ?_  -- region 1
  refine from_op (by kernel_rfl) ?_
  refine op_lit (d := some 5) (t := 22) (T := 5) (m := 0) (parts := #[]) (xs := bys []) (sz := 1) En2 (by kernel_rfl) (by kernel_rfl) rfl (by decide) Hv0 ?_
  intro ac4 wo5 bk3 En6 Hv7
  refine d_pures [(1, .int .u64 ((UInt64.toNat seed : Nat) : Int)), (4, .pointer none), (5, .slice (some ⟨bk3, 0, none⟩) 0 0), (6, .slice ai (List.length l) ci)] [.slice ai (List.length l) ci] 2 En6 (by kernel_rfl) (by kernel_rfl) rfl ?_
  intro ac8 En9
  refine from_op (by kernel_rfl) ?_
  refine op_append (d := some 7) (t := 22) (tx := 22) (ty := 22) (T := 5) (k := 0) (ao := some ⟨bk3, 0, none⟩) (cap := 0) (sz := 1) (p := 0) (m := List.length l) (xs := bys []) (ys := bys l) (x := .slice ai (List.length l) ci) (bytes := 1) En9 (by kernel_rfl) Hv7 rfl rfl (Reads.src (size := 1) (tx := 22) (e' := 5) (by kernel_rfl) (hi.ev Hv7).reads (bys_len _) hi.nz (bys_one _)) (by kernel_rfl) (z := .int .u8 0) (by kernel_rfl) rfl (by decide) (by omega) (by unfold maxLen; omega) ?_
  intro ac14 wo15 ao10 cp11 En16 Hv17 _ _
  rw [bys_nil_append] at Hv17
  have ehz12 : 0 + List.length l = List.length l := (by first | (simp; done) | (simp; omega) | omega)
  rw [ehz12] at En16
  refine d_pures [(4, .pointer none), (9, .agg #[.slice ao10 (List.length l) cp11, .int .u64 ((UInt64.toNat seed : Nat) : Int), .slice none 0 0])] [.int .u64 ((UInt64.toNat seed : Nat) : Int), .agg #[.slice ao10 (List.length l) cp11, .int .u64 ((UInt64.toNat seed : Nat) : Int), .slice none 0 0]] 5 En16 (by kernel_rfl) (by kernel_rfl) rfl ?_
  intro ac18 En19
  refine from_op (by kernel_rfl) ?_
  refine op_newbox (d := some 10) (T := 58) (v := .agg #[.slice ao10 (List.length l) cp11, .int .u64 ((UInt64.toNat seed : Nat) : Int), .slice none 0 0]) (cs := [.slice ao10 (List.length l) cp11, .int .u64 ((UInt64.toNat seed : Nat) : Int), .slice none 0 0]) En19 (by kernel_rfl) rfl Hv17 ?_
  intro ac21 wo22 bk20 En23 Hv24
  refine d_pures [(4, .pointer (some ⟨bk20, 0, none⟩))] [.pointer (some ⟨bk20, 0, none⟩)] 7 En23 (by kernel_rfl) (by kernel_rfl) rfl ?_
  intro ac25 En26
  refine from_end (by kernel_rfl) ?_
  refine then_normal ?_
  refine wp_ret ?_
  refine d_ret1 (t := 4) (v := .pointer (some ⟨bk20, 0, none⟩)) En26 (by kernel_rfl) (by kernel_rfl) ?_
  exact ⟨ao10, cp11, bk20, rfl, Hv24.pick [0, 1] (by kernel_rfl) (by decide)⟩


/-! ## the stream of bytes -/
def mixU (s : UInt64) : UInt64 :=
  let z1 := (s ^^^ (s >>> UInt64.ofNat 30)) * (13787848793156543929 : UInt64)
  let z2 := (z1 ^^^ (z1 >>> UInt64.ofNat 27)) * (10723151780598845931 : UInt64)
  z2 ^^^ (z2 >>> UInt64.ofNat 31)
def chunkB (z : UInt64) (k : Nat) : List UInt8 := (List.range k).map fun i => UInt64.toUInt8 (z >>> UInt64.ofNat (8 * i))
def nextS (s : UInt64) : UInt64 := s + (11400714819323198485 : UInt64)
def chunks (s : UInt64) : Nat → List UInt8
  | 0 => []
  | k + 1 => chunkB (mixU (nextS s)) 8 ++ chunks (nextS s) k
def Den (l : List UInt8) (s : UInt64) (f : Nat → UInt8) : Prop := ∀ k i, i < l.length + 8 * k → (l ++ chunks s k)[i]? = some (f i)
def takeF (f : Nat → UInt8) (n : Nat) : List UInt8 := (List.range n).map f
def shiftF (f : Nat → UInt8) (n : Nat) : Nat → UInt8 := fun i => f (i + n)
theorem chunkB_len (z : UInt64) (k : Nat) : (chunkB z k).length = k := by simp [chunkB]
theorem chunkB_succ (z : UInt64) (k : Nat) : chunkB z (k + 1) = chunkB z k ++ [UInt64.toUInt8 (z >>> UInt64.ofNat (8 * k))] := by
  simp [chunkB, List.range_succ]
theorem chunks_len (s : UInt64) (k : Nat) : (chunks s k).length = 8 * k := by
  induction k generalizing s with
  | zero => rfl
  | succ k ih => simp [chunks, chunkB_len, ih]; omega
theorem chunks_pre (s : UInt64) (k m i : Nat) (h : i < 8 * k) : (chunks s (k + m))[i]? = (chunks s k)[i]? := by
  induction k generalizing s i with
  | zero => omega
  | succ k ih =>
    rw [show k + 1 + m = (k + m) + 1 by omega]
    simp only [chunks]
    by_cases hi : i < 8
    · rw [List.getElem?_append_left (by rw [chunkB_len]; exact hi), List.getElem?_append_left (by rw [chunkB_len]; exact hi)]
    · rw [List.getElem?_append_right (by rw [chunkB_len]; omega), List.getElem?_append_right (by rw [chunkB_len]; omega), chunkB_len]
      exact ih _ _ (by omega)
/-- what a source tells: its first bytes, then those of its numbers -/
def streamOf (l : List UInt8) (s : UInt64) : Nat → UInt8 := fun i => ((l ++ chunks s (i + 1))[i]?).getD 0
theorem den_streamOf (l : List UInt8) (s : UInt64) : Den l s (streamOf l s) := by
  intro k i hi
  unfold streamOf
  by_cases hl : i < l.length
  · rw [List.getElem?_append_left hl, List.getElem?_append_left hl, List.getElem?_eq_getElem hl]
    rfl
  · have e1 : (l ++ chunks s k)[i]? = (chunks s k)[i - l.length]? := List.getElem?_append_right (by omega)
    have e2 : (l ++ chunks s (i + 1))[i]? = (chunks s (i + 1))[i - l.length]? := List.getElem?_append_right (by omega)
    have e3 : (chunks s k)[i - l.length]? = (chunks s (i + 1))[i - l.length]? := by
      rcases Nat.le_total k (i + 1) with h | h
      · have := chunks_pre s k (i + 1 - k) (i - l.length) (by omega)
        rw [show k + (i + 1 - k) = i + 1 by omega] at this
        exact this.symm
      · have := chunks_pre s (i + 1) (k - (i + 1)) (i - l.length) (by omega)
        rw [show i + 1 + (k - (i + 1)) = k by omega] at this
        exact this
    rw [e1, e2, e3, List.getElem?_eq_getElem (by rw [chunks_len]; omega)]
    rfl
theorem Den.fill {l : List UInt8} {s : UInt64} {f : Nat → UInt8} (h : Den l s f) : Den (l ++ chunkB (mixU (nextS s)) 8) (nextS s) f := by
  intro k i hi
  rw [List.append_assoc]
  exact h (k + 1) i (by rw [List.length_append, chunkB_len] at hi; omega)
theorem Den.take {l : List UInt8} {s : UInt64} {f : Nat → UInt8} (h : Den l s f) (n : Nat) (hn : n ≤ l.length) : l.take n = takeF f n := by
  apply List.ext_getElem?
  intro i
  unfold takeF
  by_cases hi : i < n
  · rw [List.getElem?_take, if_pos hi]
    have := h 0 i (by omega)
    simp only [chunks, List.append_nil] at this
    rw [this]
    simp [hi]
  · rw [List.getElem?_eq_none (by simp; omega), List.getElem?_eq_none (by simp; omega)]
theorem Den.drop {l : List UInt8} {s : UInt64} {f : Nat → UInt8} (h : Den l s f) (n : Nat) (hn : n ≤ l.length) : Den (l.drop n) s (shiftF f n) := by
  intro k i hi
  simp only [List.length_drop] at hi
  have := h k (i + n) (by omega)
  show _ = some (f (i + n))
  rw [← this]
  have e : l ++ chunks s k = l.take n ++ (l.drop n ++ chunks s k) := by rw [← List.append_assoc, List.take_append_drop]
  have e2 : (l.take n).length = n := by rw [List.length_take]; omega
  have e3 : (l.take n ++ (l.drop n ++ chunks s k))[i + n]? = (l.drop n ++ chunks s k)[i]? := by
    rw [List.getElem?_append_right (by rw [e2]; omega), e2, Nat.add_sub_cancel]
  rw [e, e3]
theorem takeF_len (f : Nat → UInt8) (n : Nat) : (takeF f n).length = n := by simp [takeF]
def clampN (n : Int) : Nat := if n < 0 then 0 else if n < 65536 then n.toNat else 65536
theorem clamp_eq (n : Int) : (if (0 : Int) < (if (65536 : Int) < n then (65536 : Int) else n) then (if (65536 : Int) < n then (65536 : Int) else n) else (0 : Int)) = ((clampN n : Nat) : Int) := by
  unfold clampN
  split <;> split <;> (try split) <;> (try split) <;> omega
theorem clamp_le (n : Int) : clampN n ≤ 65536 := by unfold clampN; split <;> (try split) <;> omega

theorem read_prog (b : Nat) (n : Int) (l : List UInt8) (s : UInt64) (a : Option Addr) (cap : Nat) (f : Nat → UInt8) (w : World) (hd : Den l s f) (hl : List.length l ≤ 140737488351232) (hh : Heap w [.box b [.slice a (List.length l) cap, .int .u64 ((UInt64.toNat s : Nat) : Int)] 56, .vec a cap 1 (bys l) 5]) : Calls Try.prog 10 #[.pointer (some ⟨b, 0, none⟩), .int .i64 n] w fun e w' => ∃ l' s' a' cap' ao co, e = .returned (.slice ao (List.length (takeF f (clampN n))) co) ∧ Ev w [.box b [.slice a (List.length l) cap, .int .u64 ((UInt64.toNat s : Nat) : Int)] 56, .vec a cap 1 (bys l) 5] w' [.box b [.slice a' (List.length l') cap', .int .u64 ((UInt64.toNat s' : Nat) : Int)] 56, .vec a' cap' 1 (bys l') 5, .vec ao co 1 (bys (takeF f (clampN n))) 5] ∧ Den l' s' (shiftF f (clampN n)) ∧ List.length l' ≤ 140737488351232 := by
  have hcl := clamp_le n
  refine d_start [(0, .pointer (some ⟨b, 0, none⟩)), (1, .int .i64 n)] 78 Go.Proofs.Try.func10 Go.Proofs.Try.ntmps10 rfl (by kernel_rfl) (by kernel_rfl) ?_
  intro act0 En0
  have Hv0 : Ev w [.box b [.slice a (List.length l) cap, .int .u64 ((UInt64.toNat s : Nat) : Int)] 56, .vec a cap 1 (bys l) 5] w [.box b [.slice a (List.length l) cap, .int .u64 ((UInt64.toNat s : Nat) : Int)] 56, .vec a cap 1 (bys l) 5] := Ev.refl (hh)
  refine wp_seq ?_
  refine region_from ?_  -- region 0
  refine d_pures [(0, .pointer (some ⟨b, 0, none⟩)), (1, .int .i64 n), (4, .slice none 0 0)] [.slice none 0 0] 1 En0 (by kernel_rfl) (by kernel_rfl) rfl ?_
  intro ac1 En2
  refine from_end (by kernel_rfl) ?_
  refine then_normal ?_
  refine wp_seq ?_
  refine region_from ?_  -- region 1
  refine d_pures [(0, .pointer (some ⟨b, 0, none⟩)), (1, .int .i64 n), (4, .slice none 0 0), (10, .int .i64 (if (0 : Int) < (if (65536 : Int) < n then (65536 : Int) else n) then (if (65536 : Int) < n then (65536 : Int) else n) else (0 : Int)))] [.int .i64 n, .int .i64 (if (65536 : Int) < n then (65536 : Int) else n), .int .i64 (if (0 : Int) < (if (65536 : Int) < n then (65536 : Int) else n) then (if (65536 : Int) < n then (65536 : Int) else n) else (0 : Int))] 3 En2 (by kernel_rfl) (by kernel_rfl) rfl ?_
  intro ac3 En4
  rw [clamp_eq n] at En4
  refine d_pures [(0, .pointer (some ⟨b, 0, none⟩)), (1, .int .i64 ((clampN n : Nat) : Int)), (4, .slice none 0 0)] [.int .i64 ((clampN n : Nat) : Int)] 4 En4 (by kernel_rfl) (by kernel_rfl) rfl ?_
  intro ac5 En6
  refine from_end (by kernel_rfl) ?_
  refine then_normal ?_
  refine wp_seq ?_
  refine wp_block ?_
  refine loop_m (fun ms7 ac wo => ∃ (lo : List UInt8) (so : UInt64) (xo : Option Addr) (yo : Nat), ms7 = (65536 - List.length lo + (clampN n - List.length lo) : Nat) ∧ Env ac 78 [(0, .pointer (some ⟨b, 0, none⟩)), (1, .int .i64 ((clampN n : Nat) : Int)), (4, .slice none 0 0)] ∧ Ev w [.box b [.slice a (List.length l) cap, .int .u64 ((UInt64.toNat s : Nat) : Int)] 56, .vec a cap 1 (bys l) 5] wo [.box b [.slice xo (List.length lo) yo, .int .u64 ((UInt64.toNat so : Nat) : Int)] 56, .vec xo yo 1 (bys lo) 5] ∧ (Den lo so f) ∧ (List.length lo ≤ 140737488351232)) ⟨_, l, s, a, cap, rfl, En6.sub (by kernel_rfl), Hv0.pick [0, 1] (by kernel_rfl) (by decide), hd, hl⟩ ?_
  rintro mm13 ac9 wo10 ⟨lo, so, xo, yo, rfl, En11, Hv12, hd1, hl1⟩
  refine wp_seq ?_
  refine wp_seq ?_
  refine region_from ?_  -- region 2
  refine d_pures [(0, .pointer (some ⟨b, 0, none⟩)), (1, .int .i64 ((clampN n : Nat) : Int)), (4, .slice none 0 0), (13, .pointer (some ⟨b, 0, none⟩))] [.pointer (some ⟨b, 0, none⟩), .pointer (some ⟨b, 0, none⟩), .pointer (some ⟨b, 0, none⟩)] 3 En11 (by kernel_rfl) (by kernel_rfl) rfl ?_
  intro ac14 En15
  refine from_op (by kernel_rfl) ?_
  refine op_loadbox (d := some 14) (t := 22) (b := b) (off := 0) (k := 0) (v := .slice xo (List.length lo) yo) En15 (by kernel_rfl) Hv12 rfl rfl (by kernel_rfl) ?_
  intro ac16 En17
  refine d_pures [(0, .pointer (some ⟨b, 0, none⟩)), (1, .int .i64 ((clampN n : Nat) : Int)), (4, .slice none 0 0), (17, .bool (decide (((List.length lo : Nat) : Int) < ((clampN n : Nat) : Int))))] [.int .i64 ((List.length lo : Nat) : Int), .int .i64 ((clampN n : Nat) : Int), .bool (decide (((List.length lo : Nat) : Int) < ((clampN n : Nat) : Int)))] 7 En17 (by kernel_rfl) (by kernel_rfl) rfl ?_
  intro ac18 En19
  refine from_end (by kernel_rfl) ?_
  refine then_normal ?_
  refine cond_at En19 (t := decide (((List.length lo : Nat) : Int) < ((clampN n : Nat) : Int))) (by kernel_rfl) (fun hc20 => ?_) (fun hc20 => ?_)
  ·
    replace hc20 : ((List.length lo : Nat) : Int) < ((clampN n : Nat) : Int) := by simpa using hc20
    refine wp_skip ?_
    refine then_normal ?_
    refine wp_block ?_
    refine wp_seq ?_
    refine region_from ?_  -- region 3
    refine d_pures [(0, .pointer (some ⟨b, 0, none⟩)), (1, .int .i64 ((clampN n : Nat) : Int)), (4, .slice none 0 0), (18, .pointer (some ⟨b, 0, none⟩)), (20, .pointer (some ⟨b, 1, none⟩))] [.pointer (some ⟨b, 0, none⟩), .pointer (some ⟨b, 0, none⟩), .pointer (some ⟨b, 1, none⟩)] 3 En19 (by kernel_rfl) (by kernel_rfl) rfl ?_
    intro ac21 En22
    refine from_op (by kernel_rfl) ?_
    refine op_loadbox (d := some 21) (t := 23) (b := b) (off := 1) (k := 0) (v := .int .u64 ((UInt64.toNat so : Nat) : Int)) En22 (by kernel_rfl) Hv12 rfl rfl (by kernel_rfl) ?_
    intro ac23 En24
    refine d_pures [(0, .pointer (some ⟨b, 0, none⟩)), (1, .int .i64 ((clampN n : Nat) : Int)), (4, .slice none 0 0), (18, .pointer (some ⟨b, 0, none⟩)), (22, .int .u64 (IntKind.wrap .u64 (((UInt64.toNat so : Nat) : Int) + (11400714819323198485 : Int))))] [.int .u64 (IntKind.wrap .u64 (((UInt64.toNat so : Nat) : Int) + (11400714819323198485 : Int)))] 5 En24 (by kernel_rfl) (by kernel_rfl) rfl ?_
    intro ac25 En26
    rw [Go.Dbr.u64_add (a := ((UInt64.toNat so : Nat) : Int)) (b := (11400714819323198485 : Int)) (x := so) (y := (11400714819323198485 : UInt64)) rfl rfl] at En26
    refine d_pures [(0, .pointer (some ⟨b, 0, none⟩)), (1, .int .i64 ((clampN n : Nat) : Int)), (4, .slice none 0 0), (22, .int .u64 ((UInt64.toNat (so + (11400714819323198485 : UInt64)) : Nat) : Int)), (24, .pointer (some ⟨b, 1, none⟩))] [.pointer (some ⟨b, 0, none⟩), .pointer (some ⟨b, 1, none⟩)] 7 En26 (by kernel_rfl) (by kernel_rfl) rfl ?_
    intro ac27 En28
    refine from_op (by kernel_rfl) ?_
    refine op_storebox (d := none) (t := 23) (b := b) (off := 1) (k := 0) (v := .int .u64 ((UInt64.toNat (so + (11400714819323198485 : UInt64)) : Nat) : Int)) (old := .int .u64 ((UInt64.toNat so : Nat) : Int)) En28 (by kernel_rfl) Hv12 rfl rfl (by kernel_rfl) rfl (L' := [.box b [.slice xo (List.length lo) yo, .int .u64 ((UInt64.toNat (so + (11400714819323198485 : UInt64)) : Nat) : Int)] 56, .vec xo yo 1 (bys lo) 5]) rfl ?_
    intro ac29 wo30  En31 Hv32
    refine from_end (by kernel_rfl) ?_
    refine then_normal ?_
    refine wp_seq ?_
    refine region_from ?_  -- region 4
    refine d_pures [(0, .pointer (some ⟨b, 0, none⟩)), (1, .int .i64 ((clampN n : Nat) : Int)), (4, .slice none 0 0), (27, .pointer (some ⟨b, 1, none⟩))] [.pointer (some ⟨b, 0, none⟩), .pointer (some ⟨b, 0, none⟩), .pointer (some ⟨b, 1, none⟩)] 3 En31 (by kernel_rfl) (by kernel_rfl) rfl ?_
    intro ac33 En34
    refine from_op (by kernel_rfl) ?_
    refine op_loadbox (d := some 28) (t := 23) (b := b) (off := 1) (k := 0) (v := .int .u64 ((UInt64.toNat (so + (11400714819323198485 : UInt64)) : Nat) : Int)) En34 (by kernel_rfl) Hv32 rfl rfl (by kernel_rfl) ?_
    intro ac35 En36
    refine d_pures [(0, .pointer (some ⟨b, 0, none⟩)), (1, .int .i64 ((clampN n : Nat) : Int)), (4, .slice none 0 0), (5, .int .u64 ((UInt64.toNat (so + (11400714819323198485 : UInt64)) : Nat) : Int))] [.int .u64 ((UInt64.toNat (so + (11400714819323198485 : UInt64)) : Nat) : Int)] 5 En36 (by kernel_rfl) (by kernel_rfl) rfl ?_
    intro ac37 En38
    refine from_end (by kernel_rfl) ?_
    refine then_normal ?_
    refine wp_seq ?_
    refine region_from ?_  -- region 5
    refine d_pures [(0, .pointer (some ⟨b, 0, none⟩)), (1, .int .i64 ((clampN n : Nat) : Int)), (4, .slice none 0 0), (5, .int .u64 ((UInt64.toNat (so + (11400714819323198485 : UInt64)) : Nat) : Int)), (29, .int .u64 ((UInt64.toNat (so + (11400714819323198485 : UInt64)) : Nat) : Int)), (31, .int .u64 (Int.fdiv ((UInt64.toNat (so + (11400714819323198485 : UInt64)) : Nat) : Int) (2 ^ 30)))] [.int .u64 ((UInt64.toNat (so + (11400714819323198485 : UInt64)) : Nat) : Int), .int .u64 ((UInt64.toNat (so + (11400714819323198485 : UInt64)) : Nat) : Int), .int .u64 (Int.fdiv ((UInt64.toNat (so + (11400714819323198485 : UInt64)) : Nat) : Int) (2 ^ 30))] 3 En38 (by kernel_rfl) (by kernel_rfl) rfl ?_
    intro ac39 En40
    rw [Go.Dbr.u64_shr (a := ((UInt64.toNat (so + (11400714819323198485 : UInt64)) : Nat) : Int)) (x := so + (11400714819323198485 : UInt64)) (n := 30) rfl (by decide)] at En40
    refine d_pures [(0, .pointer (some ⟨b, 0, none⟩)), (1, .int .i64 ((clampN n : Nat) : Int)), (4, .slice none 0 0), (5, .int .u64 ((UInt64.toNat (so + (11400714819323198485 : UInt64)) : Nat) : Int)), (32, .int .u64 (IntKind.wrap .u64 ((BitVec.ofInt (IntKind.bits .u64) ((UInt64.toNat (so + (11400714819323198485 : UInt64)) : Nat) : Int) ^^^ BitVec.ofInt (IntKind.bits .u64) ((UInt64.toNat ((so + (11400714819323198485 : UInt64)) >>> UInt64.ofNat 30) : Nat) : Int)).toNat : Int)))] [.int .u64 (IntKind.wrap .u64 ((BitVec.ofInt (IntKind.bits .u64) ((UInt64.toNat (so + (11400714819323198485 : UInt64)) : Nat) : Int) ^^^ BitVec.ofInt (IntKind.bits .u64) ((UInt64.toNat ((so + (11400714819323198485 : UInt64)) >>> UInt64.ofNat 30) : Nat) : Int)).toNat : Int))] 4 En40 (by kernel_rfl) (by kernel_rfl) rfl ?_
    intro ac41 En42
    rw [Go.Dbr.u64_xor (a := ((UInt64.toNat (so + (11400714819323198485 : UInt64)) : Nat) : Int)) (b := ((UInt64.toNat ((so + (11400714819323198485 : UInt64)) >>> UInt64.ofNat 30) : Nat) : Int)) (x := so + (11400714819323198485 : UInt64)) (y := (so + (11400714819323198485 : UInt64)) >>> UInt64.ofNat 30) rfl rfl] at En42
    refine d_pures [(0, .pointer (some ⟨b, 0, none⟩)), (1, .int .i64 ((clampN n : Nat) : Int)), (4, .slice none 0 0), (5, .int .u64 ((UInt64.toNat (so + (11400714819323198485 : UInt64)) : Nat) : Int)), (33, .int .u64 (IntKind.wrap .u64 (((UInt64.toNat ((so + (11400714819323198485 : UInt64)) ^^^ ((so + (11400714819323198485 : UInt64)) >>> UInt64.ofNat 30)) : Nat) : Int) * (13787848793156543929 : Int))))] [.int .u64 (IntKind.wrap .u64 (((UInt64.toNat ((so + (11400714819323198485 : UInt64)) ^^^ ((so + (11400714819323198485 : UInt64)) >>> UInt64.ofNat 30)) : Nat) : Int) * (13787848793156543929 : Int)))] 5 En42 (by kernel_rfl) (by kernel_rfl) rfl ?_
    intro ac43 En44
    rw [Go.Dbr.u64_mul (a := ((UInt64.toNat ((so + (11400714819323198485 : UInt64)) ^^^ ((so + (11400714819323198485 : UInt64)) >>> UInt64.ofNat 30)) : Nat) : Int)) (b := (13787848793156543929 : Int)) (x := (so + (11400714819323198485 : UInt64)) ^^^ ((so + (11400714819323198485 : UInt64)) >>> UInt64.ofNat 30)) (y := (13787848793156543929 : UInt64)) rfl rfl] at En44
    refine d_pures [(0, .pointer (some ⟨b, 0, none⟩)), (1, .int .i64 ((clampN n : Nat) : Int)), (4, .slice none 0 0), (5, .int .u64 ((UInt64.toNat (((so + (11400714819323198485 : UInt64)) ^^^ ((so + (11400714819323198485 : UInt64)) >>> UInt64.ofNat 30)) * (13787848793156543929 : UInt64)) : Nat) : Int))] [.int .u64 ((UInt64.toNat (((so + (11400714819323198485 : UInt64)) ^^^ ((so + (11400714819323198485 : UInt64)) >>> UInt64.ofNat 30)) * (13787848793156543929 : UInt64)) : Nat) : Int)] 6 En44 (by kernel_rfl) (by kernel_rfl) rfl ?_
    intro ac45 En46
    refine from_end (by kernel_rfl) ?_
    refine then_normal ?_
    refine wp_seq ?_
    refine region_from ?_  -- region 6
    refine d_pures [(0, .pointer (some ⟨b, 0, none⟩)), (1, .int .i64 ((clampN n : Nat) : Int)), (4, .slice none 0 0), (5, .int .u64 ((UInt64.toNat (((so + (11400714819323198485 : UInt64)) ^^^ ((so + (11400714819323198485 : UInt64)) >>> UInt64.ofNat 30)) * (13787848793156543929 : UInt64)) : Nat) : Int)), (34, .int .u64 ((UInt64.toNat (((so + (11400714819323198485 : UInt64)) ^^^ ((so + (11400714819323198485 : UInt64)) >>> UInt64.ofNat 30)) * (13787848793156543929 : UInt64)) : Nat) : Int)), (36, .int .u64 (Int.fdiv ((UInt64.toNat (((so + (11400714819323198485 : UInt64)) ^^^ ((so + (11400714819323198485 : UInt64)) >>> UInt64.ofNat 30)) * (13787848793156543929 : UInt64)) : Nat) : Int) (2 ^ 27)))] [.int .u64 ((UInt64.toNat (((so + (11400714819323198485 : UInt64)) ^^^ ((so + (11400714819323198485 : UInt64)) >>> UInt64.ofNat 30)) * (13787848793156543929 : UInt64)) : Nat) : Int), .int .u64 ((UInt64.toNat (((so + (11400714819323198485 : UInt64)) ^^^ ((so + (11400714819323198485 : UInt64)) >>> UInt64.ofNat 30)) * (13787848793156543929 : UInt64)) : Nat) : Int), .int .u64 (Int.fdiv ((UInt64.toNat (((so + (11400714819323198485 : UInt64)) ^^^ ((so + (11400714819323198485 : UInt64)) >>> UInt64.ofNat 30)) * (13787848793156543929 : UInt64)) : Nat) : Int) (2 ^ 27))] 3 En46 (by kernel_rfl) (by kernel_rfl) rfl ?_
    intro ac47 En48
    rw [Go.Dbr.u64_shr (a := ((UInt64.toNat (((so + (11400714819323198485 : UInt64)) ^^^ ((so + (11400714819323198485 : UInt64)) >>> UInt64.ofNat 30)) * (13787848793156543929 : UInt64)) : Nat) : Int)) (x := ((so + (11400714819323198485 : UInt64)) ^^^ ((so + (11400714819323198485 : UInt64)) >>> UInt64.ofNat 30)) * (13787848793156543929 : UInt64)) (n := 27) rfl (by decide)] at En48
    refine d_pures [(0, .pointer (some ⟨b, 0, none⟩)), (1, .int .i64 ((clampN n : Nat) : Int)), (4, .slice none 0 0), (5, .int .u64 ((UInt64.toNat (((so + (11400714819323198485 : UInt64)) ^^^ ((so + (11400714819323198485 : UInt64)) >>> UInt64.ofNat 30)) * (13787848793156543929 : UInt64)) : Nat) : Int)), (37, .int .u64 (IntKind.wrap .u64 ((BitVec.ofInt (IntKind.bits .u64) ((UInt64.toNat (((so + (11400714819323198485 : UInt64)) ^^^ ((so + (11400714819323198485 : UInt64)) >>> UInt64.ofNat 30)) * (13787848793156543929 : UInt64)) : Nat) : Int) ^^^ BitVec.ofInt (IntKind.bits .u64) ((UInt64.toNat ((((so + (11400714819323198485 : UInt64)) ^^^ ((so + (11400714819323198485 : UInt64)) >>> UInt64.ofNat 30)) * (13787848793156543929 : UInt64)) >>> UInt64.ofNat 27) : Nat) : Int)).toNat : Int)))] [.int .u64 (IntKind.wrap .u64 ((BitVec.ofInt (IntKind.bits .u64) ((UInt64.toNat (((so + (11400714819323198485 : UInt64)) ^^^ ((so + (11400714819323198485 : UInt64)) >>> UInt64.ofNat 30)) * (13787848793156543929 : UInt64)) : Nat) : Int) ^^^ BitVec.ofInt (IntKind.bits .u64) ((UInt64.toNat ((((so + (11400714819323198485 : UInt64)) ^^^ ((so + (11400714819323198485 : UInt64)) >>> UInt64.ofNat 30)) * (13787848793156543929 : UInt64)) >>> UInt64.ofNat 27) : Nat) : Int)).toNat : Int))] 4 En48 (by kernel_rfl) (by kernel_rfl) rfl ?_
    intro ac49 En50
    rw [Go.Dbr.u64_xor (a := ((UInt64.toNat (((so + (11400714819323198485 : UInt64)) ^^^ ((so + (11400714819323198485 : UInt64)) >>> UInt64.ofNat 30)) * (13787848793156543929 : UInt64)) : Nat) : Int)) (b := ((UInt64.toNat ((((so + (11400714819323198485 : UInt64)) ^^^ ((so + (11400714819323198485 : UInt64)) >>> UInt64.ofNat 30)) * (13787848793156543929 : UInt64)) >>> UInt64.ofNat 27) : Nat) : Int)) (x := ((so + (11400714819323198485 : UInt64)) ^^^ ((so + (11400714819323198485 : UInt64)) >>> UInt64.ofNat 30)) * (13787848793156543929 : UInt64)) (y := (((so + (11400714819323198485 : UInt64)) ^^^ ((so + (11400714819323198485 : UInt64)) >>> UInt64.ofNat 30)) * (13787848793156543929 : UInt64)) >>> UInt64.ofNat 27) rfl rfl] at En50
    refine d_pures [(0, .pointer (some ⟨b, 0, none⟩)), (1, .int .i64 ((clampN n : Nat) : Int)), (4, .slice none 0 0), (5, .int .u64 ((UInt64.toNat (((so + (11400714819323198485 : UInt64)) ^^^ ((so + (11400714819323198485 : UInt64)) >>> UInt64.ofNat 30)) * (13787848793156543929 : UInt64)) : Nat) : Int)), (38, .int .u64 (IntKind.wrap .u64 (((UInt64.toNat ((((so + (11400714819323198485 : UInt64)) ^^^ ((so + (11400714819323198485 : UInt64)) >>> UInt64.ofNat 30)) * (13787848793156543929 : UInt64)) ^^^ ((((so + (11400714819323198485 : UInt64)) ^^^ ((so + (11400714819323198485 : UInt64)) >>> UInt64.ofNat 30)) * (13787848793156543929 : UInt64)) >>> UInt64.ofNat 27)) : Nat) : Int) * (10723151780598845931 : Int))))] [.int .u64 (IntKind.wrap .u64 (((UInt64.toNat ((((so + (11400714819323198485 : UInt64)) ^^^ ((so + (11400714819323198485 : UInt64)) >>> UInt64.ofNat 30)) * (13787848793156543929 : UInt64)) ^^^ ((((so + (11400714819323198485 : UInt64)) ^^^ ((so + (11400714819323198485 : UInt64)) >>> UInt64.ofNat 30)) * (13787848793156543929 : UInt64)) >>> UInt64.ofNat 27)) : Nat) : Int) * (10723151780598845931 : Int)))] 5 En50 (by kernel_rfl) (by kernel_rfl) rfl ?_
    intro ac51 En52
    rw [Go.Dbr.u64_mul (a := ((UInt64.toNat ((((so + (11400714819323198485 : UInt64)) ^^^ ((so + (11400714819323198485 : UInt64)) >>> UInt64.ofNat 30)) * (13787848793156543929 : UInt64)) ^^^ ((((so + (11400714819323198485 : UInt64)) ^^^ ((so + (11400714819323198485 : UInt64)) >>> UInt64.ofNat 30)) * (13787848793156543929 : UInt64)) >>> UInt64.ofNat 27)) : Nat) : Int)) (b := (10723151780598845931 : Int)) (x := (((so + (11400714819323198485 : UInt64)) ^^^ ((so + (11400714819323198485 : UInt64)) >>> UInt64.ofNat 30)) * (13787848793156543929 : UInt64)) ^^^ ((((so + (11400714819323198485 : UInt64)) ^^^ ((so + (11400714819323198485 : UInt64)) >>> UInt64.ofNat 30)) * (13787848793156543929 : UInt64)) >>> UInt64.ofNat 27)) (y := (10723151780598845931 : UInt64)) rfl rfl] at En52
    refine d_pures [(0, .pointer (some ⟨b, 0, none⟩)), (1, .int .i64 ((clampN n : Nat) : Int)), (4, .slice none 0 0), (5, .int .u64 ((UInt64.toNat (((((so + (11400714819323198485 : UInt64)) ^^^ ((so + (11400714819323198485 : UInt64)) >>> UInt64.ofNat 30)) * (13787848793156543929 : UInt64)) ^^^ ((((so + (11400714819323198485 : UInt64)) ^^^ ((so + (11400714819323198485 : UInt64)) >>> UInt64.ofNat 30)) * (13787848793156543929 : UInt64)) >>> UInt64.ofNat 27)) * (10723151780598845931 : UInt64)) : Nat) : Int))] [.int .u64 ((UInt64.toNat (((((so + (11400714819323198485 : UInt64)) ^^^ ((so + (11400714819323198485 : UInt64)) >>> UInt64.ofNat 30)) * (13787848793156543929 : UInt64)) ^^^ ((((so + (11400714819323198485 : UInt64)) ^^^ ((so + (11400714819323198485 : UInt64)) >>> UInt64.ofNat 30)) * (13787848793156543929 : UInt64)) >>> UInt64.ofNat 27)) * (10723151780598845931 : UInt64)) : Nat) : Int)] 6 En52 (by kernel_rfl) (by kernel_rfl) rfl ?_
    intro ac53 En54
    refine from_end (by kernel_rfl) ?_
    refine then_normal ?_
    refine wp_seq ?_
    refine region_from ?_  -- region 7
    refine d_pures [(0, .pointer (some ⟨b, 0, none⟩)), (1, .int .i64 ((clampN n : Nat) : Int)), (4, .slice none 0 0), (5, .int .u64 ((UInt64.toNat (((((so + (11400714819323198485 : UInt64)) ^^^ ((so + (11400714819323198485 : UInt64)) >>> UInt64.ofNat 30)) * (13787848793156543929 : UInt64)) ^^^ ((((so + (11400714819323198485 : UInt64)) ^^^ ((so + (11400714819323198485 : UInt64)) >>> UInt64.ofNat 30)) * (13787848793156543929 : UInt64)) >>> UInt64.ofNat 27)) * (10723151780598845931 : UInt64)) : Nat) : Int)), (39, .int .u64 ((UInt64.toNat (((((so + (11400714819323198485 : UInt64)) ^^^ ((so + (11400714819323198485 : UInt64)) >>> UInt64.ofNat 30)) * (13787848793156543929 : UInt64)) ^^^ ((((so + (11400714819323198485 : UInt64)) ^^^ ((so + (11400714819323198485 : UInt64)) >>> UInt64.ofNat 30)) * (13787848793156543929 : UInt64)) >>> UInt64.ofNat 27)) * (10723151780598845931 : UInt64)) : Nat) : Int)), (41, .int .u64 (Int.fdiv ((UInt64.toNat (((((so + (11400714819323198485 : UInt64)) ^^^ ((so + (11400714819323198485 : UInt64)) >>> UInt64.ofNat 30)) * (13787848793156543929 : UInt64)) ^^^ ((((so + (11400714819323198485 : UInt64)) ^^^ ((so + (11400714819323198485 : UInt64)) >>> UInt64.ofNat 30)) * (13787848793156543929 : UInt64)) >>> UInt64.ofNat 27)) * (10723151780598845931 : UInt64)) : Nat) : Int) (2 ^ 31)))] [.int .u64 ((UInt64.toNat (((((so + (11400714819323198485 : UInt64)) ^^^ ((so + (11400714819323198485 : UInt64)) >>> UInt64.ofNat 30)) * (13787848793156543929 : UInt64)) ^^^ ((((so + (11400714819323198485 : UInt64)) ^^^ ((so + (11400714819323198485 : UInt64)) >>> UInt64.ofNat 30)) * (13787848793156543929 : UInt64)) >>> UInt64.ofNat 27)) * (10723151780598845931 : UInt64)) : Nat) : Int), .int .u64 ((UInt64.toNat (((((so + (11400714819323198485 : UInt64)) ^^^ ((so + (11400714819323198485 : UInt64)) >>> UInt64.ofNat 30)) * (13787848793156543929 : UInt64)) ^^^ ((((so + (11400714819323198485 : UInt64)) ^^^ ((so + (11400714819323198485 : UInt64)) >>> UInt64.ofNat 30)) * (13787848793156543929 : UInt64)) >>> UInt64.ofNat 27)) * (10723151780598845931 : UInt64)) : Nat) : Int), .int .u64 (Int.fdiv ((UInt64.toNat (((((so + (11400714819323198485 : UInt64)) ^^^ ((so + (11400714819323198485 : UInt64)) >>> UInt64.ofNat 30)) * (13787848793156543929 : UInt64)) ^^^ ((((so + (11400714819323198485 : UInt64)) ^^^ ((so + (11400714819323198485 : UInt64)) >>> UInt64.ofNat 30)) * (13787848793156543929 : UInt64)) >>> UInt64.ofNat 27)) * (10723151780598845931 : UInt64)) : Nat) : Int) (2 ^ 31))] 3 En54 (by kernel_rfl) (by kernel_rfl) rfl ?_
    intro ac55 En56
    rw [Go.Dbr.u64_shr (a := ((UInt64.toNat (((((so + (11400714819323198485 : UInt64)) ^^^ ((so + (11400714819323198485 : UInt64)) >>> UInt64.ofNat 30)) * (13787848793156543929 : UInt64)) ^^^ ((((so + (11400714819323198485 : UInt64)) ^^^ ((so + (11400714819323198485 : UInt64)) >>> UInt64.ofNat 30)) * (13787848793156543929 : UInt64)) >>> UInt64.ofNat 27)) * (10723151780598845931 : UInt64)) : Nat) : Int)) (x := ((((so + (11400714819323198485 : UInt64)) ^^^ ((so + (11400714819323198485 : UInt64)) >>> UInt64.ofNat 30)) * (13787848793156543929 : UInt64)) ^^^ ((((so + (11400714819323198485 : UInt64)) ^^^ ((so + (11400714819323198485 : UInt64)) >>> UInt64.ofNat 30)) * (13787848793156543929 : UInt64)) >>> UInt64.ofNat 27)) * (10723151780598845931 : UInt64)) (n := 31) rfl (by decide)] at En56
    refine d_pures [(0, .pointer (some ⟨b, 0, none⟩)), (1, .int .i64 ((clampN n : Nat) : Int)), (4, .slice none 0 0), (5, .int .u64 ((UInt64.toNat (((((so + (11400714819323198485 : UInt64)) ^^^ ((so + (11400714819323198485 : UInt64)) >>> UInt64.ofNat 30)) * (13787848793156543929 : UInt64)) ^^^ ((((so + (11400714819323198485 : UInt64)) ^^^ ((so + (11400714819323198485 : UInt64)) >>> UInt64.ofNat 30)) * (13787848793156543929 : UInt64)) >>> UInt64.ofNat 27)) * (10723151780598845931 : UInt64)) : Nat) : Int)), (42, .int .u64 (IntKind.wrap .u64 ((BitVec.ofInt (IntKind.bits .u64) ((UInt64.toNat (((((so + (11400714819323198485 : UInt64)) ^^^ ((so + (11400714819323198485 : UInt64)) >>> UInt64.ofNat 30)) * (13787848793156543929 : UInt64)) ^^^ ((((so + (11400714819323198485 : UInt64)) ^^^ ((so + (11400714819323198485 : UInt64)) >>> UInt64.ofNat 30)) * (13787848793156543929 : UInt64)) >>> UInt64.ofNat 27)) * (10723151780598845931 : UInt64)) : Nat) : Int) ^^^ BitVec.ofInt (IntKind.bits .u64) ((UInt64.toNat ((((((so + (11400714819323198485 : UInt64)) ^^^ ((so + (11400714819323198485 : UInt64)) >>> UInt64.ofNat 30)) * (13787848793156543929 : UInt64)) ^^^ ((((so + (11400714819323198485 : UInt64)) ^^^ ((so + (11400714819323198485 : UInt64)) >>> UInt64.ofNat 30)) * (13787848793156543929 : UInt64)) >>> UInt64.ofNat 27)) * (10723151780598845931 : UInt64)) >>> UInt64.ofNat 31) : Nat) : Int)).toNat : Int)))] [.int .u64 (IntKind.wrap .u64 ((BitVec.ofInt (IntKind.bits .u64) ((UInt64.toNat (((((so + (11400714819323198485 : UInt64)) ^^^ ((so + (11400714819323198485 : UInt64)) >>> UInt64.ofNat 30)) * (13787848793156543929 : UInt64)) ^^^ ((((so + (11400714819323198485 : UInt64)) ^^^ ((so + (11400714819323198485 : UInt64)) >>> UInt64.ofNat 30)) * (13787848793156543929 : UInt64)) >>> UInt64.ofNat 27)) * (10723151780598845931 : UInt64)) : Nat) : Int) ^^^ BitVec.ofInt (IntKind.bits .u64) ((UInt64.toNat ((((((so + (11400714819323198485 : UInt64)) ^^^ ((so + (11400714819323198485 : UInt64)) >>> UInt64.ofNat 30)) * (13787848793156543929 : UInt64)) ^^^ ((((so + (11400714819323198485 : UInt64)) ^^^ ((so + (11400714819323198485 : UInt64)) >>> UInt64.ofNat 30)) * (13787848793156543929 : UInt64)) >>> UInt64.ofNat 27)) * (10723151780598845931 : UInt64)) >>> UInt64.ofNat 31) : Nat) : Int)).toNat : Int))] 4 En56 (by kernel_rfl) (by kernel_rfl) rfl ?_
    intro ac57 En58
    rw [Go.Dbr.u64_xor (a := ((UInt64.toNat (((((so + (11400714819323198485 : UInt64)) ^^^ ((so + (11400714819323198485 : UInt64)) >>> UInt64.ofNat 30)) * (13787848793156543929 : UInt64)) ^^^ ((((so + (11400714819323198485 : UInt64)) ^^^ ((so + (11400714819323198485 : UInt64)) >>> UInt64.ofNat 30)) * (13787848793156543929 : UInt64)) >>> UInt64.ofNat 27)) * (10723151780598845931 : UInt64)) : Nat) : Int)) (b := ((UInt64.toNat ((((((so + (11400714819323198485 : UInt64)) ^^^ ((so + (11400714819323198485 : UInt64)) >>> UInt64.ofNat 30)) * (13787848793156543929 : UInt64)) ^^^ ((((so + (11400714819323198485 : UInt64)) ^^^ ((so + (11400714819323198485 : UInt64)) >>> UInt64.ofNat 30)) * (13787848793156543929 : UInt64)) >>> UInt64.ofNat 27)) * (10723151780598845931 : UInt64)) >>> UInt64.ofNat 31) : Nat) : Int)) (x := ((((so + (11400714819323198485 : UInt64)) ^^^ ((so + (11400714819323198485 : UInt64)) >>> UInt64.ofNat 30)) * (13787848793156543929 : UInt64)) ^^^ ((((so + (11400714819323198485 : UInt64)) ^^^ ((so + (11400714819323198485 : UInt64)) >>> UInt64.ofNat 30)) * (13787848793156543929 : UInt64)) >>> UInt64.ofNat 27)) * (10723151780598845931 : UInt64)) (y := (((((so + (11400714819323198485 : UInt64)) ^^^ ((so + (11400714819323198485 : UInt64)) >>> UInt64.ofNat 30)) * (13787848793156543929 : UInt64)) ^^^ ((((so + (11400714819323198485 : UInt64)) ^^^ ((so + (11400714819323198485 : UInt64)) >>> UInt64.ofNat 30)) * (13787848793156543929 : UInt64)) >>> UInt64.ofNat 27)) * (10723151780598845931 : UInt64)) >>> UInt64.ofNat 31) rfl rfl] at En58
    refine d_pures [(0, .pointer (some ⟨b, 0, none⟩)), (1, .int .i64 ((clampN n : Nat) : Int)), (4, .slice none 0 0), (5, .int .u64 ((UInt64.toNat ((((((so + (11400714819323198485 : UInt64)) ^^^ ((so + (11400714819323198485 : UInt64)) >>> UInt64.ofNat 30)) * (13787848793156543929 : UInt64)) ^^^ ((((so + (11400714819323198485 : UInt64)) ^^^ ((so + (11400714819323198485 : UInt64)) >>> UInt64.ofNat 30)) * (13787848793156543929 : UInt64)) >>> UInt64.ofNat 27)) * (10723151780598845931 : UInt64)) ^^^ ((((((so + (11400714819323198485 : UInt64)) ^^^ ((so + (11400714819323198485 : UInt64)) >>> UInt64.ofNat 30)) * (13787848793156543929 : UInt64)) ^^^ ((((so + (11400714819323198485 : UInt64)) ^^^ ((so + (11400714819323198485 : UInt64)) >>> UInt64.ofNat 30)) * (13787848793156543929 : UInt64)) >>> UInt64.ofNat 27)) * (10723151780598845931 : UInt64)) >>> UInt64.ofNat 31)) : Nat) : Int))] [.int .u64 ((UInt64.toNat ((((((so + (11400714819323198485 : UInt64)) ^^^ ((so + (11400714819323198485 : UInt64)) >>> UInt64.ofNat 30)) * (13787848793156543929 : UInt64)) ^^^ ((((so + (11400714819323198485 : UInt64)) ^^^ ((so + (11400714819323198485 : UInt64)) >>> UInt64.ofNat 30)) * (13787848793156543929 : UInt64)) >>> UInt64.ofNat 27)) * (10723151780598845931 : UInt64)) ^^^ ((((((so + (11400714819323198485 : UInt64)) ^^^ ((so + (11400714819323198485 : UInt64)) >>> UInt64.ofNat 30)) * (13787848793156543929 : UInt64)) ^^^ ((((so + (11400714819323198485 : UInt64)) ^^^ ((so + (11400714819323198485 : UInt64)) >>> UInt64.ofNat 30)) * (13787848793156543929 : UInt64)) >>> UInt64.ofNat 27)) * (10723151780598845931 : UInt64)) >>> UInt64.ofNat 31)) : Nat) : Int)] 5 En58 (by kernel_rfl) (by kernel_rfl) rfl ?_
    intro ac59 En60
    refine from_end (by kernel_rfl) ?_
    refine then_normal ?_
    refine wp_seq ?_
    refine region_from ?_  -- region 8
    refine d_pures [(0, .pointer (some ⟨b, 0, none⟩)), (1, .int .i64 ((clampN n : Nat) : Int)), (4, .slice none 0 0), (5, .int .u64 ((UInt64.toNat ((((((so + (11400714819323198485 : UInt64)) ^^^ ((so + (11400714819323198485 : UInt64)) >>> UInt64.ofNat 30)) * (13787848793156543929 : UInt64)) ^^^ ((((so + (11400714819323198485 : UInt64)) ^^^ ((so + (11400714819323198485 : UInt64)) >>> UInt64.ofNat 30)) * (13787848793156543929 : UInt64)) >>> UInt64.ofNat 27)) * (10723151780598845931 : UInt64)) ^^^ ((((((so + (11400714819323198485 : UInt64)) ^^^ ((so + (11400714819323198485 : UInt64)) >>> UInt64.ofNat 30)) * (13787848793156543929 : UInt64)) ^^^ ((((so + (11400714819323198485 : UInt64)) ^^^ ((so + (11400714819323198485 : UInt64)) >>> UInt64.ofNat 30)) * (13787848793156543929 : UInt64)) >>> UInt64.ofNat 27)) * (10723151780598845931 : UInt64)) >>> UInt64.ofNat 31)) : Nat) : Int)), (43, .int .i64 0)] [.int .i64 0] 1 En60 (by kernel_rfl) (by kernel_rfl) rfl ?_
    intro ac61 En62
    refine from_end (by kernel_rfl) ?_
    refine then_normal ?_
    refine wp_block ?_
    refine loop_m (fun ms63 ac wo => ∃ (k : Nat) (li : List UInt8) (xi : Option Addr) (yi : Nat), ms63 = (8 - k : Nat) ∧ Env ac 78 [(0, .pointer (some ⟨b, 0, none⟩)), (1, .int .i64 ((clampN n : Nat) : Int)), (4, .slice none 0 0), (5, .int .u64 ((UInt64.toNat ((((((so + (11400714819323198485 : UInt64)) ^^^ ((so + (11400714819323198485 : UInt64)) >>> UInt64.ofNat 30)) * (13787848793156543929 : UInt64)) ^^^ ((((so + (11400714819323198485 : UInt64)) ^^^ ((so + (11400714819323198485 : UInt64)) >>> UInt64.ofNat 30)) * (13787848793156543929 : UInt64)) >>> UInt64.ofNat 27)) * (10723151780598845931 : UInt64)) ^^^ ((((((so + (11400714819323198485 : UInt64)) ^^^ ((so + (11400714819323198485 : UInt64)) >>> UInt64.ofNat 30)) * (13787848793156543929 : UInt64)) ^^^ ((((so + (11400714819323198485 : UInt64)) ^^^ ((so + (11400714819323198485 : UInt64)) >>> UInt64.ofNat 30)) * (13787848793156543929 : UInt64)) >>> UInt64.ofNat 27)) * (10723151780598845931 : UInt64)) >>> UInt64.ofNat 31)) : Nat) : Int)), (43, .int .i64 ((k : Nat) : Int))] ∧ Ev w [.box b [.slice a (List.length l) cap, .int .u64 ((UInt64.toNat s : Nat) : Int)] 56, .vec a cap 1 (bys l) 5] wo [.box b [.slice xi (List.length li) yi, .int .u64 ((UInt64.toNat (nextS so) : Nat) : Int)] 56, .vec xi yi 1 (bys li) 5] ∧ (k ≤ 8) ∧ (li = lo ++ chunkB (mixU (nextS so)) k) ∧ (List.length li = List.length lo + k)) ⟨_, 0, lo, xo, yo, rfl, En62.sub (by kernel_rfl), Hv32.pick [0, 1] (by kernel_rfl) (by decide), by omega, by simp [chunkB], by simp⟩ ?_
    rintro mm69 ac65 wo66 ⟨k, li, xi, yi, rfl, En67, Hv68, hk, hli, hll⟩
    refine wp_seq ?_
    refine region_from ?_  -- region 9
    refine d_pures [(0, .pointer (some ⟨b, 0, none⟩)), (1, .int .i64 ((clampN n : Nat) : Int)), (4, .slice none 0 0), (5, .int .u64 ((UInt64.toNat ((((((so + (11400714819323198485 : UInt64)) ^^^ ((so + (11400714819323198485 : UInt64)) >>> UInt64.ofNat 30)) * (13787848793156543929 : UInt64)) ^^^ ((((so + (11400714819323198485 : UInt64)) ^^^ ((so + (11400714819323198485 : UInt64)) >>> UInt64.ofNat 30)) * (13787848793156543929 : UInt64)) >>> UInt64.ofNat 27)) * (10723151780598845931 : UInt64)) ^^^ ((((((so + (11400714819323198485 : UInt64)) ^^^ ((so + (11400714819323198485 : UInt64)) >>> UInt64.ofNat 30)) * (13787848793156543929 : UInt64)) ^^^ ((((so + (11400714819323198485 : UInt64)) ^^^ ((so + (11400714819323198485 : UInt64)) >>> UInt64.ofNat 30)) * (13787848793156543929 : UInt64)) >>> UInt64.ofNat 27)) * (10723151780598845931 : UInt64)) >>> UInt64.ofNat 31)) : Nat) : Int)), (43, .int .i64 ((k : Nat) : Int)), (44, .bool (decide (((k : Nat) : Int) < (8 : Int))))] [.bool (decide (((k : Nat) : Int) < (8 : Int)))] 1 En67 (by kernel_rfl) (by kernel_rfl) rfl ?_
    intro ac70 En71
    refine from_end (by kernel_rfl) ?_
    refine then_normal ?_
    refine wp_seq ?_
    refine cond_at En71 (t := decide (((k : Nat) : Int) < (8 : Int))) (by kernel_rfl) (fun hc72 => ?_) (fun hc72 => ?_)
    ·
      replace hc72 : ((k : Nat) : Int) < (8 : Int) := by simpa using hc72
      refine wp_skip ?_
      refine then_normal ?_
      refine wp_seq ?_
      refine wp_block ?_
      refine wp_seq ?_
      refine region_from ?_  -- region 10
      refine d_pures [(0, .pointer (some ⟨b, 0, none⟩)), (1, .int .i64 ((clampN n : Nat) : Int)), (4, .slice none 0 0), (5, .int .u64 ((UInt64.toNat ((((((so + (11400714819323198485 : UInt64)) ^^^ ((so + (11400714819323198485 : UInt64)) >>> UInt64.ofNat 30)) * (13787848793156543929 : UInt64)) ^^^ ((((so + (11400714819323198485 : UInt64)) ^^^ ((so + (11400714819323198485 : UInt64)) >>> UInt64.ofNat 30)) * (13787848793156543929 : UInt64)) >>> UInt64.ofNat 27)) * (10723151780598845931 : UInt64)) ^^^ ((((((so + (11400714819323198485 : UInt64)) ^^^ ((so + (11400714819323198485 : UInt64)) >>> UInt64.ofNat 30)) * (13787848793156543929 : UInt64)) ^^^ ((((so + (11400714819323198485 : UInt64)) ^^^ ((so + (11400714819323198485 : UInt64)) >>> UInt64.ofNat 30)) * (13787848793156543929 : UInt64)) >>> UInt64.ofNat 27)) * (10723151780598845931 : UInt64)) >>> UInt64.ofNat 31)) : Nat) : Int)), (6, .int .i64 ((k : Nat) : Int)), (43, .int .i64 ((k : Nat) : Int))] [.int .i64 ((k : Nat) : Int), .int .i64 ((k : Nat) : Int)] 2 En71 (by kernel_rfl) (by kernel_rfl) rfl ?_
      intro ac73 En74
      refine from_end (by kernel_rfl) ?_
      refine then_normal ?_
      refine region_cut (F := fun ac wo => ∃ (ao101 : Option Addr) (cp102 : Nat), Env ac 78 [(0, .pointer (some ⟨b, 0, none⟩)), (1, .int .i64 ((clampN n : Nat) : Int)), (4, .slice none 0 0), (5, .int .u64 ((UInt64.toNat ((((((so + (11400714819323198485 : UInt64)) ^^^ ((so + (11400714819323198485 : UInt64)) >>> UInt64.ofNat 30)) * (13787848793156543929 : UInt64)) ^^^ ((((so + (11400714819323198485 : UInt64)) ^^^ ((so + (11400714819323198485 : UInt64)) >>> UInt64.ofNat 30)) * (13787848793156543929 : UInt64)) >>> UInt64.ofNat 27)) * (10723151780598845931 : UInt64)) ^^^ ((((((so + (11400714819323198485 : UInt64)) ^^^ ((so + (11400714819323198485 : UInt64)) >>> UInt64.ofNat 30)) * (13787848793156543929 : UInt64)) ^^^ ((((so + (11400714819323198485 : UInt64)) ^^^ ((so + (11400714819323198485 : UInt64)) >>> UInt64.ofNat 30)) * (13787848793156543929 : UInt64)) >>> UInt64.ofNat 27)) * (10723151780598845931 : UInt64)) >>> UInt64.ofNat 31)) : Nat) : Int)), (43, .int .i64 ((k : Nat) : Int))] ∧ Ev w [.box b [.slice a (List.length l) cap, .int .u64 ((UInt64.toNat s : Nat) : Int)] 56, .vec a cap 1 (bys l) 5] wo [.box b [.slice ao101 (List.length (li ++ [UInt64.toUInt8 (((((((so + (11400714819323198485 : UInt64)) ^^^ ((so + (11400714819323198485 : UInt64)) >>> UInt64.ofNat 30)) * (13787848793156543929 : UInt64)) ^^^ ((((so + (11400714819323198485 : UInt64)) ^^^ ((so + (11400714819323198485 : UInt64)) >>> UInt64.ofNat 30)) * (13787848793156543929 : UInt64)) >>> UInt64.ofNat 27)) * (10723151780598845931 : UInt64)) ^^^ ((((((so + (11400714819323198485 : UInt64)) ^^^ ((so + (11400714819323198485 : UInt64)) >>> UInt64.ofNat 30)) * (13787848793156543929 : UInt64)) ^^^ ((((so + (11400714819323198485 : UInt64)) ^^^ ((so + (11400714819323198485 : UInt64)) >>> UInt64.ofNat 30)) * (13787848793156543929 : UInt64)) >>> UInt64.ofNat 27)) * (10723151780598845931 : UInt64)) >>> UInt64.ofNat 31)) >>> UInt64.ofNat (8 * k))])) cp102, .int .u64 ((UInt64.toNat (nextS so) : Nat) : Int)] 56, .vec ao101 cp102 1 (bys (li ++ [UInt64.toUInt8 (((((((so + (11400714819323198485 : UInt64)) ^^^ ((so + (11400714819323198485 : UInt64)) >>> UInt64.ofNat 30)) * (13787848793156543929 : UInt64)) ^^^ ((((so + (11400714819323198485 : UInt64)) ^^^ ((so + (11400714819323198485 : UInt64)) >>> UInt64.ofNat 30)) * (13787848793156543929 : UInt64)) >>> UInt64.ofNat 27)) * (10723151780598845931 : UInt64)) ^^^ ((((((so + (11400714819323198485 : UInt64)) ^^^ ((so + (11400714819323198485 : UInt64)) >>> UInt64.ofNat 30)) * (13787848793156543929 : UInt64)) ^^^ ((((so + (11400714819323198485 : UInt64)) ^^^ ((so + (11400714819323198485 : UInt64)) >>> UInt64.ofNat 30)) * (13787848793156543929 : UInt64)) >>> UInt64.ofNat 27)) * (10723151780598845931 : UInt64)) >>> UInt64.ofNat 31)) >>> UInt64.ofNat (8 * k))])) 5]) ?_ ?_
      ·
        refine draw_any (by kernel_rfl) 15 (by kernel_rfl) ?_  -- region 11
        have wo75 := Hv68.trans (Ev.drew Hv68.heap)
        refine any_pureR (d := some 46) En74 (v := .pointer (some ⟨b, 0, none⟩)) 0 (by kernel_rfl) (by kernel_rfl) rfl ?_
        intro ac76 En77
        refine any_pureR (d := some 47) En77 (v := .pointer (some ⟨b, 0, none⟩)) 1 (by kernel_rfl) (by kernel_rfl) rfl ?_
        intro ac78 En79
        refine any_pureR (d := some 48) En79 (v := .pointer (some ⟨b, 0, none⟩)) 2 (by kernel_rfl) (by kernel_rfl) rfl ?_
        intro ac80 En81
        refine any_pureR (d := some 49) En81 (v := .pointer (some ⟨b, 0, none⟩)) 3 (by kernel_rfl) (by kernel_rfl) rfl ?_
        intro ac82 En83
        refine any_pureR (d := some 51) En83 (v := .int .u64 ((UInt64.toNat ((((((so + (11400714819323198485 : UInt64)) ^^^ ((so + (11400714819323198485 : UInt64)) >>> UInt64.ofNat 30)) * (13787848793156543929 : UInt64)) ^^^ ((((so + (11400714819323198485 : UInt64)) ^^^ ((so + (11400714819323198485 : UInt64)) >>> UInt64.ofNat 30)) * (13787848793156543929 : UInt64)) >>> UInt64.ofNat 27)) * (10723151780598845931 : UInt64)) ^^^ ((((((so + (11400714819323198485 : UInt64)) ^^^ ((so + (11400714819323198485 : UInt64)) >>> UInt64.ofNat 30)) * (13787848793156543929 : UInt64)) ^^^ ((((so + (11400714819323198485 : UInt64)) ^^^ ((so + (11400714819323198485 : UInt64)) >>> UInt64.ofNat 30)) * (13787848793156543929 : UInt64)) >>> UInt64.ofNat 27)) * (10723151780598845931 : UInt64)) >>> UInt64.ofNat 31)) : Nat) : Int)) 5 (by kernel_rfl) (by kernel_rfl) rfl ?_
        intro ac84 En85
        refine any_pureR (d := some 52) En85 (v := .int .i64 ((k : Nat) : Int)) 6 (by kernel_rfl) (by kernel_rfl) rfl ?_
        intro ac86 En87
        refine any_pureR (d := some 53) En87 (v := .int .i64 (IntKind.wrap .i64 ((8 : Int) * ((k : Nat) : Int)))) 7 (by kernel_rfl) (by kernel_rfl) rfl ?_
        intro ac88 En89
        rw [Go.Dbr.wr64 (e := (8 : Int) * ((k : Nat) : Int)) (x := ((8 * k : Nat) : Int)) (by omega) (by omega) (by omega)] at En89
        refine any_pure (d := some 54) (s := nv (Op.shift .shr .u64 ((UInt64.toNat ((((((so + (11400714819323198485 : UInt64)) ^^^ ((so + (11400714819323198485 : UInt64)) >>> UInt64.ofNat 30)) * (13787848793156543929 : UInt64)) ^^^ ((((so + (11400714819323198485 : UInt64)) ^^^ ((so + (11400714819323198485 : UInt64)) >>> UInt64.ofNat 30)) * (13787848793156543929 : UInt64)) >>> UInt64.ofNat 27)) * (10723151780598845931 : UInt64)) ^^^ ((((((so + (11400714819323198485 : UInt64)) ^^^ ((so + (11400714819323198485 : UInt64)) >>> UInt64.ofNat 30)) * (13787848793156543929 : UInt64)) ^^^ ((((so + (11400714819323198485 : UInt64)) ^^^ ((so + (11400714819323198485 : UInt64)) >>> UInt64.ofNat 30)) * (13787848793156543929 : UInt64)) >>> UInt64.ofNat 27)) * (10723151780598845931 : UInt64)) >>> UInt64.ofNat 31)) : Nat) : Int) .i64 ((8 * k : Nat) : Int))) En89 (v := .int .u64 ((UInt64.toNat (((((((so + (11400714819323198485 : UInt64)) ^^^ ((so + (11400714819323198485 : UInt64)) >>> UInt64.ofNat 30)) * (13787848793156543929 : UInt64)) ^^^ ((((so + (11400714819323198485 : UInt64)) ^^^ ((so + (11400714819323198485 : UInt64)) >>> UInt64.ofNat 30)) * (13787848793156543929 : UInt64)) >>> UInt64.ofNat 27)) * (10723151780598845931 : UInt64)) ^^^ ((((((so + (11400714819323198485 : UInt64)) ^^^ ((so + (11400714819323198485 : UInt64)) >>> UInt64.ofNat 30)) * (13787848793156543929 : UInt64)) ^^^ ((((so + (11400714819323198485 : UInt64)) ^^^ ((so + (11400714819323198485 : UInt64)) >>> UInt64.ofNat 30)) * (13787848793156543929 : UInt64)) >>> UInt64.ofNat 27)) * (10723151780598845931 : UInt64)) >>> UInt64.ofNat 31)) >>> UInt64.ofNat (8 * k)) : Nat) : Int)) 8 (by kernel_rfl) (funext fun _ => run_nv (Go.Dbr.run_shr_u64 ((((((so + (11400714819323198485 : UInt64)) ^^^ ((so + (11400714819323198485 : UInt64)) >>> UInt64.ofNat 30)) * (13787848793156543929 : UInt64)) ^^^ ((((so + (11400714819323198485 : UInt64)) ^^^ ((so + (11400714819323198485 : UInt64)) >>> UInt64.ofNat 30)) * (13787848793156543929 : UInt64)) >>> UInt64.ofNat 27)) * (10723151780598845931 : UInt64)) ^^^ ((((((so + (11400714819323198485 : UInt64)) ^^^ ((so + (11400714819323198485 : UInt64)) >>> UInt64.ofNat 30)) * (13787848793156543929 : UInt64)) ^^^ ((((so + (11400714819323198485 : UInt64)) ^^^ ((so + (11400714819323198485 : UInt64)) >>> UInt64.ofNat 30)) * (13787848793156543929 : UInt64)) >>> UInt64.ofNat 27)) * (10723151780598845931 : UInt64)) >>> UInt64.ofNat 31)) .i64 (8 * k) (by omega) _)) (by kernel_rfl) rfl ?_
        intro ac90 En91
        refine any_pureR (d := some 55) En91 (v := .int .u8 (IntKind.wrap .u8 ((UInt64.toNat (((((((so + (11400714819323198485 : UInt64)) ^^^ ((so + (11400714819323198485 : UInt64)) >>> UInt64.ofNat 30)) * (13787848793156543929 : UInt64)) ^^^ ((((so + (11400714819323198485 : UInt64)) ^^^ ((so + (11400714819323198485 : UInt64)) >>> UInt64.ofNat 30)) * (13787848793156543929 : UInt64)) >>> UInt64.ofNat 27)) * (10723151780598845931 : UInt64)) ^^^ ((((((so + (11400714819323198485 : UInt64)) ^^^ ((so + (11400714819323198485 : UInt64)) >>> UInt64.ofNat 30)) * (13787848793156543929 : UInt64)) ^^^ ((((so + (11400714819323198485 : UInt64)) ^^^ ((so + (11400714819323198485 : UInt64)) >>> UInt64.ofNat 30)) * (13787848793156543929 : UInt64)) >>> UInt64.ofNat 27)) * (10723151780598845931 : UInt64)) >>> UInt64.ofNat 31)) >>> UInt64.ofNat (8 * k)) : Nat) : Int))) 9 (by kernel_rfl) (by kernel_rfl) rfl ?_
        intro ac92 En93
        rw [Go.Dbr.u64_to_u8 (a := ((UInt64.toNat (((((((so + (11400714819323198485 : UInt64)) ^^^ ((so + (11400714819323198485 : UInt64)) >>> UInt64.ofNat 30)) * (13787848793156543929 : UInt64)) ^^^ ((((so + (11400714819323198485 : UInt64)) ^^^ ((so + (11400714819323198485 : UInt64)) >>> UInt64.ofNat 30)) * (13787848793156543929 : UInt64)) >>> UInt64.ofNat 27)) * (10723151780598845931 : UInt64)) ^^^ ((((((so + (11400714819323198485 : UInt64)) ^^^ ((so + (11400714819323198485 : UInt64)) >>> UInt64.ofNat 30)) * (13787848793156543929 : UInt64)) ^^^ ((((so + (11400714819323198485 : UInt64)) ^^^ ((so + (11400714819323198485 : UInt64)) >>> UInt64.ofNat 30)) * (13787848793156543929 : UInt64)) >>> UInt64.ofNat 27)) * (10723151780598845931 : UInt64)) >>> UInt64.ofNat 31)) >>> UInt64.ofNat (8 * k)) : Nat) : Int)) (x := ((((((so + (11400714819323198485 : UInt64)) ^^^ ((so + (11400714819323198485 : UInt64)) >>> UInt64.ofNat 30)) * (13787848793156543929 : UInt64)) ^^^ ((((so + (11400714819323198485 : UInt64)) ^^^ ((so + (11400714819323198485 : UInt64)) >>> UInt64.ofNat 30)) * (13787848793156543929 : UInt64)) >>> UInt64.ofNat 27)) * (10723151780598845931 : UInt64)) ^^^ ((((((so + (11400714819323198485 : UInt64)) ^^^ ((so + (11400714819323198485 : UInt64)) >>> UInt64.ofNat 30)) * (13787848793156543929 : UInt64)) ^^^ ((((so + (11400714819323198485 : UInt64)) ^^^ ((so + (11400714819323198485 : UInt64)) >>> UInt64.ofNat 30)) * (13787848793156543929 : UInt64)) >>> UInt64.ofNat 27)) * (10723151780598845931 : UInt64)) >>> UInt64.ofNat 31)) >>> UInt64.ofNat (8 * k)) rfl] at En93
        refine any_two 4 10 (by kernel_rfl) ?_ ?_
        · rintro _ rfl
          refine op_loadbox (d := some 50) (t := 22) (b := b) (off := 0) (k := 0) (v := .slice xi (List.length li) yi) En93 (by kernel_rfl) wo75 rfl rfl (by kernel_rfl) ?_
          intro ac94 En95
          refine any_at 10 (by kernel_rfl) rfl ?_
          refine op_lit (d := some 56) (t := 22) (T := 5) (m := 1) (parts := #[(0, .int .u8 ((UInt8.toNat (UInt64.toUInt8 (((((((so + (11400714819323198485 : UInt64)) ^^^ ((so + (11400714819323198485 : UInt64)) >>> UInt64.ofNat 30)) * (13787848793156543929 : UInt64)) ^^^ ((((so + (11400714819323198485 : UInt64)) ^^^ ((so + (11400714819323198485 : UInt64)) >>> UInt64.ofNat 30)) * (13787848793156543929 : UInt64)) >>> UInt64.ofNat 27)) * (10723151780598845931 : UInt64)) ^^^ ((((((so + (11400714819323198485 : UInt64)) ^^^ ((so + (11400714819323198485 : UInt64)) >>> UInt64.ofNat 30)) * (13787848793156543929 : UInt64)) ^^^ ((((so + (11400714819323198485 : UInt64)) ^^^ ((so + (11400714819323198485 : UInt64)) >>> UInt64.ofNat 30)) * (13787848793156543929 : UInt64)) >>> UInt64.ofNat 27)) * (10723151780598845931 : UInt64)) >>> UInt64.ofNat 31)) >>> UInt64.ofNat (8 * k))) : Nat) : Int))]) (xs := bys [UInt64.toUInt8 (((((((so + (11400714819323198485 : UInt64)) ^^^ ((so + (11400714819323198485 : UInt64)) >>> UInt64.ofNat 30)) * (13787848793156543929 : UInt64)) ^^^ ((((so + (11400714819323198485 : UInt64)) ^^^ ((so + (11400714819323198485 : UInt64)) >>> UInt64.ofNat 30)) * (13787848793156543929 : UInt64)) >>> UInt64.ofNat 27)) * (10723151780598845931 : UInt64)) ^^^ ((((((so + (11400714819323198485 : UInt64)) ^^^ ((so + (11400714819323198485 : UInt64)) >>> UInt64.ofNat 30)) * (13787848793156543929 : UInt64)) ^^^ ((((so + (11400714819323198485 : UInt64)) ^^^ ((so + (11400714819323198485 : UInt64)) >>> UInt64.ofNat 30)) * (13787848793156543929 : UInt64)) >>> UInt64.ofNat 27)) * (10723151780598845931 : UInt64)) >>> UInt64.ofNat 31)) >>> UInt64.ofNat (8 * k))]) (sz := 1) En95 (by kernel_rfl) (by kernel_rfl) rfl (by decide) wo75 ?_
          intro ac97 wo98 bk96 En99 Hv100
          refine any_at 11 (by kernel_rfl) rfl ?_
          refine op_append (d := some 57) (t := 22) (tx := 22) (ty := 22) (T := 5) (k := 1) (ao := xi) (cap := yi) (sz := 1) (p := List.length li) (m := 1) (xs := bys li) (ys := bys [UInt64.toUInt8 (((((((so + (11400714819323198485 : UInt64)) ^^^ ((so + (11400714819323198485 : UInt64)) >>> UInt64.ofNat 30)) * (13787848793156543929 : UInt64)) ^^^ ((((so + (11400714819323198485 : UInt64)) ^^^ ((so + (11400714819323198485 : UInt64)) >>> UInt64.ofNat 30)) * (13787848793156543929 : UInt64)) >>> UInt64.ofNat 27)) * (10723151780598845931 : UInt64)) ^^^ ((((((so + (11400714819323198485 : UInt64)) ^^^ ((so + (11400714819323198485 : UInt64)) >>> UInt64.ofNat 30)) * (13787848793156543929 : UInt64)) ^^^ ((((so + (11400714819323198485 : UInt64)) ^^^ ((so + (11400714819323198485 : UInt64)) >>> UInt64.ofNat 30)) * (13787848793156543929 : UInt64)) >>> UInt64.ofNat 27)) * (10723151780598845931 : UInt64)) >>> UInt64.ofNat 31)) >>> UInt64.ofNat (8 * k))]) (x := .slice (some ⟨bk96, 0, none⟩) 1 1) (bytes := 1) En99 (by kernel_rfl) Hv100 rfl (bys_len _) (Reads.src (size := 1) (tx := 22) (e' := 5) (by kernel_rfl) (Hv100.heap.reads (k := 2) rfl) rfl (fun e => by cases e) (bys_one _)) (by kernel_rfl) (z := .int .u8 0) (by kernel_rfl) rfl (by decide) (by omega) (by unfold maxLen; omega) ?_
          intro ac105 wo106 ao101 cp102 En107 Hv108 _ _
          rw [← bys_append] at Hv108
          have ehz103 : (List.length li) + 1 = List.length (li ++ [UInt64.toUInt8 (((((((so + (11400714819323198485 : UInt64)) ^^^ ((so + (11400714819323198485 : UInt64)) >>> UInt64.ofNat 30)) * (13787848793156543929 : UInt64)) ^^^ ((((so + (11400714819323198485 : UInt64)) ^^^ ((so + (11400714819323198485 : UInt64)) >>> UInt64.ofNat 30)) * (13787848793156543929 : UInt64)) >>> UInt64.ofNat 27)) * (10723151780598845931 : UInt64)) ^^^ ((((((so + (11400714819323198485 : UInt64)) ^^^ ((so + (11400714819323198485 : UInt64)) >>> UInt64.ofNat 30)) * (13787848793156543929 : UInt64)) ^^^ ((((so + (11400714819323198485 : UInt64)) ^^^ ((so + (11400714819323198485 : UInt64)) >>> UInt64.ofNat 30)) * (13787848793156543929 : UInt64)) >>> UInt64.ofNat 27)) * (10723151780598845931 : UInt64)) >>> UInt64.ofNat 31)) >>> UInt64.ofNat (8 * k))]) := (by first | (simp; done) | (simp; omega) | omega)
          rw [ehz103] at En107
          refine any_pureR (d := some 58) En107 (v := .pointer (some ⟨b, 0, none⟩)) 12 (by kernel_rfl) (by kernel_rfl) rfl ?_
          intro ac109 En110
          refine any_pureR (d := some 59) En110 (v := .pointer (some ⟨b, 0, none⟩)) 13 (by kernel_rfl) (by kernel_rfl) rfl ?_
          intro ac111 En112
          refine any_at 14 (by kernel_rfl) rfl ?_
          refine op_storebox (d := none) (t := 22) (b := b) (off := 0) (k := 0) (v := .slice ao101 (List.length (li ++ [UInt64.toUInt8 (((((((so + (11400714819323198485 : UInt64)) ^^^ ((so + (11400714819323198485 : UInt64)) >>> UInt64.ofNat 30)) * (13787848793156543929 : UInt64)) ^^^ ((((so + (11400714819323198485 : UInt64)) ^^^ ((so + (11400714819323198485 : UInt64)) >>> UInt64.ofNat 30)) * (13787848793156543929 : UInt64)) >>> UInt64.ofNat 27)) * (10723151780598845931 : UInt64)) ^^^ ((((((so + (11400714819323198485 : UInt64)) ^^^ ((so + (11400714819323198485 : UInt64)) >>> UInt64.ofNat 30)) * (13787848793156543929 : UInt64)) ^^^ ((((so + (11400714819323198485 : UInt64)) ^^^ ((so + (11400714819323198485 : UInt64)) >>> UInt64.ofNat 30)) * (13787848793156543929 : UInt64)) >>> UInt64.ofNat 27)) * (10723151780598845931 : UInt64)) >>> UInt64.ofNat 31)) >>> UInt64.ofNat (8 * k))])) cp102) (old := .slice xi (List.length li) yi) En112 (by kernel_rfl) Hv108 rfl rfl (by kernel_rfl) rfl (L' := [.box b [.slice ao101 (List.length (li ++ [UInt64.toUInt8 (((((((so + (11400714819323198485 : UInt64)) ^^^ ((so + (11400714819323198485 : UInt64)) >>> UInt64.ofNat 30)) * (13787848793156543929 : UInt64)) ^^^ ((((so + (11400714819323198485 : UInt64)) ^^^ ((so + (11400714819323198485 : UInt64)) >>> UInt64.ofNat 30)) * (13787848793156543929 : UInt64)) >>> UInt64.ofNat 27)) * (10723151780598845931 : UInt64)) ^^^ ((((((so + (11400714819323198485 : UInt64)) ^^^ ((so + (11400714819323198485 : UInt64)) >>> UInt64.ofNat 30)) * (13787848793156543929 : UInt64)) ^^^ ((((so + (11400714819323198485 : UInt64)) ^^^ ((so + (11400714819323198485 : UInt64)) >>> UInt64.ofNat 30)) * (13787848793156543929 : UInt64)) >>> UInt64.ofNat 27)) * (10723151780598845931 : UInt64)) >>> UInt64.ofNat 31)) >>> UInt64.ofNat (8 * k))])) cp102, .int .u64 ((UInt64.toNat (nextS so) : Nat) : Int)] 56, .vec ao101 cp102 1 (bys (li ++ [UInt64.toUInt8 (((((((so + (11400714819323198485 : UInt64)) ^^^ ((so + (11400714819323198485 : UInt64)) >>> UInt64.ofNat 30)) * (13787848793156543929 : UInt64)) ^^^ ((((so + (11400714819323198485 : UInt64)) ^^^ ((so + (11400714819323198485 : UInt64)) >>> UInt64.ofNat 30)) * (13787848793156543929 : UInt64)) >>> UInt64.ofNat 27)) * (10723151780598845931 : UInt64)) ^^^ ((((((so + (11400714819323198485 : UInt64)) ^^^ ((so + (11400714819323198485 : UInt64)) >>> UInt64.ofNat 30)) * (13787848793156543929 : UInt64)) ^^^ ((((so + (11400714819323198485 : UInt64)) ^^^ ((so + (11400714819323198485 : UInt64)) >>> UInt64.ofNat 30)) * (13787848793156543929 : UInt64)) >>> UInt64.ofNat 27)) * (10723151780598845931 : UInt64)) >>> UInt64.ofNat 31)) >>> UInt64.ofNat (8 * k))])) 5, .vec (some ⟨bk96, 0, none⟩) 1 1 (bys [UInt64.toUInt8 (((((((so + (11400714819323198485 : UInt64)) ^^^ ((so + (11400714819323198485 : UInt64)) >>> UInt64.ofNat 30)) * (13787848793156543929 : UInt64)) ^^^ ((((so + (11400714819323198485 : UInt64)) ^^^ ((so + (11400714819323198485 : UInt64)) >>> UInt64.ofNat 30)) * (13787848793156543929 : UInt64)) >>> UInt64.ofNat 27)) * (10723151780598845931 : UInt64)) ^^^ ((((((so + (11400714819323198485 : UInt64)) ^^^ ((so + (11400714819323198485 : UInt64)) >>> UInt64.ofNat 30)) * (13787848793156543929 : UInt64)) ^^^ ((((so + (11400714819323198485 : UInt64)) ^^^ ((so + (11400714819323198485 : UInt64)) >>> UInt64.ofNat 30)) * (13787848793156543929 : UInt64)) >>> UInt64.ofNat 27)) * (10723151780598845931 : UInt64)) >>> UInt64.ofNat 31)) >>> UInt64.ofNat (8 * k))]) 5]) rfl ?_
          intro ac113 wo114  En115 Hv116
          exact any_end (by kernel_rfl) ⟨ao101, cp102, En115.sub (by kernel_rfl), Hv116.pick [0, 1] (by kernel_rfl) (by decide)⟩
        · rintro _ rfl
          refine op_lit (d := some 56) (t := 22) (T := 5) (m := 1) (parts := #[(0, .int .u8 ((UInt8.toNat (UInt64.toUInt8 (((((((so + (11400714819323198485 : UInt64)) ^^^ ((so + (11400714819323198485 : UInt64)) >>> UInt64.ofNat 30)) * (13787848793156543929 : UInt64)) ^^^ ((((so + (11400714819323198485 : UInt64)) ^^^ ((so + (11400714819323198485 : UInt64)) >>> UInt64.ofNat 30)) * (13787848793156543929 : UInt64)) >>> UInt64.ofNat 27)) * (10723151780598845931 : UInt64)) ^^^ ((((((so + (11400714819323198485 : UInt64)) ^^^ ((so + (11400714819323198485 : UInt64)) >>> UInt64.ofNat 30)) * (13787848793156543929 : UInt64)) ^^^ ((((so + (11400714819323198485 : UInt64)) ^^^ ((so + (11400714819323198485 : UInt64)) >>> UInt64.ofNat 30)) * (13787848793156543929 : UInt64)) >>> UInt64.ofNat 27)) * (10723151780598845931 : UInt64)) >>> UInt64.ofNat 31)) >>> UInt64.ofNat (8 * k))) : Nat) : Int))]) (xs := bys [UInt64.toUInt8 (((((((so + (11400714819323198485 : UInt64)) ^^^ ((so + (11400714819323198485 : UInt64)) >>> UInt64.ofNat 30)) * (13787848793156543929 : UInt64)) ^^^ ((((so + (11400714819323198485 : UInt64)) ^^^ ((so + (11400714819323198485 : UInt64)) >>> UInt64.ofNat 30)) * (13787848793156543929 : UInt64)) >>> UInt64.ofNat 27)) * (10723151780598845931 : UInt64)) ^^^ ((((((so + (11400714819323198485 : UInt64)) ^^^ ((so + (11400714819323198485 : UInt64)) >>> UInt64.ofNat 30)) * (13787848793156543929 : UInt64)) ^^^ ((((so + (11400714819323198485 : UInt64)) ^^^ ((so + (11400714819323198485 : UInt64)) >>> UInt64.ofNat 30)) * (13787848793156543929 : UInt64)) >>> UInt64.ofNat 27)) * (10723151780598845931 : UInt64)) >>> UInt64.ofNat 31)) >>> UInt64.ofNat (8 * k))]) (sz := 1) En93 (by kernel_rfl) (by kernel_rfl) rfl (by decide) wo75 ?_
          intro ac118 wo119 bk117 En120 Hv121
          refine any_at 4 (by kernel_rfl) rfl ?_
          refine op_loadbox (d := some 50) (t := 22) (b := b) (off := 0) (k := 0) (v := .slice xi (List.length li) yi) En120 (by kernel_rfl) Hv121 rfl rfl (by kernel_rfl) ?_
          intro ac122 En123
          refine any_at 11 (by kernel_rfl) rfl ?_
          refine op_append (d := some 57) (t := 22) (tx := 22) (ty := 22) (T := 5) (k := 1) (ao := xi) (cap := yi) (sz := 1) (p := List.length li) (m := 1) (xs := bys li) (ys := bys [UInt64.toUInt8 (((((((so + (11400714819323198485 : UInt64)) ^^^ ((so + (11400714819323198485 : UInt64)) >>> UInt64.ofNat 30)) * (13787848793156543929 : UInt64)) ^^^ ((((so + (11400714819323198485 : UInt64)) ^^^ ((so + (11400714819323198485 : UInt64)) >>> UInt64.ofNat 30)) * (13787848793156543929 : UInt64)) >>> UInt64.ofNat 27)) * (10723151780598845931 : UInt64)) ^^^ ((((((so + (11400714819323198485 : UInt64)) ^^^ ((so + (11400714819323198485 : UInt64)) >>> UInt64.ofNat 30)) * (13787848793156543929 : UInt64)) ^^^ ((((so + (11400714819323198485 : UInt64)) ^^^ ((so + (11400714819323198485 : UInt64)) >>> UInt64.ofNat 30)) * (13787848793156543929 : UInt64)) >>> UInt64.ofNat 27)) * (10723151780598845931 : UInt64)) >>> UInt64.ofNat 31)) >>> UInt64.ofNat (8 * k))]) (x := .slice (some ⟨bk117, 0, none⟩) 1 1) (bytes := 1) En123 (by kernel_rfl) Hv121 rfl (bys_len _) (Reads.src (size := 1) (tx := 22) (e' := 5) (by kernel_rfl) (Hv121.heap.reads (k := 2) rfl) rfl (fun e => by cases e) (bys_one _)) (by kernel_rfl) (z := .int .u8 0) (by kernel_rfl) rfl (by decide) (by omega) (by unfold maxLen; omega) ?_
          intro ac128 wo129 ao124 cp125 En130 Hv131 _ _
          rw [← bys_append] at Hv131
          have ehz126 : (List.length li) + 1 = List.length (li ++ [UInt64.toUInt8 (((((((so + (11400714819323198485 : UInt64)) ^^^ ((so + (11400714819323198485 : UInt64)) >>> UInt64.ofNat 30)) * (13787848793156543929 : UInt64)) ^^^ ((((so + (11400714819323198485 : UInt64)) ^^^ ((so + (11400714819323198485 : UInt64)) >>> UInt64.ofNat 30)) * (13787848793156543929 : UInt64)) >>> UInt64.ofNat 27)) * (10723151780598845931 : UInt64)) ^^^ ((((((so + (11400714819323198485 : UInt64)) ^^^ ((so + (11400714819323198485 : UInt64)) >>> UInt64.ofNat 30)) * (13787848793156543929 : UInt64)) ^^^ ((((so + (11400714819323198485 : UInt64)) ^^^ ((so + (11400714819323198485 : UInt64)) >>> UInt64.ofNat 30)) * (13787848793156543929 : UInt64)) >>> UInt64.ofNat 27)) * (10723151780598845931 : UInt64)) >>> UInt64.ofNat 31)) >>> UInt64.ofNat (8 * k))]) := (by first | (simp; done) | (simp; omega) | omega)
          rw [ehz126] at En130
          refine any_pureR (d := some 58) En130 (v := .pointer (some ⟨b, 0, none⟩)) 12 (by kernel_rfl) (by kernel_rfl) rfl ?_
          intro ac132 En133
          refine any_pureR (d := some 59) En133 (v := .pointer (some ⟨b, 0, none⟩)) 13 (by kernel_rfl) (by kernel_rfl) rfl ?_
          intro ac134 En135
          refine any_at 14 (by kernel_rfl) rfl ?_
          refine op_storebox (d := none) (t := 22) (b := b) (off := 0) (k := 0) (v := .slice ao124 (List.length (li ++ [UInt64.toUInt8 (((((((so + (11400714819323198485 : UInt64)) ^^^ ((so + (11400714819323198485 : UInt64)) >>> UInt64.ofNat 30)) * (13787848793156543929 : UInt64)) ^^^ ((((so + (11400714819323198485 : UInt64)) ^^^ ((so + (11400714819323198485 : UInt64)) >>> UInt64.ofNat 30)) * (13787848793156543929 : UInt64)) >>> UInt64.ofNat 27)) * (10723151780598845931 : UInt64)) ^^^ ((((((so + (11400714819323198485 : UInt64)) ^^^ ((so + (11400714819323198485 : UInt64)) >>> UInt64.ofNat 30)) * (13787848793156543929 : UInt64)) ^^^ ((((so + (11400714819323198485 : UInt64)) ^^^ ((so + (11400714819323198485 : UInt64)) >>> UInt64.ofNat 30)) * (13787848793156543929 : UInt64)) >>> UInt64.ofNat 27)) * (10723151780598845931 : UInt64)) >>> UInt64.ofNat 31)) >>> UInt64.ofNat (8 * k))])) cp125) (old := .slice xi (List.length li) yi) En135 (by kernel_rfl) Hv131 rfl rfl (by kernel_rfl) rfl (L' := [.box b [.slice ao124 (List.length (li ++ [UInt64.toUInt8 (((((((so + (11400714819323198485 : UInt64)) ^^^ ((so + (11400714819323198485 : UInt64)) >>> UInt64.ofNat 30)) * (13787848793156543929 : UInt64)) ^^^ ((((so + (11400714819323198485 : UInt64)) ^^^ ((so + (11400714819323198485 : UInt64)) >>> UInt64.ofNat 30)) * (13787848793156543929 : UInt64)) >>> UInt64.ofNat 27)) * (10723151780598845931 : UInt64)) ^^^ ((((((so + (11400714819323198485 : UInt64)) ^^^ ((so + (11400714819323198485 : UInt64)) >>> UInt64.ofNat 30)) * (13787848793156543929 : UInt64)) ^^^ ((((so + (11400714819323198485 : UInt64)) ^^^ ((so + (11400714819323198485 : UInt64)) >>> UInt64.ofNat 30)) * (13787848793156543929 : UInt64)) >>> UInt64.ofNat 27)) * (10723151780598845931 : UInt64)) >>> UInt64.ofNat 31)) >>> UInt64.ofNat (8 * k))])) cp125, .int .u64 ((UInt64.toNat (nextS so) : Nat) : Int)] 56, .vec ao124 cp125 1 (bys (li ++ [UInt64.toUInt8 (((((((so + (11400714819323198485 : UInt64)) ^^^ ((so + (11400714819323198485 : UInt64)) >>> UInt64.ofNat 30)) * (13787848793156543929 : UInt64)) ^^^ ((((so + (11400714819323198485 : UInt64)) ^^^ ((so + (11400714819323198485 : UInt64)) >>> UInt64.ofNat 30)) * (13787848793156543929 : UInt64)) >>> UInt64.ofNat 27)) * (10723151780598845931 : UInt64)) ^^^ ((((((so + (11400714819323198485 : UInt64)) ^^^ ((so + (11400714819323198485 : UInt64)) >>> UInt64.ofNat 30)) * (13787848793156543929 : UInt64)) ^^^ ((((so + (11400714819323198485 : UInt64)) ^^^ ((so + (11400714819323198485 : UInt64)) >>> UInt64.ofNat 30)) * (13787848793156543929 : UInt64)) >>> UInt64.ofNat 27)) * (10723151780598845931 : UInt64)) >>> UInt64.ofNat 31)) >>> UInt64.ofNat (8 * k))])) 5, .vec (some ⟨bk117, 0, none⟩) 1 1 (bys [UInt64.toUInt8 (((((((so + (11400714819323198485 : UInt64)) ^^^ ((so + (11400714819323198485 : UInt64)) >>> UInt64.ofNat 30)) * (13787848793156543929 : UInt64)) ^^^ ((((so + (11400714819323198485 : UInt64)) ^^^ ((so + (11400714819323198485 : UInt64)) >>> UInt64.ofNat 30)) * (13787848793156543929 : UInt64)) >>> UInt64.ofNat 27)) * (10723151780598845931 : UInt64)) ^^^ ((((((so + (11400714819323198485 : UInt64)) ^^^ ((so + (11400714819323198485 : UInt64)) >>> UInt64.ofNat 30)) * (13787848793156543929 : UInt64)) ^^^ ((((so + (11400714819323198485 : UInt64)) ^^^ ((so + (11400714819323198485 : UInt64)) >>> UInt64.ofNat 30)) * (13787848793156543929 : UInt64)) >>> UInt64.ofNat 27)) * (10723151780598845931 : UInt64)) >>> UInt64.ofNat 31)) >>> UInt64.ofNat (8 * k))]) 5]) rfl ?_
          intro ac136 wo137  En138 Hv139
          exact any_end (by kernel_rfl) ⟨ao124, cp125, En138.sub (by kernel_rfl), Hv139.pick [0, 1] (by kernel_rfl) (by decide)⟩
      ·
        rintro ac140 wo141 ⟨ao101, cp102, En142, Hv143⟩
        refine block_normal ?_
        refine then_normal ?_
        refine region_from ?_  -- region 12
        refine d_pures [(0, .pointer (some ⟨b, 0, none⟩)), (1, .int .i64 ((clampN n : Nat) : Int)), (4, .slice none 0 0), (5, .int .u64 ((UInt64.toNat ((((((so + (11400714819323198485 : UInt64)) ^^^ ((so + (11400714819323198485 : UInt64)) >>> UInt64.ofNat 30)) * (13787848793156543929 : UInt64)) ^^^ ((((so + (11400714819323198485 : UInt64)) ^^^ ((so + (11400714819323198485 : UInt64)) >>> UInt64.ofNat 30)) * (13787848793156543929 : UInt64)) >>> UInt64.ofNat 27)) * (10723151780598845931 : UInt64)) ^^^ ((((((so + (11400714819323198485 : UInt64)) ^^^ ((so + (11400714819323198485 : UInt64)) >>> UInt64.ofNat 30)) * (13787848793156543929 : UInt64)) ^^^ ((((so + (11400714819323198485 : UInt64)) ^^^ ((so + (11400714819323198485 : UInt64)) >>> UInt64.ofNat 30)) * (13787848793156543929 : UInt64)) >>> UInt64.ofNat 27)) * (10723151780598845931 : UInt64)) >>> UInt64.ofNat 31)) : Nat) : Int)), (43, .int .i64 ((k : Nat) : Int)), (60, .int .i64 (IntKind.wrap .i64 (((k : Nat) : Int) + (1 : Int))))] [.int .i64 (IntKind.wrap .i64 (((k : Nat) : Int) + (1 : Int)))] 1 En142 (by kernel_rfl) (by kernel_rfl) rfl ?_
        intro ac144 En145
        rw [Go.Dbr.wr64 (e := ((k : Nat) : Int) + (1 : Int)) (x := ((k + 1 : Nat) : Int)) (by omega) (by omega) (by omega)] at En145
        refine d_pures [(0, .pointer (some ⟨b, 0, none⟩)), (1, .int .i64 ((clampN n : Nat) : Int)), (4, .slice none 0 0), (5, .int .u64 ((UInt64.toNat ((((((so + (11400714819323198485 : UInt64)) ^^^ ((so + (11400714819323198485 : UInt64)) >>> UInt64.ofNat 30)) * (13787848793156543929 : UInt64)) ^^^ ((((so + (11400714819323198485 : UInt64)) ^^^ ((so + (11400714819323198485 : UInt64)) >>> UInt64.ofNat 30)) * (13787848793156543929 : UInt64)) >>> UInt64.ofNat 27)) * (10723151780598845931 : UInt64)) ^^^ ((((((so + (11400714819323198485 : UInt64)) ^^^ ((so + (11400714819323198485 : UInt64)) >>> UInt64.ofNat 30)) * (13787848793156543929 : UInt64)) ^^^ ((((so + (11400714819323198485 : UInt64)) ^^^ ((so + (11400714819323198485 : UInt64)) >>> UInt64.ofNat 30)) * (13787848793156543929 : UInt64)) >>> UInt64.ofNat 27)) * (10723151780598845931 : UInt64)) >>> UInt64.ofNat 31)) : Nat) : Int)), (43, .int .i64 ((k + 1 : Nat) : Int))] [.int .i64 ((k + 1 : Nat) : Int)] 2 En145 (by kernel_rfl) (by kernel_rfl) rfl ?_
        intro ac146 En147
        refine from_end (by kernel_rfl) ?_
        refine then_normal ?_
        refine ⟨_, ⟨k + 1, li ++ [UInt64.toUInt8 (mixU (nextS so) >>> UInt64.ofNat (8 * k))], ao101, cp102, rfl, En147.sub (by kernel_rfl), Hv143.pick [0, 1] (by kernel_rfl) (by decide), by omega, by rw [hli, chunkB_succ, List.append_assoc], by simp; omega⟩, ?_⟩
        omega
    ·
      replace hc72 : ¬ (((k : Nat) : Int) < (8 : Int)) := by simpa using hc72
      refine wp_exit ?_
      refine then_exit ?_
      refine then_exit ?_
      refine block_exit ?_
      refine block_normal ?_
      refine then_normal ?_
      have h8 : k = 8 := by omega
      have hd2 : Den li (nextS so) f := by rw [hli, h8]; exact hd1.fill
      refine ⟨_, ⟨li, nextS so, xi, yi, rfl, En71.sub (by kernel_rfl), Hv68.pick [0, 1] (by kernel_rfl) (by decide), hd2, by omega⟩, ?_⟩
      omega
  ·
    replace hc20 : ¬ (((List.length lo : Nat) : Int) < ((clampN n : Nat) : Int)) := by simpa using hc20
    refine wp_exit ?_
    refine then_exit ?_
    refine then_exit ?_
    refine block_exit ?_
    refine then_normal ?_
    refine wp_seq ?_
    refine region_from ?_  -- region 13
    refine d_pures [(0, .pointer (some ⟨b, 0, none⟩)), (1, .int .i64 ((clampN n : Nat) : Int)), (4, .slice none 0 0), (63, .pointer (some ⟨b, 0, none⟩))] [.pointer (some ⟨b, 0, none⟩), .pointer (some ⟨b, 0, none⟩), .pointer (some ⟨b, 0, none⟩)] 3 En19 (by kernel_rfl) (by kernel_rfl) rfl ?_
    intro ac148 En149
    refine from_op (by kernel_rfl) ?_
    refine op_loadbox (d := some 64) (t := 22) (b := b) (off := 0) (k := 0) (v := .slice xo (List.length lo) yo) En149 (by kernel_rfl) Hv12 rfl rfl (by kernel_rfl) ?_
    intro ac150 En151
    refine d_pures [(0, .pointer (some ⟨b, 0, none⟩)), (1, .int .i64 ((clampN n : Nat) : Int)), (4, .slice none 0 0), (64, .slice xo (List.length lo) yo), (65, .int .i64 ((clampN n : Nat) : Int))] [.int .i64 ((clampN n : Nat) : Int)] 5 En151 (by kernel_rfl) (by kernel_rfl) rfl ?_
    intro ac152 En153
    refine from_op (by kernel_rfl) ?_
    have hcap154 := bys_vcap Hv12.heap (k := 1) rfl
    refine op_slice0 (d := some 66) (t := 22) (e := 5) (sz := 1) (len := List.length lo) (cap := yo) (hi := clampN n) (ao := xo) (lov := none) (hiv := (some (.int .i64 ((clampN n : Nat) : Int)))) En153 (by kernel_rfl) (by kernel_rfl) (by kernel_rfl) (by omega) (.inl ⟨rfl, rfl⟩) (.inr ⟨.i64, rfl⟩) ?_
    intro ac155 En156
    refine from_op (by kernel_rfl) ?_
    have Hv157 : Ev w [.box b [.slice a (List.length l) cap, .int .u64 ((UInt64.toNat s : Nat) : Int)] 56, .vec a cap 1 (bys l) 5] wo10 [.box b [.slice xo (List.length lo) yo, .int .u64 ((UInt64.toNat so : Nat) : Int)] 56, .vec xo yo 1 (bys lo) 5, .vec none 0 1 (bys []) 5] := Ev.nil (sz := 1) (T := 5) Hv12
    refine op_append (d := some 67) (t := 22) (tx := 22) (ty := 22) (T := 5) (k := 2) (ao := none) (cap := 0) (sz := 1) (p := 0) (m := clampN n) (xs := bys []) (ys := bys (List.take (clampN n) lo)) (x := .slice xo (clampN n) yo) (bytes := 1) En156 (by kernel_rfl) Hv157 rfl (bys_lenn (by simp)) (Reads.src (size := 1) (tx := 22) (e' := 5) (by kernel_rfl) (bys_take_reads (Hv157.heap.reads (k := 1) rfl) (clampN n)) (bys_lenn (by first | (simp; done) | (simp; omega))) (fun e => by have := (bys_vnz Hv12.heap (k := 1) rfl) e; omega) (bys_one _)) (by kernel_rfl) (z := .int .u8 0) (by kernel_rfl) rfl (by decide) (by omega) (by unfold maxLen; omega) ?_
    intro ac162 wo163 ao158 cp159 En164 Hv165 _ _
    rw [bys_nil_append] at Hv165
    have ehz160 : 0 + clampN n = List.length (List.take (clampN n) lo) := (by first | (simp; done) | (simp; omega) | omega)
    rw [ehz160] at En164
    refine d_pures [(0, .pointer (some ⟨b, 0, none⟩)), (1, .int .i64 ((clampN n : Nat) : Int)), (4, .slice none 0 0), (7, .slice ao158 (List.length (List.take (clampN n) lo)) cp159)] [.slice ao158 (List.length (List.take (clampN n) lo)) cp159] 8 En164 (by kernel_rfl) (by kernel_rfl) rfl ?_
    intro ac166 En167
    refine from_end (by kernel_rfl) ?_
    refine then_normal ?_
    refine wp_seq ?_
    refine region_from ?_  -- region 14
    refine d_pures [(0, .pointer (some ⟨b, 0, none⟩)), (1, .int .i64 ((clampN n : Nat) : Int)), (4, .slice none 0 0), (7, .slice ao158 (List.length (List.take (clampN n) lo)) cp159), (68, .pointer (some ⟨b, 0, none⟩)), (71, .pointer (some ⟨b, 0, none⟩))] [.pointer (some ⟨b, 0, none⟩), .pointer (some ⟨b, 0, none⟩), .pointer (some ⟨b, 0, none⟩), .pointer (some ⟨b, 0, none⟩)] 4 En167 (by kernel_rfl) (by kernel_rfl) rfl ?_
    intro ac168 En169
    refine from_op (by kernel_rfl) ?_
    refine op_loadbox (d := some 72) (t := 22) (b := b) (off := 0) (k := 0) (v := .slice xo (List.length lo) yo) En169 (by kernel_rfl) Hv165 rfl rfl (by kernel_rfl) ?_
    intro ac170 En171
    refine d_pures [(0, .pointer (some ⟨b, 0, none⟩)), (1, .int .i64 ((clampN n : Nat) : Int)), (4, .slice none 0 0), (7, .slice ao158 (List.length (List.take (clampN n) lo)) cp159), (68, .pointer (some ⟨b, 0, none⟩)), (72, .slice xo (List.length lo) yo), (73, .int .i64 ((clampN n : Nat) : Int))] [.int .i64 ((clampN n : Nat) : Int)] 6 En171 (by kernel_rfl) (by kernel_rfl) rfl ?_
    intro ac172 En173
    refine from_op (by kernel_rfl) ?_
    have hcap174 := bys_vcap Hv165.heap (k := 1) rfl
    refine op_slice (d := some 74) (t := 22) (e := 5) (sz := 1) (len := List.length lo) (cap := yo) (lo := clampN n) (hi := List.length lo) (ao := xo) (lov := (some (.int .i64 ((clampN n : Nat) : Int)))) (hiv := none) En173 (by kernel_rfl) (by kernel_rfl) (by kernel_rfl) (by omega) (by omega) (.inr ⟨.i64, rfl⟩) (.inl ⟨rfl, rfl⟩) ?_
    intro ac175 En176
    have Hv177 : Ev w [.box b [.slice a (List.length l) cap, .int .u64 ((UInt64.toNat s : Nat) : Int)] 56, .vec a cap 1 (bys l) 5] wo163 [.box b [.slice xo (List.length lo) yo, .int .u64 ((UInt64.toNat so : Nat) : Int)] 56, .vec (cutAt xo yo (clampN n) 1) (yo - (clampN n)) 1 (bys (List.drop (clampN n) lo)) 5, .vec ao158 cp159 1 (bys (List.take (clampN n) lo)) 5] := by
      have h := Ev.cut (k := 1) (n := List.length lo) (sz := 1) Hv165 rfl (bys_len _) (by omega) (clampN n) (List.length lo) (by omega) (by omega)
      rw [bys_cutw (l := lo) (lo := clampN n) (n := List.length lo) (by simp)] at h
      exact h
    refine d_pures [(0, .pointer (some ⟨b, 0, none⟩)), (1, .int .i64 ((clampN n : Nat) : Int)), (4, .slice none 0 0), (7, .slice ao158 (List.length (List.take (clampN n) lo)) cp159), (74, .slice (cutAt xo yo (clampN n) 1) ((List.length lo) - (clampN n)) (yo - (clampN n))), (76, .pointer (some ⟨b, 0, none⟩))] [.pointer (some ⟨b, 0, none⟩), .pointer (some ⟨b, 0, none⟩)] 9 En176 (by kernel_rfl) (by kernel_rfl) rfl ?_
    intro ac178 En179
    refine from_op (by kernel_rfl) ?_
    refine op_storebox (d := none) (t := 22) (b := b) (off := 0) (k := 0) (v := .slice (cutAt xo yo (clampN n) 1) ((List.length lo) - (clampN n)) (yo - (clampN n))) (old := .slice xo (List.length lo) yo) En179 (by kernel_rfl) Hv177 rfl rfl (by kernel_rfl) rfl (L' := [.box b [.slice (cutAt xo yo (clampN n) 1) ((List.length lo) - (clampN n)) (yo - (clampN n)), .int .u64 ((UInt64.toNat so : Nat) : Int)] 56, .vec (cutAt xo yo (clampN n) 1) (yo - (clampN n)) 1 (bys (List.drop (clampN n) lo)) 5, .vec ao158 cp159 1 (bys (List.take (clampN n) lo)) 5]) rfl ?_
    intro ac180 wo181  En182 Hv183
    refine from_end (by kernel_rfl) ?_
    refine then_normal ?_
    refine wp_seq ?_
    refine region_from ?_  -- region 15
    refine d_pures [(0, .pointer (some ⟨b, 0, none⟩)), (1, .int .i64 ((clampN n : Nat) : Int)), (4, .slice ao158 (List.length (List.take (clampN n) lo)) cp159)] [.slice ao158 (List.length (List.take (clampN n) lo)) cp159, .slice ao158 (List.length (List.take (clampN n) lo)) cp159] 2 En182 (by kernel_rfl) (by kernel_rfl) rfl ?_
    intro ac184 En185
    refine from_end (by kernel_rfl) ?_
    refine then_normal ?_
    refine wp_ret ?_
    refine d_ret1 (t := 4) (v := .slice ao158 (List.length (List.take (clampN n) lo)) cp159) En185 (by kernel_rfl) (by kernel_rfl) ?_
    rw [show List.length lo - clampN n = List.length (List.drop (clampN n) lo) from (List.length_drop).symm, hd1.take (clampN n) (by omega)] at Hv183
    rw [hd1.take (clampN n) (by omega)]
    exact ⟨List.drop (clampN n) lo, so, cutAt xo yo (clampN n) 1, yo - (clampN n), ao158, cp159, rfl, Hv183.pick [0, 1, 2] (by kernel_rfl) (by decide), hd1.drop (clampN n) (by omega), by simp; omega⟩


theorem Den.head {l : List UInt8} {s : UInt64} {f : Nat → UInt8} (h : Den l s f) (hl : 0 < l.length) : l[0] = f 0 := by
  have := h 0 0 (by omega)
  simp only [chunks, List.append_nil] at this
  rw [List.getElem?_eq_getElem hl] at this
  simpa using this
theorem zstep {z z0 : UInt64} {k : Nat} (h : z.toNat = z0.toNat >>> (8 * k)) : (z >>> UInt64.ofNat 8).toNat = z0.toNat >>> (8 * (k + 1)) := by
  have h1 : (UInt64.ofNat 8).toNat = 8 := rfl
  rw [UInt64.toNat_shiftRight, h1, h, ← Nat.shiftRight_add]
  rfl
theorem zbyte {z z0 : UInt64} {k : Nat} (hk : k < 8) (h : z.toNat = z0.toNat >>> (8 * k)) : UInt64.toUInt8 z = UInt64.toUInt8 (z0 >>> UInt64.ofNat (8 * k)) := by
  have : z = z0 >>> UInt64.ofNat (8 * k) := by
    apply UInt64.toNat_inj.1
    rw [UInt64.toNat_shiftRight, h]
    have h1 : (UInt64.ofNat (8 * k)).toNat = 8 * k := by rw [UInt64.toNat_ofNat']; omega
    rw [h1, Nat.mod_eq_of_lt (by omega)]
  rw [this]

theorem next_ref (b : Nat) (lf ll : List UInt8) (s : UInt64) (xf xl : Option Addr) (cf cl : Nat) (f : Nat → UInt8) (w : World) (hd : Den (lf ++ ll) s f) (hb1 : List.length lf ≤ 140737488351232) (hb2 : List.length ll ≤ 8) (hh : Heap w [.box b [.slice xf (List.length lf) cf, .int .u64 ((UInt64.toNat s : Nat) : Int), .slice xl (List.length ll) cl] 58, .vec xf cf 1 (bys lf) 5, .vec xl cl 1 (bys ll) 5]) : Calls Try.prog 21 #[.pointer (some ⟨b, 0, none⟩)] w fun e w' => ∃ lf' s' ll' xf' cf' xl' cl', e = .returned (.int .u8 ((UInt8.toNat (f 0) : Nat) : Int)) ∧ Ev w [.box b [.slice xf (List.length lf) cf, .int .u64 ((UInt64.toNat s : Nat) : Int), .slice xl (List.length ll) cl] 58, .vec xf cf 1 (bys lf) 5, .vec xl cl 1 (bys ll) 5] w' [.box b [.slice xf' (List.length lf') cf', .int .u64 ((UInt64.toNat s' : Nat) : Int), .slice xl' (List.length ll') cl'] 58, .vec xf' cf' 1 (bys lf') 5, .vec xl' cl' 1 (bys ll') 5] ∧ Den (lf' ++ ll') s' (shiftF f 1) ∧ List.length lf' ≤ 140737488351232 ∧ List.length ll' ≤ 8 := by
  refine d_start [(0, .pointer (some ⟨b, 0, none⟩))] 92 Go.Proofs.Try.func21 Go.Proofs.Try.ntmps21 rfl (by kernel_rfl) (by kernel_rfl) ?_
  intro act0 En0
  have Hv0 : Ev w [.box b [.slice xf (List.length lf) cf, .int .u64 ((UInt64.toNat s : Nat) : Int), .slice xl (List.length ll) cl] 58, .vec xf cf 1 (bys lf) 5, .vec xl cl 1 (bys ll) 5] w [.box b [.slice xf (List.length lf) cf, .int .u64 ((UInt64.toNat s : Nat) : Int), .slice xl (List.length ll) cl] 58, .vec xf cf 1 (bys lf) 5, .vec xl cl 1 (bys ll) 5] := Ev.refl (hh)
  refine wp_seq ?_
  refine region_from ?_  -- region 0
  refine d_pures [(0, .pointer (some ⟨b, 0, none⟩)), (2, .int .u8 0)] [.int .u8 0] 1 En0 (by kernel_rfl) (by kernel_rfl) rfl ?_
  intro ac1 En2
  refine from_end (by kernel_rfl) ?_
  refine then_normal ?_
  refine wp_seq ?_
  refine wp_seq ?_
  refine region_from ?_  -- region 1
  refine d_pures [(0, .pointer (some ⟨b, 0, none⟩)), (2, .int .u8 0), (9, .pointer (some ⟨b, 0, none⟩))] [.pointer (some ⟨b, 0, none⟩), .pointer (some ⟨b, 0, none⟩), .pointer (some ⟨b, 0, none⟩)] 3 En2 (by kernel_rfl) (by kernel_rfl) rfl ?_
  intro ac3 En4
  refine from_op (by kernel_rfl) ?_
  refine op_loadbox (d := some 10) (t := 22) (b := b) (off := 0) (k := 0) (v := .slice xf (List.length lf) cf) En4 (by kernel_rfl) Hv0 rfl rfl (by kernel_rfl) ?_
  intro ac5 En6
  refine d_pures [(0, .pointer (some ⟨b, 0, none⟩)), (2, .int .u8 0), (12, .bool (decide (((List.length lf : Nat) : Int) > (0 : Int))))] [.int .i64 ((List.length lf : Nat) : Int), .bool (decide (((List.length lf : Nat) : Int) > (0 : Int)))] 6 En6 (by kernel_rfl) (by kernel_rfl) rfl ?_
  intro ac7 En8
  refine from_end (by kernel_rfl) ?_
  refine then_normal ?_
  refine cond_at En8 (t := decide (((List.length lf : Nat) : Int) > (0 : Int))) (by kernel_rfl) (fun hc9 => ?_) (fun hc9 => ?_)
  ·
    replace hc9 : ((List.length lf : Nat) : Int) > (0 : Int) := by simpa using hc9
    refine wp_seq ?_
    refine region_from ?_  -- region 2
    refine d_pures [(0, .pointer (some ⟨b, 0, none⟩)), (2, .int .u8 0), (15, .pointer (some ⟨b, 0, none⟩))] [.pointer (some ⟨b, 0, none⟩), .pointer (some ⟨b, 0, none⟩), .pointer (some ⟨b, 0, none⟩)] 3 En8 (by kernel_rfl) (by kernel_rfl) rfl ?_
    intro ac10 En11
    refine from_op (by kernel_rfl) ?_
    refine op_loadbox (d := some 16) (t := 22) (b := b) (off := 0) (k := 0) (v := .slice xf (List.length lf) cf) En11 (by kernel_rfl) Hv0 rfl rfl (by kernel_rfl) ?_
    intro ac12 En13
    refine from_op (by kernel_rfl) ?_
    refine op_index (d := some 17) (t := 22) (e := 5) (sz := 1) (len := List.length lf) (cap := cf) (j := 0) (ao := xf) (k := .i64) (ix := 0) En13 (by kernel_rfl) (bys_vnz Hv0.heap (k := 1) rfl) (by kernel_rfl) (by kernel_rfl) (by omega) (by omega) (jo := 0) (Nat.mul_one _) ?_
    intro ac16 adr14 had15 En17
    refine from_op (by kernel_rfl) ?_
    have hb18 : 0 < List.length lf := by omega
    refine op_loadel (d := some 18) (t := 5) (ad := adr14) (ao := xf) (xs := bys lf) (j := 0) (v := .int .u8 ((UInt8.toNat ((lf)[0]'hb18) : Nat) : Int)) En17 (by kernel_rfl) (Hv0.heap.reads (k := 1) rfl) had15 (bys_get hb18) (by kernel_rfl) ?_
    intro ac19 En20
    refine d_pures [(0, .pointer (some ⟨b, 0, none⟩)), (2, .int .u8 0), (3, .int .u8 ((UInt8.toNat ((lf)[0]'hb18) : Nat) : Int))] [.int .u8 ((UInt8.toNat ((lf)[0]'hb18) : Nat) : Int)] 7 En20 (by kernel_rfl) (by kernel_rfl) rfl ?_
    intro ac21 En22
    refine from_end (by kernel_rfl) ?_
    refine then_normal ?_
    refine wp_seq ?_
    refine region_from ?_  -- region 3
    refine d_pures [(0, .pointer (some ⟨b, 0, none⟩)), (2, .int .u8 0), (3, .int .u8 ((UInt8.toNat ((lf)[0]'hb18) : Nat) : Int)), (19, .pointer (some ⟨b, 0, none⟩)), (22, .pointer (some ⟨b, 0, none⟩))] [.pointer (some ⟨b, 0, none⟩), .pointer (some ⟨b, 0, none⟩), .pointer (some ⟨b, 0, none⟩), .pointer (some ⟨b, 0, none⟩)] 4 En22 (by kernel_rfl) (by kernel_rfl) rfl ?_
    intro ac23 En24
    refine from_op (by kernel_rfl) ?_
    refine op_loadbox (d := some 23) (t := 22) (b := b) (off := 0) (k := 0) (v := .slice xf (List.length lf) cf) En24 (by kernel_rfl) Hv0 rfl rfl (by kernel_rfl) ?_
    intro ac25 En26
    refine from_op (by kernel_rfl) ?_
    have hcap27 := bys_vcap Hv0.heap (k := 1) rfl
    refine op_slice (d := some 24) (t := 22) (e := 5) (sz := 1) (len := List.length lf) (cap := cf) (lo := 1) (hi := List.length lf) (ao := xf) (lov := (some (.int .i64 1))) (hiv := none) En26 (by kernel_rfl) (by kernel_rfl) (by kernel_rfl) (by omega) (by omega) (.inr ⟨.i64, rfl⟩) (.inl ⟨rfl, rfl⟩) ?_
    intro ac28 En29
    have Hv30 : Ev w [.box b [.slice xf (List.length lf) cf, .int .u64 ((UInt64.toNat s : Nat) : Int), .slice xl (List.length ll) cl] 58, .vec xf cf 1 (bys lf) 5, .vec xl cl 1 (bys ll) 5] w [.box b [.slice xf (List.length lf) cf, .int .u64 ((UInt64.toNat s : Nat) : Int), .slice xl (List.length ll) cl] 58, .vec (cutAt xf cf 1 1) (cf - 1) 1 (bys (List.drop 1 lf)) 5, .vec xl cl 1 (bys ll) 5] := by
      have h := Ev.cut (k := 1) (n := List.length lf) (sz := 1) Hv0 rfl (bys_len _) (by omega) 1 (List.length lf) (by omega) (by omega)
      rw [bys_cutw (l := lf) (lo := 1) (n := List.length lf) (by simp)] at h
      exact h
    refine d_pures [(0, .pointer (some ⟨b, 0, none⟩)), (2, .int .u8 0), (3, .int .u8 ((UInt8.toNat ((lf)[0]'hb18) : Nat) : Int)), (24, .slice (cutAt xf cf 1 1) ((List.length lf) - 1) (cf - 1)), (26, .pointer (some ⟨b, 0, none⟩))] [.pointer (some ⟨b, 0, none⟩), .pointer (some ⟨b, 0, none⟩)] 8 En29 (by kernel_rfl) (by kernel_rfl) rfl ?_
    intro ac31 En32
    refine from_op (by kernel_rfl) ?_
    refine op_storebox (d := none) (t := 22) (b := b) (off := 0) (k := 0) (v := .slice (cutAt xf cf 1 1) ((List.length lf) - 1) (cf - 1)) (old := .slice xf (List.length lf) cf) En32 (by kernel_rfl) Hv30 rfl rfl (by kernel_rfl) rfl (L' := [.box b [.slice (cutAt xf cf 1 1) ((List.length lf) - 1) (cf - 1), .int .u64 ((UInt64.toNat s : Nat) : Int), .slice xl (List.length ll) cl] 58, .vec (cutAt xf cf 1 1) (cf - 1) 1 (bys (List.drop 1 lf)) 5, .vec xl cl 1 (bys ll) 5]) rfl ?_
    intro ac33 wo34  En35 Hv36
    refine from_end (by kernel_rfl) ?_
    refine then_normal ?_
    refine wp_seq ?_
    refine region_from ?_  -- region 4
    refine d_pures [(0, .pointer (some ⟨b, 0, none⟩)), (2, .int .u8 ((UInt8.toNat ((lf)[0]'hb18) : Nat) : Int))] [.int .u8 ((UInt8.toNat ((lf)[0]'hb18) : Nat) : Int), .int .u8 ((UInt8.toNat ((lf)[0]'hb18) : Nat) : Int)] 2 En35 (by kernel_rfl) (by kernel_rfl) rfl ?_
    intro ac37 En38
    refine from_end (by kernel_rfl) ?_
    refine then_normal ?_
    refine wp_ret ?_
    refine then_ret ?_
    refine d_ret1 (t := 2) (v := .int .u8 ((UInt8.toNat ((lf)[0]'hb18) : Nat) : Int)) En38 (by kernel_rfl) (by kernel_rfl) ?_
    rw [show List.length lf - 1 = List.length (List.drop 1 lf) from (List.length_drop).symm] at Hv36
    have hq := hd.drop 1 (by simp; omega)
    rw [List.drop_append_of_le_length (by omega)] at hq
    refine ⟨List.drop 1 lf, s, ll, cutAt xf cf 1 1, cf - 1, xl, cl, ret_u8 ?_, Hv36.pick [0, 1, 2] (by kernel_rfl) (by decide), hq, by simp; omega, hb2⟩
    have h0 := hd.head (by simp; omega)
    rwa [List.getElem_append_left (by omega)] at h0
  ·
    replace hc9 : ¬ (((List.length lf : Nat) : Int) > (0 : Int)) := by simpa using hc9
    have hlf : lf = [] := List.eq_nil_of_length_eq_zero (by omega)
    have hd1 : Den ll s f := by rw [hlf] at hd; exact hd
    refine wp_skip ?_
    refine then_normal ?_
    refine wp_seq ?_
    refine wp_seq ?_
    refine region_from ?_  -- region 5
    refine d_pures [(0, .pointer (some ⟨b, 0, none⟩)), (2, .int .u8 0), (30, .pointer (some ⟨b, 2, none⟩))] [.pointer (some ⟨b, 0, none⟩), .pointer (some ⟨b, 0, none⟩), .pointer (some ⟨b, 2, none⟩)] 3 En8 (by kernel_rfl) (by kernel_rfl) rfl ?_
    intro ac39 En40
    refine from_op (by kernel_rfl) ?_
    refine op_loadbox (d := some 31) (t := 22) (b := b) (off := 2) (k := 0) (v := .slice xl (List.length ll) cl) En40 (by kernel_rfl) Hv0 rfl rfl (by kernel_rfl) ?_
    intro ac41 En42
    refine d_pures [(0, .pointer (some ⟨b, 0, none⟩)), (2, .int .u8 0), (33, .bool (((List.length ll : Nat) : Int) == (0 : Int)))] [.int .i64 ((List.length ll : Nat) : Int), .bool (((List.length ll : Nat) : Int) == (0 : Int))] 6 En42 (by kernel_rfl) (by kernel_rfl) rfl ?_
    intro ac43 En44
    refine from_end (by kernel_rfl) ?_
    refine then_normal ?_
    refine cond_at En44 (t := ((List.length ll : Nat) : Int) == (0 : Int)) (by kernel_rfl) (fun hc45 => ?_) (fun hc45 => ?_)
    ·
      replace hc45 : ((List.length ll : Nat) : Int) = (0 : Int) := by simpa using hc45
      have hl0 : ll = [] := List.eq_nil_of_length_eq_zero (by omega)
      have hd2 : Den (chunkB (mixU (nextS s)) 8) (nextS s) f := by rw [hl0] at hd1; exact hd1.fill
      refine wp_seq ?_
      refine region_from ?_  -- region 6
      refine d_pures [(0, .pointer (some ⟨b, 0, none⟩)), (2, .int .u8 0), (34, .pointer (some ⟨b, 0, none⟩)), (37, .pointer (some ⟨b, 1, none⟩))] [.pointer (some ⟨b, 0, none⟩), .pointer (some ⟨b, 0, none⟩), .pointer (some ⟨b, 0, none⟩), .pointer (some ⟨b, 1, none⟩)] 4 En44 (by kernel_rfl) (by kernel_rfl) rfl ?_
      intro ac46 En47
      refine from_op (by kernel_rfl) ?_
      refine op_loadbox (d := some 38) (t := 23) (b := b) (off := 1) (k := 0) (v := .int .u64 ((UInt64.toNat s : Nat) : Int)) En47 (by kernel_rfl) Hv0 rfl rfl (by kernel_rfl) ?_
      intro ac48 En49
      refine d_pures [(0, .pointer (some ⟨b, 0, none⟩)), (2, .int .u8 0), (34, .pointer (some ⟨b, 0, none⟩)), (39, .int .u64 (IntKind.wrap .u64 (((UInt64.toNat s : Nat) : Int) + (11400714819323198485 : Int))))] [.int .u64 (IntKind.wrap .u64 (((UInt64.toNat s : Nat) : Int) + (11400714819323198485 : Int)))] 6 En49 (by kernel_rfl) (by kernel_rfl) rfl ?_
      intro ac50 En51
      rw [Go.Dbr.u64_add (a := ((UInt64.toNat s : Nat) : Int)) (b := (11400714819323198485 : Int)) (x := s) (y := (11400714819323198485 : UInt64)) rfl rfl] at En51
      refine d_pures [(0, .pointer (some ⟨b, 0, none⟩)), (2, .int .u8 0), (39, .int .u64 ((UInt64.toNat (s + (11400714819323198485 : UInt64)) : Nat) : Int)), (41, .pointer (some ⟨b, 1, none⟩))] [.pointer (some ⟨b, 0, none⟩), .pointer (some ⟨b, 1, none⟩)] 8 En51 (by kernel_rfl) (by kernel_rfl) rfl ?_
      intro ac52 En53
      refine from_op (by kernel_rfl) ?_
      refine op_storebox (d := none) (t := 23) (b := b) (off := 1) (k := 0) (v := .int .u64 ((UInt64.toNat (s + (11400714819323198485 : UInt64)) : Nat) : Int)) (old := .int .u64 ((UInt64.toNat s : Nat) : Int)) En53 (by kernel_rfl) Hv0 rfl rfl (by kernel_rfl) rfl (L' := [.box b [.slice xf (List.length lf) cf, .int .u64 ((UInt64.toNat (s + (11400714819323198485 : UInt64)) : Nat) : Int), .slice xl (List.length ll) cl] 58, .vec xf cf 1 (bys lf) 5, .vec xl cl 1 (bys ll) 5]) rfl ?_
      intro ac54 wo55  En56 Hv57
      refine from_end (by kernel_rfl) ?_
      refine then_normal ?_
      refine wp_seq ?_
      refine region_from ?_  -- region 7
      refine d_pures [(0, .pointer (some ⟨b, 0, none⟩)), (2, .int .u8 0), (44, .pointer (some ⟨b, 1, none⟩))] [.pointer (some ⟨b, 0, none⟩), .pointer (some ⟨b, 0, none⟩), .pointer (some ⟨b, 1, none⟩)] 3 En56 (by kernel_rfl) (by kernel_rfl) rfl ?_
      intro ac58 En59
      refine from_op (by kernel_rfl) ?_
      refine op_loadbox (d := some 45) (t := 23) (b := b) (off := 1) (k := 0) (v := .int .u64 ((UInt64.toNat (s + (11400714819323198485 : UInt64)) : Nat) : Int)) En59 (by kernel_rfl) Hv57 rfl rfl (by kernel_rfl) ?_
      intro ac60 En61
      refine d_pures [(0, .pointer (some ⟨b, 0, none⟩)), (2, .int .u8 0), (4, .int .u64 ((UInt64.toNat (s + (11400714819323198485 : UInt64)) : Nat) : Int))] [.int .u64 ((UInt64.toNat (s + (11400714819323198485 : UInt64)) : Nat) : Int)] 5 En61 (by kernel_rfl) (by kernel_rfl) rfl ?_
      intro ac62 En63
      refine from_end (by kernel_rfl) ?_
      refine then_normal ?_
      refine wp_seq ?_
      refine region_from ?_  -- region 8
      refine d_pures [(0, .pointer (some ⟨b, 0, none⟩)), (2, .int .u8 0), (4, .int .u64 ((UInt64.toNat (s + (11400714819323198485 : UInt64)) : Nat) : Int)), (46, .int .u64 ((UInt64.toNat (s + (11400714819323198485 : UInt64)) : Nat) : Int)), (48, .int .u64 (Int.fdiv ((UInt64.toNat (s + (11400714819323198485 : UInt64)) : Nat) : Int) (2 ^ 30)))] [.int .u64 ((UInt64.toNat (s + (11400714819323198485 : UInt64)) : Nat) : Int), .int .u64 ((UInt64.toNat (s + (11400714819323198485 : UInt64)) : Nat) : Int), .int .u64 (Int.fdiv ((UInt64.toNat (s + (11400714819323198485 : UInt64)) : Nat) : Int) (2 ^ 30))] 3 En63 (by kernel_rfl) (by kernel_rfl) rfl ?_
      intro ac64 En65
      rw [Go.Dbr.u64_shr (a := ((UInt64.toNat (s + (11400714819323198485 : UInt64)) : Nat) : Int)) (x := s + (11400714819323198485 : UInt64)) (n := 30) rfl (by decide)] at En65
      refine d_pures [(0, .pointer (some ⟨b, 0, none⟩)), (2, .int .u8 0), (4, .int .u64 ((UInt64.toNat (s + (11400714819323198485 : UInt64)) : Nat) : Int)), (49, .int .u64 (IntKind.wrap .u64 ((BitVec.ofInt (IntKind.bits .u64) ((UInt64.toNat (s + (11400714819323198485 : UInt64)) : Nat) : Int) ^^^ BitVec.ofInt (IntKind.bits .u64) ((UInt64.toNat ((s + (11400714819323198485 : UInt64)) >>> UInt64.ofNat 30) : Nat) : Int)).toNat : Int)))] [.int .u64 (IntKind.wrap .u64 ((BitVec.ofInt (IntKind.bits .u64) ((UInt64.toNat (s + (11400714819323198485 : UInt64)) : Nat) : Int) ^^^ BitVec.ofInt (IntKind.bits .u64) ((UInt64.toNat ((s + (11400714819323198485 : UInt64)) >>> UInt64.ofNat 30) : Nat) : Int)).toNat : Int))] 4 En65 (by kernel_rfl) (by kernel_rfl) rfl ?_
      intro ac66 En67
      rw [Go.Dbr.u64_xor (a := ((UInt64.toNat (s + (11400714819323198485 : UInt64)) : Nat) : Int)) (b := ((UInt64.toNat ((s + (11400714819323198485 : UInt64)) >>> UInt64.ofNat 30) : Nat) : Int)) (x := s + (11400714819323198485 : UInt64)) (y := (s + (11400714819323198485 : UInt64)) >>> UInt64.ofNat 30) rfl rfl] at En67
      refine d_pures [(0, .pointer (some ⟨b, 0, none⟩)), (2, .int .u8 0), (4, .int .u64 ((UInt64.toNat (s + (11400714819323198485 : UInt64)) : Nat) : Int)), (50, .int .u64 (IntKind.wrap .u64 (((UInt64.toNat ((s + (11400714819323198485 : UInt64)) ^^^ ((s + (11400714819323198485 : UInt64)) >>> UInt64.ofNat 30)) : Nat) : Int) * (13787848793156543929 : Int))))] [.int .u64 (IntKind.wrap .u64 (((UInt64.toNat ((s + (11400714819323198485 : UInt64)) ^^^ ((s + (11400714819323198485 : UInt64)) >>> UInt64.ofNat 30)) : Nat) : Int) * (13787848793156543929 : Int)))] 5 En67 (by kernel_rfl) (by kernel_rfl) rfl ?_
      intro ac68 En69
      rw [Go.Dbr.u64_mul (a := ((UInt64.toNat ((s + (11400714819323198485 : UInt64)) ^^^ ((s + (11400714819323198485 : UInt64)) >>> UInt64.ofNat 30)) : Nat) : Int)) (b := (13787848793156543929 : Int)) (x := (s + (11400714819323198485 : UInt64)) ^^^ ((s + (11400714819323198485 : UInt64)) >>> UInt64.ofNat 30)) (y := (13787848793156543929 : UInt64)) rfl rfl] at En69
      refine d_pures [(0, .pointer (some ⟨b, 0, none⟩)), (2, .int .u8 0), (4, .int .u64 ((UInt64.toNat (((s + (11400714819323198485 : UInt64)) ^^^ ((s + (11400714819323198485 : UInt64)) >>> UInt64.ofNat 30)) * (13787848793156543929 : UInt64)) : Nat) : Int))] [.int .u64 ((UInt64.toNat (((s + (11400714819323198485 : UInt64)) ^^^ ((s + (11400714819323198485 : UInt64)) >>> UInt64.ofNat 30)) * (13787848793156543929 : UInt64)) : Nat) : Int)] 6 En69 (by kernel_rfl) (by kernel_rfl) rfl ?_
      intro ac70 En71
      refine from_end (by kernel_rfl) ?_
      refine then_normal ?_
      refine wp_seq ?_
      refine region_from ?_  -- region 9
      refine d_pures [(0, .pointer (some ⟨b, 0, none⟩)), (2, .int .u8 0), (4, .int .u64 ((UInt64.toNat (((s + (11400714819323198485 : UInt64)) ^^^ ((s + (11400714819323198485 : UInt64)) >>> UInt64.ofNat 30)) * (13787848793156543929 : UInt64)) : Nat) : Int)), (51, .int .u64 ((UInt64.toNat (((s + (11400714819323198485 : UInt64)) ^^^ ((s + (11400714819323198485 : UInt64)) >>> UInt64.ofNat 30)) * (13787848793156543929 : UInt64)) : Nat) : Int)), (53, .int .u64 (Int.fdiv ((UInt64.toNat (((s + (11400714819323198485 : UInt64)) ^^^ ((s + (11400714819323198485 : UInt64)) >>> UInt64.ofNat 30)) * (13787848793156543929 : UInt64)) : Nat) : Int) (2 ^ 27)))] [.int .u64 ((UInt64.toNat (((s + (11400714819323198485 : UInt64)) ^^^ ((s + (11400714819323198485 : UInt64)) >>> UInt64.ofNat 30)) * (13787848793156543929 : UInt64)) : Nat) : Int), .int .u64 ((UInt64.toNat (((s + (11400714819323198485 : UInt64)) ^^^ ((s + (11400714819323198485 : UInt64)) >>> UInt64.ofNat 30)) * (13787848793156543929 : UInt64)) : Nat) : Int), .int .u64 (Int.fdiv ((UInt64.toNat (((s + (11400714819323198485 : UInt64)) ^^^ ((s + (11400714819323198485 : UInt64)) >>> UInt64.ofNat 30)) * (13787848793156543929 : UInt64)) : Nat) : Int) (2 ^ 27))] 3 En71 (by kernel_rfl) (by kernel_rfl) rfl ?_
      intro ac72 En73
      rw [Go.Dbr.u64_shr (a := ((UInt64.toNat (((s + (11400714819323198485 : UInt64)) ^^^ ((s + (11400714819323198485 : UInt64)) >>> UInt64.ofNat 30)) * (13787848793156543929 : UInt64)) : Nat) : Int)) (x := ((s + (11400714819323198485 : UInt64)) ^^^ ((s + (11400714819323198485 : UInt64)) >>> UInt64.ofNat 30)) * (13787848793156543929 : UInt64)) (n := 27) rfl (by decide)] at En73
      refine d_pures [(0, .pointer (some ⟨b, 0, none⟩)), (2, .int .u8 0), (4, .int .u64 ((UInt64.toNat (((s + (11400714819323198485 : UInt64)) ^^^ ((s + (11400714819323198485 : UInt64)) >>> UInt64.ofNat 30)) * (13787848793156543929 : UInt64)) : Nat) : Int)), (54, .int .u64 (IntKind.wrap .u64 ((BitVec.ofInt (IntKind.bits .u64) ((UInt64.toNat (((s + (11400714819323198485 : UInt64)) ^^^ ((s + (11400714819323198485 : UInt64)) >>> UInt64.ofNat 30)) * (13787848793156543929 : UInt64)) : Nat) : Int) ^^^ BitVec.ofInt (IntKind.bits .u64) ((UInt64.toNat ((((s + (11400714819323198485 : UInt64)) ^^^ ((s + (11400714819323198485 : UInt64)) >>> UInt64.ofNat 30)) * (13787848793156543929 : UInt64)) >>> UInt64.ofNat 27) : Nat) : Int)).toNat : Int)))] [.int .u64 (IntKind.wrap .u64 ((BitVec.ofInt (IntKind.bits .u64) ((UInt64.toNat (((s + (11400714819323198485 : UInt64)) ^^^ ((s + (11400714819323198485 : UInt64)) >>> UInt64.ofNat 30)) * (13787848793156543929 : UInt64)) : Nat) : Int) ^^^ BitVec.ofInt (IntKind.bits .u64) ((UInt64.toNat ((((s + (11400714819323198485 : UInt64)) ^^^ ((s + (11400714819323198485 : UInt64)) >>> UInt64.ofNat 30)) * (13787848793156543929 : UInt64)) >>> UInt64.ofNat 27) : Nat) : Int)).toNat : Int))] 4 En73 (by kernel_rfl) (by kernel_rfl) rfl ?_
      intro ac74 En75
      rw [Go.Dbr.u64_xor (a := ((UInt64.toNat (((s + (11400714819323198485 : UInt64)) ^^^ ((s + (11400714819323198485 : UInt64)) >>> UInt64.ofNat 30)) * (13787848793156543929 : UInt64)) : Nat) : Int)) (b := ((UInt64.toNat ((((s + (11400714819323198485 : UInt64)) ^^^ ((s + (11400714819323198485 : UInt64)) >>> UInt64.ofNat 30)) * (13787848793156543929 : UInt64)) >>> UInt64.ofNat 27) : Nat) : Int)) (x := ((s + (11400714819323198485 : UInt64)) ^^^ ((s + (11400714819323198485 : UInt64)) >>> UInt64.ofNat 30)) * (13787848793156543929 : UInt64)) (y := (((s + (11400714819323198485 : UInt64)) ^^^ ((s + (11400714819323198485 : UInt64)) >>> UInt64.ofNat 30)) * (13787848793156543929 : UInt64)) >>> UInt64.ofNat 27) rfl rfl] at En75
      refine d_pures [(0, .pointer (some ⟨b, 0, none⟩)), (2, .int .u8 0), (4, .int .u64 ((UInt64.toNat (((s + (11400714819323198485 : UInt64)) ^^^ ((s + (11400714819323198485 : UInt64)) >>> UInt64.ofNat 30)) * (13787848793156543929 : UInt64)) : Nat) : Int)), (55, .int .u64 (IntKind.wrap .u64 (((UInt64.toNat ((((s + (11400714819323198485 : UInt64)) ^^^ ((s + (11400714819323198485 : UInt64)) >>> UInt64.ofNat 30)) * (13787848793156543929 : UInt64)) ^^^ ((((s + (11400714819323198485 : UInt64)) ^^^ ((s + (11400714819323198485 : UInt64)) >>> UInt64.ofNat 30)) * (13787848793156543929 : UInt64)) >>> UInt64.ofNat 27)) : Nat) : Int) * (10723151780598845931 : Int))))] [.int .u64 (IntKind.wrap .u64 (((UInt64.toNat ((((s + (11400714819323198485 : UInt64)) ^^^ ((s + (11400714819323198485 : UInt64)) >>> UInt64.ofNat 30)) * (13787848793156543929 : UInt64)) ^^^ ((((s + (11400714819323198485 : UInt64)) ^^^ ((s + (11400714819323198485 : UInt64)) >>> UInt64.ofNat 30)) * (13787848793156543929 : UInt64)) >>> UInt64.ofNat 27)) : Nat) : Int) * (10723151780598845931 : Int)))] 5 En75 (by kernel_rfl) (by kernel_rfl) rfl ?_
      intro ac76 En77
      rw [Go.Dbr.u64_mul (a := ((UInt64.toNat ((((s + (11400714819323198485 : UInt64)) ^^^ ((s + (11400714819323198485 : UInt64)) >>> UInt64.ofNat 30)) * (13787848793156543929 : UInt64)) ^^^ ((((s + (11400714819323198485 : UInt64)) ^^^ ((s + (11400714819323198485 : UInt64)) >>> UInt64.ofNat 30)) * (13787848793156543929 : UInt64)) >>> UInt64.ofNat 27)) : Nat) : Int)) (b := (10723151780598845931 : Int)) (x := (((s + (11400714819323198485 : UInt64)) ^^^ ((s + (11400714819323198485 : UInt64)) >>> UInt64.ofNat 30)) * (13787848793156543929 : UInt64)) ^^^ ((((s + (11400714819323198485 : UInt64)) ^^^ ((s + (11400714819323198485 : UInt64)) >>> UInt64.ofNat 30)) * (13787848793156543929 : UInt64)) >>> UInt64.ofNat 27)) (y := (10723151780598845931 : UInt64)) rfl rfl] at En77
      refine d_pures [(0, .pointer (some ⟨b, 0, none⟩)), (2, .int .u8 0), (4, .int .u64 ((UInt64.toNat (((((s + (11400714819323198485 : UInt64)) ^^^ ((s + (11400714819323198485 : UInt64)) >>> UInt64.ofNat 30)) * (13787848793156543929 : UInt64)) ^^^ ((((s + (11400714819323198485 : UInt64)) ^^^ ((s + (11400714819323198485 : UInt64)) >>> UInt64.ofNat 30)) * (13787848793156543929 : UInt64)) >>> UInt64.ofNat 27)) * (10723151780598845931 : UInt64)) : Nat) : Int))] [.int .u64 ((UInt64.toNat (((((s + (11400714819323198485 : UInt64)) ^^^ ((s + (11400714819323198485 : UInt64)) >>> UInt64.ofNat 30)) * (13787848793156543929 : UInt64)) ^^^ ((((s + (11400714819323198485 : UInt64)) ^^^ ((s + (11400714819323198485 : UInt64)) >>> UInt64.ofNat 30)) * (13787848793156543929 : UInt64)) >>> UInt64.ofNat 27)) * (10723151780598845931 : UInt64)) : Nat) : Int)] 6 En77 (by kernel_rfl) (by kernel_rfl) rfl ?_
      intro ac78 En79
      refine from_end (by kernel_rfl) ?_
      refine then_normal ?_
      refine wp_seq ?_
      refine region_from ?_  -- region 10
      refine d_pures [(0, .pointer (some ⟨b, 0, none⟩)), (2, .int .u8 0), (4, .int .u64 ((UInt64.toNat (((((s + (11400714819323198485 : UInt64)) ^^^ ((s + (11400714819323198485 : UInt64)) >>> UInt64.ofNat 30)) * (13787848793156543929 : UInt64)) ^^^ ((((s + (11400714819323198485 : UInt64)) ^^^ ((s + (11400714819323198485 : UInt64)) >>> UInt64.ofNat 30)) * (13787848793156543929 : UInt64)) >>> UInt64.ofNat 27)) * (10723151780598845931 : UInt64)) : Nat) : Int)), (56, .int .u64 ((UInt64.toNat (((((s + (11400714819323198485 : UInt64)) ^^^ ((s + (11400714819323198485 : UInt64)) >>> UInt64.ofNat 30)) * (13787848793156543929 : UInt64)) ^^^ ((((s + (11400714819323198485 : UInt64)) ^^^ ((s + (11400714819323198485 : UInt64)) >>> UInt64.ofNat 30)) * (13787848793156543929 : UInt64)) >>> UInt64.ofNat 27)) * (10723151780598845931 : UInt64)) : Nat) : Int)), (58, .int .u64 (Int.fdiv ((UInt64.toNat (((((s + (11400714819323198485 : UInt64)) ^^^ ((s + (11400714819323198485 : UInt64)) >>> UInt64.ofNat 30)) * (13787848793156543929 : UInt64)) ^^^ ((((s + (11400714819323198485 : UInt64)) ^^^ ((s + (11400714819323198485 : UInt64)) >>> UInt64.ofNat 30)) * (13787848793156543929 : UInt64)) >>> UInt64.ofNat 27)) * (10723151780598845931 : UInt64)) : Nat) : Int) (2 ^ 31)))] [.int .u64 ((UInt64.toNat (((((s + (11400714819323198485 : UInt64)) ^^^ ((s + (11400714819323198485 : UInt64)) >>> UInt64.ofNat 30)) * (13787848793156543929 : UInt64)) ^^^ ((((s + (11400714819323198485 : UInt64)) ^^^ ((s + (11400714819323198485 : UInt64)) >>> UInt64.ofNat 30)) * (13787848793156543929 : UInt64)) >>> UInt64.ofNat 27)) * (10723151780598845931 : UInt64)) : Nat) : Int), .int .u64 ((UInt64.toNat (((((s + (11400714819323198485 : UInt64)) ^^^ ((s + (11400714819323198485 : UInt64)) >>> UInt64.ofNat 30)) * (13787848793156543929 : UInt64)) ^^^ ((((s + (11400714819323198485 : UInt64)) ^^^ ((s + (11400714819323198485 : UInt64)) >>> UInt64.ofNat 30)) * (13787848793156543929 : UInt64)) >>> UInt64.ofNat 27)) * (10723151780598845931 : UInt64)) : Nat) : Int), .int .u64 (Int.fdiv ((UInt64.toNat (((((s + (11400714819323198485 : UInt64)) ^^^ ((s + (11400714819323198485 : UInt64)) >>> UInt64.ofNat 30)) * (13787848793156543929 : UInt64)) ^^^ ((((s + (11400714819323198485 : UInt64)) ^^^ ((s + (11400714819323198485 : UInt64)) >>> UInt64.ofNat 30)) * (13787848793156543929 : UInt64)) >>> UInt64.ofNat 27)) * (10723151780598845931 : UInt64)) : Nat) : Int) (2 ^ 31))] 3 En79 (by kernel_rfl) (by kernel_rfl) rfl ?_
      intro ac80 En81
      rw [Go.Dbr.u64_shr (a := ((UInt64.toNat (((((s + (11400714819323198485 : UInt64)) ^^^ ((s + (11400714819323198485 : UInt64)) >>> UInt64.ofNat 30)) * (13787848793156543929 : UInt64)) ^^^ ((((s + (11400714819323198485 : UInt64)) ^^^ ((s + (11400714819323198485 : UInt64)) >>> UInt64.ofNat 30)) * (13787848793156543929 : UInt64)) >>> UInt64.ofNat 27)) * (10723151780598845931 : UInt64)) : Nat) : Int)) (x := ((((s + (11400714819323198485 : UInt64)) ^^^ ((s + (11400714819323198485 : UInt64)) >>> UInt64.ofNat 30)) * (13787848793156543929 : UInt64)) ^^^ ((((s + (11400714819323198485 : UInt64)) ^^^ ((s + (11400714819323198485 : UInt64)) >>> UInt64.ofNat 30)) * (13787848793156543929 : UInt64)) >>> UInt64.ofNat 27)) * (10723151780598845931 : UInt64)) (n := 31) rfl (by decide)] at En81
      refine d_pures [(0, .pointer (some ⟨b, 0, none⟩)), (2, .int .u8 0), (4, .int .u64 ((UInt64.toNat (((((s + (11400714819323198485 : UInt64)) ^^^ ((s + (11400714819323198485 : UInt64)) >>> UInt64.ofNat 30)) * (13787848793156543929 : UInt64)) ^^^ ((((s + (11400714819323198485 : UInt64)) ^^^ ((s + (11400714819323198485 : UInt64)) >>> UInt64.ofNat 30)) * (13787848793156543929 : UInt64)) >>> UInt64.ofNat 27)) * (10723151780598845931 : UInt64)) : Nat) : Int)), (59, .int .u64 (IntKind.wrap .u64 ((BitVec.ofInt (IntKind.bits .u64) ((UInt64.toNat (((((s + (11400714819323198485 : UInt64)) ^^^ ((s + (11400714819323198485 : UInt64)) >>> UInt64.ofNat 30)) * (13787848793156543929 : UInt64)) ^^^ ((((s + (11400714819323198485 : UInt64)) ^^^ ((s + (11400714819323198485 : UInt64)) >>> UInt64.ofNat 30)) * (13787848793156543929 : UInt64)) >>> UInt64.ofNat 27)) * (10723151780598845931 : UInt64)) : Nat) : Int) ^^^ BitVec.ofInt (IntKind.bits .u64) ((UInt64.toNat ((((((s + (11400714819323198485 : UInt64)) ^^^ ((s + (11400714819323198485 : UInt64)) >>> UInt64.ofNat 30)) * (13787848793156543929 : UInt64)) ^^^ ((((s + (11400714819323198485 : UInt64)) ^^^ ((s + (11400714819323198485 : UInt64)) >>> UInt64.ofNat 30)) * (13787848793156543929 : UInt64)) >>> UInt64.ofNat 27)) * (10723151780598845931 : UInt64)) >>> UInt64.ofNat 31) : Nat) : Int)).toNat : Int)))] [.int .u64 (IntKind.wrap .u64 ((BitVec.ofInt (IntKind.bits .u64) ((UInt64.toNat (((((s + (11400714819323198485 : UInt64)) ^^^ ((s + (11400714819323198485 : UInt64)) >>> UInt64.ofNat 30)) * (13787848793156543929 : UInt64)) ^^^ ((((s + (11400714819323198485 : UInt64)) ^^^ ((s + (11400714819323198485 : UInt64)) >>> UInt64.ofNat 30)) * (13787848793156543929 : UInt64)) >>> UInt64.ofNat 27)) * (10723151780598845931 : UInt64)) : Nat) : Int) ^^^ BitVec.ofInt (IntKind.bits .u64) ((UInt64.toNat ((((((s + (11400714819323198485 : UInt64)) ^^^ ((s + (11400714819323198485 : UInt64)) >>> UInt64.ofNat 30)) * (13787848793156543929 : UInt64)) ^^^ ((((s + (11400714819323198485 : UInt64)) ^^^ ((s + (11400714819323198485 : UInt64)) >>> UInt64.ofNat 30)) * (13787848793156543929 : UInt64)) >>> UInt64.ofNat 27)) * (10723151780598845931 : UInt64)) >>> UInt64.ofNat 31) : Nat) : Int)).toNat : Int))] 4 En81 (by kernel_rfl) (by kernel_rfl) rfl ?_
      intro ac82 En83
      rw [Go.Dbr.u64_xor (a := ((UInt64.toNat (((((s + (11400714819323198485 : UInt64)) ^^^ ((s + (11400714819323198485 : UInt64)) >>> UInt64.ofNat 30)) * (13787848793156543929 : UInt64)) ^^^ ((((s + (11400714819323198485 : UInt64)) ^^^ ((s + (11400714819323198485 : UInt64)) >>> UInt64.ofNat 30)) * (13787848793156543929 : UInt64)) >>> UInt64.ofNat 27)) * (10723151780598845931 : UInt64)) : Nat) : Int)) (b := ((UInt64.toNat ((((((s + (11400714819323198485 : UInt64)) ^^^ ((s + (11400714819323198485 : UInt64)) >>> UInt64.ofNat 30)) * (13787848793156543929 : UInt64)) ^^^ ((((s + (11400714819323198485 : UInt64)) ^^^ ((s + (11400714819323198485 : UInt64)) >>> UInt64.ofNat 30)) * (13787848793156543929 : UInt64)) >>> UInt64.ofNat 27)) * (10723151780598845931 : UInt64)) >>> UInt64.ofNat 31) : Nat) : Int)) (x := ((((s + (11400714819323198485 : UInt64)) ^^^ ((s + (11400714819323198485 : UInt64)) >>> UInt64.ofNat 30)) * (13787848793156543929 : UInt64)) ^^^ ((((s + (11400714819323198485 : UInt64)) ^^^ ((s + (11400714819323198485 : UInt64)) >>> UInt64.ofNat 30)) * (13787848793156543929 : UInt64)) >>> UInt64.ofNat 27)) * (10723151780598845931 : UInt64)) (y := (((((s + (11400714819323198485 : UInt64)) ^^^ ((s + (11400714819323198485 : UInt64)) >>> UInt64.ofNat 30)) * (13787848793156543929 : UInt64)) ^^^ ((((s + (11400714819323198485 : UInt64)) ^^^ ((s + (11400714819323198485 : UInt64)) >>> UInt64.ofNat 30)) * (13787848793156543929 : UInt64)) >>> UInt64.ofNat 27)) * (10723151780598845931 : UInt64)) >>> UInt64.ofNat 31) rfl rfl] at En83
      refine d_pures [(0, .pointer (some ⟨b, 0, none⟩)), (2, .int .u8 0), (4, .int .u64 ((UInt64.toNat ((((((s + (11400714819323198485 : UInt64)) ^^^ ((s + (11400714819323198485 : UInt64)) >>> UInt64.ofNat 30)) * (13787848793156543929 : UInt64)) ^^^ ((((s + (11400714819323198485 : UInt64)) ^^^ ((s + (11400714819323198485 : UInt64)) >>> UInt64.ofNat 30)) * (13787848793156543929 : UInt64)) >>> UInt64.ofNat 27)) * (10723151780598845931 : UInt64)) ^^^ ((((((s + (11400714819323198485 : UInt64)) ^^^ ((s + (11400714819323198485 : UInt64)) >>> UInt64.ofNat 30)) * (13787848793156543929 : UInt64)) ^^^ ((((s + (11400714819323198485 : UInt64)) ^^^ ((s + (11400714819323198485 : UInt64)) >>> UInt64.ofNat 30)) * (13787848793156543929 : UInt64)) >>> UInt64.ofNat 27)) * (10723151780598845931 : UInt64)) >>> UInt64.ofNat 31)) : Nat) : Int))] [.int .u64 ((UInt64.toNat ((((((s + (11400714819323198485 : UInt64)) ^^^ ((s + (11400714819323198485 : UInt64)) >>> UInt64.ofNat 30)) * (13787848793156543929 : UInt64)) ^^^ ((((s + (11400714819323198485 : UInt64)) ^^^ ((s + (11400714819323198485 : UInt64)) >>> UInt64.ofNat 30)) * (13787848793156543929 : UInt64)) >>> UInt64.ofNat 27)) * (10723151780598845931 : UInt64)) ^^^ ((((((s + (11400714819323198485 : UInt64)) ^^^ ((s + (11400714819323198485 : UInt64)) >>> UInt64.ofNat 30)) * (13787848793156543929 : UInt64)) ^^^ ((((s + (11400714819323198485 : UInt64)) ^^^ ((s + (11400714819323198485 : UInt64)) >>> UInt64.ofNat 30)) * (13787848793156543929 : UInt64)) >>> UInt64.ofNat 27)) * (10723151780598845931 : UInt64)) >>> UInt64.ofNat 31)) : Nat) : Int)] 5 En83 (by kernel_rfl) (by kernel_rfl) rfl ?_
      intro ac84 En85
      refine from_end (by kernel_rfl) ?_
      refine then_normal ?_
      refine wp_seq ?_
      refine region_from ?_  -- region 11
      refine d_pures [(0, .pointer (some ⟨b, 0, none⟩)), (2, .int .u8 0), (4, .int .u64 ((UInt64.toNat ((((((s + (11400714819323198485 : UInt64)) ^^^ ((s + (11400714819323198485 : UInt64)) >>> UInt64.ofNat 30)) * (13787848793156543929 : UInt64)) ^^^ ((((s + (11400714819323198485 : UInt64)) ^^^ ((s + (11400714819323198485 : UInt64)) >>> UInt64.ofNat 30)) * (13787848793156543929 : UInt64)) >>> UInt64.ofNat 27)) * (10723151780598845931 : UInt64)) ^^^ ((((((s + (11400714819323198485 : UInt64)) ^^^ ((s + (11400714819323198485 : UInt64)) >>> UInt64.ofNat 30)) * (13787848793156543929 : UInt64)) ^^^ ((((s + (11400714819323198485 : UInt64)) ^^^ ((s + (11400714819323198485 : UInt64)) >>> UInt64.ofNat 30)) * (13787848793156543929 : UInt64)) >>> UInt64.ofNat 27)) * (10723151780598845931 : UInt64)) >>> UInt64.ofNat 31)) : Nat) : Int)), (5, .int .i64 0)] [.int .i64 0] 1 En85 (by kernel_rfl) (by kernel_rfl) rfl ?_
      intro ac86 En87
      refine from_end (by kernel_rfl) ?_
      refine then_normal ?_
      refine wp_block ?_
      refine loop_m (fun ms88 ac wo => ∃ (k : Nat) (li : List UInt8) (z : UInt64) (xi : Option Addr) (yi : Nat), ms88 = (8 - k : Nat) ∧ Env ac 92 [(0, .pointer (some ⟨b, 0, none⟩)), (2, .int .u8 0), (4, .int .u64 ((UInt64.toNat z : Nat) : Int)), (5, .int .i64 ((k : Nat) : Int))] ∧ Ev w [.box b [.slice xf (List.length lf) cf, .int .u64 ((UInt64.toNat s : Nat) : Int), .slice xl (List.length ll) cl] 58, .vec xf cf 1 (bys lf) 5, .vec xl cl 1 (bys ll) 5] wo [.box b [.slice xf (List.length lf) cf, .int .u64 ((UInt64.toNat (nextS s) : Nat) : Int), .slice xi (List.length li) yi] 58, .vec xf cf 1 (bys lf) 5, .vec xi yi 1 (bys li) 5] ∧ (k ≤ 8) ∧ (li = chunkB (mixU (nextS s)) k) ∧ (List.length li = k) ∧ (UInt64.toNat z = UInt64.toNat (mixU (nextS s)) >>> (8 * k))) ⟨_, 0, ll, (((((s + (11400714819323198485 : UInt64)) ^^^ ((s + (11400714819323198485 : UInt64)) >>> UInt64.ofNat 30)) * (13787848793156543929 : UInt64)) ^^^ ((((s + (11400714819323198485 : UInt64)) ^^^ ((s + (11400714819323198485 : UInt64)) >>> UInt64.ofNat 30)) * (13787848793156543929 : UInt64)) >>> UInt64.ofNat 27)) * (10723151780598845931 : UInt64)) ^^^ ((((((s + (11400714819323198485 : UInt64)) ^^^ ((s + (11400714819323198485 : UInt64)) >>> UInt64.ofNat 30)) * (13787848793156543929 : UInt64)) ^^^ ((((s + (11400714819323198485 : UInt64)) ^^^ ((s + (11400714819323198485 : UInt64)) >>> UInt64.ofNat 30)) * (13787848793156543929 : UInt64)) >>> UInt64.ofNat 27)) * (10723151780598845931 : UInt64)) >>> UInt64.ofNat 31), xl, cl, rfl, En87.sub (by kernel_rfl), Hv57.pick [0, 1, 2] (by kernel_rfl) (by decide), by omega, by rw [hl0]; rfl, by omega, by rfl⟩ ?_
      rintro mm94 ac90 wo91 ⟨k, li, z, xi, yi, rfl, En92, Hv93, hk, hli, hll, hz⟩
      refine wp_seq ?_
      refine wp_seq ?_
      refine region_from ?_  -- region 12
      refine d_pures [(0, .pointer (some ⟨b, 0, none⟩)), (2, .int .u8 0), (4, .int .u64 ((UInt64.toNat z : Nat) : Int)), (5, .int .i64 ((k : Nat) : Int)), (61, .bool (decide (((k : Nat) : Int) < (8 : Int))))] [.int .i64 ((k : Nat) : Int), .bool (decide (((k : Nat) : Int) < (8 : Int)))] 2 En92 (by kernel_rfl) (by kernel_rfl) rfl ?_
      intro ac95 En96
      refine from_end (by kernel_rfl) ?_
      refine then_normal ?_
      refine cond_at En96 (t := decide (((k : Nat) : Int) < (8 : Int))) (by kernel_rfl) (fun hc97 => ?_) (fun hc97 => ?_)
      ·
        replace hc97 : ((k : Nat) : Int) < (8 : Int) := by simpa using hc97
        refine wp_skip ?_
        refine then_normal ?_
        refine wp_seq ?_
        refine wp_block ?_
        refine wp_seq ?_
        refine region_from ?_  -- region 14
        refine d_pures [(0, .pointer (some ⟨b, 0, none⟩)), (2, .int .u8 0), (4, .int .u64 ((UInt64.toNat z : Nat) : Int)), (5, .int .i64 ((k : Nat) : Int)), (64, .pointer (some ⟨b, 0, none⟩)), (67, .pointer (some ⟨b, 2, none⟩))] [.pointer (some ⟨b, 0, none⟩), .pointer (some ⟨b, 0, none⟩), .pointer (some ⟨b, 0, none⟩), .pointer (some ⟨b, 2, none⟩)] 4 En96 (by kernel_rfl) (by kernel_rfl) rfl ?_
        intro ac98 En99
        refine from_op (by kernel_rfl) ?_
        refine op_loadbox (d := some 68) (t := 22) (b := b) (off := 2) (k := 0) (v := .slice xi (List.length li) yi) En99 (by kernel_rfl) Hv93 rfl rfl (by kernel_rfl) ?_
        intro ac100 En101
        refine d_pures [(0, .pointer (some ⟨b, 0, none⟩)), (2, .int .u8 0), (4, .int .u64 ((UInt64.toNat z : Nat) : Int)), (5, .int .i64 ((k : Nat) : Int)), (64, .pointer (some ⟨b, 0, none⟩)), (68, .slice xi (List.length li) yi), (70, .int .u8 (IntKind.wrap .u8 ((UInt64.toNat z : Nat) : Int)))] [.int .u64 ((UInt64.toNat z : Nat) : Int), .int .u8 (IntKind.wrap .u8 ((UInt64.toNat z : Nat) : Int))] 7 En101 (by kernel_rfl) (by kernel_rfl) rfl ?_
        intro ac102 En103
        rw [Go.Dbr.u64_to_u8 (a := ((UInt64.toNat z : Nat) : Int)) (x := z) rfl] at En103
        refine from_op (by kernel_rfl) ?_
        refine op_lit (d := some 71) (t := 22) (T := 5) (m := 1) (parts := #[(0, .int .u8 ((UInt8.toNat (UInt64.toUInt8 z) : Nat) : Int))]) (xs := bys [UInt64.toUInt8 z]) (sz := 1) En103 (by kernel_rfl) (by kernel_rfl) rfl (by decide) Hv93 ?_
        intro ac105 wo106 bk104 En107 Hv108
        refine from_op (by kernel_rfl) ?_
        refine op_append (d := some 72) (t := 22) (tx := 22) (ty := 22) (T := 5) (k := 2) (ao := xi) (cap := yi) (sz := 1) (p := List.length li) (m := 1) (xs := bys li) (ys := bys [UInt64.toUInt8 z]) (x := .slice (some ⟨bk104, 0, none⟩) 1 1) (bytes := 1) En107 (by kernel_rfl) Hv108 rfl (bys_len _) (Reads.src (size := 1) (tx := 22) (e' := 5) (by kernel_rfl) (Hv108.heap.reads (k := 3) rfl) rfl (fun e => by cases e) (bys_one _)) (by kernel_rfl) (z := .int .u8 0) (by kernel_rfl) rfl (by decide) (by omega) (by unfold maxLen; omega) ?_
        intro ac113 wo114 ao109 cp110 En115 Hv116 _ _
        rw [← bys_append] at Hv116
        have ehz111 : (List.length li) + 1 = List.length (li ++ [UInt64.toUInt8 z]) := (by first | (simp; done) | (simp; omega) | omega)
        rw [ehz111] at En115
        refine d_pures [(0, .pointer (some ⟨b, 0, none⟩)), (2, .int .u8 0), (4, .int .u64 ((UInt64.toNat z : Nat) : Int)), (5, .int .i64 ((k : Nat) : Int)), (72, .slice ao109 (List.length (li ++ [UInt64.toUInt8 z])) cp110), (74, .pointer (some ⟨b, 2, none⟩))] [.pointer (some ⟨b, 0, none⟩), .pointer (some ⟨b, 2, none⟩)] 11 En115 (by kernel_rfl) (by kernel_rfl) rfl ?_
        intro ac117 En118
        refine from_op (by kernel_rfl) ?_
        refine op_storebox (d := none) (t := 22) (b := b) (off := 2) (k := 0) (v := .slice ao109 (List.length (li ++ [UInt64.toUInt8 z])) cp110) (old := .slice xi (List.length li) yi) En118 (by kernel_rfl) Hv116 rfl rfl (by kernel_rfl) rfl (L' := [.box b [.slice xf (List.length lf) cf, .int .u64 ((UInt64.toNat (nextS s) : Nat) : Int), .slice ao109 (List.length (li ++ [UInt64.toUInt8 z])) cp110] 58, .vec xf cf 1 (bys lf) 5, .vec ao109 cp110 1 (bys (li ++ [UInt64.toUInt8 z])) 5, .vec (some ⟨bk104, 0, none⟩) 1 1 (bys [UInt64.toUInt8 z]) 5]) rfl ?_
        intro ac119 wo120  En121 Hv122
        refine from_end (by kernel_rfl) ?_
        refine then_normal ?_
        refine region_from ?_  -- region 15
        refine d_pures [(0, .pointer (some ⟨b, 0, none⟩)), (2, .int .u8 0), (4, .int .u64 ((UInt64.toNat z : Nat) : Int)), (5, .int .i64 ((k : Nat) : Int)), (76, .int .u64 (Int.fdiv ((UInt64.toNat z : Nat) : Int) (2 ^ 8)))] [.int .u64 ((UInt64.toNat z : Nat) : Int), .int .u64 (Int.fdiv ((UInt64.toNat z : Nat) : Int) (2 ^ 8))] 2 En121 (by kernel_rfl) (by kernel_rfl) rfl ?_
        intro ac123 En124
        rw [Go.Dbr.u64_shr (a := ((UInt64.toNat z : Nat) : Int)) (x := z) (n := 8) rfl (by decide)] at En124
        refine d_pures [(0, .pointer (some ⟨b, 0, none⟩)), (2, .int .u8 0), (4, .int .u64 ((UInt64.toNat (z >>> UInt64.ofNat 8) : Nat) : Int)), (5, .int .i64 ((k : Nat) : Int))] [.int .u64 ((UInt64.toNat (z >>> UInt64.ofNat 8) : Nat) : Int)] 3 En124 (by kernel_rfl) (by kernel_rfl) rfl ?_
        intro ac125 En126
        refine from_end (by kernel_rfl) ?_
        refine block_normal ?_
        refine then_normal ?_
        refine region_from ?_  -- region 13
        refine d_pures [(0, .pointer (some ⟨b, 0, none⟩)), (2, .int .u8 0), (4, .int .u64 ((UInt64.toNat (z >>> UInt64.ofNat 8) : Nat) : Int)), (5, .int .i64 ((k : Nat) : Int)), (63, .int .i64 (IntKind.wrap .i64 (((k : Nat) : Int) + (1 : Int))))] [.int .i64 ((k : Nat) : Int), .int .i64 (IntKind.wrap .i64 (((k : Nat) : Int) + (1 : Int)))] 2 En126 (by kernel_rfl) (by kernel_rfl) rfl ?_
        intro ac127 En128
        rw [Go.Dbr.wr64 (e := ((k : Nat) : Int) + (1 : Int)) (x := ((k + 1 : Nat) : Int)) (by omega) (by omega) (by omega)] at En128
        refine d_pures [(0, .pointer (some ⟨b, 0, none⟩)), (2, .int .u8 0), (4, .int .u64 ((UInt64.toNat (z >>> UInt64.ofNat 8) : Nat) : Int)), (5, .int .i64 ((k + 1 : Nat) : Int))] [.int .i64 ((k + 1 : Nat) : Int)] 3 En128 (by kernel_rfl) (by kernel_rfl) rfl ?_
        intro ac129 En130
        refine from_end (by kernel_rfl) ?_
        refine then_normal ?_
        refine ⟨_, ⟨k + 1, li ++ [UInt64.toUInt8 z], z >>> UInt64.ofNat 8, ao109, cp110, rfl, En130.sub (by kernel_rfl), Hv122.pick [0, 1, 2] (by kernel_rfl) (by decide), by omega, by rw [hli, chunkB_succ, zbyte (by omega) hz], by simp; omega, zstep hz⟩, ?_⟩
        omega
      ·
        replace hc97 : ¬ (((k : Nat) : Int) < (8 : Int)) := by simpa using hc97
        refine wp_exit ?_
        refine then_exit ?_
        refine then_exit ?_
        refine block_exit ?_
        refine then_normal ?_
        refine wp_seq ?_
        refine region_from ?_  -- region 16
        refine d_pures [(0, .pointer (some ⟨b, 0, none⟩)), (2, .int .u8 0), (4, .int .u64 ((UInt64.toNat z : Nat) : Int)), (5, .int .i64 ((k : Nat) : Int)), (79, .pointer (some ⟨b, 2, none⟩))] [.pointer (some ⟨b, 0, none⟩), .pointer (some ⟨b, 0, none⟩), .pointer (some ⟨b, 2, none⟩)] 3 En96 (by kernel_rfl) (by kernel_rfl) rfl ?_
        intro ac131 En132
        refine from_op (by kernel_rfl) ?_
        refine op_loadbox (d := some 80) (t := 22) (b := b) (off := 2) (k := 0) (v := .slice xi (List.length li) yi) En132 (by kernel_rfl) Hv93 rfl rfl (by kernel_rfl) ?_
        intro ac133 En134
        refine from_op (by kernel_rfl) ?_
        refine op_index (d := some 81) (t := 22) (e := 5) (sz := 1) (len := List.length li) (cap := yi) (j := 0) (ao := xi) (k := .i64) (ix := 0) En134 (by kernel_rfl) (bys_vnz Hv93.heap (k := 2) rfl) (by kernel_rfl) (by kernel_rfl) (by omega) (by omega) (jo := 0) (Nat.mul_one _) ?_
        intro ac137 adr135 had136 En138
        refine from_op (by kernel_rfl) ?_
        have hb139 : 0 < List.length li := by omega
        refine op_loadel (d := some 82) (t := 5) (ad := adr135) (ao := xi) (xs := bys li) (j := 0) (v := .int .u8 ((UInt8.toNat ((li)[0]'hb139) : Nat) : Int)) En138 (by kernel_rfl) (Hv93.heap.reads (k := 2) rfl) had136 (bys_get hb139) (by kernel_rfl) ?_
        intro ac140 En141
        refine d_pures [(0, .pointer (some ⟨b, 0, none⟩)), (2, .int .u8 0), (4, .int .u64 ((UInt64.toNat z : Nat) : Int)), (5, .int .i64 ((k : Nat) : Int)), (6, .int .u8 ((UInt8.toNat ((li)[0]'hb139) : Nat) : Int))] [.int .u8 ((UInt8.toNat ((li)[0]'hb139) : Nat) : Int)] 7 En141 (by kernel_rfl) (by kernel_rfl) rfl ?_
        intro ac142 En143
        refine from_end (by kernel_rfl) ?_
        refine then_normal ?_
        refine wp_seq ?_
        refine region_from ?_  -- region 17
        refine d_pures [(0, .pointer (some ⟨b, 0, none⟩)), (2, .int .u8 0), (4, .int .u64 ((UInt64.toNat z : Nat) : Int)), (5, .int .i64 ((k : Nat) : Int)), (6, .int .u8 ((UInt8.toNat ((li)[0]'hb139) : Nat) : Int)), (83, .pointer (some ⟨b, 0, none⟩)), (86, .pointer (some ⟨b, 2, none⟩))] [.pointer (some ⟨b, 0, none⟩), .pointer (some ⟨b, 0, none⟩), .pointer (some ⟨b, 0, none⟩), .pointer (some ⟨b, 2, none⟩)] 4 En143 (by kernel_rfl) (by kernel_rfl) rfl ?_
        intro ac144 En145
        refine from_op (by kernel_rfl) ?_
        refine op_loadbox (d := some 87) (t := 22) (b := b) (off := 2) (k := 0) (v := .slice xi (List.length li) yi) En145 (by kernel_rfl) Hv93 rfl rfl (by kernel_rfl) ?_
        intro ac146 En147
        refine from_op (by kernel_rfl) ?_
        have hcap148 := bys_vcap Hv93.heap (k := 2) rfl
        refine op_slice (d := some 88) (t := 22) (e := 5) (sz := 1) (len := List.length li) (cap := yi) (lo := 1) (hi := List.length li) (ao := xi) (lov := (some (.int .i64 1))) (hiv := none) En147 (by kernel_rfl) (by kernel_rfl) (by kernel_rfl) (by omega) (by omega) (.inr ⟨.i64, rfl⟩) (.inl ⟨rfl, rfl⟩) ?_
        intro ac149 En150
        have Hv151 : Ev w [.box b [.slice xf (List.length lf) cf, .int .u64 ((UInt64.toNat s : Nat) : Int), .slice xl (List.length ll) cl] 58, .vec xf cf 1 (bys lf) 5, .vec xl cl 1 (bys ll) 5] wo91 [.box b [.slice xf (List.length lf) cf, .int .u64 ((UInt64.toNat (nextS s) : Nat) : Int), .slice xi (List.length li) yi] 58, .vec xf cf 1 (bys lf) 5, .vec (cutAt xi yi 1 1) (yi - 1) 1 (bys (List.drop 1 li)) 5] := by
          have h := Ev.cut (k := 2) (n := List.length li) (sz := 1) Hv93 rfl (bys_len _) (by omega) 1 (List.length li) (by omega) (by omega)
          rw [bys_cutw (l := li) (lo := 1) (n := List.length li) (by simp)] at h
          exact h
        refine d_pures [(0, .pointer (some ⟨b, 0, none⟩)), (2, .int .u8 0), (4, .int .u64 ((UInt64.toNat z : Nat) : Int)), (5, .int .i64 ((k : Nat) : Int)), (6, .int .u8 ((UInt8.toNat ((li)[0]'hb139) : Nat) : Int)), (88, .slice (cutAt xi yi 1 1) ((List.length li) - 1) (yi - 1)), (90, .pointer (some ⟨b, 2, none⟩))] [.pointer (some ⟨b, 0, none⟩), .pointer (some ⟨b, 2, none⟩)] 8 En150 (by kernel_rfl) (by kernel_rfl) rfl ?_
        intro ac152 En153
        refine from_op (by kernel_rfl) ?_
        refine op_storebox (d := none) (t := 22) (b := b) (off := 2) (k := 0) (v := .slice (cutAt xi yi 1 1) ((List.length li) - 1) (yi - 1)) (old := .slice xi (List.length li) yi) En153 (by kernel_rfl) Hv151 rfl rfl (by kernel_rfl) rfl (L' := [.box b [.slice xf (List.length lf) cf, .int .u64 ((UInt64.toNat (nextS s) : Nat) : Int), .slice (cutAt xi yi 1 1) ((List.length li) - 1) (yi - 1)] 58, .vec xf cf 1 (bys lf) 5, .vec (cutAt xi yi 1 1) (yi - 1) 1 (bys (List.drop 1 li)) 5]) rfl ?_
        intro ac154 wo155  En156 Hv157
        refine from_end (by kernel_rfl) ?_
        refine then_normal ?_
        refine wp_seq ?_
        refine region_from ?_  -- region 18
        refine d_pures [(0, .pointer (some ⟨b, 0, none⟩)), (2, .int .u8 ((UInt8.toNat ((li)[0]'hb139) : Nat) : Int)), (4, .int .u64 ((UInt64.toNat z : Nat) : Int)), (5, .int .i64 ((k : Nat) : Int))] [.int .u8 ((UInt8.toNat ((li)[0]'hb139) : Nat) : Int), .int .u8 ((UInt8.toNat ((li)[0]'hb139) : Nat) : Int)] 2 En156 (by kernel_rfl) (by kernel_rfl) rfl ?_
        intro ac158 En159
        refine from_end (by kernel_rfl) ?_
        refine then_normal ?_
        refine wp_ret ?_
        refine d_ret1 (t := 2) (v := .int .u8 ((UInt8.toNat ((li)[0]'hb139) : Nat) : Int)) En159 (by kernel_rfl) (by kernel_rfl) ?_
        have h8 : k = 8 := by omega
        have hd3 : Den li (nextS s) f := by rw [hli, h8]; exact hd2
        rw [show List.length li - 1 = List.length (List.drop 1 li) from (List.length_drop).symm] at Hv157
        have hq := hd3.drop 1 (by omega)
        exact ⟨lf, nextS s, List.drop 1 li, xf, cf, cutAt xi yi 1 1, yi - 1, ret_u8 (hd3.head (by omega)), Hv157.pick [0, 1, 2] (by kernel_rfl) (by decide), by rw [hlf]; exact hq, hb1, by simp; omega⟩
    ·
      replace hc45 : ¬ (((List.length ll : Nat) : Int) = (0 : Int)) := by simpa using hc45
      have hl0 : 0 < List.length ll := by omega
      refine wp_skip ?_
      refine then_normal ?_
      refine wp_seq ?_
      refine region_from ?_  -- region 16
      refine d_pures [(0, .pointer (some ⟨b, 0, none⟩)), (2, .int .u8 0), (79, .pointer (some ⟨b, 2, none⟩))] [.pointer (some ⟨b, 0, none⟩), .pointer (some ⟨b, 0, none⟩), .pointer (some ⟨b, 2, none⟩)] 3 En44 (by kernel_rfl) (by kernel_rfl) rfl ?_
      intro ac160 En161
      refine from_op (by kernel_rfl) ?_
      refine op_loadbox (d := some 80) (t := 22) (b := b) (off := 2) (k := 0) (v := .slice xl (List.length ll) cl) En161 (by kernel_rfl) Hv0 rfl rfl (by kernel_rfl) ?_
      intro ac162 En163
      refine from_op (by kernel_rfl) ?_
      refine op_index (d := some 81) (t := 22) (e := 5) (sz := 1) (len := List.length ll) (cap := cl) (j := 0) (ao := xl) (k := .i64) (ix := 0) En163 (by kernel_rfl) (bys_vnz Hv0.heap (k := 2) rfl) (by kernel_rfl) (by kernel_rfl) (by omega) (by omega) (jo := 0) (Nat.mul_one _) ?_
      intro ac166 adr164 had165 En167
      refine from_op (by kernel_rfl) ?_
      have hb168 : 0 < List.length ll := by omega
      refine op_loadel (d := some 82) (t := 5) (ad := adr164) (ao := xl) (xs := bys ll) (j := 0) (v := .int .u8 ((UInt8.toNat ((ll)[0]'hb168) : Nat) : Int)) En167 (by kernel_rfl) (Hv0.heap.reads (k := 2) rfl) had165 (bys_get hb168) (by kernel_rfl) ?_
      intro ac169 En170
      refine d_pures [(0, .pointer (some ⟨b, 0, none⟩)), (2, .int .u8 0), (6, .int .u8 ((UInt8.toNat ((ll)[0]'hb168) : Nat) : Int))] [.int .u8 ((UInt8.toNat ((ll)[0]'hb168) : Nat) : Int)] 7 En170 (by kernel_rfl) (by kernel_rfl) rfl ?_
      intro ac171 En172
      refine from_end (by kernel_rfl) ?_
      refine then_normal ?_
      refine wp_seq ?_
      refine region_from ?_  -- region 17
      refine d_pures [(0, .pointer (some ⟨b, 0, none⟩)), (2, .int .u8 0), (6, .int .u8 ((UInt8.toNat ((ll)[0]'hb168) : Nat) : Int)), (83, .pointer (some ⟨b, 0, none⟩)), (86, .pointer (some ⟨b, 2, none⟩))] [.pointer (some ⟨b, 0, none⟩), .pointer (some ⟨b, 0, none⟩), .pointer (some ⟨b, 0, none⟩), .pointer (some ⟨b, 2, none⟩)] 4 En172 (by kernel_rfl) (by kernel_rfl) rfl ?_
      intro ac173 En174
      refine from_op (by kernel_rfl) ?_
      refine op_loadbox (d := some 87) (t := 22) (b := b) (off := 2) (k := 0) (v := .slice xl (List.length ll) cl) En174 (by kernel_rfl) Hv0 rfl rfl (by kernel_rfl) ?_
      intro ac175 En176
      refine from_op (by kernel_rfl) ?_
      have hcap177 := bys_vcap Hv0.heap (k := 2) rfl
      refine op_slice (d := some 88) (t := 22) (e := 5) (sz := 1) (len := List.length ll) (cap := cl) (lo := 1) (hi := List.length ll) (ao := xl) (lov := (some (.int .i64 1))) (hiv := none) En176 (by kernel_rfl) (by kernel_rfl) (by kernel_rfl) (by omega) (by omega) (.inr ⟨.i64, rfl⟩) (.inl ⟨rfl, rfl⟩) ?_
      intro ac178 En179
      have Hv180 : Ev w [.box b [.slice xf (List.length lf) cf, .int .u64 ((UInt64.toNat s : Nat) : Int), .slice xl (List.length ll) cl] 58, .vec xf cf 1 (bys lf) 5, .vec xl cl 1 (bys ll) 5] w [.box b [.slice xf (List.length lf) cf, .int .u64 ((UInt64.toNat s : Nat) : Int), .slice xl (List.length ll) cl] 58, .vec xf cf 1 (bys lf) 5, .vec (cutAt xl cl 1 1) (cl - 1) 1 (bys (List.drop 1 ll)) 5] := by
        have h := Ev.cut (k := 2) (n := List.length ll) (sz := 1) Hv0 rfl (bys_len _) (by omega) 1 (List.length ll) (by omega) (by omega)
        rw [bys_cutw (l := ll) (lo := 1) (n := List.length ll) (by simp)] at h
        exact h
      refine d_pures [(0, .pointer (some ⟨b, 0, none⟩)), (2, .int .u8 0), (6, .int .u8 ((UInt8.toNat ((ll)[0]'hb168) : Nat) : Int)), (88, .slice (cutAt xl cl 1 1) ((List.length ll) - 1) (cl - 1)), (90, .pointer (some ⟨b, 2, none⟩))] [.pointer (some ⟨b, 0, none⟩), .pointer (some ⟨b, 2, none⟩)] 8 En179 (by kernel_rfl) (by kernel_rfl) rfl ?_
      intro ac181 En182
      refine from_op (by kernel_rfl) ?_
      refine op_storebox (d := none) (t := 22) (b := b) (off := 2) (k := 0) (v := .slice (cutAt xl cl 1 1) ((List.length ll) - 1) (cl - 1)) (old := .slice xl (List.length ll) cl) En182 (by kernel_rfl) Hv180 rfl rfl (by kernel_rfl) rfl (L' := [.box b [.slice xf (List.length lf) cf, .int .u64 ((UInt64.toNat s : Nat) : Int), .slice (cutAt xl cl 1 1) ((List.length ll) - 1) (cl - 1)] 58, .vec xf cf 1 (bys lf) 5, .vec (cutAt xl cl 1 1) (cl - 1) 1 (bys (List.drop 1 ll)) 5]) rfl ?_
      intro ac183 wo184  En185 Hv186
      refine from_end (by kernel_rfl) ?_
      refine then_normal ?_
      refine wp_seq ?_
      refine region_from ?_  -- region 18
      refine d_pures [(0, .pointer (some ⟨b, 0, none⟩)), (2, .int .u8 ((UInt8.toNat ((ll)[0]'hb168) : Nat) : Int))] [.int .u8 ((UInt8.toNat ((ll)[0]'hb168) : Nat) : Int), .int .u8 ((UInt8.toNat ((ll)[0]'hb168) : Nat) : Int)] 2 En185 (by kernel_rfl) (by kernel_rfl) rfl ?_
      intro ac187 En188
      refine from_end (by kernel_rfl) ?_
      refine then_normal ?_
      refine wp_ret ?_
      refine d_ret1 (t := 2) (v := .int .u8 ((UInt8.toNat ((ll)[0]'hb168) : Nat) : Int)) En188 (by kernel_rfl) (by kernel_rfl) ?_
      have hd3 := hd1
      rw [show List.length ll - 1 = List.length (List.drop 1 ll) from (List.length_drop).symm] at Hv186
      have hq := hd3.drop 1 (by omega)
      exact ⟨lf, s, List.drop 1 ll, xf, cf, cutAt xl cl 1 1, cl - 1, ret_u8 (hd3.head (by omega)), Hv186.pick [0, 1, 2] (by kernel_rfl) (by decide), by rw [hlf]; exact hq, hb1, by simp; omega⟩


theorem takeF_succ (f : Nat → UInt8) (k : Nat) : takeF f (k + 1) = takeF f k ++ [f k] := by simp [takeF, List.range_succ]
theorem shiftF_add (f : Nat → UInt8) (k : Nat) : shiftF (shiftF f k) 1 = shiftF f (k + 1) := by
  funext i
  show f (i + 1 + k) = f (i + (k + 1))
  congr 1
  omega

theorem read_ref (b : Nat) (n : Int) (lf ll : List UInt8) (s : UInt64) (xf xl : Option Addr) (cf cl : Nat) (f : Nat → UInt8) (w : World) (hd : Den (lf ++ ll) s f) (hc1 : List.length lf ≤ 140737488351232) (hc2 : List.length ll ≤ 8) (hh : Heap w [.box b [.slice xf (List.length lf) cf, .int .u64 ((UInt64.toNat s : Nat) : Int), .slice xl (List.length ll) cl] 58, .vec xf cf 1 (bys lf) 5, .vec xl cl 1 (bys ll) 5]) : Calls Try.prog 11 #[.pointer (some ⟨b, 0, none⟩), .int .i64 n] w fun e w' => ∃ lf' s' ll' xf' cf' xl' cl' ao co, e = .returned (.slice ao (List.length (takeF f (clampN n))) co) ∧ Ev w [.box b [.slice xf (List.length lf) cf, .int .u64 ((UInt64.toNat s : Nat) : Int), .slice xl (List.length ll) cl] 58, .vec xf cf 1 (bys lf) 5, .vec xl cl 1 (bys ll) 5] w' [.box b [.slice xf' (List.length lf') cf', .int .u64 ((UInt64.toNat s' : Nat) : Int), .slice xl' (List.length ll') cl'] 58, .vec xf' cf' 1 (bys lf') 5, .vec xl' cl' 1 (bys ll') 5, .vec ao co 1 (bys (takeF f (clampN n))) 5] ∧ Den (lf' ++ ll') s' (shiftF f (clampN n)) ∧ List.length lf' ≤ 140737488351232 ∧ List.length ll' ≤ 8 := by
  have hcl := clamp_le n
  refine d_start [(0, .pointer (some ⟨b, 0, none⟩)), (1, .int .i64 n)] 20 Go.Proofs.Try.func11 Go.Proofs.Try.ntmps11 rfl (by kernel_rfl) (by kernel_rfl) ?_
  intro act0 En0
  have Hv0 : Ev w [.box b [.slice xf (List.length lf) cf, .int .u64 ((UInt64.toNat s : Nat) : Int), .slice xl (List.length ll) cl] 58, .vec xf cf 1 (bys lf) 5, .vec xl cl 1 (bys ll) 5] w [.box b [.slice xf (List.length lf) cf, .int .u64 ((UInt64.toNat s : Nat) : Int), .slice xl (List.length ll) cl] 58, .vec xf cf 1 (bys lf) 5, .vec xl cl 1 (bys ll) 5] := Ev.refl (hh)
  refine wp_seq ?_
  refine region_from ?_  -- region 0
  refine d_pures [(0, .pointer (some ⟨b, 0, none⟩)), (1, .int .i64 n), (4, .slice none 0 0)] [.slice none 0 0] 1 En0 (by kernel_rfl) (by kernel_rfl) rfl ?_
  intro ac1 En2
  refine from_end (by kernel_rfl) ?_
  refine then_normal ?_
  refine wp_seq ?_
  refine wp_seq ?_
  refine region_from ?_  -- region 1
  refine d_pures [(0, .pointer (some ⟨b, 0, none⟩)), (1, .int .i64 n), (4, .slice none 0 0), (8, .bool (decide (n > (65536 : Int))))] [.int .i64 n, .bool (decide (n > (65536 : Int)))] 2 En2 (by kernel_rfl) (by kernel_rfl) rfl ?_
  intro ac3 En4
  refine from_end (by kernel_rfl) ?_
  refine then_normal ?_
  refine cond_at En4 (t := decide (n > (65536 : Int))) (by kernel_rfl) (fun hc5 => ?_) (fun hc5 => ?_)
  ·
    replace hc5 : n > (65536 : Int) := by simpa using hc5
    have hn : clampN n = 65536 := by unfold clampN; (repeat' split) <;> omega
    refine region_from ?_  -- region 2
    refine d_pures [(0, .pointer (some ⟨b, 0, none⟩)), (1, .int .i64 65536), (4, .slice none 0 0)] [.int .i64 65536] 1 En4 (by kernel_rfl) (by kernel_rfl) rfl ?_
    intro ac6 En7
    refine from_end (by kernel_rfl) ?_
    refine then_normal ?_
    refine wp_seq ?_
    refine region_from ?_  -- region 3
    refine d_pures [(0, .pointer (some ⟨b, 0, none⟩)), (1, .int .i64 65536), (4, .slice none 0 0), (5, .slice none 0 0)] [.slice none 0 0] 1 En7 (by kernel_rfl) (by kernel_rfl) rfl ?_
    intro ac8 En9
    refine from_end (by kernel_rfl) ?_
    refine then_normal ?_
    refine wp_seq ?_
    refine wp_seq ?_
    refine region_from ?_  -- region 4
    refine d_pures [(0, .pointer (some ⟨b, 0, none⟩)), (1, .int .i64 65536), (4, .slice none 0 0), (5, .slice none 0 0), (6, .int .i64 0)] [.int .i64 0] 1 En9 (by kernel_rfl) (by kernel_rfl) rfl ?_
    intro ac10 En11
    refine from_end (by kernel_rfl) ?_
    refine then_normal ?_
    refine wp_block ?_
    have Hv12 : Ev w [.box b [.slice xf (List.length lf) cf, .int .u64 ((UInt64.toNat s : Nat) : Int), .slice xl (List.length ll) cl] 58, .vec xf cf 1 (bys lf) 5, .vec xl cl 1 (bys ll) 5] w [.box b [.slice xf (List.length lf) cf, .int .u64 ((UInt64.toNat s : Nat) : Int), .slice xl (List.length ll) cl] 58, .vec xf cf 1 (bys lf) 5, .vec xl cl 1 (bys ll) 5, .vec none 0 1 (bys []) 5] := Ev.nil (sz := 1) (T := 5) Hv0
    refine loop_m (fun ms13 ac wo => ∃ (k : Nat) (lr : List UInt8) (lf1 : List UInt8) (s1 : UInt64) (ll1 : List UInt8) (xf1 : Option Addr) (cf1 : Nat) (xl1 : Option Addr) (cl1 : Nat) (xr : Option Addr) (yr : Nat), ms13 = (clampN n - k : Nat) ∧ Env ac 20 [(0, .pointer (some ⟨b, 0, none⟩)), (1, .int .i64 65536), (4, .slice none 0 0), (5, .slice xr (List.length lr) yr), (6, .int .i64 ((k : Nat) : Int))] ∧ Ev w [.box b [.slice xf (List.length lf) cf, .int .u64 ((UInt64.toNat s : Nat) : Int), .slice xl (List.length ll) cl] 58, .vec xf cf 1 (bys lf) 5, .vec xl cl 1 (bys ll) 5] wo [.box b [.slice xf1 (List.length lf1) cf1, .int .u64 ((UInt64.toNat s1 : Nat) : Int), .slice xl1 (List.length ll1) cl1] 58, .vec xf1 cf1 1 (bys lf1) 5, .vec xl1 cl1 1 (bys ll1) 5, .vec xr yr 1 (bys lr) 5] ∧ (k ≤ clampN n) ∧ (lr = takeF f k) ∧ (Den (lf1 ++ ll1) s1 (shiftF f k)) ∧ (List.length lf1 ≤ 140737488351232) ∧ (List.length ll1 ≤ 8) ∧ (List.length lr = k)) ⟨_, 0, [], lf, s, ll, xf, cf, xl, cl, none, 0, rfl, En11.sub (by kernel_rfl), Hv12.pick [0, 1, 2, 3] (by kernel_rfl) (by decide), by omega, by rfl, hd, hc1, hc2, by rfl⟩ ?_
    rintro mm19 ac15 wo16 ⟨k, lr, lf1, s1, ll1, xf1, cf1, xl1, cl1, xr, yr, rfl, En17, Hv18, hk, hlr, hd1, hb1, hb2, hlk⟩
    refine wp_seq ?_
    refine wp_seq ?_
    refine region_from ?_  -- region 5
    refine d_pures [(0, .pointer (some ⟨b, 0, none⟩)), (1, .int .i64 65536), (4, .slice none 0 0), (5, .slice xr (List.length lr) yr), (6, .int .i64 ((k : Nat) : Int)), (11, .bool (decide (((k : Nat) : Int) < (65536 : Int))))] [.int .i64 ((k : Nat) : Int), .int .i64 65536, .bool (decide (((k : Nat) : Int) < (65536 : Int)))] 3 En17 (by kernel_rfl) (by kernel_rfl) rfl ?_
    intro ac20 En21
    refine from_end (by kernel_rfl) ?_
    refine then_normal ?_
    refine cond_at En21 (t := decide (((k : Nat) : Int) < (65536 : Int))) (by kernel_rfl) (fun hc22 => ?_) (fun hc22 => ?_)
    ·
      replace hc22 : ((k : Nat) : Int) < (65536 : Int) := by simpa using hc22
      refine wp_skip ?_
      refine then_normal ?_
      refine wp_seq ?_
      refine wp_block ?_
      refine region_from ?_  -- region 7
      refine d_pures [(0, .pointer (some ⟨b, 0, none⟩)), (1, .int .i64 65536), (4, .slice none 0 0), (5, .slice xr (List.length lr) yr), (6, .int .i64 ((k : Nat) : Int)), (14, .slice xr (List.length lr) yr), (15, .pointer (some ⟨b, 0, none⟩))] [.slice xr (List.length lr) yr, .pointer (some ⟨b, 0, none⟩)] 2 En21 (by kernel_rfl) (by kernel_rfl) rfl ?_
      intro ac23 En24
      refine from_op (by kernel_rfl) ?_
      have hM26 : Heap wo16 [.box b [.slice xf1 (List.length lf1) cf1, .int .u64 ((UInt64.toNat s1 : Nat) : Int), .slice xl1 (List.length ll1) cl1] 58, .vec xf1 cf1 1 (bys lf1) 5, .vec xl1 cl1 1 (bys ll1) 5] := Hv18.heap.pick [0, 1, 2] (by kernel_rfl) (by decide)
      refine op_call (d := some 16) (f := 21) (args := #[.pointer (some ⟨b, 0, none⟩)]) En24 (by kernel_rfl) ((next_ref b _ _ _ _ _ _ _ (shiftF f k) _ hd1 hb1 hb2 hM26).mono ?_)
      rintro _ wo28 ⟨lfn25, sn25, lln25, xfn25, cfn25, xln25, cln25, rfl, he31, hdn25, hb1n25, hb2n25⟩
      refine ⟨_, rfl, ?_⟩
      intro ac27 En29
      have Hv30 : Ev w [.box b [.slice xf (List.length lf) cf, .int .u64 ((UInt64.toNat s : Nat) : Int), .slice xl (List.length ll) cl] 58, .vec xf cf 1 (bys lf) 5, .vec xl cl 1 (bys ll) 5] wo28 [.box b [.slice xfn25 (List.length lfn25) cfn25, .int .u64 ((UInt64.toNat sn25 : Nat) : Int), .slice xln25 (List.length lln25) cln25] 58, .vec xfn25 cfn25 1 (bys lfn25) 5, .vec xln25 cln25 1 (bys lln25) 5, .vec xr yr 1 (bys lr) 5] := Hv18.trans (Ev.call (R := [.vec xr yr 1 (bys lr) 5]) Hv18.heap [0, 1, 2, 3] (by kernel_rfl) (by decide) he31)
      clear hM26 he31
      refine from_op (by kernel_rfl) ?_
      refine op_lit (d := some 17) (t := 22) (T := 5) (m := 1) (parts := #[(0, .int .u8 ((UInt8.toNat ((shiftF f k) 0) : Nat) : Int))]) (xs := bys [(shiftF f k) 0]) (sz := 1) En29 (by kernel_rfl) (by kernel_rfl) rfl (by decide) Hv30 ?_
      intro ac33 wo34 bk32 En35 Hv36
      refine from_op (by kernel_rfl) ?_
      refine op_append (d := some 18) (t := 22) (tx := 22) (ty := 22) (T := 5) (k := 3) (ao := xr) (cap := yr) (sz := 1) (p := List.length lr) (m := 1) (xs := bys lr) (ys := bys [(shiftF f k) 0]) (x := .slice (some ⟨bk32, 0, none⟩) 1 1) (bytes := 1) En35 (by kernel_rfl) Hv36 rfl (bys_len _) (Reads.src (size := 1) (tx := 22) (e' := 5) (by kernel_rfl) (Hv36.heap.reads (k := 4) rfl) rfl (fun e => by cases e) (bys_one _)) (by kernel_rfl) (z := .int .u8 0) (by kernel_rfl) rfl (by decide) (by omega) (by unfold maxLen; omega) ?_
      intro ac41 wo42 ao37 cp38 En43 Hv44 _ _
      rw [← bys_append] at Hv44
      have ehz39 : (List.length lr) + 1 = List.length (lr ++ [(shiftF f k) 0]) := (by first | (simp; done) | (simp; omega) | omega)
      rw [ehz39] at En43
      refine d_pures [(0, .pointer (some ⟨b, 0, none⟩)), (1, .int .i64 65536), (4, .slice none 0 0), (5, .slice ao37 (List.length (lr ++ [(shiftF f k) 0])) cp38), (6, .int .i64 ((k : Nat) : Int))] [.slice ao37 (List.length (lr ++ [(shiftF f k) 0])) cp38] 6 En43 (by kernel_rfl) (by kernel_rfl) rfl ?_
      intro ac45 En46
      refine from_end (by kernel_rfl) ?_
      refine block_normal ?_
      refine then_normal ?_
      refine region_from ?_  -- region 6
      refine d_pures [(0, .pointer (some ⟨b, 0, none⟩)), (1, .int .i64 65536), (4, .slice none 0 0), (5, .slice ao37 (List.length (lr ++ [(shiftF f k) 0])) cp38), (6, .int .i64 ((k : Nat) : Int)), (13, .int .i64 (IntKind.wrap .i64 (((k : Nat) : Int) + (1 : Int))))] [.int .i64 ((k : Nat) : Int), .int .i64 (IntKind.wrap .i64 (((k : Nat) : Int) + (1 : Int)))] 2 En46 (by kernel_rfl) (by kernel_rfl) rfl ?_
      intro ac47 En48
      rw [Go.Dbr.wr64 (e := ((k : Nat) : Int) + (1 : Int)) (x := ((k + 1 : Nat) : Int)) (by omega) (by omega) (by omega)] at En48
      refine d_pures [(0, .pointer (some ⟨b, 0, none⟩)), (1, .int .i64 65536), (4, .slice none 0 0), (5, .slice ao37 (List.length (lr ++ [(shiftF f k) 0])) cp38), (6, .int .i64 ((k + 1 : Nat) : Int))] [.int .i64 ((k + 1 : Nat) : Int)] 3 En48 (by kernel_rfl) (by kernel_rfl) rfl ?_
      intro ac49 En50
      refine from_end (by kernel_rfl) ?_
      refine then_normal ?_
      refine ⟨_, ⟨k + 1, lr ++ [shiftF f k 0], lfn25, sn25, lln25, xfn25, cfn25, xln25, cln25, ao37, cp38, rfl, En50.sub (by kernel_rfl), Hv44.pick [0, 1, 2, 3] (by kernel_rfl) (by decide), by omega, by rw [hlr, takeF_succ]; simp [shiftF], by rw [shiftF_add] at hdn25; exact hdn25, hb1n25, hb2n25, by simp; omega⟩, ?_⟩
      omega
    ·
      replace hc22 : ¬ (((k : Nat) : Int) < (65536 : Int)) := by simpa using hc22
      refine wp_exit ?_
      refine then_exit ?_
      refine then_exit ?_
      refine block_exit ?_
      refine then_normal ?_
      refine wp_seq ?_
      refine region_from ?_  -- region 8
      refine d_pures [(0, .pointer (some ⟨b, 0, none⟩)), (1, .int .i64 65536), (4, .slice xr (List.length lr) yr), (5, .slice xr (List.length lr) yr), (6, .int .i64 ((k : Nat) : Int))] [.slice xr (List.length lr) yr, .slice xr (List.length lr) yr] 2 En21 (by kernel_rfl) (by kernel_rfl) rfl ?_
      intro ac51 En52
      refine from_end (by kernel_rfl) ?_
      refine then_normal ?_
      refine wp_ret ?_
      refine d_ret1 (t := 4) (v := .slice xr (List.length lr) yr) En52 (by kernel_rfl) (by kernel_rfl) ?_
      have hkn : k = clampN n := by omega
      subst hlr
      rw [hkn] at hd1 Hv18 ⊢
      exact ⟨lf1, s1, ll1, xf1, cf1, xl1, cl1, xr, yr, rfl, Hv18.pick [0, 1, 2, 3] (by kernel_rfl) (by decide), hd1, hb1, hb2⟩
  ·
    replace hc5 : ¬ (n > (65536 : Int)) := by simpa using hc5
    have hn : (n < 0 ∧ clampN n = 0) ∨ (0 ≤ n ∧ ((clampN n : Nat) : Int) = n) := by unfold clampN; (repeat' split) <;> omega
    refine wp_skip ?_
    refine then_normal ?_
    refine wp_seq ?_
    refine region_from ?_  -- region 3
    refine d_pures [(0, .pointer (some ⟨b, 0, none⟩)), (1, .int .i64 n), (4, .slice none 0 0), (5, .slice none 0 0)] [.slice none 0 0] 1 En4 (by kernel_rfl) (by kernel_rfl) rfl ?_
    intro ac53 En54
    refine from_end (by kernel_rfl) ?_
    refine then_normal ?_
    refine wp_seq ?_
    refine wp_seq ?_
    refine region_from ?_  -- region 4
    refine d_pures [(0, .pointer (some ⟨b, 0, none⟩)), (1, .int .i64 n), (4, .slice none 0 0), (5, .slice none 0 0), (6, .int .i64 0)] [.int .i64 0] 1 En54 (by kernel_rfl) (by kernel_rfl) rfl ?_
    intro ac55 En56
    refine from_end (by kernel_rfl) ?_
    refine then_normal ?_
    refine wp_block ?_
    have Hv57 : Ev w [.box b [.slice xf (List.length lf) cf, .int .u64 ((UInt64.toNat s : Nat) : Int), .slice xl (List.length ll) cl] 58, .vec xf cf 1 (bys lf) 5, .vec xl cl 1 (bys ll) 5] w [.box b [.slice xf (List.length lf) cf, .int .u64 ((UInt64.toNat s : Nat) : Int), .slice xl (List.length ll) cl] 58, .vec xf cf 1 (bys lf) 5, .vec xl cl 1 (bys ll) 5, .vec none 0 1 (bys []) 5] := Ev.nil (sz := 1) (T := 5) Hv0
    refine loop_m (fun ms58 ac wo => ∃ (k : Nat) (lr : List UInt8) (lf1 : List UInt8) (s1 : UInt64) (ll1 : List UInt8) (xf1 : Option Addr) (cf1 : Nat) (xl1 : Option Addr) (cl1 : Nat) (xr : Option Addr) (yr : Nat), ms58 = (clampN n - k : Nat) ∧ Env ac 20 [(0, .pointer (some ⟨b, 0, none⟩)), (1, .int .i64 n), (4, .slice none 0 0), (5, .slice xr (List.length lr) yr), (6, .int .i64 ((k : Nat) : Int))] ∧ Ev w [.box b [.slice xf (List.length lf) cf, .int .u64 ((UInt64.toNat s : Nat) : Int), .slice xl (List.length ll) cl] 58, .vec xf cf 1 (bys lf) 5, .vec xl cl 1 (bys ll) 5] wo [.box b [.slice xf1 (List.length lf1) cf1, .int .u64 ((UInt64.toNat s1 : Nat) : Int), .slice xl1 (List.length ll1) cl1] 58, .vec xf1 cf1 1 (bys lf1) 5, .vec xl1 cl1 1 (bys ll1) 5, .vec xr yr 1 (bys lr) 5] ∧ (k ≤ clampN n) ∧ (lr = takeF f k) ∧ (Den (lf1 ++ ll1) s1 (shiftF f k)) ∧ (List.length lf1 ≤ 140737488351232) ∧ (List.length ll1 ≤ 8) ∧ (List.length lr = k)) ⟨_, 0, [], lf, s, ll, xf, cf, xl, cl, none, 0, rfl, En56.sub (by kernel_rfl), Hv57.pick [0, 1, 2, 3] (by kernel_rfl) (by decide), by omega, by rfl, hd, hc1, hc2, by rfl⟩ ?_
    rintro mm64 ac60 wo61 ⟨k, lr, lf1, s1, ll1, xf1, cf1, xl1, cl1, xr, yr, rfl, En62, Hv63, hk, hlr, hd1, hb1, hb2, hlk⟩
    refine wp_seq ?_
    refine wp_seq ?_
    refine region_from ?_  -- region 5
    refine d_pures [(0, .pointer (some ⟨b, 0, none⟩)), (1, .int .i64 n), (4, .slice none 0 0), (5, .slice xr (List.length lr) yr), (6, .int .i64 ((k : Nat) : Int)), (11, .bool (decide (((k : Nat) : Int) < n)))] [.int .i64 ((k : Nat) : Int), .int .i64 n, .bool (decide (((k : Nat) : Int) < n))] 3 En62 (by kernel_rfl) (by kernel_rfl) rfl ?_
    intro ac65 En66
    refine from_end (by kernel_rfl) ?_
    refine then_normal ?_
    refine cond_at En66 (t := decide (((k : Nat) : Int) < n)) (by kernel_rfl) (fun hc67 => ?_) (fun hc67 => ?_)
    ·
      replace hc67 : ((k : Nat) : Int) < n := by simpa using hc67
      refine wp_skip ?_
      refine then_normal ?_
      refine wp_seq ?_
      refine wp_block ?_
      refine region_from ?_  -- region 7
      refine d_pures [(0, .pointer (some ⟨b, 0, none⟩)), (1, .int .i64 n), (4, .slice none 0 0), (5, .slice xr (List.length lr) yr), (6, .int .i64 ((k : Nat) : Int)), (14, .slice xr (List.length lr) yr), (15, .pointer (some ⟨b, 0, none⟩))] [.slice xr (List.length lr) yr, .pointer (some ⟨b, 0, none⟩)] 2 En66 (by kernel_rfl) (by kernel_rfl) rfl ?_
      intro ac68 En69
      refine from_op (by kernel_rfl) ?_
      have hM71 : Heap wo61 [.box b [.slice xf1 (List.length lf1) cf1, .int .u64 ((UInt64.toNat s1 : Nat) : Int), .slice xl1 (List.length ll1) cl1] 58, .vec xf1 cf1 1 (bys lf1) 5, .vec xl1 cl1 1 (bys ll1) 5] := Hv63.heap.pick [0, 1, 2] (by kernel_rfl) (by decide)
      refine op_call (d := some 16) (f := 21) (args := #[.pointer (some ⟨b, 0, none⟩)]) En69 (by kernel_rfl) ((next_ref b _ _ _ _ _ _ _ (shiftF f k) _ hd1 hb1 hb2 hM71).mono ?_)
      rintro _ wo73 ⟨lfn70, sn70, lln70, xfn70, cfn70, xln70, cln70, rfl, he76, hdn70, hb1n70, hb2n70⟩
      refine ⟨_, rfl, ?_⟩
      intro ac72 En74
      have Hv75 : Ev w [.box b [.slice xf (List.length lf) cf, .int .u64 ((UInt64.toNat s : Nat) : Int), .slice xl (List.length ll) cl] 58, .vec xf cf 1 (bys lf) 5, .vec xl cl 1 (bys ll) 5] wo73 [.box b [.slice xfn70 (List.length lfn70) cfn70, .int .u64 ((UInt64.toNat sn70 : Nat) : Int), .slice xln70 (List.length lln70) cln70] 58, .vec xfn70 cfn70 1 (bys lfn70) 5, .vec xln70 cln70 1 (bys lln70) 5, .vec xr yr 1 (bys lr) 5] := Hv63.trans (Ev.call (R := [.vec xr yr 1 (bys lr) 5]) Hv63.heap [0, 1, 2, 3] (by kernel_rfl) (by decide) he76)
      clear hM71 he76
      refine from_op (by kernel_rfl) ?_
      refine op_lit (d := some 17) (t := 22) (T := 5) (m := 1) (parts := #[(0, .int .u8 ((UInt8.toNat ((shiftF f k) 0) : Nat) : Int))]) (xs := bys [(shiftF f k) 0]) (sz := 1) En74 (by kernel_rfl) (by kernel_rfl) rfl (by decide) Hv75 ?_
      intro ac78 wo79 bk77 En80 Hv81
      refine from_op (by kernel_rfl) ?_
      refine op_append (d := some 18) (t := 22) (tx := 22) (ty := 22) (T := 5) (k := 3) (ao := xr) (cap := yr) (sz := 1) (p := List.length lr) (m := 1) (xs := bys lr) (ys := bys [(shiftF f k) 0]) (x := .slice (some ⟨bk77, 0, none⟩) 1 1) (bytes := 1) En80 (by kernel_rfl) Hv81 rfl (bys_len _) (Reads.src (size := 1) (tx := 22) (e' := 5) (by kernel_rfl) (Hv81.heap.reads (k := 4) rfl) rfl (fun e => by cases e) (bys_one _)) (by kernel_rfl) (z := .int .u8 0) (by kernel_rfl) rfl (by decide) (by omega) (by unfold maxLen; omega) ?_
      intro ac86 wo87 ao82 cp83 En88 Hv89 _ _
      rw [← bys_append] at Hv89
      have ehz84 : (List.length lr) + 1 = List.length (lr ++ [(shiftF f k) 0]) := (by first | (simp; done) | (simp; omega) | omega)
      rw [ehz84] at En88
      refine d_pures [(0, .pointer (some ⟨b, 0, none⟩)), (1, .int .i64 n), (4, .slice none 0 0), (5, .slice ao82 (List.length (lr ++ [(shiftF f k) 0])) cp83), (6, .int .i64 ((k : Nat) : Int))] [.slice ao82 (List.length (lr ++ [(shiftF f k) 0])) cp83] 6 En88 (by kernel_rfl) (by kernel_rfl) rfl ?_
      intro ac90 En91
      refine from_end (by kernel_rfl) ?_
      refine block_normal ?_
      refine then_normal ?_
      refine region_from ?_  -- region 6
      refine d_pures [(0, .pointer (some ⟨b, 0, none⟩)), (1, .int .i64 n), (4, .slice none 0 0), (5, .slice ao82 (List.length (lr ++ [(shiftF f k) 0])) cp83), (6, .int .i64 ((k : Nat) : Int)), (13, .int .i64 (IntKind.wrap .i64 (((k : Nat) : Int) + (1 : Int))))] [.int .i64 ((k : Nat) : Int), .int .i64 (IntKind.wrap .i64 (((k : Nat) : Int) + (1 : Int)))] 2 En91 (by kernel_rfl) (by kernel_rfl) rfl ?_
      intro ac92 En93
      rw [Go.Dbr.wr64 (e := ((k : Nat) : Int) + (1 : Int)) (x := ((k + 1 : Nat) : Int)) (by omega) (by omega) (by omega)] at En93
      refine d_pures [(0, .pointer (some ⟨b, 0, none⟩)), (1, .int .i64 n), (4, .slice none 0 0), (5, .slice ao82 (List.length (lr ++ [(shiftF f k) 0])) cp83), (6, .int .i64 ((k + 1 : Nat) : Int))] [.int .i64 ((k + 1 : Nat) : Int)] 3 En93 (by kernel_rfl) (by kernel_rfl) rfl ?_
      intro ac94 En95
      refine from_end (by kernel_rfl) ?_
      refine then_normal ?_
      refine ⟨_, ⟨k + 1, lr ++ [shiftF f k 0], lfn70, sn70, lln70, xfn70, cfn70, xln70, cln70, ao82, cp83, rfl, En95.sub (by kernel_rfl), Hv89.pick [0, 1, 2, 3] (by kernel_rfl) (by decide), by omega, by rw [hlr, takeF_succ]; simp [shiftF], by rw [shiftF_add] at hdn70; exact hdn70, hb1n70, hb2n70, by simp; omega⟩, ?_⟩
      omega
    ·
      replace hc67 : ¬ (((k : Nat) : Int) < n) := by simpa using hc67
      refine wp_exit ?_
      refine then_exit ?_
      refine then_exit ?_
      refine block_exit ?_
      refine then_normal ?_
      refine wp_seq ?_
      refine region_from ?_  -- region 8
      refine d_pures [(0, .pointer (some ⟨b, 0, none⟩)), (1, .int .i64 n), (4, .slice xr (List.length lr) yr), (5, .slice xr (List.length lr) yr), (6, .int .i64 ((k : Nat) : Int))] [.slice xr (List.length lr) yr, .slice xr (List.length lr) yr] 2 En66 (by kernel_rfl) (by kernel_rfl) rfl ?_
      intro ac96 En97
      refine from_end (by kernel_rfl) ?_
      refine then_normal ?_
      refine wp_ret ?_
      refine d_ret1 (t := 4) (v := .slice xr (List.length lr) yr) En97 (by kernel_rfl) (by kernel_rfl) ?_
      have hkn : k = clampN n := by omega
      subst hlr
      rw [hkn] at hd1 Hv63 ⊢
      exact ⟨lf1, s1, ll1, xf1, cf1, xl1, cl1, xr, yr, rfl, Hv63.pick [0, 1, 2, 3] (by kernel_rfl) (by decide), hd1, hb1, hb2⟩

theorem head_ok (w : World) : Calls Try.prog 7 #[] w fun e w' => e = .returned (.bool true) ∧ Ev w [] w' [] := by
  refine d_start [] 16 Go.Proofs.Try.func7 Go.Proofs.Try.ntmps7 rfl (by kernel_rfl) (by kernel_rfl) ?_
  intro act0 En0
  have Hv0 : Ev w [] w [] := Ev.refl (Heap.nil _)
  refine wp_seq ?_
  refine region_from ?_  -- region 0
  refine d_pures [(0, .bool false)] [.bool false] 1 En0 (by kernel_rfl) (by kernel_rfl) rfl ?_
  intro ac1 En2
  refine from_end (by kernel_rfl) ?_
  refine then_normal ?_
  refine wp_seq ?_
  refine region_from ?_  -- region 1
  refine from_op (by kernel_rfl) ?_
  refine op_lit (d := some 3) (t := 22) (T := 5) (m := 2) (parts := #[(0, .int .u8 1), (1, .int .u8 2)]) (xs := bys [(1 : UInt8), (2 : UInt8)]) (sz := 1) En2 (by kernel_rfl) (by kernel_rfl) rfl (by decide) Hv0 ?_
  intro ac4 wo5 bk3 En6 Hv7
  refine from_op (by kernel_rfl) ?_
  have hM9 : Heap wo5 [] := Hv7.heap.pick [] (by kernel_rfl) (by decide)
  refine op_call (d := some 4) (f := 8) (args := #[.slice (some ⟨bk3, 0, none⟩) 2 2, .int .u64 0]) En6 (by kernel_rfl) ((newrand_prog (some ⟨bk3, 0, none⟩) 2 [(1 : UInt8), (2 : UInt8)] (0 : UInt64) _ (bys_in Hv7.heap (k := 0) rfl [] (by kernel_rfl) rfl (by simp))).mono ?_)
  rintro _ wo11 ⟨aor8, cor8, bqr8, rfl, he14⟩
  refine ⟨_, rfl, ?_⟩
  intro ac10 En12
  have Hv13 : Ev w [] wo11 [.vec aor8 cor8 1 (bys [(1 : UInt8), (2 : UInt8)]) 5, .box bqr8 [.slice aor8 (List.length [(1 : UInt8), (2 : UInt8)]) cor8, .int .u64 ((UInt64.toNat (0 : UInt64) : Nat) : Int)] 56, .vec (some ⟨bk3, 0, none⟩) 2 1 (bys [(1 : UInt8), (2 : UInt8)]) 5] := Hv7.trans (Ev.call (R := [.vec (some ⟨bk3, 0, none⟩) 2 1 (bys [(1 : UInt8), (2 : UInt8)]) 5]) Hv7.heap [0] (by kernel_rfl) (by decide) he14)
  clear hM9 he14
  refine d_pures [(0, .bool false), (1, .pointer (some ⟨bqr8, 0, none⟩))] [.pointer (some ⟨bqr8, 0, none⟩)] 3 En12 (by kernel_rfl) (by kernel_rfl) rfl ?_
  intro ac15 En16
  refine from_end (by kernel_rfl) ?_
  refine then_normal ?_
  refine wp_seq ?_
  refine wp_seq ?_
  refine region_from ?_  -- region 2
  refine d_pures [(0, .bool false), (1, .pointer (some ⟨bqr8, 0, none⟩)), (6, .bool false)] [.pointer (some ⟨bqr8, 0, none⟩), .bool false] 2 En16 (by kernel_rfl) (by kernel_rfl) rfl ?_
  intro ac17 En18
  refine from_end (by kernel_rfl) ?_
  refine then_normal ?_
  refine cond_false En18 (t := false) (by kernel_rfl) rfl ?_
  refine wp_skip ?_
  refine then_normal ?_
  refine wp_seq ?_
  refine region_from ?_  -- region 4
  refine d_pures [(0, .bool false), (1, .pointer (some ⟨bqr8, 0, none⟩)), (7, .pointer (some ⟨bqr8, 0, none⟩))] [.pointer (some ⟨bqr8, 0, none⟩)] 1 En18 (by kernel_rfl) (by kernel_rfl) rfl ?_
  intro ac19 En20
  refine from_op (by kernel_rfl) ?_
  have hM22 : Heap wo11 [.box bqr8 [.slice aor8 (List.length [(1 : UInt8), (2 : UInt8)]) cor8, .int .u64 ((UInt64.toNat (0 : UInt64) : Nat) : Int)] 56, .vec aor8 cor8 1 (bys [(1 : UInt8), (2 : UInt8)]) 5] := Hv13.heap.pick [1, 0] (by kernel_rfl) (by decide)
  refine op_call (d := some 8) (f := 10) (args := #[.pointer (some ⟨bqr8, 0, none⟩), .int .i64 4]) En20 (by kernel_rfl) ((read_prog bqr8 (4 : Int) [(1 : UInt8), (2 : UInt8)] (0 : UInt64) aor8 cor8 (streamOf [1, 2] 0) _ (den_streamOf [1, 2] 0) (by simp) hM22).mono ?_)
  rintro _ wo24 ⟨lvr21, svr21, avr21, cvr21, aor21, cor21, rfl, he27, hdr21, hbr21⟩
  refine ⟨_, rfl, ?_⟩
  intro ac23 En25
  have Hv26 : Ev w [] wo24 [.box bqr8 [.slice avr21 (List.length lvr21) cvr21, .int .u64 ((UInt64.toNat svr21 : Nat) : Int)] 56, .vec avr21 cvr21 1 (bys lvr21) 5, .vec aor21 cor21 1 (bys (takeF (streamOf [1, 2] 0) (clampN (4 : Int)))) 5, .vec (some ⟨bk3, 0, none⟩) 2 1 (bys [(1 : UInt8), (2 : UInt8)]) 5] := Hv13.trans (Ev.call (R := [.vec (some ⟨bk3, 0, none⟩) 2 1 (bys [(1 : UInt8), (2 : UInt8)]) 5]) Hv13.heap [1, 0, 2] (by kernel_rfl) (by decide) he27)
  clear hM22 he27
  have htr21 : List.length (takeF (streamOf [1, 2] 0) (clampN (4 : Int))) ≤ 65536 := by rw [takeF_len]; exact clamp_le _
  refine d_pures [(0, .bool false), (1, .pointer (some ⟨bqr8, 0, none⟩)), (2, .slice aor21 (List.length (takeF (streamOf [1, 2] 0) (clampN (4 : Int)))) cor21)] [.slice aor21 (List.length (takeF (streamOf [1, 2] 0) (clampN (4 : Int)))) cor21] 3 En25 (by kernel_rfl) (by kernel_rfl) rfl ?_
  intro ac28 En29
  refine from_end (by kernel_rfl) ?_
  refine then_normal ?_
  refine wp_seq ?_
  refine region_from ?_  -- region 5
  refine d_pures [(0, .bool false), (1, .pointer (some ⟨bqr8, 0, none⟩)), (9, .slice aor21 (List.length (takeF (streamOf [1, 2] 0) (clampN (4 : Int)))) cor21)] [.slice aor21 (List.length (takeF (streamOf [1, 2] 0) (clampN (4 : Int)))) cor21] 1 En29 (by kernel_rfl) (by kernel_rfl) rfl ?_
  intro ac30 En31
  refine from_op (by kernel_rfl) ?_
  refine op_str (d := some 10) (src := 22) (dst := 9) (e := 5) (ao := aor21) (cap := cor21) (p := List.length (takeF (streamOf [1, 2] 0) (clampN (4 : Int)))) (bs := takeF (streamOf [1, 2] 0) (clampN (4 : Int))) En31 (by kernel_rfl) rfl (by kernel_rfl) (by kernel_rfl) (by kernel_rfl) (Hv26.heap.reads (k := 2) rfl) (bys_vnz Hv26.heap (k := 2) rfl) ?_
  intro ac32 En33
  refine d_pures [(0, .bool false), (1, .pointer (some ⟨bqr8, 0, none⟩)), (11, .bool (ByteArray.toList (bstr (takeF (streamOf [1, 2] 0) (clampN (4 : Int)))) == ByteArray.toList (bstr [1, 2, 175, 205])))] [.bool (ByteArray.toList (bstr (takeF (streamOf [1, 2] 0) (clampN (4 : Int)))) == ByteArray.toList (bstr [1, 2, 175, 205]))] 3 En33 (by kernel_rfl) (by kernel_rfl) rfl ?_
  intro ac34 En35
  rw [Go.Dbr.bstr_eq (takeF (streamOf [1, 2] 0) (clampN (4 : Int))) [1, 2, 175, 205], show ((takeF (streamOf [1, 2] 0) (clampN (4 : Int))) == [1, 2, 175, 205]) = true from by kernel_rfl] at En35
  refine d_pures [(0, .bool false), (1, .pointer (some ⟨bqr8, 0, none⟩)), (12, .bool true)] [.bool true] 4 En35 (by kernel_rfl) (by kernel_rfl) rfl ?_
  intro ac36 En37
  refine from_op (by kernel_rfl) ?_
  have hM38 : Heap wo24 [] := Hv26.heap.pick [] (by kernel_rfl) (by decide)
  refine op_call (d := some 13) (f := 15) (args := #[.int .u64 9223372036854775806, .int .u64 5]) En37 (by kernel_rfl) ((after_prog (9223372036854775806 : UInt64) (5 : UInt64) _).mono ?_)
  rintro _ wo40 ⟨rfl, he43⟩
  refine ⟨_, rfl, ?_⟩
  intro ac39 En41
  have Hv42 : Ev w [] wo40 [.box bqr8 [.slice avr21 (List.length lvr21) cvr21, .int .u64 ((UInt64.toNat svr21 : Nat) : Int)] 56, .vec avr21 cvr21 1 (bys lvr21) 5, .vec aor21 cor21 1 (bys (takeF (streamOf [1, 2] 0) (clampN (4 : Int)))) 5, .vec (some ⟨bk3, 0, none⟩) 2 1 (bys [(1 : UInt8), (2 : UInt8)]) 5] := Hv26.trans (Ev.call (R := [.box bqr8 [.slice avr21 (List.length lvr21) cvr21, .int .u64 ((UInt64.toNat svr21 : Nat) : Int)] 56, .vec avr21 cvr21 1 (bys lvr21) 5, .vec aor21 cor21 1 (bys (takeF (streamOf [1, 2] 0) (clampN (4 : Int)))) 5, .vec (some ⟨bk3, 0, none⟩) 2 1 (bys [(1 : UInt8), (2 : UInt8)]) 5]) Hv26.heap [0, 1, 2, 3] (by kernel_rfl) (by decide) he43)
  clear hM38 he43
  refine d_pures [(0, .bool false), (1, .pointer (some ⟨bqr8, 0, none⟩)), (12, .bool true), (14, .bool (((UInt64.toNat (afterU (9223372036854775806 : UInt64) (5 : UInt64)) : Nat) : Int) == (9223372036854775807 : Int)))] [.bool (((UInt64.toNat (afterU (9223372036854775806 : UInt64) (5 : UInt64)) : Nat) : Int) == (9223372036854775807 : Int))] 6 En41 (by kernel_rfl) (by kernel_rfl) rfl ?_
  intro ac44 En45
  rw [show (((UInt64.toNat (afterU (9223372036854775806 : UInt64) (5 : UInt64)) : Nat) : Int) == (9223372036854775807 : Int)) = true from by kernel_rfl] at En45
  refine d_pures [(0, .bool true), (1, .pointer (some ⟨bqr8, 0, none⟩))] [.bool true, .bool true] 8 En45 (by kernel_rfl) (by kernel_rfl) rfl ?_
  intro ac46 En47
  refine from_end (by kernel_rfl) ?_
  refine then_normal ?_
  refine wp_ret ?_
  refine d_ret1 (t := 0) (v := .bool true) En47 (by kernel_rfl) (by kernel_rfl) ?_
  exact ⟨rfl, Hv42.pick [] (by kernel_rfl) (by decide)⟩

end Go.Proofs.Ytjocdckmgdonjaa
