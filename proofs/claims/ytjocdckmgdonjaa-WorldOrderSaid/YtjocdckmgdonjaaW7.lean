/- Pipes: walks; WorldOrder: its walk. -/
import Derived.Test.YtjocdckmgdonjaaW2
import Derived.Test.YtjocdckmgdonjaaShape
import Derived.Test.YtjocdckmgdonjaaMulti
namespace Go.Proofs.Ytjocdckmgdonjaa
open Go.Dbr
set_option maxRecDepth 100000
def clampTo (n : Int) (m : Nat) : Nat := if n < 0 then 0 else if n < (m : Int) then n.toNat else m
theorem clampTo_eq (n : Int) (m : Nat) : (if (0 : Int) < (if ((m : Nat) : Int) < n then ((m : Nat) : Int) else n) then (if ((m : Nat) : Int) < n then ((m : Nat) : Int) else n) else (0 : Int)) = ((clampTo n m : Nat) : Int) := by
  unfold clampTo
  split <;> split <;> (try split) <;> (try split) <;> omega
theorem clampTo_le (n : Int) (m : Nat) : clampTo n m ≤ m := by unfold clampTo; split <;> (try split) <;> omega
theorem clampTo_all (n : Int) (m : Nat) (h : (m : Int) ≤ n) : clampTo n m = m := by unfold clampTo; split <;> (try split) <;> omega
theorem room_eq (r f h : Nat) : (if (0 : Int) < ((r : Nat) : Int) - ((f : Nat) : Int) - ((h : Nat) : Int) then ((r : Nat) : Int) - ((f : Nat) : Int) - ((h : Nat) : Int) else (0 : Int)) = ((r - f - h : Nat) : Int) := by split <;> omega
theorem min_eq (a b : Nat) : (if ((b : Nat) : Int) < ((a : Nat) : Int) then ((b : Nat) : Int) else ((a : Nat) : Int)) = ((min a b : Nat) : Int) := by split <;> omega

theorem room_prog (b r : Nat) (fl hl : List UInt8) (af ah : Option Addr) (cf ch : Nat) (w : World) (hb : List.length fl + List.length hl ≤ r) (hr : r ≤ 65536) (hh : Heap w [.box b [.int .i64 ((r : Nat) : Int), .slice af (List.length fl) cf, .slice ah (List.length hl) ch, .bool false, .bool false] 62, .vec af cf 1 (bys fl) 5, .vec ah ch 1 (bys hl) 5]) : Calls Try.prog 22 #[.pointer (some ⟨b, 0, none⟩)] w fun e w' => e = .returned (.int .i64 ((r - List.length fl - List.length hl : Nat) : Int)) ∧ Ev w [.box b [.int .i64 ((r : Nat) : Int), .slice af (List.length fl) cf, .slice ah (List.length hl) ch, .bool false, .bool false] 62, .vec af cf 1 (bys fl) 5, .vec ah ch 1 (bys hl) 5] w' [.box b [.int .i64 ((r : Nat) : Int), .slice af (List.length fl) cf, .slice ah (List.length hl) ch, .bool false, .bool false] 62, .vec af cf 1 (bys fl) 5, .vec ah ch 1 (bys hl) 5] := by
  refine d_start [(0, .pointer (some ⟨b, 0, none⟩))] 30 Go.Proofs.Try.func22 Go.Proofs.Try.ntmps22 rfl (by kernel_rfl) (by kernel_rfl) ?_
  intro act0 En0
  have Hv0 : Ev w [.box b [.int .i64 ((r : Nat) : Int), .slice af (List.length fl) cf, .slice ah (List.length hl) ch, .bool false, .bool false] 62, .vec af cf 1 (bys fl) 5, .vec ah ch 1 (bys hl) 5] w [.box b [.int .i64 ((r : Nat) : Int), .slice af (List.length fl) cf, .slice ah (List.length hl) ch, .bool false, .bool false] 62, .vec af cf 1 (bys fl) 5, .vec ah ch 1 (bys hl) 5] := Ev.refl (hh)
  refine wp_seq ?_
  refine region_from ?_  -- region 0
  refine d_pures [(0, .pointer (some ⟨b, 0, none⟩)), (2, .int .i64 0)] [.int .i64 0] 1 En0 (by kernel_rfl) (by kernel_rfl) rfl ?_
  intro ac1 En2
  refine from_end (by kernel_rfl) ?_
  refine then_normal ?_
  refine wp_seq ?_
  refine wp_seq ?_
  refine region_from ?_  -- region 1
  refine d_pures [(0, .pointer (some ⟨b, 0, none⟩)), (2, .int .i64 0), (5, .pointer (some ⟨b, 3, none⟩))] [.pointer (some ⟨b, 0, none⟩), .pointer (some ⟨b, 0, none⟩), .pointer (some ⟨b, 3, none⟩)] 3 En2 (by kernel_rfl) (by kernel_rfl) rfl ?_
  intro ac3 En4
  refine from_op (by kernel_rfl) ?_
  refine op_loadbox (d := some 6) (t := 4) (b := b) (off := 3) (k := 0) (v := .bool false) En4 (by kernel_rfl) Hv0 rfl rfl (by kernel_rfl) ?_
  intro ac5 En6
  refine d_pures [(0, .pointer (some ⟨b, 0, none⟩)), (2, .int .i64 0), (7, .bool false), (10, .pointer (some ⟨b, 4, none⟩))] [.bool false, .pointer (some ⟨b, 0, none⟩), .pointer (some ⟨b, 0, none⟩), .pointer (some ⟨b, 4, none⟩)] 8 En6 (by kernel_rfl) (by kernel_rfl) rfl ?_
  intro ac7 En8
  refine from_op (by kernel_rfl) ?_
  refine op_loadbox (d := some 11) (t := 4) (b := b) (off := 4) (k := 0) (v := .bool false) En8 (by kernel_rfl) Hv0 rfl rfl (by kernel_rfl) ?_
  intro ac9 En10
  refine d_pures [(0, .pointer (some ⟨b, 0, none⟩)), (2, .int .i64 0), (12, .bool false)] [.bool false] 10 En10 (by kernel_rfl) (by kernel_rfl) rfl ?_
  intro ac11 En12
  refine from_end (by kernel_rfl) ?_
  refine then_normal ?_
  refine cond_false En12 (t := false) (by kernel_rfl) rfl ?_
  refine wp_skip ?_
  refine then_normal ?_
  refine wp_seq ?_
  refine region_cut (F := fun ac wo => Env ac 30 [(0, .pointer (some ⟨b, 0, none⟩)), (2, .int .i64 ((r - List.length fl - List.length hl : Nat) : Int))] ∧ Ev w [.box b [.int .i64 ((r : Nat) : Int), .slice af (List.length fl) cf, .slice ah (List.length hl) ch, .bool false, .bool false] 62, .vec af cf 1 (bys fl) 5, .vec ah ch 1 (bys hl) 5] wo [.box b [.int .i64 ((r : Nat) : Int), .slice af (List.length fl) cf, .slice ah (List.length hl) ch, .bool false, .bool false] 62, .vec af cf 1 (bys fl) 5, .vec ah ch 1 (bys hl) 5]) ?_ ?_
  ·
    refine draw_any (by kernel_rfl) 18 (by kernel_rfl) ?_  -- region 3
    have wo13 := Hv0.trans (Ev.drew Hv0.heap)
    refine any_pureR (d := some 13) En12 (v := .pointer (some ⟨b, 0, none⟩)) 0 (by kernel_rfl) (by kernel_rfl) rfl ?_
    intro ac14 En15
    refine any_pureR (d := some 14) En15 (v := .pointer (some ⟨b, 0, none⟩)) 1 (by kernel_rfl) (by kernel_rfl) rfl ?_
    intro ac16 En17
    refine any_pureR (d := some 15) En17 (v := .pointer (some ⟨b, 0, none⟩)) 2 (by kernel_rfl) (by kernel_rfl) rfl ?_
    intro ac18 En19
    refine any_pureR (d := some 17) En19 (v := .pointer (some ⟨b, 0, none⟩)) 4 (by kernel_rfl) (by kernel_rfl) rfl ?_
    intro ac20 En21
    refine any_pureR (d := some 18) En21 (v := .pointer (some ⟨b, 0, none⟩)) 5 (by kernel_rfl) (by kernel_rfl) rfl ?_
    intro ac22 En23
    refine any_pureR (d := some 19) En23 (v := .pointer (some ⟨b, 1, none⟩)) 6 (by kernel_rfl) (by kernel_rfl) rfl ?_
    intro ac24 En25
    refine any_pureR (d := some 23) En25 (v := .pointer (some ⟨b, 0, none⟩)) 10 (by kernel_rfl) (by kernel_rfl) rfl ?_
    intro ac26 En27
    refine any_pureR (d := some 24) En27 (v := .pointer (some ⟨b, 0, none⟩)) 11 (by kernel_rfl) (by kernel_rfl) rfl ?_
    intro ac28 En29
    refine any_pureR (d := some 25) En29 (v := .pointer (some ⟨b, 2, none⟩)) 12 (by kernel_rfl) (by kernel_rfl) rfl ?_
    intro ac30 En31
    refine any_ways [3, 7, 13] (by kernel_rfl) rfl ?_
    refine ⟨?_, ?_, ?_, trivial⟩
    · rintro _ rfl
      refine op_loadbox (d := some 16) (t := 3) (b := b) (off := 0) (k := 0) (v := .int .i64 ((r : Nat) : Int)) En31 (by kernel_rfl) wo13 rfl rfl (by kernel_rfl) ?_
      intro ac32 En33
      refine any_two 7 13 (by kernel_rfl) ?_ ?_
      · rintro _ rfl
        refine op_loadbox (d := some 20) (t := 22) (b := b) (off := 1) (k := 0) (v := .slice af (List.length fl) cf) En33 (by kernel_rfl) wo13 rfl rfl (by kernel_rfl) ?_
        intro ac34 En35
        refine any_pureR (d := some 21) En35 (v := .int .i64 ((List.length fl : Nat) : Int)) 8 (by kernel_rfl) (by kernel_rfl) rfl ?_
        intro ac36 En37
        refine any_pureR (d := some 22) En37 (v := .int .i64 (IntKind.wrap .i64 (((r : Nat) : Int) - ((List.length fl : Nat) : Int)))) 9 (by kernel_rfl) (by kernel_rfl) rfl ?_
        intro ac38 En39
        rw [Go.Dbr.wr64 (e := ((r : Nat) : Int) - ((List.length fl : Nat) : Int)) (x := ((r : Nat) : Int) - ((List.length fl : Nat) : Int)) (by omega) (by omega) (by omega)] at En39
        refine any_at 13 (by kernel_rfl) rfl ?_
        refine op_loadbox (d := some 26) (t := 22) (b := b) (off := 2) (k := 0) (v := .slice ah (List.length hl) ch) En39 (by kernel_rfl) wo13 rfl rfl (by kernel_rfl) ?_
        intro ac40 En41
        refine any_pureR (d := some 27) En41 (v := .int .i64 ((List.length hl : Nat) : Int)) 14 (by kernel_rfl) (by kernel_rfl) rfl ?_
        intro ac42 En43
        refine any_pureR (d := some 28) En43 (v := .int .i64 (IntKind.wrap .i64 (((r : Nat) : Int) - ((List.length fl : Nat) : Int) - ((List.length hl : Nat) : Int)))) 15 (by kernel_rfl) (by kernel_rfl) rfl ?_
        intro ac44 En45
        rw [Go.Dbr.wr64 (e := ((r : Nat) : Int) - ((List.length fl : Nat) : Int) - ((List.length hl : Nat) : Int)) (x := (((r : Nat) : Int) - ((List.length fl : Nat) : Int)) - ((List.length hl : Nat) : Int)) (by omega) (by omega) (by omega)] at En45
        refine any_pureR (d := some 29) En45 (v := .int .i64 (if (0 : Int) < ((r : Nat) : Int) - ((List.length fl : Nat) : Int) - ((List.length hl : Nat) : Int) then ((r : Nat) : Int) - ((List.length fl : Nat) : Int) - ((List.length hl : Nat) : Int) else (0 : Int))) 16 (by kernel_rfl) (by kernel_rfl) rfl ?_
        intro ac46 En47
        rw [room_eq r (List.length fl) (List.length hl)] at En47
        refine any_pureR (d := some 2) En47 (v := .int .i64 ((r - List.length fl - List.length hl : Nat) : Int)) 17 (by kernel_rfl) (by kernel_rfl) rfl ?_
        intro ac48 En49
        exact any_end (by kernel_rfl) ⟨En49.sub (by kernel_rfl), wo13.pick [0, 1, 2] (by kernel_rfl) (by decide)⟩
      · rintro _ rfl
        refine op_loadbox (d := some 26) (t := 22) (b := b) (off := 2) (k := 0) (v := .slice ah (List.length hl) ch) En33 (by kernel_rfl) wo13 rfl rfl (by kernel_rfl) ?_
        intro ac50 En51
        refine any_pureR (d := some 27) En51 (v := .int .i64 ((List.length hl : Nat) : Int)) 14 (by kernel_rfl) (by kernel_rfl) rfl ?_
        intro ac52 En53
        refine any_at 7 (by kernel_rfl) rfl ?_
        refine op_loadbox (d := some 20) (t := 22) (b := b) (off := 1) (k := 0) (v := .slice af (List.length fl) cf) En53 (by kernel_rfl) wo13 rfl rfl (by kernel_rfl) ?_
        intro ac54 En55
        refine any_pureR (d := some 21) En55 (v := .int .i64 ((List.length fl : Nat) : Int)) 8 (by kernel_rfl) (by kernel_rfl) rfl ?_
        intro ac56 En57
        refine any_pureR (d := some 22) En57 (v := .int .i64 (IntKind.wrap .i64 (((r : Nat) : Int) - ((List.length fl : Nat) : Int)))) 9 (by kernel_rfl) (by kernel_rfl) rfl ?_
        intro ac58 En59
        rw [Go.Dbr.wr64 (e := ((r : Nat) : Int) - ((List.length fl : Nat) : Int)) (x := ((r : Nat) : Int) - ((List.length fl : Nat) : Int)) (by omega) (by omega) (by omega)] at En59
        refine any_pureR (d := some 28) En59 (v := .int .i64 (IntKind.wrap .i64 (((r : Nat) : Int) - ((List.length fl : Nat) : Int) - ((List.length hl : Nat) : Int)))) 15 (by kernel_rfl) (by kernel_rfl) rfl ?_
        intro ac60 En61
        rw [Go.Dbr.wr64 (e := ((r : Nat) : Int) - ((List.length fl : Nat) : Int) - ((List.length hl : Nat) : Int)) (x := (((r : Nat) : Int) - ((List.length fl : Nat) : Int)) - ((List.length hl : Nat) : Int)) (by omega) (by omega) (by omega)] at En61
        refine any_pureR (d := some 29) En61 (v := .int .i64 (if (0 : Int) < ((r : Nat) : Int) - ((List.length fl : Nat) : Int) - ((List.length hl : Nat) : Int) then ((r : Nat) : Int) - ((List.length fl : Nat) : Int) - ((List.length hl : Nat) : Int) else (0 : Int))) 16 (by kernel_rfl) (by kernel_rfl) rfl ?_
        intro ac62 En63
        rw [room_eq r (List.length fl) (List.length hl)] at En63
        refine any_pureR (d := some 2) En63 (v := .int .i64 ((r - List.length fl - List.length hl : Nat) : Int)) 17 (by kernel_rfl) (by kernel_rfl) rfl ?_
        intro ac64 En65
        exact any_end (by kernel_rfl) ⟨En65.sub (by kernel_rfl), wo13.pick [0, 1, 2] (by kernel_rfl) (by decide)⟩
    · rintro _ rfl
      refine op_loadbox (d := some 20) (t := 22) (b := b) (off := 1) (k := 0) (v := .slice af (List.length fl) cf) En31 (by kernel_rfl) wo13 rfl rfl (by kernel_rfl) ?_
      intro ac66 En67
      refine any_pureR (d := some 21) En67 (v := .int .i64 ((List.length fl : Nat) : Int)) 8 (by kernel_rfl) (by kernel_rfl) rfl ?_
      intro ac68 En69
      refine any_two 3 13 (by kernel_rfl) ?_ ?_
      · rintro _ rfl
        refine op_loadbox (d := some 16) (t := 3) (b := b) (off := 0) (k := 0) (v := .int .i64 ((r : Nat) : Int)) En69 (by kernel_rfl) wo13 rfl rfl (by kernel_rfl) ?_
        intro ac70 En71
        refine any_pureR (d := some 22) En71 (v := .int .i64 (IntKind.wrap .i64 (((r : Nat) : Int) - ((List.length fl : Nat) : Int)))) 9 (by kernel_rfl) (by kernel_rfl) rfl ?_
        intro ac72 En73
        rw [Go.Dbr.wr64 (e := ((r : Nat) : Int) - ((List.length fl : Nat) : Int)) (x := ((r : Nat) : Int) - ((List.length fl : Nat) : Int)) (by omega) (by omega) (by omega)] at En73
        refine any_at 13 (by kernel_rfl) rfl ?_
        refine op_loadbox (d := some 26) (t := 22) (b := b) (off := 2) (k := 0) (v := .slice ah (List.length hl) ch) En73 (by kernel_rfl) wo13 rfl rfl (by kernel_rfl) ?_
        intro ac74 En75
        refine any_pureR (d := some 27) En75 (v := .int .i64 ((List.length hl : Nat) : Int)) 14 (by kernel_rfl) (by kernel_rfl) rfl ?_
        intro ac76 En77
        refine any_pureR (d := some 28) En77 (v := .int .i64 (IntKind.wrap .i64 (((r : Nat) : Int) - ((List.length fl : Nat) : Int) - ((List.length hl : Nat) : Int)))) 15 (by kernel_rfl) (by kernel_rfl) rfl ?_
        intro ac78 En79
        rw [Go.Dbr.wr64 (e := ((r : Nat) : Int) - ((List.length fl : Nat) : Int) - ((List.length hl : Nat) : Int)) (x := (((r : Nat) : Int) - ((List.length fl : Nat) : Int)) - ((List.length hl : Nat) : Int)) (by omega) (by omega) (by omega)] at En79
        refine any_pureR (d := some 29) En79 (v := .int .i64 (if (0 : Int) < ((r : Nat) : Int) - ((List.length fl : Nat) : Int) - ((List.length hl : Nat) : Int) then ((r : Nat) : Int) - ((List.length fl : Nat) : Int) - ((List.length hl : Nat) : Int) else (0 : Int))) 16 (by kernel_rfl) (by kernel_rfl) rfl ?_
        intro ac80 En81
        rw [room_eq r (List.length fl) (List.length hl)] at En81
        refine any_pureR (d := some 2) En81 (v := .int .i64 ((r - List.length fl - List.length hl : Nat) : Int)) 17 (by kernel_rfl) (by kernel_rfl) rfl ?_
        intro ac82 En83
        exact any_end (by kernel_rfl) ⟨En83.sub (by kernel_rfl), wo13.pick [0, 1, 2] (by kernel_rfl) (by decide)⟩
      · rintro _ rfl
        refine op_loadbox (d := some 26) (t := 22) (b := b) (off := 2) (k := 0) (v := .slice ah (List.length hl) ch) En69 (by kernel_rfl) wo13 rfl rfl (by kernel_rfl) ?_
        intro ac84 En85
        refine any_pureR (d := some 27) En85 (v := .int .i64 ((List.length hl : Nat) : Int)) 14 (by kernel_rfl) (by kernel_rfl) rfl ?_
        intro ac86 En87
        refine any_at 3 (by kernel_rfl) rfl ?_
        refine op_loadbox (d := some 16) (t := 3) (b := b) (off := 0) (k := 0) (v := .int .i64 ((r : Nat) : Int)) En87 (by kernel_rfl) wo13 rfl rfl (by kernel_rfl) ?_
        intro ac88 En89
        refine any_pureR (d := some 22) En89 (v := .int .i64 (IntKind.wrap .i64 (((r : Nat) : Int) - ((List.length fl : Nat) : Int)))) 9 (by kernel_rfl) (by kernel_rfl) rfl ?_
        intro ac90 En91
        rw [Go.Dbr.wr64 (e := ((r : Nat) : Int) - ((List.length fl : Nat) : Int)) (x := ((r : Nat) : Int) - ((List.length fl : Nat) : Int)) (by omega) (by omega) (by omega)] at En91
        refine any_pureR (d := some 28) En91 (v := .int .i64 (IntKind.wrap .i64 (((r : Nat) : Int) - ((List.length fl : Nat) : Int) - ((List.length hl : Nat) : Int)))) 15 (by kernel_rfl) (by kernel_rfl) rfl ?_
        intro ac92 En93
        rw [Go.Dbr.wr64 (e := ((r : Nat) : Int) - ((List.length fl : Nat) : Int) - ((List.length hl : Nat) : Int)) (x := (((r : Nat) : Int) - ((List.length fl : Nat) : Int)) - ((List.length hl : Nat) : Int)) (by omega) (by omega) (by omega)] at En93
        refine any_pureR (d := some 29) En93 (v := .int .i64 (if (0 : Int) < ((r : Nat) : Int) - ((List.length fl : Nat) : Int) - ((List.length hl : Nat) : Int) then ((r : Nat) : Int) - ((List.length fl : Nat) : Int) - ((List.length hl : Nat) : Int) else (0 : Int))) 16 (by kernel_rfl) (by kernel_rfl) rfl ?_
        intro ac94 En95
        rw [room_eq r (List.length fl) (List.length hl)] at En95
        refine any_pureR (d := some 2) En95 (v := .int .i64 ((r - List.length fl - List.length hl : Nat) : Int)) 17 (by kernel_rfl) (by kernel_rfl) rfl ?_
        intro ac96 En97
        exact any_end (by kernel_rfl) ⟨En97.sub (by kernel_rfl), wo13.pick [0, 1, 2] (by kernel_rfl) (by decide)⟩
    · rintro _ rfl
      refine op_loadbox (d := some 26) (t := 22) (b := b) (off := 2) (k := 0) (v := .slice ah (List.length hl) ch) En31 (by kernel_rfl) wo13 rfl rfl (by kernel_rfl) ?_
      intro ac98 En99
      refine any_pureR (d := some 27) En99 (v := .int .i64 ((List.length hl : Nat) : Int)) 14 (by kernel_rfl) (by kernel_rfl) rfl ?_
      intro ac100 En101
      refine any_two 3 7 (by kernel_rfl) ?_ ?_
      · rintro _ rfl
        refine op_loadbox (d := some 16) (t := 3) (b := b) (off := 0) (k := 0) (v := .int .i64 ((r : Nat) : Int)) En101 (by kernel_rfl) wo13 rfl rfl (by kernel_rfl) ?_
        intro ac102 En103
        refine any_at 7 (by kernel_rfl) rfl ?_
        refine op_loadbox (d := some 20) (t := 22) (b := b) (off := 1) (k := 0) (v := .slice af (List.length fl) cf) En103 (by kernel_rfl) wo13 rfl rfl (by kernel_rfl) ?_
        intro ac104 En105
        refine any_pureR (d := some 21) En105 (v := .int .i64 ((List.length fl : Nat) : Int)) 8 (by kernel_rfl) (by kernel_rfl) rfl ?_
        intro ac106 En107
        refine any_pureR (d := some 22) En107 (v := .int .i64 (IntKind.wrap .i64 (((r : Nat) : Int) - ((List.length fl : Nat) : Int)))) 9 (by kernel_rfl) (by kernel_rfl) rfl ?_
        intro ac108 En109
        rw [Go.Dbr.wr64 (e := ((r : Nat) : Int) - ((List.length fl : Nat) : Int)) (x := ((r : Nat) : Int) - ((List.length fl : Nat) : Int)) (by omega) (by omega) (by omega)] at En109
        refine any_pureR (d := some 28) En109 (v := .int .i64 (IntKind.wrap .i64 (((r : Nat) : Int) - ((List.length fl : Nat) : Int) - ((List.length hl : Nat) : Int)))) 15 (by kernel_rfl) (by kernel_rfl) rfl ?_
        intro ac110 En111
        rw [Go.Dbr.wr64 (e := ((r : Nat) : Int) - ((List.length fl : Nat) : Int) - ((List.length hl : Nat) : Int)) (x := (((r : Nat) : Int) - ((List.length fl : Nat) : Int)) - ((List.length hl : Nat) : Int)) (by omega) (by omega) (by omega)] at En111
        refine any_pureR (d := some 29) En111 (v := .int .i64 (if (0 : Int) < ((r : Nat) : Int) - ((List.length fl : Nat) : Int) - ((List.length hl : Nat) : Int) then ((r : Nat) : Int) - ((List.length fl : Nat) : Int) - ((List.length hl : Nat) : Int) else (0 : Int))) 16 (by kernel_rfl) (by kernel_rfl) rfl ?_
        intro ac112 En113
        rw [room_eq r (List.length fl) (List.length hl)] at En113
        refine any_pureR (d := some 2) En113 (v := .int .i64 ((r - List.length fl - List.length hl : Nat) : Int)) 17 (by kernel_rfl) (by kernel_rfl) rfl ?_
        intro ac114 En115
        exact any_end (by kernel_rfl) ⟨En115.sub (by kernel_rfl), wo13.pick [0, 1, 2] (by kernel_rfl) (by decide)⟩
      · rintro _ rfl
        refine op_loadbox (d := some 20) (t := 22) (b := b) (off := 1) (k := 0) (v := .slice af (List.length fl) cf) En101 (by kernel_rfl) wo13 rfl rfl (by kernel_rfl) ?_
        intro ac116 En117
        refine any_pureR (d := some 21) En117 (v := .int .i64 ((List.length fl : Nat) : Int)) 8 (by kernel_rfl) (by kernel_rfl) rfl ?_
        intro ac118 En119
        refine any_at 3 (by kernel_rfl) rfl ?_
        refine op_loadbox (d := some 16) (t := 3) (b := b) (off := 0) (k := 0) (v := .int .i64 ((r : Nat) : Int)) En119 (by kernel_rfl) wo13 rfl rfl (by kernel_rfl) ?_
        intro ac120 En121
        refine any_pureR (d := some 22) En121 (v := .int .i64 (IntKind.wrap .i64 (((r : Nat) : Int) - ((List.length fl : Nat) : Int)))) 9 (by kernel_rfl) (by kernel_rfl) rfl ?_
        intro ac122 En123
        rw [Go.Dbr.wr64 (e := ((r : Nat) : Int) - ((List.length fl : Nat) : Int)) (x := ((r : Nat) : Int) - ((List.length fl : Nat) : Int)) (by omega) (by omega) (by omega)] at En123
        refine any_pureR (d := some 28) En123 (v := .int .i64 (IntKind.wrap .i64 (((r : Nat) : Int) - ((List.length fl : Nat) : Int) - ((List.length hl : Nat) : Int)))) 15 (by kernel_rfl) (by kernel_rfl) rfl ?_
        intro ac124 En125
        rw [Go.Dbr.wr64 (e := ((r : Nat) : Int) - ((List.length fl : Nat) : Int) - ((List.length hl : Nat) : Int)) (x := (((r : Nat) : Int) - ((List.length fl : Nat) : Int)) - ((List.length hl : Nat) : Int)) (by omega) (by omega) (by omega)] at En125
        refine any_pureR (d := some 29) En125 (v := .int .i64 (if (0 : Int) < ((r : Nat) : Int) - ((List.length fl : Nat) : Int) - ((List.length hl : Nat) : Int) then ((r : Nat) : Int) - ((List.length fl : Nat) : Int) - ((List.length hl : Nat) : Int) else (0 : Int))) 16 (by kernel_rfl) (by kernel_rfl) rfl ?_
        intro ac126 En127
        rw [room_eq r (List.length fl) (List.length hl)] at En127
        refine any_pureR (d := some 2) En127 (v := .int .i64 ((r - List.length fl - List.length hl : Nat) : Int)) 17 (by kernel_rfl) (by kernel_rfl) rfl ?_
        intro ac128 En129
        exact any_end (by kernel_rfl) ⟨En129.sub (by kernel_rfl), wo13.pick [0, 1, 2] (by kernel_rfl) (by decide)⟩
  ·
    rintro ac130 wo131 ⟨En132, Hv133⟩
    refine then_normal ?_
    refine wp_ret ?_
    refine d_ret1 (t := 2) (v := .int .i64 ((r - List.length fl - List.length hl : Nat) : Int)) En132 (by kernel_rfl) (by kernel_rfl) ?_
    exact ⟨rfl, Hv133.pick [0, 1, 2] (by kernel_rfl) (by decide)⟩

theorem write_prog (b r : Nat) (fl hl : List UInt8) (af ah : Option Addr) (cf ch : Nat) (w : World) (hb : List.length fl + List.length hl ≤ r) (hr : r ≤ 65536) (ai : Option Addr) (ci : Nat) (l : List UInt8) (hh : Heap w [.box b [.int .i64 ((r : Nat) : Int), .slice af (List.length fl) cf, .slice ah (List.length hl) ch, .bool false, .bool false] 62, .vec af cf 1 (bys fl) 5, .vec ah ch 1 (bys hl) 5]) (hi : InB w [.box b [.int .i64 ((r : Nat) : Int), .slice af (List.length fl) cf, .slice ah (List.length hl) ch, .bool false, .bool false] 62, .vec af cf 1 (bys fl) 5, .vec ah ch 1 (bys hl) 5] ai ci l) : Calls Try.prog 17 #[.pointer (some ⟨b, 0, none⟩), .slice ai (List.length l) ci] w fun e w' => ∃ af' cf' ah' ch', e = .returned (.int .i64 ((min (List.length l) (r - List.length fl - List.length hl) : Nat) : Int)) ∧ Ev w [.box b [.int .i64 ((r : Nat) : Int), .slice af (List.length fl) cf, .slice ah (List.length hl) ch, .bool false, .bool false] 62, .vec af cf 1 (bys fl) 5, .vec ah ch 1 (bys hl) 5] w' [.box b [.int .i64 ((r : Nat) : Int), .slice af' (List.length (fl ++ List.take (min (List.length l) (r - List.length fl - List.length hl)) l)) cf', .slice ah' (List.length hl) ch', .bool false, .bool false] 62, .vec af' cf' 1 (bys (fl ++ List.take (min (List.length l) (r - List.length fl - List.length hl)) l)) 5, .vec ah' ch' 1 (bys hl) 5] := by
  have hs := hi.small
  refine d_start [(0, .pointer (some ⟨b, 0, none⟩)), (1, .slice ai (List.length l) ci)] 23 Go.Proofs.Try.func17 Go.Proofs.Try.ntmps17 rfl (by kernel_rfl) (by kernel_rfl) ?_
  intro act0 En0
  have Hv0 : Ev w [.box b [.int .i64 ((r : Nat) : Int), .slice af (List.length fl) cf, .slice ah (List.length hl) ch, .bool false, .bool false] 62, .vec af cf 1 (bys fl) 5, .vec ah ch 1 (bys hl) 5] w [.box b [.int .i64 ((r : Nat) : Int), .slice af (List.length fl) cf, .slice ah (List.length hl) ch, .bool false, .bool false] 62, .vec af cf 1 (bys fl) 5, .vec ah ch 1 (bys hl) 5] := Ev.refl (hh)
  refine wp_seq ?_
  refine region_from ?_  -- region 0
  refine d_pures [(0, .pointer (some ⟨b, 0, none⟩)), (1, .slice ai (List.length l) ci), (4, .int .i64 0)] [.int .i64 0] 1 En0 (by kernel_rfl) (by kernel_rfl) rfl ?_
  intro ac1 En2
  refine from_end (by kernel_rfl) ?_
  refine then_normal ?_
  refine wp_seq ?_
  refine region_from ?_  -- region 1
  refine d_pures [(0, .pointer (some ⟨b, 0, none⟩)), (1, .slice ai (List.length l) ci), (4, .int .i64 0), (7, .int .i64 ((List.length l : Nat) : Int)), (8, .pointer (some ⟨b, 0, none⟩))] [.slice ai (List.length l) ci, .int .i64 ((List.length l : Nat) : Int), .pointer (some ⟨b, 0, none⟩)] 3 En2 (by kernel_rfl) (by kernel_rfl) rfl ?_
  intro ac3 En4
  refine from_op (by kernel_rfl) ?_
  have hM5 : Heap w [.box b [.int .i64 ((r : Nat) : Int), .slice af (List.length fl) cf, .slice ah (List.length hl) ch, .bool false, .bool false] 62, .vec af cf 1 (bys fl) 5, .vec ah ch 1 (bys hl) 5] := Hv0.heap.pick [0, 1, 2] (by kernel_rfl) (by decide)
  refine op_call (d := some 9) (f := 22) (args := #[.pointer (some ⟨b, 0, none⟩)]) En4 (by kernel_rfl) ((room_prog b r fl hl _ _ _ _ _ hb hr hM5).mono ?_)
  rintro _ wo7 ⟨rfl, he10⟩
  refine ⟨_, rfl, ?_⟩
  intro ac6 En8
  have Hv9 : Ev w [.box b [.int .i64 ((r : Nat) : Int), .slice af (List.length fl) cf, .slice ah (List.length hl) ch, .bool false, .bool false] 62, .vec af cf 1 (bys fl) 5, .vec ah ch 1 (bys hl) 5] wo7 [.box b [.int .i64 ((r : Nat) : Int), .slice af (List.length fl) cf, .slice ah (List.length hl) ch, .bool false, .bool false] 62, .vec af cf 1 (bys fl) 5, .vec ah ch 1 (bys hl) 5] := Hv0.trans (Ev.call (R := []) Hv0.heap [0, 1, 2] (by kernel_rfl) (by decide) he10)
  clear hM5 he10
  refine d_pures [(0, .pointer (some ⟨b, 0, none⟩)), (1, .slice ai (List.length l) ci), (4, .int .i64 0), (10, .int .i64 (if ((r - List.length fl - List.length hl : Nat) : Int) < ((List.length l : Nat) : Int) then ((r - List.length fl - List.length hl : Nat) : Int) else ((List.length l : Nat) : Int)))] [.int .i64 (if ((r - List.length fl - List.length hl : Nat) : Int) < ((List.length l : Nat) : Int) then ((r - List.length fl - List.length hl : Nat) : Int) else ((List.length l : Nat) : Int))] 5 En8 (by kernel_rfl) (by kernel_rfl) rfl ?_
  intro ac11 En12
  rw [min_eq (List.length l) (r - List.length fl - List.length hl)] at En12
  refine d_pures [(0, .pointer (some ⟨b, 0, none⟩)), (1, .slice ai (List.length l) ci), (4, .int .i64 0), (5, .int .i64 ((min (List.length l) (r - List.length fl - List.length hl) : Nat) : Int))] [.int .i64 ((min (List.length l) (r - List.length fl - List.length hl) : Nat) : Int)] 6 En12 (by kernel_rfl) (by kernel_rfl) rfl ?_
  intro ac13 En14
  refine from_end (by kernel_rfl) ?_
  refine then_normal ?_
  refine wp_seq ?_
  refine region_cut (F := fun ac wo => ∃ (ao33 : Option Addr) (cp34 : Nat), Env ac 23 [(0, .pointer (some ⟨b, 0, none⟩)), (1, .slice ai (List.length l) ci), (4, .int .i64 0), (5, .int .i64 ((min (List.length l) (r - List.length fl - List.length hl) : Nat) : Int))] ∧ Ev w [.box b [.int .i64 ((r : Nat) : Int), .slice af (List.length fl) cf, .slice ah (List.length hl) ch, .bool false, .bool false] 62, .vec af cf 1 (bys fl) 5, .vec ah ch 1 (bys hl) 5] wo [.box b [.int .i64 ((r : Nat) : Int), .slice ao33 (List.length (fl ++ (List.take (min (List.length l) (r - List.length fl - List.length hl)) l))) cp34, .slice ah (List.length hl) ch, .bool false, .bool false] 62, .vec ao33 cp34 1 (bys (fl ++ (List.take (min (List.length l) (r - List.length fl - List.length hl)) l))) 5, .vec ah ch 1 (bys hl) 5]) ?_ ?_
  ·
    refine draw_any (by kernel_rfl) 12 (by kernel_rfl) ?_  -- region 2
    have wo15 := Hv9.trans (Ev.drew Hv9.heap)
    refine any_pureR (d := some 11) En14 (v := .pointer (some ⟨b, 0, none⟩)) 0 (by kernel_rfl) (by kernel_rfl) rfl ?_
    intro ac16 En17
    refine any_pureR (d := some 12) En17 (v := .pointer (some ⟨b, 0, none⟩)) 1 (by kernel_rfl) (by kernel_rfl) rfl ?_
    intro ac18 En19
    refine any_pureR (d := some 13) En19 (v := .pointer (some ⟨b, 0, none⟩)) 2 (by kernel_rfl) (by kernel_rfl) rfl ?_
    intro ac20 En21
    refine any_pureR (d := some 14) En21 (v := .pointer (some ⟨b, 1, none⟩)) 3 (by kernel_rfl) (by kernel_rfl) rfl ?_
    intro ac22 En23
    refine any_pureR (d := some 16) En23 (v := .slice ai (List.length l) ci) 5 (by kernel_rfl) (by kernel_rfl) rfl ?_
    intro ac24 En25
    refine any_pureR (d := some 17) En25 (v := .int .i64 ((min (List.length l) (r - List.length fl - List.length hl) : Nat) : Int)) 6 (by kernel_rfl) (by kernel_rfl) rfl ?_
    intro ac26 En27
    refine any_two 4 7 (by kernel_rfl) ?_ ?_
    · rintro _ rfl
      refine op_loadbox (d := some 15) (t := 22) (b := b) (off := 1) (k := 0) (v := .slice af (List.length fl) cf) En27 (by kernel_rfl) wo15 rfl rfl (by kernel_rfl) ?_
      intro ac28 En29
      refine any_at 7 (by kernel_rfl) rfl ?_
      have hcap30 := hi.cap
      refine op_slice0 (d := some 18) (t := 22) (e := 5) (sz := 1) (len := List.length l) (cap := ci) (hi := min (List.length l) (r - List.length fl - List.length hl)) (ao := ai) (lov := none) (hiv := (some (.int .i64 ((min (List.length l) (r - List.length fl - List.length hl) : Nat) : Int)))) En29 (by kernel_rfl) (by kernel_rfl) (by kernel_rfl) (by omega) (.inl ⟨rfl, rfl⟩) (.inr ⟨.i64, rfl⟩) ?_
      intro ac31 En32
      refine any_at 8 (by kernel_rfl) rfl ?_
      refine op_append (d := some 19) (t := 22) (tx := 22) (ty := 22) (T := 5) (k := 1) (ao := af) (cap := cf) (sz := 1) (p := List.length fl) (m := min (List.length l) (r - List.length fl - List.length hl)) (xs := bys fl) (ys := bys (List.take (min (List.length l) (r - List.length fl - List.length hl)) l)) (x := .slice ai (min (List.length l) (r - List.length fl - List.length hl)) ci) (bytes := 1) En32 (by kernel_rfl) wo15 rfl (bys_len _) (Reads.src (size := 1) (tx := 22) (e' := 5) (by kernel_rfl) (bys_take_reads (hi.ev wo15).reads (min (List.length l) (r - List.length fl - List.length hl))) (bys_lenn (by first | (simp; done) | (simp; omega))) (fun e => by have := hi.nz e; omega) (bys_one _)) (by kernel_rfl) (z := .int .u8 0) (by kernel_rfl) rfl (by decide) (by omega) (by unfold maxLen; omega) ?_
      intro ac37 wo38 ao33 cp34 En39 Hv40 _ _
      rw [← bys_append] at Hv40
      have ehz35 : (List.length fl) + min (List.length l) (r - List.length fl - List.length hl) = List.length (fl ++ (List.take (min (List.length l) (r - List.length fl - List.length hl)) l)) := (by first | (simp; done) | (simp; omega) | omega)
      rw [ehz35] at En39
      refine any_pureR (d := some 20) En39 (v := .pointer (some ⟨b, 0, none⟩)) 9 (by kernel_rfl) (by kernel_rfl) rfl ?_
      intro ac41 En42
      refine any_pureR (d := some 21) En42 (v := .pointer (some ⟨b, 1, none⟩)) 10 (by kernel_rfl) (by kernel_rfl) rfl ?_
      intro ac43 En44
      refine any_at 11 (by kernel_rfl) rfl ?_
      refine op_storebox2 (d := none) (t := 22) (b := b) (off := 1) (k := 0) (v := .slice ao33 (List.length (fl ++ (List.take (min (List.length l) (r - List.length fl - List.length hl)) l))) cp34) (old := .slice af (List.length fl) cf) En44 (by kernel_rfl) Hv40 rfl rfl (by kernel_rfl) rfl rfl (L' := [.box b [.int .i64 ((r : Nat) : Int), .slice ao33 (List.length (fl ++ (List.take (min (List.length l) (r - List.length fl - List.length hl)) l))) cp34, .slice ah (List.length hl) ch, .bool false, .bool false] 62, .vec ao33 cp34 1 (bys (fl ++ (List.take (min (List.length l) (r - List.length fl - List.length hl)) l))) 5, .vec ah ch 1 (bys hl) 5]) rfl ?_
      intro ac45 wo46  En47 Hv48
      exact any_end (by kernel_rfl) ⟨ao33, cp34, En47.sub (by kernel_rfl), Hv48.pick [0, 1, 2] (by kernel_rfl) (by decide)⟩
    · rintro _ rfl
      have hcap49 := hi.cap
      refine op_slice0 (d := some 18) (t := 22) (e := 5) (sz := 1) (len := List.length l) (cap := ci) (hi := min (List.length l) (r - List.length fl - List.length hl)) (ao := ai) (lov := none) (hiv := (some (.int .i64 ((min (List.length l) (r - List.length fl - List.length hl) : Nat) : Int)))) En27 (by kernel_rfl) (by kernel_rfl) (by kernel_rfl) (by omega) (.inl ⟨rfl, rfl⟩) (.inr ⟨.i64, rfl⟩) ?_
      intro ac50 En51
      refine any_at 4 (by kernel_rfl) rfl ?_
      refine op_loadbox (d := some 15) (t := 22) (b := b) (off := 1) (k := 0) (v := .slice af (List.length fl) cf) En51 (by kernel_rfl) wo15 rfl rfl (by kernel_rfl) ?_
      intro ac52 En53
      refine any_at 8 (by kernel_rfl) rfl ?_
      refine op_append (d := some 19) (t := 22) (tx := 22) (ty := 22) (T := 5) (k := 1) (ao := af) (cap := cf) (sz := 1) (p := List.length fl) (m := min (List.length l) (r - List.length fl - List.length hl)) (xs := bys fl) (ys := bys (List.take (min (List.length l) (r - List.length fl - List.length hl)) l)) (x := .slice ai (min (List.length l) (r - List.length fl - List.length hl)) ci) (bytes := 1) En53 (by kernel_rfl) wo15 rfl (bys_len _) (Reads.src (size := 1) (tx := 22) (e' := 5) (by kernel_rfl) (bys_take_reads (hi.ev wo15).reads (min (List.length l) (r - List.length fl - List.length hl))) (bys_lenn (by first | (simp; done) | (simp; omega))) (fun e => by have := hi.nz e; omega) (bys_one _)) (by kernel_rfl) (z := .int .u8 0) (by kernel_rfl) rfl (by decide) (by omega) (by unfold maxLen; omega) ?_
      intro ac58 wo59 ao54 cp55 En60 Hv61 _ _
      rw [← bys_append] at Hv61
      have ehz56 : (List.length fl) + min (List.length l) (r - List.length fl - List.length hl) = List.length (fl ++ (List.take (min (List.length l) (r - List.length fl - List.length hl)) l)) := (by first | (simp; done) | (simp; omega) | omega)
      rw [ehz56] at En60
      refine any_pureR (d := some 20) En60 (v := .pointer (some ⟨b, 0, none⟩)) 9 (by kernel_rfl) (by kernel_rfl) rfl ?_
      intro ac62 En63
      refine any_pureR (d := some 21) En63 (v := .pointer (some ⟨b, 1, none⟩)) 10 (by kernel_rfl) (by kernel_rfl) rfl ?_
      intro ac64 En65
      refine any_at 11 (by kernel_rfl) rfl ?_
      refine op_storebox2 (d := none) (t := 22) (b := b) (off := 1) (k := 0) (v := .slice ao54 (List.length (fl ++ (List.take (min (List.length l) (r - List.length fl - List.length hl)) l))) cp55) (old := .slice af (List.length fl) cf) En65 (by kernel_rfl) Hv61 rfl rfl (by kernel_rfl) rfl rfl (L' := [.box b [.int .i64 ((r : Nat) : Int), .slice ao54 (List.length (fl ++ (List.take (min (List.length l) (r - List.length fl - List.length hl)) l))) cp55, .slice ah (List.length hl) ch, .bool false, .bool false] 62, .vec ao54 cp55 1 (bys (fl ++ (List.take (min (List.length l) (r - List.length fl - List.length hl)) l))) 5, .vec ah ch 1 (bys hl) 5]) rfl ?_
      intro ac66 wo67  En68 Hv69
      exact any_end (by kernel_rfl) ⟨ao54, cp55, En68.sub (by kernel_rfl), Hv69.pick [0, 1, 2] (by kernel_rfl) (by decide)⟩
  ·
    rintro ac70 wo71 ⟨ao33, cp34, En72, Hv73⟩
    refine then_normal ?_
    refine wp_seq ?_
    refine region_from ?_  -- region 3
    refine d_pures [(0, .pointer (some ⟨b, 0, none⟩)), (1, .slice ai (List.length l) ci), (4, .int .i64 ((min (List.length l) (r - List.length fl - List.length hl) : Nat) : Int)), (5, .int .i64 ((min (List.length l) (r - List.length fl - List.length hl) : Nat) : Int))] [.int .i64 ((min (List.length l) (r - List.length fl - List.length hl) : Nat) : Int), .int .i64 ((min (List.length l) (r - List.length fl - List.length hl) : Nat) : Int)] 2 En72 (by kernel_rfl) (by kernel_rfl) rfl ?_
    intro ac74 En75
    refine from_end (by kernel_rfl) ?_
    refine then_normal ?_
    refine wp_ret ?_
    refine d_ret1 (t := 4) (v := .int .i64 ((min (List.length l) (r - List.length fl - List.length hl) : Nat) : Int)) En75 (by kernel_rfl) (by kernel_rfl) ?_
    exact ⟨ao33, cp34, ah, ch, rfl, Hv73.pick [0, 1, 2] (by kernel_rfl) (by decide)⟩

theorem move_prog (b r : Nat) (fl hl : List UInt8) (af ah : Option Addr) (cf ch : Nat) (w : World) (hb : List.length fl + List.length hl ≤ r) (hr : r ≤ 65536) (cl : Bool) (n : Int) (hh : Heap w [.box b [.int .i64 ((r : Nat) : Int), .slice af (List.length fl) cf, .slice ah (List.length hl) ch, .bool cl, .bool false] 62, .vec af cf 1 (bys fl) 5, .vec ah ch 1 (bys hl) 5]) : Calls Try.prog 18 #[.pointer (some ⟨b, 0, none⟩), .int .i64 n] w fun e w' => ∃ af' cf' ah' ch', e = .returned (.int .i64 ((clampTo n (List.length fl) : Nat) : Int)) ∧ Ev w [.box b [.int .i64 ((r : Nat) : Int), .slice af (List.length fl) cf, .slice ah (List.length hl) ch, .bool cl, .bool false] 62, .vec af cf 1 (bys fl) 5, .vec ah ch 1 (bys hl) 5] w' [.box b [.int .i64 ((r : Nat) : Int), .slice af' (List.length (List.drop (clampTo n (List.length fl)) fl)) cf', .slice ah' (List.length (hl ++ List.take (clampTo n (List.length fl)) fl)) ch', .bool cl, .bool false] 62, .vec af' cf' 1 (bys (List.drop (clampTo n (List.length fl)) fl)) 5, .vec ah' ch' 1 (bys (hl ++ List.take (clampTo n (List.length fl)) fl)) 5] := by
  have hcl := clampTo_le n (List.length fl)
  refine d_start [(0, .pointer (some ⟨b, 0, none⟩)), (1, .int .i64 n)] 37 Go.Proofs.Try.func18 Go.Proofs.Try.ntmps18 rfl (by kernel_rfl) (by kernel_rfl) ?_
  intro act0 En0
  have Hv0 : Ev w [.box b [.int .i64 ((r : Nat) : Int), .slice af (List.length fl) cf, .slice ah (List.length hl) ch, .bool cl, .bool false] 62, .vec af cf 1 (bys fl) 5, .vec ah ch 1 (bys hl) 5] w [.box b [.int .i64 ((r : Nat) : Int), .slice af (List.length fl) cf, .slice ah (List.length hl) ch, .bool cl, .bool false] 62, .vec af cf 1 (bys fl) 5, .vec ah ch 1 (bys hl) 5] := Ev.refl (hh)
  refine wp_seq ?_
  refine region_from ?_  -- region 0
  refine d_pures [(0, .pointer (some ⟨b, 0, none⟩)), (1, .int .i64 n), (4, .int .i64 0)] [.int .i64 0] 1 En0 (by kernel_rfl) (by kernel_rfl) rfl ?_
  intro ac1 En2
  refine from_end (by kernel_rfl) ?_
  refine then_normal ?_
  refine wp_seq ?_
  refine region_from ?_  -- region 1
  refine d_pures [(0, .pointer (some ⟨b, 0, none⟩)), (1, .int .i64 n), (4, .int .i64 0), (5, .int .i64 n), (8, .pointer (some ⟨b, 1, none⟩))] [.int .i64 n, .pointer (some ⟨b, 0, none⟩), .pointer (some ⟨b, 0, none⟩), .pointer (some ⟨b, 1, none⟩)] 4 En2 (by kernel_rfl) (by kernel_rfl) rfl ?_
  intro ac3 En4
  refine from_op (by kernel_rfl) ?_
  refine op_loadbox (d := some 9) (t := 22) (b := b) (off := 1) (k := 0) (v := .slice af (List.length fl) cf) En4 (by kernel_rfl) Hv0 rfl rfl (by kernel_rfl) ?_
  intro ac5 En6
  refine d_pures [(0, .pointer (some ⟨b, 0, none⟩)), (1, .int .i64 n), (4, .int .i64 0), (12, .int .i64 (if (0 : Int) < (if ((List.length fl : Nat) : Int) < n then ((List.length fl : Nat) : Int) else n) then (if ((List.length fl : Nat) : Int) < n then ((List.length fl : Nat) : Int) else n) else (0 : Int)))] [.int .i64 ((List.length fl : Nat) : Int), .int .i64 (if ((List.length fl : Nat) : Int) < n then ((List.length fl : Nat) : Int) else n), .int .i64 (if (0 : Int) < (if ((List.length fl : Nat) : Int) < n then ((List.length fl : Nat) : Int) else n) then (if ((List.length fl : Nat) : Int) < n then ((List.length fl : Nat) : Int) else n) else (0 : Int))] 8 En6 (by kernel_rfl) (by kernel_rfl) rfl ?_
  intro ac7 En8
  rw [clampTo_eq n (List.length fl)] at En8
  refine d_pures [(0, .pointer (some ⟨b, 0, none⟩)), (1, .int .i64 ((clampTo n (List.length fl) : Nat) : Int)), (4, .int .i64 0)] [.int .i64 ((clampTo n (List.length fl) : Nat) : Int)] 9 En8 (by kernel_rfl) (by kernel_rfl) rfl ?_
  intro ac9 En10
  refine from_end (by kernel_rfl) ?_
  refine then_normal ?_
  refine wp_seq ?_
  refine region_cut (F := fun ac wo => ∃ (ao35 : Option Addr) (cp36 : Nat), Env ac 37 [(0, .pointer (some ⟨b, 0, none⟩)), (1, .int .i64 ((clampTo n (List.length fl) : Nat) : Int)), (4, .int .i64 0)] ∧ Ev w [.box b [.int .i64 ((r : Nat) : Int), .slice af (List.length fl) cf, .slice ah (List.length hl) ch, .bool cl, .bool false] 62, .vec af cf 1 (bys fl) 5, .vec ah ch 1 (bys hl) 5] wo [.box b [.int .i64 ((r : Nat) : Int), .slice af (List.length fl) cf, .slice ao35 (List.length (hl ++ (List.take (clampTo n (List.length fl)) fl))) cp36, .bool cl, .bool false] 62, .vec af cf 1 (bys fl) 5, .vec ao35 cp36 1 (bys (hl ++ (List.take (clampTo n (List.length fl)) fl))) 5]) ?_ ?_
  ·
    refine draw_any (by kernel_rfl) 15 (by kernel_rfl) ?_  -- region 2
    have wo11 := Hv0.trans (Ev.drew Hv0.heap)
    refine any_pureR (d := some 13) En10 (v := .pointer (some ⟨b, 0, none⟩)) 0 (by kernel_rfl) (by kernel_rfl) rfl ?_
    intro ac12 En13
    refine any_pureR (d := some 14) En13 (v := .pointer (some ⟨b, 0, none⟩)) 1 (by kernel_rfl) (by kernel_rfl) rfl ?_
    intro ac14 En15
    refine any_pureR (d := some 15) En15 (v := .pointer (some ⟨b, 0, none⟩)) 2 (by kernel_rfl) (by kernel_rfl) rfl ?_
    intro ac16 En17
    refine any_pureR (d := some 16) En17 (v := .pointer (some ⟨b, 2, none⟩)) 3 (by kernel_rfl) (by kernel_rfl) rfl ?_
    intro ac18 En19
    refine any_pureR (d := some 18) En19 (v := .pointer (some ⟨b, 0, none⟩)) 5 (by kernel_rfl) (by kernel_rfl) rfl ?_
    intro ac20 En21
    refine any_pureR (d := some 19) En21 (v := .pointer (some ⟨b, 0, none⟩)) 6 (by kernel_rfl) (by kernel_rfl) rfl ?_
    intro ac22 En23
    refine any_pureR (d := some 20) En23 (v := .pointer (some ⟨b, 1, none⟩)) 7 (by kernel_rfl) (by kernel_rfl) rfl ?_
    intro ac24 En25
    refine any_pureR (d := some 22) En25 (v := .int .i64 ((clampTo n (List.length fl) : Nat) : Int)) 9 (by kernel_rfl) (by kernel_rfl) rfl ?_
    intro ac26 En27
    refine any_two 4 8 (by kernel_rfl) ?_ ?_
    · rintro _ rfl
      refine op_loadbox (d := some 17) (t := 22) (b := b) (off := 2) (k := 0) (v := .slice ah (List.length hl) ch) En27 (by kernel_rfl) wo11 rfl rfl (by kernel_rfl) ?_
      intro ac28 En29
      refine any_at 8 (by kernel_rfl) rfl ?_
      refine op_loadbox (d := some 21) (t := 22) (b := b) (off := 1) (k := 0) (v := .slice af (List.length fl) cf) En29 (by kernel_rfl) wo11 rfl rfl (by kernel_rfl) ?_
      intro ac30 En31
      refine any_at 10 (by kernel_rfl) rfl ?_
      have hcap32 := bys_vcap wo11.heap (k := 1) rfl
      refine op_slice0 (d := some 23) (t := 22) (e := 5) (sz := 1) (len := List.length fl) (cap := cf) (hi := clampTo n (List.length fl)) (ao := af) (lov := none) (hiv := (some (.int .i64 ((clampTo n (List.length fl) : Nat) : Int)))) En31 (by kernel_rfl) (by kernel_rfl) (by kernel_rfl) (by omega) (.inl ⟨rfl, rfl⟩) (.inr ⟨.i64, rfl⟩) ?_
      intro ac33 En34
      refine any_at 11 (by kernel_rfl) rfl ?_
      refine op_append (d := some 24) (t := 22) (tx := 22) (ty := 22) (T := 5) (k := 2) (ao := ah) (cap := ch) (sz := 1) (p := List.length hl) (m := clampTo n (List.length fl)) (xs := bys hl) (ys := bys (List.take (clampTo n (List.length fl)) fl)) (x := .slice af (clampTo n (List.length fl)) cf) (bytes := 1) En34 (by kernel_rfl) wo11 rfl (bys_len _) (Reads.src (size := 1) (tx := 22) (e' := 5) (by kernel_rfl) (bys_take_reads (wo11.heap.reads (k := 1) rfl) (clampTo n (List.length fl))) (bys_lenn (by first | (simp; done) | (simp; omega))) (fun e => by have := (bys_vnz wo11.heap (k := 1) rfl) e; omega) (bys_one _)) (by kernel_rfl) (z := .int .u8 0) (by kernel_rfl) rfl (by decide) (by omega) (by unfold maxLen; omega) ?_
      intro ac39 wo40 ao35 cp36 En41 Hv42 _ _
      rw [← bys_append] at Hv42
      have ehz37 : (List.length hl) + clampTo n (List.length fl) = List.length (hl ++ (List.take (clampTo n (List.length fl)) fl)) := (by first | (simp; done) | (simp; omega) | omega)
      rw [ehz37] at En41
      refine any_pureR (d := some 25) En41 (v := .pointer (some ⟨b, 0, none⟩)) 12 (by kernel_rfl) (by kernel_rfl) rfl ?_
      intro ac43 En44
      refine any_pureR (d := some 26) En44 (v := .pointer (some ⟨b, 2, none⟩)) 13 (by kernel_rfl) (by kernel_rfl) rfl ?_
      intro ac45 En46
      refine any_at 14 (by kernel_rfl) rfl ?_
      refine op_storebox2 (d := none) (t := 22) (b := b) (off := 2) (k := 0) (v := .slice ao35 (List.length (hl ++ (List.take (clampTo n (List.length fl)) fl))) cp36) (old := .slice ah (List.length hl) ch) En46 (by kernel_rfl) Hv42 rfl rfl (by kernel_rfl) rfl rfl (L' := [.box b [.int .i64 ((r : Nat) : Int), .slice af (List.length fl) cf, .slice ao35 (List.length (hl ++ (List.take (clampTo n (List.length fl)) fl))) cp36, .bool cl, .bool false] 62, .vec af cf 1 (bys fl) 5, .vec ao35 cp36 1 (bys (hl ++ (List.take (clampTo n (List.length fl)) fl))) 5]) rfl ?_
      intro ac47 wo48  En49 Hv50
      exact any_end (by kernel_rfl) ⟨ao35, cp36, En49.sub (by kernel_rfl), Hv50.pick [0, 1, 2] (by kernel_rfl) (by decide)⟩
    · rintro _ rfl
      refine op_loadbox (d := some 21) (t := 22) (b := b) (off := 1) (k := 0) (v := .slice af (List.length fl) cf) En27 (by kernel_rfl) wo11 rfl rfl (by kernel_rfl) ?_
      intro ac51 En52
      refine any_two 4 10 (by kernel_rfl) ?_ ?_
      · rintro _ rfl
        refine op_loadbox (d := some 17) (t := 22) (b := b) (off := 2) (k := 0) (v := .slice ah (List.length hl) ch) En52 (by kernel_rfl) wo11 rfl rfl (by kernel_rfl) ?_
        intro ac53 En54
        refine any_at 10 (by kernel_rfl) rfl ?_
        have hcap55 := bys_vcap wo11.heap (k := 1) rfl
        refine op_slice0 (d := some 23) (t := 22) (e := 5) (sz := 1) (len := List.length fl) (cap := cf) (hi := clampTo n (List.length fl)) (ao := af) (lov := none) (hiv := (some (.int .i64 ((clampTo n (List.length fl) : Nat) : Int)))) En54 (by kernel_rfl) (by kernel_rfl) (by kernel_rfl) (by omega) (.inl ⟨rfl, rfl⟩) (.inr ⟨.i64, rfl⟩) ?_
        intro ac56 En57
        refine any_at 11 (by kernel_rfl) rfl ?_
        refine op_append (d := some 24) (t := 22) (tx := 22) (ty := 22) (T := 5) (k := 2) (ao := ah) (cap := ch) (sz := 1) (p := List.length hl) (m := clampTo n (List.length fl)) (xs := bys hl) (ys := bys (List.take (clampTo n (List.length fl)) fl)) (x := .slice af (clampTo n (List.length fl)) cf) (bytes := 1) En57 (by kernel_rfl) wo11 rfl (bys_len _) (Reads.src (size := 1) (tx := 22) (e' := 5) (by kernel_rfl) (bys_take_reads (wo11.heap.reads (k := 1) rfl) (clampTo n (List.length fl))) (bys_lenn (by first | (simp; done) | (simp; omega))) (fun e => by have := (bys_vnz wo11.heap (k := 1) rfl) e; omega) (bys_one _)) (by kernel_rfl) (z := .int .u8 0) (by kernel_rfl) rfl (by decide) (by omega) (by unfold maxLen; omega) ?_
        intro ac62 wo63 ao58 cp59 En64 Hv65 _ _
        rw [← bys_append] at Hv65
        have ehz60 : (List.length hl) + clampTo n (List.length fl) = List.length (hl ++ (List.take (clampTo n (List.length fl)) fl)) := (by first | (simp; done) | (simp; omega) | omega)
        rw [ehz60] at En64
        refine any_pureR (d := some 25) En64 (v := .pointer (some ⟨b, 0, none⟩)) 12 (by kernel_rfl) (by kernel_rfl) rfl ?_
        intro ac66 En67
        refine any_pureR (d := some 26) En67 (v := .pointer (some ⟨b, 2, none⟩)) 13 (by kernel_rfl) (by kernel_rfl) rfl ?_
        intro ac68 En69
        refine any_at 14 (by kernel_rfl) rfl ?_
        refine op_storebox2 (d := none) (t := 22) (b := b) (off := 2) (k := 0) (v := .slice ao58 (List.length (hl ++ (List.take (clampTo n (List.length fl)) fl))) cp59) (old := .slice ah (List.length hl) ch) En69 (by kernel_rfl) Hv65 rfl rfl (by kernel_rfl) rfl rfl (L' := [.box b [.int .i64 ((r : Nat) : Int), .slice af (List.length fl) cf, .slice ao58 (List.length (hl ++ (List.take (clampTo n (List.length fl)) fl))) cp59, .bool cl, .bool false] 62, .vec af cf 1 (bys fl) 5, .vec ao58 cp59 1 (bys (hl ++ (List.take (clampTo n (List.length fl)) fl))) 5]) rfl ?_
        intro ac70 wo71  En72 Hv73
        exact any_end (by kernel_rfl) ⟨ao58, cp59, En72.sub (by kernel_rfl), Hv73.pick [0, 1, 2] (by kernel_rfl) (by decide)⟩
      · rintro _ rfl
        have hcap74 := bys_vcap wo11.heap (k := 1) rfl
        refine op_slice0 (d := some 23) (t := 22) (e := 5) (sz := 1) (len := List.length fl) (cap := cf) (hi := clampTo n (List.length fl)) (ao := af) (lov := none) (hiv := (some (.int .i64 ((clampTo n (List.length fl) : Nat) : Int)))) En52 (by kernel_rfl) (by kernel_rfl) (by kernel_rfl) (by omega) (.inl ⟨rfl, rfl⟩) (.inr ⟨.i64, rfl⟩) ?_
        intro ac75 En76
        refine any_at 4 (by kernel_rfl) rfl ?_
        refine op_loadbox (d := some 17) (t := 22) (b := b) (off := 2) (k := 0) (v := .slice ah (List.length hl) ch) En76 (by kernel_rfl) wo11 rfl rfl (by kernel_rfl) ?_
        intro ac77 En78
        refine any_at 11 (by kernel_rfl) rfl ?_
        refine op_append (d := some 24) (t := 22) (tx := 22) (ty := 22) (T := 5) (k := 2) (ao := ah) (cap := ch) (sz := 1) (p := List.length hl) (m := clampTo n (List.length fl)) (xs := bys hl) (ys := bys (List.take (clampTo n (List.length fl)) fl)) (x := .slice af (clampTo n (List.length fl)) cf) (bytes := 1) En78 (by kernel_rfl) wo11 rfl (bys_len _) (Reads.src (size := 1) (tx := 22) (e' := 5) (by kernel_rfl) (bys_take_reads (wo11.heap.reads (k := 1) rfl) (clampTo n (List.length fl))) (bys_lenn (by first | (simp; done) | (simp; omega))) (fun e => by have := (bys_vnz wo11.heap (k := 1) rfl) e; omega) (bys_one _)) (by kernel_rfl) (z := .int .u8 0) (by kernel_rfl) rfl (by decide) (by omega) (by unfold maxLen; omega) ?_
        intro ac83 wo84 ao79 cp80 En85 Hv86 _ _
        rw [← bys_append] at Hv86
        have ehz81 : (List.length hl) + clampTo n (List.length fl) = List.length (hl ++ (List.take (clampTo n (List.length fl)) fl)) := (by first | (simp; done) | (simp; omega) | omega)
        rw [ehz81] at En85
        refine any_pureR (d := some 25) En85 (v := .pointer (some ⟨b, 0, none⟩)) 12 (by kernel_rfl) (by kernel_rfl) rfl ?_
        intro ac87 En88
        refine any_pureR (d := some 26) En88 (v := .pointer (some ⟨b, 2, none⟩)) 13 (by kernel_rfl) (by kernel_rfl) rfl ?_
        intro ac89 En90
        refine any_at 14 (by kernel_rfl) rfl ?_
        refine op_storebox2 (d := none) (t := 22) (b := b) (off := 2) (k := 0) (v := .slice ao79 (List.length (hl ++ (List.take (clampTo n (List.length fl)) fl))) cp80) (old := .slice ah (List.length hl) ch) En90 (by kernel_rfl) Hv86 rfl rfl (by kernel_rfl) rfl rfl (L' := [.box b [.int .i64 ((r : Nat) : Int), .slice af (List.length fl) cf, .slice ao79 (List.length (hl ++ (List.take (clampTo n (List.length fl)) fl))) cp80, .bool cl, .bool false] 62, .vec af cf 1 (bys fl) 5, .vec ao79 cp80 1 (bys (hl ++ (List.take (clampTo n (List.length fl)) fl))) 5]) rfl ?_
        intro ac91 wo92  En93 Hv94
        exact any_end (by kernel_rfl) ⟨ao79, cp80, En93.sub (by kernel_rfl), Hv94.pick [0, 1, 2] (by kernel_rfl) (by decide)⟩
  ·
    rintro ac95 wo96 ⟨ao35, cp36, En97, Hv98⟩
    refine then_normal ?_
    refine wp_seq ?_
    refine region_from ?_  -- region 3
    refine d_pures [(0, .pointer (some ⟨b, 0, none⟩)), (1, .int .i64 ((clampTo n (List.length fl) : Nat) : Int)), (4, .int .i64 0), (27, .pointer (some ⟨b, 0, none⟩)), (30, .pointer (some ⟨b, 1, none⟩))] [.pointer (some ⟨b, 0, none⟩), .pointer (some ⟨b, 0, none⟩), .pointer (some ⟨b, 0, none⟩), .pointer (some ⟨b, 1, none⟩)] 4 En97 (by kernel_rfl) (by kernel_rfl) rfl ?_
    intro ac99 En100
    refine from_op (by kernel_rfl) ?_
    refine op_loadbox (d := some 31) (t := 22) (b := b) (off := 1) (k := 0) (v := .slice af (List.length fl) cf) En100 (by kernel_rfl) Hv98 rfl rfl (by kernel_rfl) ?_
    intro ac101 En102
    refine d_pures [(0, .pointer (some ⟨b, 0, none⟩)), (1, .int .i64 ((clampTo n (List.length fl) : Nat) : Int)), (4, .int .i64 0), (27, .pointer (some ⟨b, 0, none⟩)), (31, .slice af (List.length fl) cf), (32, .int .i64 ((clampTo n (List.length fl) : Nat) : Int))] [.int .i64 ((clampTo n (List.length fl) : Nat) : Int)] 6 En102 (by kernel_rfl) (by kernel_rfl) rfl ?_
    intro ac103 En104
    refine from_op (by kernel_rfl) ?_
    have hcap105 := bys_vcap Hv98.heap (k := 1) rfl
    refine op_slice (d := some 33) (t := 22) (e := 5) (sz := 1) (len := List.length fl) (cap := cf) (lo := clampTo n (List.length fl)) (hi := List.length fl) (ao := af) (lov := (some (.int .i64 ((clampTo n (List.length fl) : Nat) : Int)))) (hiv := none) En104 (by kernel_rfl) (by kernel_rfl) (by kernel_rfl) (by omega) (by omega) (.inr ⟨.i64, rfl⟩) (.inl ⟨rfl, rfl⟩) ?_
    intro ac106 En107
    have Hv108 : Ev w [.box b [.int .i64 ((r : Nat) : Int), .slice af (List.length fl) cf, .slice ah (List.length hl) ch, .bool cl, .bool false] 62, .vec af cf 1 (bys fl) 5, .vec ah ch 1 (bys hl) 5] wo96 [.box b [.int .i64 ((r : Nat) : Int), .slice af (List.length fl) cf, .slice ao35 (List.length (hl ++ (List.take (clampTo n (List.length fl)) fl))) cp36, .bool cl, .bool false] 62, .vec (cutAt af cf (clampTo n (List.length fl)) 1) (cf - (clampTo n (List.length fl))) 1 (bys (List.drop (clampTo n (List.length fl)) fl)) 5, .vec ao35 cp36 1 (bys (hl ++ (List.take (clampTo n (List.length fl)) fl))) 5] := by
      have h := Ev.cut (k := 1) (n := List.length fl) (sz := 1) Hv98 rfl (bys_len _) (by omega) (clampTo n (List.length fl)) (List.length fl) (by omega) (by omega)
      rw [bys_cutw (l := fl) (lo := clampTo n (List.length fl)) (n := List.length fl) (by simp)] at h
      exact h
    refine d_pures [(0, .pointer (some ⟨b, 0, none⟩)), (1, .int .i64 ((clampTo n (List.length fl) : Nat) : Int)), (4, .int .i64 0), (33, .slice (cutAt af cf (clampTo n (List.length fl)) 1) ((List.length fl) - (clampTo n (List.length fl))) (cf - (clampTo n (List.length fl)))), (35, .pointer (some ⟨b, 1, none⟩))] [.pointer (some ⟨b, 0, none⟩), .pointer (some ⟨b, 1, none⟩)] 9 En107 (by kernel_rfl) (by kernel_rfl) rfl ?_
    intro ac109 En110
    refine from_op (by kernel_rfl) ?_
    refine op_storebox2 (d := none) (t := 22) (b := b) (off := 1) (k := 0) (v := .slice (cutAt af cf (clampTo n (List.length fl)) 1) ((List.length fl) - (clampTo n (List.length fl))) (cf - (clampTo n (List.length fl)))) (old := .slice af (List.length fl) cf) En110 (by kernel_rfl) Hv108 rfl rfl (by kernel_rfl) rfl rfl (L' := [.box b [.int .i64 ((r : Nat) : Int), .slice (cutAt af cf (clampTo n (List.length fl)) 1) ((List.length fl) - (clampTo n (List.length fl))) (cf - (clampTo n (List.length fl))), .slice ao35 (List.length (hl ++ (List.take (clampTo n (List.length fl)) fl))) cp36, .bool cl, .bool false] 62, .vec (cutAt af cf (clampTo n (List.length fl)) 1) (cf - (clampTo n (List.length fl))) 1 (bys (List.drop (clampTo n (List.length fl)) fl)) 5, .vec ao35 cp36 1 (bys (hl ++ (List.take (clampTo n (List.length fl)) fl))) 5]) rfl ?_
    intro ac111 wo112  En113 Hv114
    refine from_end (by kernel_rfl) ?_
    refine then_normal ?_
    refine wp_seq ?_
    refine region_from ?_  -- region 4
    refine d_pures [(0, .pointer (some ⟨b, 0, none⟩)), (1, .int .i64 ((clampTo n (List.length fl) : Nat) : Int)), (4, .int .i64 ((clampTo n (List.length fl) : Nat) : Int))] [.int .i64 ((clampTo n (List.length fl) : Nat) : Int), .int .i64 ((clampTo n (List.length fl) : Nat) : Int)] 2 En113 (by kernel_rfl) (by kernel_rfl) rfl ?_
    intro ac115 En116
    refine from_end (by kernel_rfl) ?_
    refine then_normal ?_
    refine wp_ret ?_
    refine d_ret1 (t := 4) (v := .int .i64 ((clampTo n (List.length fl) : Nat) : Int)) En116 (by kernel_rfl) (by kernel_rfl) ?_
    rw [show List.length fl - clampTo n (List.length fl) = List.length (List.drop (clampTo n (List.length fl)) fl) from (List.length_drop).symm] at Hv114
    exact ⟨cutAt af cf (clampTo n (List.length fl)) 1, cf - (clampTo n (List.length fl)), ao35, cp36, rfl, Hv114.pick [0, 1, 2] (by kernel_rfl) (by decide)⟩

theorem ret_len {a : Option Addr} {n m : Nat} (c : Nat) (x : Value) (h : n = m) : Ending.returned (.tuple #[.slice a n c, x]) = .returned (.tuple #[.slice a m c, x]) := by rw [h]

theorem read_open (b r : Nat) (fl hl : List UInt8) (af ah : Option Addr) (cf ch : Nat) (w : World) (hb : List.length fl + List.length hl ≤ r) (hr : r ≤ 65536) (n : Int) (hh : Heap w [.box b [.int .i64 ((r : Nat) : Int), .slice af (List.length fl) cf, .slice ah (List.length hl) ch, .bool false, .bool false] 62, .vec af cf 1 (bys fl) 5, .vec ah ch 1 (bys hl) 5]) : Calls Try.prog 19 #[.pointer (some ⟨b, 0, none⟩), .int .i64 n] w fun e w' => ∃ af' cf' ah' ch' ao co, e = .returned (.tuple #[.slice ao (List.length (List.take (clampTo n (List.length hl)) hl)) co, .int .i64 1]) ∧ Ev w [.box b [.int .i64 ((r : Nat) : Int), .slice af (List.length fl) cf, .slice ah (List.length hl) ch, .bool false, .bool false] 62, .vec af cf 1 (bys fl) 5, .vec ah ch 1 (bys hl) 5] w' [.box b [.int .i64 ((r : Nat) : Int), .slice af' (List.length fl) cf', .slice ah' (List.length (List.drop (clampTo n (List.length hl)) hl)) ch', .bool false, .bool false] 62, .vec af' cf' 1 (bys fl) 5, .vec ah' ch' 1 (bys (List.drop (clampTo n (List.length hl)) hl)) 5, .vec ao co 1 (bys (List.take (clampTo n (List.length hl)) hl)) 5] := by
  have hcl := clampTo_le n (List.length hl)
  refine d_start [(0, .pointer (some ⟨b, 0, none⟩)), (1, .int .i64 n)] 56 Go.Proofs.Try.func19 Go.Proofs.Try.ntmps19 rfl (by kernel_rfl) (by kernel_rfl) ?_
  intro act0 En0
  have Hv0 : Ev w [.box b [.int .i64 ((r : Nat) : Int), .slice af (List.length fl) cf, .slice ah (List.length hl) ch, .bool false, .bool false] 62, .vec af cf 1 (bys fl) 5, .vec ah ch 1 (bys hl) 5] w [.box b [.int .i64 ((r : Nat) : Int), .slice af (List.length fl) cf, .slice ah (List.length hl) ch, .bool false, .bool false] 62, .vec af cf 1 (bys fl) 5, .vec ah ch 1 (bys hl) 5] := Ev.refl (hh)
  refine wp_seq ?_
  refine region_from ?_  -- region 0
  refine d_pures [(0, .pointer (some ⟨b, 0, none⟩)), (1, .int .i64 n), (4, .slice none 0 0), (5, .int .i64 0)] [.slice none 0 0, .int .i64 0] 2 En0 (by kernel_rfl) (by kernel_rfl) rfl ?_
  intro ac1 En2
  refine from_end (by kernel_rfl) ?_
  refine then_normal ?_
  refine wp_seq ?_
  refine wp_block ?_
  refine wp_seq ?_
  refine region_from ?_  -- region 1
  refine d_pures [(0, .pointer (some ⟨b, 0, none⟩)), (1, .int .i64 n), (4, .slice none 0 0), (5, .int .i64 0), (10, .pointer (some ⟨b, 4, none⟩))] [.pointer (some ⟨b, 0, none⟩), .pointer (some ⟨b, 0, none⟩), .pointer (some ⟨b, 4, none⟩)] 3 En2 (by kernel_rfl) (by kernel_rfl) rfl ?_
  intro ac3 En4
  refine from_op (by kernel_rfl) ?_
  refine op_loadbox (d := some 11) (t := 4) (b := b) (off := 4) (k := 0) (v := .bool false) En4 (by kernel_rfl) Hv0 rfl rfl (by kernel_rfl) ?_
  intro ac5 En6
  refine d_pures [(0, .pointer (some ⟨b, 0, none⟩)), (1, .int .i64 n), (4, .slice none 0 0), (5, .int .i64 0), (7, .bool false)] [.bool false] 5 En6 (by kernel_rfl) (by kernel_rfl) rfl ?_
  intro ac7 En8
  refine from_end (by kernel_rfl) ?_
  refine then_normal ?_
  refine cond_false En8 (t := false) (by kernel_rfl) rfl ?_
  refine wp_seq ?_
  refine region_cut (F := fun ac wo => Env ac 56 [(0, .pointer (some ⟨b, 0, none⟩)), (1, .int .i64 n), (4, .slice none 0 0), (5, .int .i64 0), (12, .bool false)] ∧ Ev w [.box b [.int .i64 ((r : Nat) : Int), .slice af (List.length fl) cf, .slice ah (List.length hl) ch, .bool false, .bool false] 62, .vec af cf 1 (bys fl) 5, .vec ah ch 1 (bys hl) 5] wo [.box b [.int .i64 ((r : Nat) : Int), .slice af (List.length fl) cf, .slice ah (List.length hl) ch, .bool false, .bool false] 62, .vec af cf 1 (bys fl) 5, .vec ah ch 1 (bys hl) 5]) ?_ ?_
  ·
    refine draw_any (by kernel_rfl) 19 (by kernel_rfl) ?_  -- region 3
    have wo9 := Hv0.trans (Ev.drew Hv0.heap)
    refine any_pureR (d := some 13) En8 (v := .pointer (some ⟨b, 0, none⟩)) 0 (by kernel_rfl) (by kernel_rfl) rfl ?_
    intro ac10 En11
    refine any_pureR (d := some 14) En11 (v := .pointer (some ⟨b, 0, none⟩)) 1 (by kernel_rfl) (by kernel_rfl) rfl ?_
    intro ac12 En13
    refine any_pureR (d := some 15) En13 (v := .pointer (some ⟨b, 3, none⟩)) 2 (by kernel_rfl) (by kernel_rfl) rfl ?_
    intro ac14 En15
    refine any_at 3 (by kernel_rfl) rfl ?_
    refine op_loadbox (d := some 16) (t := 4) (b := b) (off := 3) (k := 0) (v := .bool false) En15 (by kernel_rfl) wo9 rfl rfl (by kernel_rfl) ?_
    intro ac16 En17
    refine any_pureR (d := some 17) En17 (v := .bool false) 4 (by kernel_rfl) (by kernel_rfl) rfl ?_
    intro ac18 En19
    refine any_skip (d := some 18) En19 5 (by kernel_rfl) (by kernel_rfl) rfl ?_
    intro ac20 En21
    refine any_skip (d := some 19) En21 6 (by kernel_rfl) (by kernel_rfl) rfl ?_
    intro ac22 En23
    refine any_skip (d := some 20) En23 7 (by kernel_rfl) (by kernel_rfl) rfl ?_
    intro ac24 En25
    refine any_skip (d := some 21) En25 8 (by kernel_rfl) (by kernel_rfl) rfl ?_
    intro ac26 En27
    refine any_skip (d := some 22) En27 9 (by kernel_rfl) (by kernel_rfl) rfl ?_
    intro ac28 En29
    refine any_skip (d := some 23) En29 10 (by kernel_rfl) (by kernel_rfl) rfl ?_
    intro ac30 En31
    refine any_skip (d := some 24) En31 11 (by kernel_rfl) (by kernel_rfl) rfl ?_
    intro ac32 En33
    refine any_skip (d := some 25) En33 12 (by kernel_rfl) (by kernel_rfl) rfl ?_
    intro ac34 En35
    refine any_skip (d := some 26) En35 13 (by kernel_rfl) (by kernel_rfl) rfl ?_
    intro ac36 En37
    refine any_skip (d := some 27) En37 14 (by kernel_rfl) (by kernel_rfl) rfl ?_
    intro ac38 En39
    refine any_skip (d := some 28) En39 15 (by kernel_rfl) (by kernel_rfl) rfl ?_
    intro ac40 En41
    refine any_skip (d := some 29) En41 16 (by kernel_rfl) (by kernel_rfl) rfl ?_
    intro ac42 En43
    refine any_pureR (d := some 30) En43 (v := .bool false) 17 (by kernel_rfl) (by kernel_rfl) rfl ?_
    intro ac44 En45
    refine any_pureR (d := some 12) En45 (v := .bool false) 18 (by kernel_rfl) (by kernel_rfl) rfl ?_
    intro ac46 En47
    exact any_end (by kernel_rfl) ⟨En47.sub (by kernel_rfl), wo9.pick [0, 1, 2] (by kernel_rfl) (by decide)⟩
  ·
    rintro ac48 wo49 ⟨En50, Hv51⟩
    refine then_normal ?_
    refine cond_false En50 (t := false) (by kernel_rfl) rfl ?_
    refine wp_skip ?_
    refine block_normal ?_
    refine then_normal ?_
    refine wp_seq ?_
    refine region_from ?_  -- region 5
    refine d_pures [(0, .pointer (some ⟨b, 0, none⟩)), (1, .int .i64 n), (4, .slice none 0 0), (5, .int .i64 0), (31, .int .i64 n), (34, .pointer (some ⟨b, 2, none⟩))] [.int .i64 n, .pointer (some ⟨b, 0, none⟩), .pointer (some ⟨b, 0, none⟩), .pointer (some ⟨b, 2, none⟩)] 4 En50 (by kernel_rfl) (by kernel_rfl) rfl ?_
    intro ac52 En53
    refine from_op (by kernel_rfl) ?_
    refine op_loadbox (d := some 35) (t := 22) (b := b) (off := 2) (k := 0) (v := .slice ah (List.length hl) ch) En53 (by kernel_rfl) Hv51 rfl rfl (by kernel_rfl) ?_
    intro ac54 En55
    refine d_pures [(0, .pointer (some ⟨b, 0, none⟩)), (1, .int .i64 n), (4, .slice none 0 0), (5, .int .i64 0), (38, .int .i64 (if (0 : Int) < (if ((List.length hl : Nat) : Int) < n then ((List.length hl : Nat) : Int) else n) then (if ((List.length hl : Nat) : Int) < n then ((List.length hl : Nat) : Int) else n) else (0 : Int)))] [.int .i64 ((List.length hl : Nat) : Int), .int .i64 (if ((List.length hl : Nat) : Int) < n then ((List.length hl : Nat) : Int) else n), .int .i64 (if (0 : Int) < (if ((List.length hl : Nat) : Int) < n then ((List.length hl : Nat) : Int) else n) then (if ((List.length hl : Nat) : Int) < n then ((List.length hl : Nat) : Int) else n) else (0 : Int))] 8 En55 (by kernel_rfl) (by kernel_rfl) rfl ?_
    intro ac56 En57
    rw [clampTo_eq n (List.length hl)] at En57
    refine d_pures [(0, .pointer (some ⟨b, 0, none⟩)), (1, .int .i64 ((clampTo n (List.length hl) : Nat) : Int)), (4, .slice none 0 0), (5, .int .i64 0)] [.int .i64 ((clampTo n (List.length hl) : Nat) : Int)] 9 En57 (by kernel_rfl) (by kernel_rfl) rfl ?_
    intro ac58 En59
    refine from_end (by kernel_rfl) ?_
    refine then_normal ?_
    refine wp_seq ?_
    refine region_from ?_  -- region 6
    refine d_pures [(0, .pointer (some ⟨b, 0, none⟩)), (1, .int .i64 ((clampTo n (List.length hl) : Nat) : Int)), (4, .slice none 0 0), (5, .int .i64 0), (41, .pointer (some ⟨b, 2, none⟩))] [.pointer (some ⟨b, 0, none⟩), .pointer (some ⟨b, 0, none⟩), .pointer (some ⟨b, 2, none⟩)] 3 En59 (by kernel_rfl) (by kernel_rfl) rfl ?_
    intro ac60 En61
    refine from_op (by kernel_rfl) ?_
    refine op_loadbox (d := some 42) (t := 22) (b := b) (off := 2) (k := 0) (v := .slice ah (List.length hl) ch) En61 (by kernel_rfl) Hv51 rfl rfl (by kernel_rfl) ?_
    intro ac62 En63
    refine d_pures [(0, .pointer (some ⟨b, 0, none⟩)), (1, .int .i64 ((clampTo n (List.length hl) : Nat) : Int)), (4, .slice none 0 0), (5, .int .i64 0), (42, .slice ah (List.length hl) ch), (43, .int .i64 ((clampTo n (List.length hl) : Nat) : Int))] [.int .i64 ((clampTo n (List.length hl) : Nat) : Int)] 5 En63 (by kernel_rfl) (by kernel_rfl) rfl ?_
    intro ac64 En65
    refine from_op (by kernel_rfl) ?_
    have hcap66 := bys_vcap Hv51.heap (k := 2) rfl
    refine op_slice0 (d := some 44) (t := 22) (e := 5) (sz := 1) (len := List.length hl) (cap := ch) (hi := clampTo n (List.length hl)) (ao := ah) (lov := none) (hiv := (some (.int .i64 ((clampTo n (List.length hl) : Nat) : Int)))) En65 (by kernel_rfl) (by kernel_rfl) (by kernel_rfl) (by omega) (.inl ⟨rfl, rfl⟩) (.inr ⟨.i64, rfl⟩) ?_
    intro ac67 En68
    refine from_op (by kernel_rfl) ?_
    have Hv69 : Ev w [.box b [.int .i64 ((r : Nat) : Int), .slice af (List.length fl) cf, .slice ah (List.length hl) ch, .bool false, .bool false] 62, .vec af cf 1 (bys fl) 5, .vec ah ch 1 (bys hl) 5] wo49 [.box b [.int .i64 ((r : Nat) : Int), .slice af (List.length fl) cf, .slice ah (List.length hl) ch, .bool false, .bool false] 62, .vec af cf 1 (bys fl) 5, .vec ah ch 1 (bys hl) 5, .vec none 0 1 (bys []) 5] := Ev.nil (sz := 1) (T := 5) Hv51
    refine op_append (d := some 45) (t := 22) (tx := 22) (ty := 22) (T := 5) (k := 3) (ao := none) (cap := 0) (sz := 1) (p := 0) (m := clampTo n (List.length hl)) (xs := bys []) (ys := bys (List.take (clampTo n (List.length hl)) hl)) (x := .slice ah (clampTo n (List.length hl)) ch) (bytes := 1) En68 (by kernel_rfl) Hv69 rfl (bys_lenn (by simp)) (Reads.src (size := 1) (tx := 22) (e' := 5) (by kernel_rfl) (bys_take_reads (Hv69.heap.reads (k := 2) rfl) (clampTo n (List.length hl))) (bys_lenn (by first | (simp; done) | (simp; omega))) (fun e => by have := (bys_vnz Hv51.heap (k := 2) rfl) e; omega) (bys_one _)) (by kernel_rfl) (z := .int .u8 0) (by kernel_rfl) rfl (by decide) (by omega) (by unfold maxLen; omega) ?_
    intro ac74 wo75 ao70 cp71 En76 Hv77 _ _
    rw [bys_nil_append] at Hv77
    have ehz72 : 0 + clampTo n (List.length hl) = List.length (List.take (clampTo n (List.length hl)) hl) := (by first | (simp; done) | (simp; omega) | omega)
    rw [ehz72] at En76
    refine d_pures [(0, .pointer (some ⟨b, 0, none⟩)), (1, .int .i64 ((clampTo n (List.length hl) : Nat) : Int)), (4, .slice none 0 0), (5, .int .i64 0), (6, .slice ao70 (List.length (List.take (clampTo n (List.length hl)) hl)) cp71)] [.slice ao70 (List.length (List.take (clampTo n (List.length hl)) hl)) cp71] 8 En76 (by kernel_rfl) (by kernel_rfl) rfl ?_
    intro ac78 En79
    refine from_end (by kernel_rfl) ?_
    refine then_normal ?_
    refine wp_seq ?_
    refine region_from ?_  -- region 7
    refine d_pures [(0, .pointer (some ⟨b, 0, none⟩)), (1, .int .i64 ((clampTo n (List.length hl) : Nat) : Int)), (4, .slice none 0 0), (5, .int .i64 0), (6, .slice ao70 (List.length (List.take (clampTo n (List.length hl)) hl)) cp71), (46, .pointer (some ⟨b, 0, none⟩)), (49, .pointer (some ⟨b, 2, none⟩))] [.pointer (some ⟨b, 0, none⟩), .pointer (some ⟨b, 0, none⟩), .pointer (some ⟨b, 0, none⟩), .pointer (some ⟨b, 2, none⟩)] 4 En79 (by kernel_rfl) (by kernel_rfl) rfl ?_
    intro ac80 En81
    refine from_op (by kernel_rfl) ?_
    refine op_loadbox (d := some 50) (t := 22) (b := b) (off := 2) (k := 0) (v := .slice ah (List.length hl) ch) En81 (by kernel_rfl) Hv77 rfl rfl (by kernel_rfl) ?_
    intro ac82 En83
    refine d_pures [(0, .pointer (some ⟨b, 0, none⟩)), (1, .int .i64 ((clampTo n (List.length hl) : Nat) : Int)), (4, .slice none 0 0), (5, .int .i64 0), (6, .slice ao70 (List.length (List.take (clampTo n (List.length hl)) hl)) cp71), (46, .pointer (some ⟨b, 0, none⟩)), (50, .slice ah (List.length hl) ch), (51, .int .i64 ((clampTo n (List.length hl) : Nat) : Int))] [.int .i64 ((clampTo n (List.length hl) : Nat) : Int)] 6 En83 (by kernel_rfl) (by kernel_rfl) rfl ?_
    intro ac84 En85
    refine from_op (by kernel_rfl) ?_
    have hcap86 := bys_vcap Hv77.heap (k := 2) rfl
    refine op_slice (d := some 52) (t := 22) (e := 5) (sz := 1) (len := List.length hl) (cap := ch) (lo := clampTo n (List.length hl)) (hi := List.length hl) (ao := ah) (lov := (some (.int .i64 ((clampTo n (List.length hl) : Nat) : Int)))) (hiv := none) En85 (by kernel_rfl) (by kernel_rfl) (by kernel_rfl) (by omega) (by omega) (.inr ⟨.i64, rfl⟩) (.inl ⟨rfl, rfl⟩) ?_
    intro ac87 En88
    have Hv89 : Ev w [.box b [.int .i64 ((r : Nat) : Int), .slice af (List.length fl) cf, .slice ah (List.length hl) ch, .bool false, .bool false] 62, .vec af cf 1 (bys fl) 5, .vec ah ch 1 (bys hl) 5] wo75 [.box b [.int .i64 ((r : Nat) : Int), .slice af (List.length fl) cf, .slice ah (List.length hl) ch, .bool false, .bool false] 62, .vec af cf 1 (bys fl) 5, .vec (cutAt ah ch (clampTo n (List.length hl)) 1) (ch - (clampTo n (List.length hl))) 1 (bys (List.drop (clampTo n (List.length hl)) hl)) 5, .vec ao70 cp71 1 (bys (List.take (clampTo n (List.length hl)) hl)) 5] := by
      have h := Ev.cut (k := 2) (n := List.length hl) (sz := 1) Hv77 rfl (bys_len _) (by omega) (clampTo n (List.length hl)) (List.length hl) (by omega) (by omega)
      rw [bys_cutw (l := hl) (lo := clampTo n (List.length hl)) (n := List.length hl) (by simp)] at h
      exact h
    refine d_pures [(0, .pointer (some ⟨b, 0, none⟩)), (1, .int .i64 ((clampTo n (List.length hl) : Nat) : Int)), (4, .slice none 0 0), (5, .int .i64 0), (6, .slice ao70 (List.length (List.take (clampTo n (List.length hl)) hl)) cp71), (52, .slice (cutAt ah ch (clampTo n (List.length hl)) 1) ((List.length hl) - (clampTo n (List.length hl))) (ch - (clampTo n (List.length hl)))), (54, .pointer (some ⟨b, 2, none⟩))] [.pointer (some ⟨b, 0, none⟩), .pointer (some ⟨b, 2, none⟩)] 9 En88 (by kernel_rfl) (by kernel_rfl) rfl ?_
    intro ac90 En91
    refine from_op (by kernel_rfl) ?_
    refine op_storebox2 (d := none) (t := 22) (b := b) (off := 2) (k := 0) (v := .slice (cutAt ah ch (clampTo n (List.length hl)) 1) ((List.length hl) - (clampTo n (List.length hl))) (ch - (clampTo n (List.length hl)))) (old := .slice ah (List.length hl) ch) En91 (by kernel_rfl) Hv89 rfl rfl (by kernel_rfl) rfl rfl (L' := [.box b [.int .i64 ((r : Nat) : Int), .slice af (List.length fl) cf, .slice (cutAt ah ch (clampTo n (List.length hl)) 1) ((List.length hl) - (clampTo n (List.length hl))) (ch - (clampTo n (List.length hl))), .bool false, .bool false] 62, .vec af cf 1 (bys fl) 5, .vec (cutAt ah ch (clampTo n (List.length hl)) 1) (ch - (clampTo n (List.length hl))) 1 (bys (List.drop (clampTo n (List.length hl)) hl)) 5, .vec ao70 cp71 1 (bys (List.take (clampTo n (List.length hl)) hl)) 5]) rfl ?_
    intro ac92 wo93  En94 Hv95
    refine from_end (by kernel_rfl) ?_
    refine then_normal ?_
    refine wp_seq ?_
    refine region_from ?_  -- region 8
    refine d_pures [(0, .pointer (some ⟨b, 0, none⟩)), (1, .int .i64 ((clampTo n (List.length hl) : Nat) : Int)), (4, .slice ao70 (List.length (List.take (clampTo n (List.length hl)) hl)) cp71), (5, .int .i64 1)] [.slice ao70 (List.length (List.take (clampTo n (List.length hl)) hl)) cp71, .slice ao70 (List.length (List.take (clampTo n (List.length hl)) hl)) cp71, .int .i64 1] 3 En94 (by kernel_rfl) (by kernel_rfl) rfl ?_
    intro ac96 En97
    refine from_end (by kernel_rfl) ?_
    refine then_normal ?_
    refine wp_ret ?_
    refine d_ret2 (t := 4) (u := 5) (v := .slice ao70 (List.length (List.take (clampTo n (List.length hl)) hl)) cp71) (x := .int .i64 1) En97 (by kernel_rfl) (by kernel_rfl) (by kernel_rfl) ?_
    rw [show List.length hl - clampTo n (List.length hl) = List.length (List.drop (clampTo n (List.length hl)) hl) from (List.length_drop).symm] at Hv95
    have ht : clampTo n (List.length hl) = List.length (List.take (clampTo n (List.length hl)) hl) := by rw [List.length_take]; omega
    refine ⟨af, cf, cutAt ah ch (clampTo n (List.length hl)) 1, ch - (clampTo n (List.length hl)), ao70, cp71, rfl, Hv95.pick [0, 1, 2, 3] (by kernel_rfl) (by decide)⟩


theorem read_all (b r : Nat) (hl : List UInt8) (af ah : Option Addr) (cf ch : Nat) (w : World) (hr : List.length hl ≤ 65536) (n : Int) (hn : (List.length hl : Int) ≤ n) (hh : Heap w [.box b [.int .i64 ((r : Nat) : Int), .slice af 0 cf, .slice ah (List.length hl) ch, .bool true, .bool false] 62, .vec af cf 1 (bys []) 5, .vec ah ch 1 (bys hl) 5]) : Calls Try.prog 19 #[.pointer (some ⟨b, 0, none⟩), .int .i64 n] w fun e w' => ∃ af' cf' ah' ch' ao co q, e = .returned (.tuple #[.slice ao (List.length hl) co, .int .i64 q]) ∧ Ev w [.box b [.int .i64 ((r : Nat) : Int), .slice af 0 cf, .slice ah (List.length hl) ch, .bool true, .bool false] 62, .vec af cf 1 (bys []) 5, .vec ah ch 1 (bys hl) 5] w' [.box b [.int .i64 ((r : Nat) : Int), .slice af' 0 cf', .slice ah' 0 ch', .bool true, .bool false] 62, .vec af' cf' 1 (bys []) 5, .vec ah' ch' 1 (bys []) 5, .vec ao co 1 (bys hl) 5] ∧ (hl = [] → q = 2) := by
  have hcl := clampTo_le n (List.length hl)
  refine d_start [(0, .pointer (some ⟨b, 0, none⟩)), (1, .int .i64 n)] 56 Go.Proofs.Try.func19 Go.Proofs.Try.ntmps19 rfl (by kernel_rfl) (by kernel_rfl) ?_
  intro act0 En0
  have Hv0 : Ev w [.box b [.int .i64 ((r : Nat) : Int), .slice af 0 cf, .slice ah (List.length hl) ch, .bool true, .bool false] 62, .vec af cf 1 (bys []) 5, .vec ah ch 1 (bys hl) 5] w [.box b [.int .i64 ((r : Nat) : Int), .slice af 0 cf, .slice ah (List.length hl) ch, .bool true, .bool false] 62, .vec af cf 1 (bys []) 5, .vec ah ch 1 (bys hl) 5] := Ev.refl (hh)
  refine wp_seq ?_
  refine region_from ?_  -- region 0
  refine d_pures [(0, .pointer (some ⟨b, 0, none⟩)), (1, .int .i64 n), (4, .slice none 0 0), (5, .int .i64 0)] [.slice none 0 0, .int .i64 0] 2 En0 (by kernel_rfl) (by kernel_rfl) rfl ?_
  intro ac1 En2
  refine from_end (by kernel_rfl) ?_
  refine then_normal ?_
  refine wp_seq ?_
  refine wp_block ?_
  refine wp_seq ?_
  refine region_from ?_  -- region 1
  refine d_pures [(0, .pointer (some ⟨b, 0, none⟩)), (1, .int .i64 n), (4, .slice none 0 0), (5, .int .i64 0), (10, .pointer (some ⟨b, 4, none⟩))] [.pointer (some ⟨b, 0, none⟩), .pointer (some ⟨b, 0, none⟩), .pointer (some ⟨b, 4, none⟩)] 3 En2 (by kernel_rfl) (by kernel_rfl) rfl ?_
  intro ac3 En4
  refine from_op (by kernel_rfl) ?_
  refine op_loadbox (d := some 11) (t := 4) (b := b) (off := 4) (k := 0) (v := .bool false) En4 (by kernel_rfl) Hv0 rfl rfl (by kernel_rfl) ?_
  intro ac5 En6
  refine d_pures [(0, .pointer (some ⟨b, 0, none⟩)), (1, .int .i64 n), (4, .slice none 0 0), (5, .int .i64 0), (7, .bool false)] [.bool false] 5 En6 (by kernel_rfl) (by kernel_rfl) rfl ?_
  intro ac7 En8
  refine from_end (by kernel_rfl) ?_
  refine then_normal ?_
  refine cond_false En8 (t := false) (by kernel_rfl) rfl ?_
  refine wp_seq ?_
  refine region_cut (F := fun ac wo => Env ac 56 [(0, .pointer (some ⟨b, 0, none⟩)), (1, .int .i64 n), (4, .slice none 0 0), (5, .int .i64 0), (12, .bool (((0 + (List.length hl) : Nat) : Int) == (0 : Int)))] ∧ Ev w [.box b [.int .i64 ((r : Nat) : Int), .slice af 0 cf, .slice ah (List.length hl) ch, .bool true, .bool false] 62, .vec af cf 1 (bys []) 5, .vec ah ch 1 (bys hl) 5] wo [.box b [.int .i64 ((r : Nat) : Int), .slice af 0 cf, .slice ah (List.length hl) ch, .bool true, .bool false] 62, .vec af cf 1 (bys []) 5, .vec ah ch 1 (bys hl) 5]) ?_ ?_
  ·
    refine draw_any (by kernel_rfl) 19 (by kernel_rfl) ?_  -- region 3
    have wo9 := Hv0.trans (Ev.drew Hv0.heap)
    refine any_pureR (d := some 13) En8 (v := .pointer (some ⟨b, 0, none⟩)) 0 (by kernel_rfl) (by kernel_rfl) rfl ?_
    intro ac10 En11
    refine any_pureR (d := some 14) En11 (v := .pointer (some ⟨b, 0, none⟩)) 1 (by kernel_rfl) (by kernel_rfl) rfl ?_
    intro ac12 En13
    refine any_pureR (d := some 15) En13 (v := .pointer (some ⟨b, 3, none⟩)) 2 (by kernel_rfl) (by kernel_rfl) rfl ?_
    intro ac14 En15
    refine any_at 3 (by kernel_rfl) rfl ?_
    refine op_loadbox (d := some 16) (t := 4) (b := b) (off := 3) (k := 0) (v := .bool true) En15 (by kernel_rfl) wo9 rfl rfl (by kernel_rfl) ?_
    intro ac16 En17
    refine any_pureR (d := some 17) En17 (v := .bool true) 4 (by kernel_rfl) (by kernel_rfl) rfl ?_
    intro ac18 En19
    refine any_pureR (d := some 18) En19 (v := .pointer (some ⟨b, 0, none⟩)) 5 (by kernel_rfl) (by kernel_rfl) rfl ?_
    intro ac20 En21
    refine any_pureR (d := some 19) En21 (v := .pointer (some ⟨b, 0, none⟩)) 6 (by kernel_rfl) (by kernel_rfl) rfl ?_
    intro ac22 En23
    refine any_pureR (d := some 20) En23 (v := .pointer (some ⟨b, 1, none⟩)) 7 (by kernel_rfl) (by kernel_rfl) rfl ?_
    intro ac24 En25
    refine any_pureR (d := some 23) En25 (v := .pointer (some ⟨b, 0, none⟩)) 10 (by kernel_rfl) (by kernel_rfl) rfl ?_
    intro ac26 En27
    refine any_pureR (d := some 24) En27 (v := .pointer (some ⟨b, 0, none⟩)) 11 (by kernel_rfl) (by kernel_rfl) rfl ?_
    intro ac28 En29
    refine any_pureR (d := some 25) En29 (v := .pointer (some ⟨b, 2, none⟩)) 12 (by kernel_rfl) (by kernel_rfl) rfl ?_
    intro ac30 En31
    refine any_two 8 13 (by kernel_rfl) ?_ ?_
    · rintro _ rfl
      refine op_loadbox (d := some 21) (t := 22) (b := b) (off := 1) (k := 0) (v := .slice af 0 cf) En31 (by kernel_rfl) wo9 rfl rfl (by kernel_rfl) ?_
      intro ac32 En33
      refine any_pureR (d := some 22) En33 (v := .int .i64 0) 9 (by kernel_rfl) (by kernel_rfl) rfl ?_
      intro ac34 En35
      refine any_at 13 (by kernel_rfl) rfl ?_
      refine op_loadbox (d := some 26) (t := 22) (b := b) (off := 2) (k := 0) (v := .slice ah (List.length hl) ch) En35 (by kernel_rfl) wo9 rfl rfl (by kernel_rfl) ?_
      intro ac36 En37
      refine any_pureR (d := some 27) En37 (v := .int .i64 ((List.length hl : Nat) : Int)) 14 (by kernel_rfl) (by kernel_rfl) rfl ?_
      intro ac38 En39
      refine any_pureR (d := some 28) En39 (v := .int .i64 (IntKind.wrap .i64 ((0 : Int) + ((List.length hl : Nat) : Int)))) 15 (by kernel_rfl) (by kernel_rfl) rfl ?_
      intro ac40 En41
      rw [Go.Dbr.wr64 (e := (0 : Int) + ((List.length hl : Nat) : Int)) (x := ((0 + (List.length hl) : Nat) : Int)) (by omega) (by omega) (by omega)] at En41
      refine any_pureR (d := some 29) En41 (v := .bool (((0 + (List.length hl) : Nat) : Int) == (0 : Int))) 16 (by kernel_rfl) (by kernel_rfl) rfl ?_
      intro ac42 En43
      refine any_pureR (d := some 30) En43 (v := .bool (((0 + (List.length hl) : Nat) : Int) == (0 : Int))) 17 (by kernel_rfl) (by kernel_rfl) rfl ?_
      intro ac44 En45
      refine any_pureR (d := some 12) En45 (v := .bool (((0 + (List.length hl) : Nat) : Int) == (0 : Int))) 18 (by kernel_rfl) (by kernel_rfl) rfl ?_
      intro ac46 En47
      exact any_end (by kernel_rfl) ⟨En47.sub (by kernel_rfl), wo9.pick [0, 1, 2] (by kernel_rfl) (by decide)⟩
    · rintro _ rfl
      refine op_loadbox (d := some 26) (t := 22) (b := b) (off := 2) (k := 0) (v := .slice ah (List.length hl) ch) En31 (by kernel_rfl) wo9 rfl rfl (by kernel_rfl) ?_
      intro ac48 En49
      refine any_pureR (d := some 27) En49 (v := .int .i64 ((List.length hl : Nat) : Int)) 14 (by kernel_rfl) (by kernel_rfl) rfl ?_
      intro ac50 En51
      refine any_at 8 (by kernel_rfl) rfl ?_
      refine op_loadbox (d := some 21) (t := 22) (b := b) (off := 1) (k := 0) (v := .slice af 0 cf) En51 (by kernel_rfl) wo9 rfl rfl (by kernel_rfl) ?_
      intro ac52 En53
      refine any_pureR (d := some 22) En53 (v := .int .i64 0) 9 (by kernel_rfl) (by kernel_rfl) rfl ?_
      intro ac54 En55
      refine any_pureR (d := some 28) En55 (v := .int .i64 (IntKind.wrap .i64 ((0 : Int) + ((List.length hl : Nat) : Int)))) 15 (by kernel_rfl) (by kernel_rfl) rfl ?_
      intro ac56 En57
      rw [Go.Dbr.wr64 (e := (0 : Int) + ((List.length hl : Nat) : Int)) (x := ((0 + (List.length hl) : Nat) : Int)) (by omega) (by omega) (by omega)] at En57
      refine any_pureR (d := some 29) En57 (v := .bool (((0 + (List.length hl) : Nat) : Int) == (0 : Int))) 16 (by kernel_rfl) (by kernel_rfl) rfl ?_
      intro ac58 En59
      refine any_pureR (d := some 30) En59 (v := .bool (((0 + (List.length hl) : Nat) : Int) == (0 : Int))) 17 (by kernel_rfl) (by kernel_rfl) rfl ?_
      intro ac60 En61
      refine any_pureR (d := some 12) En61 (v := .bool (((0 + (List.length hl) : Nat) : Int) == (0 : Int))) 18 (by kernel_rfl) (by kernel_rfl) rfl ?_
      intro ac62 En63
      exact any_end (by kernel_rfl) ⟨En63.sub (by kernel_rfl), wo9.pick [0, 1, 2] (by kernel_rfl) (by decide)⟩
  ·
    rintro ac64 wo65 ⟨En66, Hv67⟩
    refine then_normal ?_
    refine cond_at En66 (t := ((0 + (List.length hl) : Nat) : Int) == (0 : Int)) (by kernel_rfl) (fun hc68 => ?_) (fun hc68 => ?_)
    ·
      replace hc68 : ((0 + (List.length hl) : Nat) : Int) = (0 : Int) := by simpa using hc68
      refine wp_seq ?_
      refine region_from ?_  -- region 4
      refine d_pures [(0, .pointer (some ⟨b, 0, none⟩)), (1, .int .i64 n), (4, .slice none 0 0), (5, .int .i64 2)] [.slice none 0 0, .int .i64 2] 2 En66 (by kernel_rfl) (by kernel_rfl) rfl ?_
      intro ac69 En70
      refine from_end (by kernel_rfl) ?_
      refine then_normal ?_
      refine wp_ret ?_
      refine block_ret ?_
      refine then_ret ?_
      refine d_ret2 (t := 4) (u := 5) (v := .slice none 0 0) (x := .int .i64 2) En70 (by kernel_rfl) (by kernel_rfl) (by kernel_rfl) ?_
      have he : hl = [] := List.eq_nil_of_length_eq_zero (by omega)
      subst he
      exact ⟨af, cf, ah, ch, none, 0, 2, rfl, (Ev.nil (sz := 1) (T := 5) Hv67).pick [0, 1, 2, 3] (by kernel_rfl) (by decide), fun _ => rfl⟩
    ·
      replace hc68 : ¬ (((0 + (List.length hl) : Nat) : Int) = (0 : Int)) := by simpa using hc68
      refine wp_skip ?_
      refine block_normal ?_
      refine then_normal ?_
      refine wp_seq ?_
      refine region_from ?_  -- region 5
      refine d_pures [(0, .pointer (some ⟨b, 0, none⟩)), (1, .int .i64 n), (4, .slice none 0 0), (5, .int .i64 0), (31, .int .i64 n), (34, .pointer (some ⟨b, 2, none⟩))] [.int .i64 n, .pointer (some ⟨b, 0, none⟩), .pointer (some ⟨b, 0, none⟩), .pointer (some ⟨b, 2, none⟩)] 4 En66 (by kernel_rfl) (by kernel_rfl) rfl ?_
      intro ac71 En72
      refine from_op (by kernel_rfl) ?_
      refine op_loadbox (d := some 35) (t := 22) (b := b) (off := 2) (k := 0) (v := .slice ah (List.length hl) ch) En72 (by kernel_rfl) Hv67 rfl rfl (by kernel_rfl) ?_
      intro ac73 En74
      refine d_pures [(0, .pointer (some ⟨b, 0, none⟩)), (1, .int .i64 n), (4, .slice none 0 0), (5, .int .i64 0), (38, .int .i64 (if (0 : Int) < (if ((List.length hl : Nat) : Int) < n then ((List.length hl : Nat) : Int) else n) then (if ((List.length hl : Nat) : Int) < n then ((List.length hl : Nat) : Int) else n) else (0 : Int)))] [.int .i64 ((List.length hl : Nat) : Int), .int .i64 (if ((List.length hl : Nat) : Int) < n then ((List.length hl : Nat) : Int) else n), .int .i64 (if (0 : Int) < (if ((List.length hl : Nat) : Int) < n then ((List.length hl : Nat) : Int) else n) then (if ((List.length hl : Nat) : Int) < n then ((List.length hl : Nat) : Int) else n) else (0 : Int))] 8 En74 (by kernel_rfl) (by kernel_rfl) rfl ?_
      intro ac75 En76
      rw [clampTo_eq n (List.length hl)] at En76
      refine d_pures [(0, .pointer (some ⟨b, 0, none⟩)), (1, .int .i64 ((clampTo n (List.length hl) : Nat) : Int)), (4, .slice none 0 0), (5, .int .i64 0)] [.int .i64 ((clampTo n (List.length hl) : Nat) : Int)] 9 En76 (by kernel_rfl) (by kernel_rfl) rfl ?_
      intro ac77 En78
      refine from_end (by kernel_rfl) ?_
      refine then_normal ?_
      refine wp_seq ?_
      refine region_from ?_  -- region 6
      refine d_pures [(0, .pointer (some ⟨b, 0, none⟩)), (1, .int .i64 ((clampTo n (List.length hl) : Nat) : Int)), (4, .slice none 0 0), (5, .int .i64 0), (41, .pointer (some ⟨b, 2, none⟩))] [.pointer (some ⟨b, 0, none⟩), .pointer (some ⟨b, 0, none⟩), .pointer (some ⟨b, 2, none⟩)] 3 En78 (by kernel_rfl) (by kernel_rfl) rfl ?_
      intro ac79 En80
      refine from_op (by kernel_rfl) ?_
      refine op_loadbox (d := some 42) (t := 22) (b := b) (off := 2) (k := 0) (v := .slice ah (List.length hl) ch) En80 (by kernel_rfl) Hv67 rfl rfl (by kernel_rfl) ?_
      intro ac81 En82
      refine d_pures [(0, .pointer (some ⟨b, 0, none⟩)), (1, .int .i64 ((clampTo n (List.length hl) : Nat) : Int)), (4, .slice none 0 0), (5, .int .i64 0), (42, .slice ah (List.length hl) ch), (43, .int .i64 ((clampTo n (List.length hl) : Nat) : Int))] [.int .i64 ((clampTo n (List.length hl) : Nat) : Int)] 5 En82 (by kernel_rfl) (by kernel_rfl) rfl ?_
      intro ac83 En84
      refine from_op (by kernel_rfl) ?_
      have hcap85 := bys_vcap Hv67.heap (k := 2) rfl
      refine op_slice0 (d := some 44) (t := 22) (e := 5) (sz := 1) (len := List.length hl) (cap := ch) (hi := clampTo n (List.length hl)) (ao := ah) (lov := none) (hiv := (some (.int .i64 ((clampTo n (List.length hl) : Nat) : Int)))) En84 (by kernel_rfl) (by kernel_rfl) (by kernel_rfl) (by omega) (.inl ⟨rfl, rfl⟩) (.inr ⟨.i64, rfl⟩) ?_
      intro ac86 En87
      refine from_op (by kernel_rfl) ?_
      have Hv88 : Ev w [.box b [.int .i64 ((r : Nat) : Int), .slice af 0 cf, .slice ah (List.length hl) ch, .bool true, .bool false] 62, .vec af cf 1 (bys []) 5, .vec ah ch 1 (bys hl) 5] wo65 [.box b [.int .i64 ((r : Nat) : Int), .slice af 0 cf, .slice ah (List.length hl) ch, .bool true, .bool false] 62, .vec af cf 1 (bys []) 5, .vec ah ch 1 (bys hl) 5, .vec none 0 1 (bys []) 5] := Ev.nil (sz := 1) (T := 5) Hv67
      refine op_append (d := some 45) (t := 22) (tx := 22) (ty := 22) (T := 5) (k := 3) (ao := none) (cap := 0) (sz := 1) (p := 0) (m := clampTo n (List.length hl)) (xs := bys []) (ys := bys (List.take (clampTo n (List.length hl)) hl)) (x := .slice ah (clampTo n (List.length hl)) ch) (bytes := 1) En87 (by kernel_rfl) Hv88 rfl (bys_lenn (by simp)) (Reads.src (size := 1) (tx := 22) (e' := 5) (by kernel_rfl) (bys_take_reads (Hv88.heap.reads (k := 2) rfl) (clampTo n (List.length hl))) (bys_lenn (by first | (simp; done) | (simp; omega))) (fun e => by have := (bys_vnz Hv67.heap (k := 2) rfl) e; omega) (bys_one _)) (by kernel_rfl) (z := .int .u8 0) (by kernel_rfl) rfl (by decide) (by omega) (by unfold maxLen; omega) ?_
      intro ac93 wo94 ao89 cp90 En95 Hv96 _ _
      rw [bys_nil_append] at Hv96
      have ehz91 : 0 + clampTo n (List.length hl) = List.length (List.take (clampTo n (List.length hl)) hl) := (by first | (simp; done) | (simp; omega) | omega)
      rw [ehz91] at En95
      refine d_pures [(0, .pointer (some ⟨b, 0, none⟩)), (1, .int .i64 ((clampTo n (List.length hl) : Nat) : Int)), (4, .slice none 0 0), (5, .int .i64 0), (6, .slice ao89 (List.length (List.take (clampTo n (List.length hl)) hl)) cp90)] [.slice ao89 (List.length (List.take (clampTo n (List.length hl)) hl)) cp90] 8 En95 (by kernel_rfl) (by kernel_rfl) rfl ?_
      intro ac97 En98
      refine from_end (by kernel_rfl) ?_
      refine then_normal ?_
      refine wp_seq ?_
      refine region_from ?_  -- region 7
      refine d_pures [(0, .pointer (some ⟨b, 0, none⟩)), (1, .int .i64 ((clampTo n (List.length hl) : Nat) : Int)), (4, .slice none 0 0), (5, .int .i64 0), (6, .slice ao89 (List.length (List.take (clampTo n (List.length hl)) hl)) cp90), (46, .pointer (some ⟨b, 0, none⟩)), (49, .pointer (some ⟨b, 2, none⟩))] [.pointer (some ⟨b, 0, none⟩), .pointer (some ⟨b, 0, none⟩), .pointer (some ⟨b, 0, none⟩), .pointer (some ⟨b, 2, none⟩)] 4 En98 (by kernel_rfl) (by kernel_rfl) rfl ?_
      intro ac99 En100
      refine from_op (by kernel_rfl) ?_
      refine op_loadbox (d := some 50) (t := 22) (b := b) (off := 2) (k := 0) (v := .slice ah (List.length hl) ch) En100 (by kernel_rfl) Hv96 rfl rfl (by kernel_rfl) ?_
      intro ac101 En102
      refine d_pures [(0, .pointer (some ⟨b, 0, none⟩)), (1, .int .i64 ((clampTo n (List.length hl) : Nat) : Int)), (4, .slice none 0 0), (5, .int .i64 0), (6, .slice ao89 (List.length (List.take (clampTo n (List.length hl)) hl)) cp90), (46, .pointer (some ⟨b, 0, none⟩)), (50, .slice ah (List.length hl) ch), (51, .int .i64 ((clampTo n (List.length hl) : Nat) : Int))] [.int .i64 ((clampTo n (List.length hl) : Nat) : Int)] 6 En102 (by kernel_rfl) (by kernel_rfl) rfl ?_
      intro ac103 En104
      refine from_op (by kernel_rfl) ?_
      have hcap105 := bys_vcap Hv96.heap (k := 2) rfl
      refine op_slice (d := some 52) (t := 22) (e := 5) (sz := 1) (len := List.length hl) (cap := ch) (lo := clampTo n (List.length hl)) (hi := List.length hl) (ao := ah) (lov := (some (.int .i64 ((clampTo n (List.length hl) : Nat) : Int)))) (hiv := none) En104 (by kernel_rfl) (by kernel_rfl) (by kernel_rfl) (by omega) (by omega) (.inr ⟨.i64, rfl⟩) (.inl ⟨rfl, rfl⟩) ?_
      intro ac106 En107
      have Hv108 : Ev w [.box b [.int .i64 ((r : Nat) : Int), .slice af 0 cf, .slice ah (List.length hl) ch, .bool true, .bool false] 62, .vec af cf 1 (bys []) 5, .vec ah ch 1 (bys hl) 5] wo94 [.box b [.int .i64 ((r : Nat) : Int), .slice af 0 cf, .slice ah (List.length hl) ch, .bool true, .bool false] 62, .vec af cf 1 (bys []) 5, .vec (cutAt ah ch (clampTo n (List.length hl)) 1) (ch - (clampTo n (List.length hl))) 1 (bys (List.drop (clampTo n (List.length hl)) hl)) 5, .vec ao89 cp90 1 (bys (List.take (clampTo n (List.length hl)) hl)) 5] := by
        have h := Ev.cut (k := 2) (n := List.length hl) (sz := 1) Hv96 rfl (bys_len _) (by omega) (clampTo n (List.length hl)) (List.length hl) (by omega) (by omega)
        rw [bys_cutw (l := hl) (lo := clampTo n (List.length hl)) (n := List.length hl) (by simp)] at h
        exact h
      refine d_pures [(0, .pointer (some ⟨b, 0, none⟩)), (1, .int .i64 ((clampTo n (List.length hl) : Nat) : Int)), (4, .slice none 0 0), (5, .int .i64 0), (6, .slice ao89 (List.length (List.take (clampTo n (List.length hl)) hl)) cp90), (52, .slice (cutAt ah ch (clampTo n (List.length hl)) 1) ((List.length hl) - (clampTo n (List.length hl))) (ch - (clampTo n (List.length hl)))), (54, .pointer (some ⟨b, 2, none⟩))] [.pointer (some ⟨b, 0, none⟩), .pointer (some ⟨b, 2, none⟩)] 9 En107 (by kernel_rfl) (by kernel_rfl) rfl ?_
      intro ac109 En110
      refine from_op (by kernel_rfl) ?_
      refine op_storebox2 (d := none) (t := 22) (b := b) (off := 2) (k := 0) (v := .slice (cutAt ah ch (clampTo n (List.length hl)) 1) ((List.length hl) - (clampTo n (List.length hl))) (ch - (clampTo n (List.length hl)))) (old := .slice ah (List.length hl) ch) En110 (by kernel_rfl) Hv108 rfl rfl (by kernel_rfl) rfl rfl (L' := [.box b [.int .i64 ((r : Nat) : Int), .slice af 0 cf, .slice (cutAt ah ch (clampTo n (List.length hl)) 1) ((List.length hl) - (clampTo n (List.length hl))) (ch - (clampTo n (List.length hl))), .bool true, .bool false] 62, .vec af cf 1 (bys []) 5, .vec (cutAt ah ch (clampTo n (List.length hl)) 1) (ch - (clampTo n (List.length hl))) 1 (bys (List.drop (clampTo n (List.length hl)) hl)) 5, .vec ao89 cp90 1 (bys (List.take (clampTo n (List.length hl)) hl)) 5]) rfl ?_
      intro ac111 wo112  En113 Hv114
      refine from_end (by kernel_rfl) ?_
      refine then_normal ?_
      refine wp_seq ?_
      refine region_from ?_  -- region 8
      refine d_pures [(0, .pointer (some ⟨b, 0, none⟩)), (1, .int .i64 ((clampTo n (List.length hl) : Nat) : Int)), (4, .slice ao89 (List.length (List.take (clampTo n (List.length hl)) hl)) cp90), (5, .int .i64 1)] [.slice ao89 (List.length (List.take (clampTo n (List.length hl)) hl)) cp90, .slice ao89 (List.length (List.take (clampTo n (List.length hl)) hl)) cp90, .int .i64 1] 3 En113 (by kernel_rfl) (by kernel_rfl) rfl ?_
      intro ac115 En116
      refine from_end (by kernel_rfl) ?_
      refine then_normal ?_
      refine wp_ret ?_
      refine d_ret2 (t := 4) (u := 5) (v := .slice ao89 (List.length (List.take (clampTo n (List.length hl)) hl)) cp90) (x := .int .i64 1) En116 (by kernel_rfl) (by kernel_rfl) (by kernel_rfl) ?_
      have hk : clampTo n (List.length hl) = List.length hl := clampTo_all _ _ hn
      rw [hk] at Hv114
      rw [List.take_length, List.drop_length, Nat.sub_self] at Hv114
      rw [hk]
      exact ⟨af, cf, cutAt ah ch (List.length hl) 1, ch - (List.length hl), ao89, cp90, 1, by rw [List.take_length], Hv114.pick [0, 1, 2, 3] (by kernel_rfl) (by decide), fun he => by subst he; simp at *⟩

theorem close_prog (b : Nat) (x0 x1 x2 x3 x4 : Value) (w : World) (hh : Heap w [.box b [x0, x1, x2, x3, x4] 62]) : Calls Try.prog 20 #[.pointer (some ⟨b, 0, none⟩)] w fun e w' => e = .returned (.tuple #[]) ∧ Ev w [.box b [x0, x1, x2, x3, x4] 62] w' [.box b [x0, x1, x2, .bool true, x4] 62] := by
  refine d_start [(0, .pointer (some ⟨b, 0, none⟩))] 5 Go.Proofs.Try.func20 Go.Proofs.Try.ntmps20 rfl (by kernel_rfl) (by kernel_rfl) ?_
  intro act0 En0
  have Hv0 : Ev w [.box b [x0, x1, x2, x3, x4] 62] w [.box b [x0, x1, x2, x3, x4] 62] := Ev.refl (hh)
  refine region_from ?_  -- region 0
  refine d_pures [(4, .pointer (some ⟨b, 3, none⟩))] [.pointer (some ⟨b, 0, none⟩), .pointer (some ⟨b, 0, none⟩), .pointer (some ⟨b, 3, none⟩)] 3 En0 (by kernel_rfl) (by kernel_rfl) rfl ?_
  intro ac1 En2
  refine from_op (by kernel_rfl) ?_
  refine op_storebox2 (d := none) (t := 4) (b := b) (off := 3) (k := 0) (v := .bool true) (old := x3) En2 (by kernel_rfl) Hv0 rfl rfl (by kernel_rfl) rfl rfl (L' := [.box b [x0, x1, x2, .bool true, x4] 62]) rfl ?_
  intro ac3 wo4  En5 Hv6
  refine from_end (by kernel_rfl) ?_
  refine d_end0 En5 (by kernel_rfl) ?_
  exact ⟨rfl, Hv6⟩

theorem newpipe_good (r : Nat) (w : World) (h1 : 1 ≤ r) (h2 : r ≤ 65536) : Calls Try.prog 16 #[.int .i64 ((r : Nat) : Int)] w fun e w' => ∃ b, e = .returned (.tuple #[.pointer (some ⟨b, 0, none⟩), .int .i64 0]) ∧ Ev w [] w' [.box b [.int .i64 ((r : Nat) : Int), .slice none 0 0, .slice none 0 0, .bool false, .bool false] 62] := by
  refine d_start [(0, .int .i64 ((r : Nat) : Int))] 13 Go.Proofs.Try.func16 Go.Proofs.Try.ntmps16 rfl (by kernel_rfl) (by kernel_rfl) ?_
  intro act0 En0
  have Hv0 : Ev w [] w [] := Ev.refl (Heap.nil _)
  refine wp_seq ?_
  refine region_from ?_  -- region 0
  refine d_pures [(0, .int .i64 ((r : Nat) : Int)), (2, .pointer none), (3, .int .i64 0)] [.pointer none, .int .i64 0] 2 En0 (by kernel_rfl) (by kernel_rfl) rfl ?_
  intro ac1 En2
  refine from_end (by kernel_rfl) ?_
  refine then_normal ?_
  refine wp_seq ?_
  refine wp_seq ?_
  refine region_from ?_  -- region 1
  refine d_pures [(0, .int .i64 ((r : Nat) : Int)), (2, .pointer none), (3, .int .i64 0), (5, .bool (decide (((r : Nat) : Int) < (1 : Int))))] [.int .i64 ((r : Nat) : Int), .bool (decide (((r : Nat) : Int) < (1 : Int)))] 2 En2 (by kernel_rfl) (by kernel_rfl) rfl ?_
  intro ac3 En4
  rw [show (decide (((r : Nat) : Int) < (1 : Int))) = false from (by simp; omega)] at En4
  refine d_pures [(0, .int .i64 ((r : Nat) : Int)), (2, .pointer none), (3, .int .i64 0), (6, .bool false), (8, .bool (decide (((r : Nat) : Int) > (65536 : Int))))] [.bool false, .int .i64 ((r : Nat) : Int), .bool (decide (((r : Nat) : Int) > (65536 : Int)))] 5 En4 (by kernel_rfl) (by kernel_rfl) rfl ?_
  intro ac5 En6
  rw [show (decide (((r : Nat) : Int) > (65536 : Int))) = false from (by simp; omega)] at En6
  refine d_pures [(0, .int .i64 ((r : Nat) : Int)), (2, .pointer none), (3, .int .i64 0), (9, .bool false)] [.bool false] 6 En6 (by kernel_rfl) (by kernel_rfl) rfl ?_
  intro ac7 En8
  refine from_end (by kernel_rfl) ?_
  refine then_normal ?_
  refine cond_false En8 (t := false) (by kernel_rfl) rfl ?_
  refine wp_skip ?_
  refine then_normal ?_
  refine wp_seq ?_
  refine region_from ?_  -- region 3
  refine d_pures [(0, .int .i64 ((r : Nat) : Int)), (2, .pointer none), (3, .int .i64 0), (11, .agg #[.int .i64 ((r : Nat) : Int), .slice none 0 0, .slice none 0 0, .bool false, .bool false])] [.int .i64 ((r : Nat) : Int), .agg #[.int .i64 ((r : Nat) : Int), .slice none 0 0, .slice none 0 0, .bool false, .bool false]] 2 En8 (by kernel_rfl) (by kernel_rfl) rfl ?_
  intro ac9 En10
  refine from_op (by kernel_rfl) ?_
  refine op_newbox (d := some 12) (T := 62) (v := .agg #[.int .i64 ((r : Nat) : Int), .slice none 0 0, .slice none 0 0, .bool false, .bool false]) (cs := [.int .i64 ((r : Nat) : Int), .slice none 0 0, .slice none 0 0, .bool false, .bool false]) En10 (by kernel_rfl) rfl Hv0 ?_
  intro ac12 wo13 bk11 En14 Hv15
  refine d_pures [(0, .int .i64 ((r : Nat) : Int)), (2, .pointer (some ⟨bk11, 0, none⟩)), (3, .int .i64 0)] [.pointer (some ⟨bk11, 0, none⟩), .int .i64 0] 5 En14 (by kernel_rfl) (by kernel_rfl) rfl ?_
  intro ac16 En17
  refine from_end (by kernel_rfl) ?_
  refine then_normal ?_
  refine wp_ret ?_
  refine d_ret2 (t := 2) (u := 3) (v := .pointer (some ⟨bk11, 0, none⟩)) (x := .int .i64 0) En17 (by kernel_rfl) (by kernel_rfl) (by kernel_rfl) ?_
  exact ⟨bk11, rfl, Hv15⟩

theorem newpipe_bad (room : Int) (w : World) (h : room < 1 ∨ 65536 < room) : Calls Try.prog 16 #[.int .i64 room] w fun e w' => e = .returned (.tuple #[.pointer none, .int .i64 1]) ∧ Ev w [] w' [] := by
  refine d_start [(0, .int .i64 room)] 13 Go.Proofs.Try.func16 Go.Proofs.Try.ntmps16 rfl (by kernel_rfl) (by kernel_rfl) ?_
  intro act0 En0
  have Hv0 : Ev w [] w [] := Ev.refl (Heap.nil _)
  refine wp_seq ?_
  refine region_from ?_  -- region 0
  refine d_pures [(0, .int .i64 room), (2, .pointer none), (3, .int .i64 0)] [.pointer none, .int .i64 0] 2 En0 (by kernel_rfl) (by kernel_rfl) rfl ?_
  intro ac1 En2
  refine from_end (by kernel_rfl) ?_
  refine then_normal ?_
  refine wp_seq ?_
  refine wp_seq ?_
  refine region_from ?_  -- region 1
  refine d_pures [(0, .int .i64 room), (2, .pointer none), (3, .int .i64 0), (6, .bool (decide (room < (1 : Int))))] [.int .i64 room, .bool (decide (room < (1 : Int))), .bool (decide (room < (1 : Int)))] 3 En2 (by kernel_rfl) (by kernel_rfl) rfl ?_
  intro ac3 En4
  rcases Bool.eq_false_or_eq_true (decide (room < (1 : Int))) with hb5 | hb5
  · rw [hb5] at En4
    have hp6 : room < (1 : Int) := by simpa using hb5
    refine d_pures [(0, .int .i64 room), (2, .pointer none), (3, .int .i64 0), (9, .bool true)] [undef, undef, .bool true] 6 En4 (by kernel_rfl) (by kernel_rfl) rfl ?_
    intro ac7 En8
    refine from_end (by kernel_rfl) ?_
    refine then_normal ?_
    refine cond_true En8 (t := true) (by kernel_rfl) rfl ?_
    refine wp_seq ?_
    refine region_from ?_  -- region 2
    refine d_pures [(0, .int .i64 room), (2, .pointer none), (3, .int .i64 1)] [.pointer none, .int .i64 1] 2 En8 (by kernel_rfl) (by kernel_rfl) rfl ?_
    intro ac9 En10
    refine from_end (by kernel_rfl) ?_
    refine then_normal ?_
    refine wp_ret ?_
    refine then_ret ?_
    refine d_ret2 (t := 2) (u := 3) (v := .pointer none) (x := .int .i64 1) En10 (by kernel_rfl) (by kernel_rfl) (by kernel_rfl) ?_
    exact ⟨rfl, Hv0⟩
  · rw [hb5] at En4
    have hp11 : ¬ (room < (1 : Int)) := by simpa using hb5
    refine d_pures [(0, .int .i64 room), (2, .pointer none), (3, .int .i64 0), (9, .bool (decide (room > (65536 : Int))))] [.int .i64 room, .bool (decide (room > (65536 : Int))), .bool (decide (room > (65536 : Int)))] 6 En4 (by kernel_rfl) (by kernel_rfl) rfl ?_
    intro ac12 En13
    refine from_end (by kernel_rfl) ?_
    refine then_normal ?_
    refine cond_at En13 (t := decide (room > (65536 : Int))) (by kernel_rfl) (fun hc14 => ?_) (fun hc14 => ?_)
    ·
      replace hc14 : room > (65536 : Int) := by simpa using hc14
      refine wp_seq ?_
      refine region_from ?_  -- region 2
      refine d_pures [(0, .int .i64 room), (2, .pointer none), (3, .int .i64 1)] [.pointer none, .int .i64 1] 2 En13 (by kernel_rfl) (by kernel_rfl) rfl ?_
      intro ac15 En16
      refine from_end (by kernel_rfl) ?_
      refine then_normal ?_
      refine wp_ret ?_
      refine then_ret ?_
      refine d_ret2 (t := 2) (u := 3) (v := .pointer none) (x := .int .i64 1) En16 (by kernel_rfl) (by kernel_rfl) (by kernel_rfl) ?_
      exact ⟨rfl, Hv0⟩
    ·
      replace hc14 : ¬ (room > (65536 : Int)) := by simpa using hc14
      refine wp_skip ?_
      refine then_normal ?_
      refine wp_seq ?_
      refine region_from ?_  -- region 3
      refine d_pures [(0, .int .i64 room), (2, .pointer none), (3, .int .i64 0), (11, .agg #[.int .i64 room, .slice none 0 0, .slice none 0 0, .bool false, .bool false])] [.int .i64 room, .agg #[.int .i64 room, .slice none 0 0, .slice none 0 0, .bool false, .bool false]] 2 En13 (by kernel_rfl) (by kernel_rfl) rfl ?_
      intro ac17 En18
      refine from_op (by kernel_rfl) ?_
      refine op_newbox (d := some 12) (T := 62) (v := .agg #[.int .i64 room, .slice none 0 0, .slice none 0 0, .bool false, .bool false]) (cs := [.int .i64 room, .slice none 0 0, .slice none 0 0, .bool false, .bool false]) En18 (by kernel_rfl) rfl Hv0 ?_
      intro ac20 wo21 bk19 En22 Hv23
      refine d_pures [(0, .int .i64 room), (2, .pointer (some ⟨bk19, 0, none⟩)), (3, .int .i64 0)] [.pointer (some ⟨bk19, 0, none⟩), .int .i64 0] 5 En22 (by kernel_rfl) (by kernel_rfl) rfl ?_
      intro ac24 En25
      refine from_end (by kernel_rfl) ?_
      refine then_normal ?_
      refine wp_ret ?_
      refine d_ret2 (t := 2) (u := 3) (v := .pointer (some ⟨bk19, 0, none⟩)) (x := .int .i64 0) En25 (by kernel_rfl) (by kernel_rfl) (by kernel_rfl) ?_
      exfalso; simp at *; omega

end Go.Proofs.Ytjocdckmgdonjaa
