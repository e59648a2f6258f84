/- Layer 24: walks of what only reads. -/
import Derived.Test.YtjecaljhipfbfaaShape
import Derived.Test.YtjecaljhipfbfaaMap
namespace Go.Proofs.Ytjecaljhipfbfaa
open Go.Dbr
set_option maxRecDepth 100000
def begins (a b : List UInt8) : Bool := decide (a.length ≤ b.length) && (a == b.take a.length)

theorem begins_short {a b : List UInt8} (h : b.length < a.length) : begins a b = false := by unfold begins; rw [decide_eq_false (by omega)]; rfl
theorem begins_long {a b : List UInt8} (h : a.length ≤ b.length) : begins a b = (a == b.take a.length) := by unfold begins; rw [decide_eq_true h]; rfl

theorem begins_ref (w : World) (ax : Option Addr) (nx cx : Nat) (lx : List UInt8) (ex : nx = List.length lx) (ix : InB w [] ax cx lx) (ay : Option Addr) (ny cy : Nat) (ly : List UInt8) (ey : ny = List.length ly) (iy : InB w [] ay cy ly) : Calls Try.prog 30 #[.slice ax nx cx, .slice ay ny cy] w fun e w' => e = .returned (.bool (begins lx ly)) ∧ Ev w [] w' [] := by
  subst ex ey
  have hs := ix.small
  have hs2 := iy.small
  have hc2 := iy.cap
  have hc1 := ix.cap
  refine d_start [(0, .slice ax (List.length lx) cx), (1, .slice ay (List.length ly) cy)] 20 Go.Proofs.Try.func30 Go.Proofs.Try.ntmps30 rfl (by kernel_rfl) (by kernel_rfl) ?_
  intro act0 En0
  have Hv0 : Ev w [] w [] := Ev.refl (Heap.nil _)
  refine wp_seq ?_
  refine region_from ?_  -- region 0
  refine d_pures [(0, .slice ax (List.length lx) cx), (1, .slice ay (List.length ly) cy), (4, .bool false)] [.bool false] 1 En0 (by kernel_rfl) (by kernel_rfl) rfl ?_
  intro ac1 En2
  refine from_end (by kernel_rfl) ?_
  refine then_normal ?_
  refine wp_seq ?_
  rcases Bool.eq_false_or_eq_true (decide (((List.length lx : Nat) : Int) ≤ ((List.length ly : Nat) : Int))) with hb3 | hb3
  ·
    have hb3p : ((List.length lx : Nat) : Int) ≤ ((List.length ly : Nat) : Int) := of_decide_eq_true hb3
    refine region_cut (F := fun ac wo => Env ac 20 [(4, .bool (lx == (List.take (List.length lx) ly)))] ∧ Ev w [] wo []) ?_ ?_
    ·
      refine draw_any (by kernel_rfl) 16 (by kernel_rfl) ?_  -- region 1
      have wo4 := Hv0.trans (Ev.drew Hv0.heap)
      refine any_pureR (d := some 5) En2 (v := .slice ax (List.length lx) cx) 0 (by kernel_rfl) (by kernel_rfl) rfl ?_
      intro ac5 En6
      refine any_pureR (d := some 6) En6 (v := .int .i64 ((List.length lx : Nat) : Int)) 1 (by kernel_rfl) (by kernel_rfl) rfl ?_
      intro ac7 En8
      refine any_pureR (d := some 7) En8 (v := .slice ay (List.length ly) cy) 2 (by kernel_rfl) (by kernel_rfl) rfl ?_
      intro ac9 En10
      refine any_pureR (d := some 8) En10 (v := .int .i64 ((List.length ly : Nat) : Int)) 3 (by kernel_rfl) (by kernel_rfl) rfl ?_
      intro ac11 En12
      refine any_pureR (d := some 9) En12 (v := .bool (decide (((List.length lx : Nat) : Int) ≤ ((List.length ly : Nat) : Int)))) 4 (by kernel_rfl) (by kernel_rfl) rfl ?_
      intro ac13 En14
      refine any_pureR (d := some 10) En14 (v := .bool (decide (((List.length lx : Nat) : Int) ≤ ((List.length ly : Nat) : Int)))) 5 (by kernel_rfl) (by kernel_rfl) rfl ?_
      intro ac15 En16
      rw [hb3] at En16
      refine any_pureR (d := some 11) En16 (v := .slice ax (List.length lx) cx) 6 (by kernel_rfl) (by kernel_rfl) rfl ?_
      intro ac17 En18
      refine any_pureR (d := some 13) En18 (v := .slice ay (List.length ly) cy) 8 (by kernel_rfl) (by kernel_rfl) rfl ?_
      intro ac19 En20
      refine any_pureR (d := some 14) En20 (v := .slice ax (List.length lx) cx) 9 (by kernel_rfl) (by kernel_rfl) rfl ?_
      intro ac21 En22
      refine any_pureR (d := some 15) En22 (v := .int .i64 ((List.length lx : Nat) : Int)) 10 (by kernel_rfl) (by kernel_rfl) rfl ?_
      intro ac23 En24
      refine any_two 7 11 (by kernel_rfl) ?_ ?_
      · rintro _ rfl
        refine op_str (d := some 12) (src := 22) (dst := 9) (e := 5) (ao := ax) (cap := cx) (p := List.length lx) (bs := lx) En24 (by kernel_rfl) rfl (by kernel_rfl) (by kernel_rfl) (by kernel_rfl) (ix.ev wo4).reads ix.nz ?_
        intro ac25 En26
        refine any_at 11 (by kernel_rfl) rfl ?_
        have hcap27 := iy.cap
        refine op_slice0 (d := some 16) (t := 22) (e := 5) (sz := 1) (len := List.length ly) (cap := cy) (hi := List.length lx) (ao := ay) (lov := none) (hiv := (some (.int .i64 ((List.length lx : Nat) : Int)))) En26 (by kernel_rfl) (by kernel_rfl) (by kernel_rfl) (by omega) (.inl ⟨rfl, rfl⟩) (.inr ⟨.i64, rfl⟩) ?_
        intro ac28 En29
        refine any_at 12 (by kernel_rfl) rfl ?_
        refine op_str (d := some 17) (src := 22) (dst := 9) (e := 5) (ao := ay) (cap := cy) (p := List.length lx) (bs := List.take (List.length lx) ly) En29 (by kernel_rfl) (by first | (simp; done) | (simp; omega) | omega) (by kernel_rfl) (by kernel_rfl) (by kernel_rfl) (bys_take_reads (iy.ev wo4).reads (List.length lx)) (fun e => by have := iy.nz e; omega) ?_
        intro ac30 En31
        refine any_pureR (d := some 18) En31 (v := .bool (ByteArray.toList (bstr lx) == ByteArray.toList (bstr (List.take (List.length lx) ly)))) 13 (by kernel_rfl) (by kernel_rfl) rfl ?_
        intro ac32 En33
        rw [Go.Dbr.bstr_eq lx (List.take (List.length lx) ly)] at En33
        refine any_pureR (d := some 19) En33 (v := .bool (lx == (List.take (List.length lx) ly))) 14 (by kernel_rfl) (by kernel_rfl) rfl ?_
        intro ac34 En35
        refine any_pureR (d := some 4) En35 (v := .bool (lx == (List.take (List.length lx) ly))) 15 (by kernel_rfl) (by kernel_rfl) rfl ?_
        intro ac36 En37
        exact any_end (by kernel_rfl) ⟨En37.sub (by kernel_rfl), wo4.pick [] (by kernel_rfl) (by decide)⟩
      · rintro _ rfl
        have hcap38 := iy.cap
        refine op_slice0 (d := some 16) (t := 22) (e := 5) (sz := 1) (len := List.length ly) (cap := cy) (hi := List.length lx) (ao := ay) (lov := none) (hiv := (some (.int .i64 ((List.length lx : Nat) : Int)))) En24 (by kernel_rfl) (by kernel_rfl) (by kernel_rfl) (by omega) (.inl ⟨rfl, rfl⟩) (.inr ⟨.i64, rfl⟩) ?_
        intro ac39 En40
        refine any_two 7 12 (by kernel_rfl) ?_ ?_
        · rintro _ rfl
          refine op_str (d := some 12) (src := 22) (dst := 9) (e := 5) (ao := ax) (cap := cx) (p := List.length lx) (bs := lx) En40 (by kernel_rfl) rfl (by kernel_rfl) (by kernel_rfl) (by kernel_rfl) (ix.ev wo4).reads ix.nz ?_
          intro ac41 En42
          refine any_at 12 (by kernel_rfl) rfl ?_
          refine op_str (d := some 17) (src := 22) (dst := 9) (e := 5) (ao := ay) (cap := cy) (p := List.length lx) (bs := List.take (List.length lx) ly) En42 (by kernel_rfl) (by first | (simp; done) | (simp; omega) | omega) (by kernel_rfl) (by kernel_rfl) (by kernel_rfl) (bys_take_reads (iy.ev wo4).reads (List.length lx)) (fun e => by have := iy.nz e; omega) ?_
          intro ac43 En44
          refine any_pureR (d := some 18) En44 (v := .bool (ByteArray.toList (bstr lx) == ByteArray.toList (bstr (List.take (List.length lx) ly)))) 13 (by kernel_rfl) (by kernel_rfl) rfl ?_
          intro ac45 En46
          rw [Go.Dbr.bstr_eq lx (List.take (List.length lx) ly)] at En46
          refine any_pureR (d := some 19) En46 (v := .bool (lx == (List.take (List.length lx) ly))) 14 (by kernel_rfl) (by kernel_rfl) rfl ?_
          intro ac47 En48
          refine any_pureR (d := some 4) En48 (v := .bool (lx == (List.take (List.length lx) ly))) 15 (by kernel_rfl) (by kernel_rfl) rfl ?_
          intro ac49 En50
          exact any_end (by kernel_rfl) ⟨En50.sub (by kernel_rfl), wo4.pick [] (by kernel_rfl) (by decide)⟩
        · rintro _ rfl
          refine op_str (d := some 17) (src := 22) (dst := 9) (e := 5) (ao := ay) (cap := cy) (p := List.length lx) (bs := List.take (List.length lx) ly) En40 (by kernel_rfl) (by first | (simp; done) | (simp; omega) | omega) (by kernel_rfl) (by kernel_rfl) (by kernel_rfl) (bys_take_reads (iy.ev wo4).reads (List.length lx)) (fun e => by have := iy.nz e; omega) ?_
          intro ac51 En52
          refine any_at 7 (by kernel_rfl) rfl ?_
          refine op_str (d := some 12) (src := 22) (dst := 9) (e := 5) (ao := ax) (cap := cx) (p := List.length lx) (bs := lx) En52 (by kernel_rfl) rfl (by kernel_rfl) (by kernel_rfl) (by kernel_rfl) (ix.ev wo4).reads ix.nz ?_
          intro ac53 En54
          refine any_pureR (d := some 18) En54 (v := .bool (ByteArray.toList (bstr lx) == ByteArray.toList (bstr (List.take (List.length lx) ly)))) 13 (by kernel_rfl) (by kernel_rfl) rfl ?_
          intro ac55 En56
          rw [Go.Dbr.bstr_eq lx (List.take (List.length lx) ly)] at En56
          refine any_pureR (d := some 19) En56 (v := .bool (lx == (List.take (List.length lx) ly))) 14 (by kernel_rfl) (by kernel_rfl) rfl ?_
          intro ac57 En58
          refine any_pureR (d := some 4) En58 (v := .bool (lx == (List.take (List.length lx) ly))) 15 (by kernel_rfl) (by kernel_rfl) rfl ?_
          intro ac59 En60
          exact any_end (by kernel_rfl) ⟨En60.sub (by kernel_rfl), wo4.pick [] (by kernel_rfl) (by decide)⟩
    rintro ac61 wo62 ⟨En63, Hv64⟩
    refine then_normal ?_
    refine wp_ret ?_
    refine d_ret1 (t := 4) (v := .bool (lx == (List.take (List.length lx) ly))) En63 (by kernel_rfl) (by kernel_rfl) ?_
    refine ⟨?_, Hv64.pick [] (by kernel_rfl) (by decide)⟩
    rw [begins_long (by omega)]
  ·
    have hb3p : ¬ (((List.length lx : Nat) : Int) ≤ ((List.length ly : Nat) : Int)) := of_decide_eq_false hb3
    refine region_cut (F := fun ac wo => Env ac 20 [(4, .bool false)] ∧ Ev w [] wo []) ?_ ?_
    ·
      refine draw_any (by kernel_rfl) 16 (by kernel_rfl) ?_  -- region 1
      have wo65 := Hv0.trans (Ev.drew Hv0.heap)
      refine any_pureR (d := some 5) En2 (v := .slice ax (List.length lx) cx) 0 (by kernel_rfl) (by kernel_rfl) rfl ?_
      intro ac66 En67
      refine any_pureR (d := some 6) En67 (v := .int .i64 ((List.length lx : Nat) : Int)) 1 (by kernel_rfl) (by kernel_rfl) rfl ?_
      intro ac68 En69
      refine any_pureR (d := some 7) En69 (v := .slice ay (List.length ly) cy) 2 (by kernel_rfl) (by kernel_rfl) rfl ?_
      intro ac70 En71
      refine any_pureR (d := some 8) En71 (v := .int .i64 ((List.length ly : Nat) : Int)) 3 (by kernel_rfl) (by kernel_rfl) rfl ?_
      intro ac72 En73
      refine any_pureR (d := some 9) En73 (v := .bool (decide (((List.length lx : Nat) : Int) ≤ ((List.length ly : Nat) : Int)))) 4 (by kernel_rfl) (by kernel_rfl) rfl ?_
      intro ac74 En75
      refine any_pureR (d := some 10) En75 (v := .bool (decide (((List.length lx : Nat) : Int) ≤ ((List.length ly : Nat) : Int)))) 5 (by kernel_rfl) (by kernel_rfl) rfl ?_
      intro ac76 En77
      rw [hb3] at En77
      refine any_skip (d := some 11) En77 6 (by kernel_rfl) (by kernel_rfl) rfl ?_
      intro ac78 En79
      refine any_skip (d := some 12) En79 7 (by kernel_rfl) (by kernel_rfl) rfl ?_
      intro ac80 En81
      refine any_skip (d := some 13) En81 8 (by kernel_rfl) (by kernel_rfl) rfl ?_
      intro ac82 En83
      refine any_skip (d := some 14) En83 9 (by kernel_rfl) (by kernel_rfl) rfl ?_
      intro ac84 En85
      refine any_skip (d := some 15) En85 10 (by kernel_rfl) (by kernel_rfl) rfl ?_
      intro ac86 En87
      refine any_skip (d := some 16) En87 11 (by kernel_rfl) (by kernel_rfl) rfl ?_
      intro ac88 En89
      refine any_skip (d := some 17) En89 12 (by kernel_rfl) (by kernel_rfl) rfl ?_
      intro ac90 En91
      refine any_skip (d := some 18) En91 13 (by kernel_rfl) (by kernel_rfl) rfl ?_
      intro ac92 En93
      refine any_pureR (d := some 19) En93 (v := .bool false) 14 (by kernel_rfl) (by kernel_rfl) rfl ?_
      intro ac94 En95
      refine any_pureR (d := some 4) En95 (v := .bool false) 15 (by kernel_rfl) (by kernel_rfl) rfl ?_
      intro ac96 En97
      exact any_end (by kernel_rfl) ⟨En97.sub (by kernel_rfl), wo65.pick [] (by kernel_rfl) (by decide)⟩
    rintro ac98 wo99 ⟨En100, Hv101⟩
    refine then_normal ?_
    refine wp_ret ?_
    refine d_ret1 (t := 4) (v := .bool false) En100 (by kernel_rfl) (by kernel_rfl) ?_
    refine ⟨?_, Hv101.pick [] (by kernel_rfl) (by decide)⟩
    rw [begins_short (by omega)]

theorem equal_go (w : World) (ax : Option Addr) (nx cx : Nat) (lx : List UInt8) (ex : nx = List.length lx) (ix : InB w [] ax cx lx) (ay : Option Addr) (ny cy : Nat) (ly : List UInt8) (ey : ny = List.length ly) (iy : InB w [] ay cy ly) : Calls Try.prog 31 #[.slice ax nx cx, .slice ay ny cy] w fun e w' => e = .returned (.bool (lx == ly)) ∧ Ev w [] w' [] := by
  subst ex ey
  have hs := ix.small
  have hs2 := iy.small
  have hc2 := iy.cap
  have hc1 := ix.cap
  refine d_start [(0, .slice ax (List.length lx) cx), (1, .slice ay (List.length ly) cy)] 10 Go.Proofs.Try.func31 Go.Proofs.Try.ntmps31 rfl (by kernel_rfl) (by kernel_rfl) ?_
  intro act0 En0
  have Hv0 : Ev w [] w [] := Ev.refl (Heap.nil _)
  refine wp_seq ?_
  refine region_from ?_  -- region 0
  refine d_pures [(0, .slice ax (List.length lx) cx), (1, .slice ay (List.length ly) cy), (4, .bool false)] [.bool false] 1 En0 (by kernel_rfl) (by kernel_rfl) rfl ?_
  intro ac1 En2
  refine from_end (by kernel_rfl) ?_
  refine then_normal ?_
  refine wp_seq ?_
  refine region_from ?_  -- region 1
  refine d_pures [(1, .slice ay (List.length ly) cy), (4, .bool false), (5, .slice ax (List.length lx) cx)] [.slice ax (List.length lx) cx] 1 En2 (by kernel_rfl) (by kernel_rfl) rfl ?_
  intro ac3 En4
  refine from_op (by kernel_rfl) ?_
  refine op_str (d := some 6) (src := 22) (dst := 9) (e := 5) (ao := ax) (cap := cx) (p := List.length lx) (bs := lx) En4 (by kernel_rfl) rfl (by kernel_rfl) (by kernel_rfl) (by kernel_rfl) (ix.ev Hv0).reads ix.nz ?_
  intro ac5 En6
  refine d_pures [(4, .bool false), (6, .string (bstr lx)), (7, .slice ay (List.length ly) cy)] [.slice ay (List.length ly) cy] 3 En6 (by kernel_rfl) (by kernel_rfl) rfl ?_
  intro ac7 En8
  refine from_op (by kernel_rfl) ?_
  refine op_str (d := some 8) (src := 22) (dst := 9) (e := 5) (ao := ay) (cap := cy) (p := List.length ly) (bs := ly) En8 (by kernel_rfl) rfl (by kernel_rfl) (by kernel_rfl) (by kernel_rfl) (iy.ev Hv0).reads iy.nz ?_
  intro ac9 En10
  refine d_pures [(4, .bool false), (9, .bool (ByteArray.toList (bstr lx) == ByteArray.toList (bstr ly)))] [.bool (ByteArray.toList (bstr lx) == ByteArray.toList (bstr ly))] 5 En10 (by kernel_rfl) (by kernel_rfl) rfl ?_
  intro ac11 En12
  rw [Go.Dbr.bstr_eq lx ly] at En12
  refine d_pures [(4, .bool (lx == ly))] [.bool (lx == ly)] 6 En12 (by kernel_rfl) (by kernel_rfl) rfl ?_
  intro ac13 En14
  refine from_end (by kernel_rfl) ?_
  refine then_normal ?_
  refine wp_ret ?_
  refine d_ret1 (t := 4) (v := .bool (lx == ly)) En14 (by kernel_rfl) (by kernel_rfl) ?_
  exact ⟨rfl, Hv0.pick [] (by kernel_rfl) (by decide)⟩

theorem beq_comm_bytes (a b : List UInt8) : (a == b) = (b == a) := by rw [Bool.eq_iff_iff, beq_iff_eq, beq_iff_eq]; exact eq_comm

theorem hasprefix_go (w : World) (ax : Option Addr) (nx cx : Nat) (lx : List UInt8) (ex : nx = List.length lx) (ix : InB w [] ax cx lx) (ay : Option Addr) (ny cy : Nat) (ly : List UInt8) (ey : ny = List.length ly) (iy : InB w [] ay cy ly) : Calls Try.prog 29 #[.slice ax nx cx, .slice ay ny cy] w fun e w' => e = .returned (.bool (begins ly lx)) ∧ Ev w [] w' [] := by
  subst ex ey
  have hs := ix.small
  have hs2 := iy.small
  have hc2 := iy.cap
  have hc1 := ix.cap
  refine d_start [(0, .slice ax (List.length lx) cx), (1, .slice ay (List.length ly) cy)] 18 Go.Proofs.Try.func29 Go.Proofs.Try.ntmps29 rfl (by kernel_rfl) (by kernel_rfl) ?_
  intro act0 En0
  have Hv0 : Ev w [] w [] := Ev.refl (Heap.nil _)
  refine wp_seq ?_
  refine region_from ?_  -- region 0
  refine d_pures [(0, .slice ax (List.length lx) cx), (1, .slice ay (List.length ly) cy), (4, .bool false)] [.bool false] 1 En0 (by kernel_rfl) (by kernel_rfl) rfl ?_
  intro ac1 En2
  refine from_end (by kernel_rfl) ?_
  refine then_normal ?_
  refine wp_seq ?_
  refine region_from ?_  -- region 1
  refine d_pures [(0, .slice ax (List.length lx) cx), (1, .slice ay (List.length ly) cy), (4, .bool false), (10, .bool (decide (((List.length lx : Nat) : Int) ≥ ((List.length ly : Nat) : Int))))] [.slice ax (List.length lx) cx, .int .i64 ((List.length lx : Nat) : Int), .slice ay (List.length ly) cy, .int .i64 ((List.length ly : Nat) : Int), .bool (decide (((List.length lx : Nat) : Int) ≥ ((List.length ly : Nat) : Int))), .bool (decide (((List.length lx : Nat) : Int) ≥ ((List.length ly : Nat) : Int)))] 6 En2 (by kernel_rfl) (by kernel_rfl) rfl ?_
  intro ac3 En4
  rcases Bool.eq_false_or_eq_true (decide (((List.length lx : Nat) : Int) ≥ ((List.length ly : Nat) : Int))) with hb5 | hb5
  · rw [hb5] at En4
    have hp6 : ((List.length lx : Nat) : Int) ≥ ((List.length ly : Nat) : Int) := of_decide_eq_true hb5
    refine d_pures [(1, .slice ay (List.length ly) cy), (4, .bool false), (10, .bool true), (11, .slice ax (List.length lx) cx), (13, .int .i64 ((List.length ly : Nat) : Int))] [.slice ax (List.length lx) cx, .slice ay (List.length ly) cy, .int .i64 ((List.length ly : Nat) : Int)] 9 En4 (by kernel_rfl) (by kernel_rfl) rfl ?_
    intro ac7 En8
    refine from_op (by kernel_rfl) ?_
    have hcap9 := ix.cap
    refine op_slice0 (d := some 14) (t := 22) (e := 5) (sz := 1) (len := List.length lx) (cap := cx) (hi := List.length ly) (ao := ax) (lov := none) (hiv := (some (.int .i64 ((List.length ly : Nat) : Int)))) En8 (by kernel_rfl) (by kernel_rfl) (by kernel_rfl) (by omega) (.inl ⟨rfl, rfl⟩) (.inr ⟨.i64, rfl⟩) ?_
    intro ac10 En11
    refine d_pures [(4, .bool false), (10, .bool true), (14, .slice ax (List.length ly) cx), (15, .slice ay (List.length ly) cy)] [.slice ay (List.length ly) cy] 11 En11 (by kernel_rfl) (by kernel_rfl) rfl ?_
    intro ac12 En13
    refine from_op (by kernel_rfl) ?_
    have hM14 : Heap w [] := Hv0.heap.pick [] (by kernel_rfl) (by decide)
    refine op_call (d := some 16) (f := 31) (args := #[.slice ax (List.length ly) cx, .slice ay (List.length ly) cy]) En13 (by kernel_rfl) ((equal_go _ ax (List.length ly) cx (List.take (List.length ly) lx) (by first | rfl | (simp; done) | (simp; omega) | omega) (((ix.ev Hv0).pick [] (by kernel_rfl)).take (List.length ly)) ay (List.length ly) cy ly (by first | rfl | (simp; done) | (simp; omega) | omega) ((iy.ev Hv0).pick [] (by kernel_rfl))).mono ?_)
    rintro _ wo16 ⟨rfl, he19⟩
    refine ⟨_, rfl, ?_⟩
    intro ac15 En17
    have Hv18 : Ev w [] wo16 [] := Hv0.trans (Ev.call (R := []) Hv0.heap [] (by kernel_rfl) (by decide) he19)
    clear hM14 he19
    refine d_pures [(4, .bool ((List.take (List.length ly) lx) == ly))] [.bool ((List.take (List.length ly) lx) == ly), .bool ((List.take (List.length ly) lx) == ly)] 14 En17 (by kernel_rfl) (by kernel_rfl) rfl ?_
    intro ac20 En21
    refine from_end (by kernel_rfl) ?_
    refine then_normal ?_
    refine wp_ret ?_
    refine d_ret1 (t := 4) (v := .bool ((List.take (List.length ly) lx) == ly)) En21 (by kernel_rfl) (by kernel_rfl) ?_
    refine ⟨?_, Hv18.pick [] (by kernel_rfl) (by decide)⟩
    rw [begins_long (by omega), beq_comm_bytes]
  · rw [hb5] at En4
    have hp22 : ¬ (((List.length lx : Nat) : Int) ≥ ((List.length ly : Nat) : Int)) := of_decide_eq_false hb5
    refine d_pures [(4, .bool false)] [undef, undef, undef, undef, undef, undef, .bool false, .bool false] 14 En4 (by kernel_rfl) (by kernel_rfl) rfl ?_
    intro ac23 En24
    refine from_end (by kernel_rfl) ?_
    refine then_normal ?_
    refine wp_ret ?_
    refine d_ret1 (t := 4) (v := .bool false) En24 (by kernel_rfl) (by kernel_rfl) ?_
    refine ⟨?_, Hv0.pick [] (by kernel_rfl) (by decide)⟩
    rw [begins_short (by omega)]

theorem grow_nil (w : World) (n : Nat) (hn : n ≤ 140737488351232) : Calls Try.prog 43 #[.slice none 0 0, .int .i64 ((n : Nat) : Int)] w fun e w' => ∃ ao co, e = .returned (.slice ao 0 co) ∧ Ev w [] w' [.vec ao co 1 (bys []) 5] := by
  refine d_start [(0, .slice none 0 0), (1, .int .i64 ((n : Nat) : Int))] 27 Go.Proofs.Try.func43 Go.Proofs.Try.ntmps43 rfl (by kernel_rfl) (by kernel_rfl) ?_
  intro act0 En0
  have Hv0 : Ev w [] w [] := Ev.refl (Heap.nil _)
  refine wp_seq ?_
  refine region_from ?_  -- region 0
  refine d_pures [(0, .slice none 0 0), (1, .int .i64 ((n : Nat) : Int)), (4, .slice none 0 0)] [.slice none 0 0] 1 En0 (by kernel_rfl) (by kernel_rfl) rfl ?_
  intro ac1 En2
  refine from_end (by kernel_rfl) ?_
  refine then_normal ?_
  refine wp_seq ?_
  refine wp_seq ?_
  refine region_from ?_  -- region 1
  refine d_pures [(0, .slice none 0 0), (1, .int .i64 ((n : Nat) : Int)), (4, .slice none 0 0), (6, .bool (decide (((n : Nat) : Int) < (0 : Int))))] [.int .i64 ((n : Nat) : Int), .bool (decide (((n : Nat) : Int) < (0 : Int)))] 2 En2 (by kernel_rfl) (by kernel_rfl) rfl ?_
  intro ac3 En4
  refine from_end (by kernel_rfl) ?_
  refine then_normal ?_
  refine cond_at En4 (t := decide (((n : Nat) : Int) < (0 : Int))) (by kernel_rfl) (fun hc5 => ?_) (fun hc5 => ?_)
  ·
    replace hc5 : ((n : Nat) : Int) < (0 : Int) := of_decide_eq_true hc5
    exfalso; omega
  ·
    replace hc5 : ¬ (((n : Nat) : Int) < (0 : Int)) := of_decide_eq_false hc5
    refine wp_skip ?_
    refine then_normal ?_
    refine wp_seq ?_
    refine wp_seq ?_
    refine region_from ?_  -- region 3
    refine d_pures [(0, .slice none 0 0), (1, .int .i64 ((n : Nat) : Int)), (4, .slice none 0 0), (14, .int .i64 (IntKind.wrap .i64 (((n : Nat) : Int) - (0 : Int))))] [.int .i64 ((n : Nat) : Int), .slice none 0 0, .int .i64 0, .slice none 0 0, .int .i64 0, .int .i64 0, .int .i64 (IntKind.wrap .i64 (((n : Nat) : Int) - (0 : Int)))] 7 En4 (by kernel_rfl) (by kernel_rfl) rfl ?_
    intro ac6 En7
    rw [Go.Dbr.wr64 (e := ((n : Nat) : Int) - (0 : Int)) (x := ((n : Nat) : Int)) (by omega) (by omega) (by omega)] at En7
    refine d_pures [(0, .slice none 0 0), (1, .int .i64 ((n : Nat) : Int)), (4, .slice none 0 0)] [.int .i64 ((n : Nat) : Int)] 8 En7 (by kernel_rfl) (by kernel_rfl) rfl ?_
    intro ac8 En9
    refine from_end (by kernel_rfl) ?_
    refine then_normal ?_
    refine wp_seq ?_
    refine region_from ?_  -- region 4
    refine d_pures [(0, .slice none 0 0), (1, .int .i64 ((n : Nat) : Int)), (4, .slice none 0 0), (16, .bool (decide (((n : Nat) : Int) > (0 : Int))))] [.int .i64 ((n : Nat) : Int), .bool (decide (((n : Nat) : Int) > (0 : Int)))] 2 En9 (by kernel_rfl) (by kernel_rfl) rfl ?_
    intro ac10 En11
    refine from_end (by kernel_rfl) ?_
    refine then_normal ?_
    refine cond_at En11 (t := decide (((n : Nat) : Int) > (0 : Int))) (by kernel_rfl) (fun hc12 => ?_) (fun hc12 => ?_)
    ·
      replace hc12 : ((n : Nat) : Int) > (0 : Int) := of_decide_eq_true hc12
      refine region_from ?_  -- region 5
      refine d_pures [(0, .slice none 0 0), (1, .int .i64 ((n : Nat) : Int)), (4, .slice none 0 0), (20, .slice none 0 0), (21, .int .i64 ((n : Nat) : Int))] [.slice none 0 0, .slice none 0 0, .int .i64 0, .slice none 0 0, .int .i64 ((n : Nat) : Int)] 5 En11 (by kernel_rfl) (by kernel_rfl) rfl ?_
      intro ac13 En14
      refine from_op (by kernel_rfl) ?_
      refine op_growzero (d := some 22) (t := 22) (tn := 3) (ty := 22) (T := 5) (m := n) (ik := .i64) (kn := .i64) (z := .int .u8 0) (bytes := 1) En14 (by kernel_rfl) Hv0 (by kernel_rfl) (by kernel_rfl) (by kernel_rfl) (by kernel_rfl) (by omega) (by omega) (by unfold maxLen; omega) ?_
      intro acg wog ao15 cp16 Eng Hvg _
      replace Hvg : Ev w [] wog [.vec ao15 cp16 1 (bys (List.replicate n 0)) 5] := by have h := Hvg; rw [show List.replicate n (Value.int .u8 0) = bys (List.replicate n 0) from by simp [bys, bv]] at h; exact h
      refine d_pures [(0, .slice none 0 0), (1, .int .i64 ((n : Nat) : Int)), (4, .slice none 0 0), (22, .slice ao15 n cp16), (24, .int .i64 0)] [.slice none 0 0, .int .i64 0] 8 Eng (by kernel_rfl) (by kernel_rfl) rfl ?_
      intro ac17 En18
      refine from_op (by kernel_rfl) ?_
      have hcap19 := bys_vcap Hvg.heap (k := 0) rfl
      refine op_slice0 (d := some 25) (t := 22) (e := 5) (sz := 1) (len := n) (cap := cp16) (hi := 0) (ao := ao15) (lov := none) (hiv := (some (.int .i64 0))) En18 (by kernel_rfl) (by kernel_rfl) (by kernel_rfl) (by omega) (.inl ⟨rfl, rfl⟩) (.inr ⟨.i64, rfl⟩) ?_
      intro ac20 En21
      have Hv22 : Ev w [] wog [.vec ao15 cp16 1 (bys (List.take 0 (List.replicate n 0))) 5] := by
        have h := Ev.cut (k := 0) (n := n) (sz := 1) Hvg rfl (bys_lenn (by simp)) (by omega) 0 0 (by omega) (by omega)
        rw [cutAt_zero] at h
        rw [bys_cut0] at h
        exact h
      refine d_pures [(0, .slice ao15 0 cp16), (1, .int .i64 ((n : Nat) : Int)), (4, .slice none 0 0)] [.slice ao15 0 cp16] 10 En21 (by kernel_rfl) (by kernel_rfl) rfl ?_
      intro ac23 En24
      refine from_end (by kernel_rfl) ?_
      refine then_normal ?_
      refine wp_seq ?_
      refine region_from ?_  -- region 6
      refine d_pures [(0, .slice ao15 0 cp16), (1, .int .i64 ((n : Nat) : Int)), (4, .slice ao15 0 cp16)] [.slice ao15 0 cp16, .slice ao15 0 cp16] 2 En24 (by kernel_rfl) (by kernel_rfl) rfl ?_
      intro ac25 En26
      refine from_end (by kernel_rfl) ?_
      refine then_normal ?_
      refine wp_ret ?_
      refine d_ret1 (t := 4) (v := .slice ao15 0 cp16) En26 (by kernel_rfl) (by kernel_rfl) ?_
      exact ⟨ao15, cp16, rfl, Hv22.pick [0] (by kernel_rfl) (by decide)⟩
    ·
      replace hc12 : ¬ (((n : Nat) : Int) > (0 : Int)) := of_decide_eq_false hc12
      refine wp_skip ?_
      refine then_normal ?_
      refine wp_seq ?_
      refine region_from ?_  -- region 6
      refine d_pures [(0, .slice none 0 0), (1, .int .i64 ((n : Nat) : Int)), (4, .slice none 0 0)] [.slice none 0 0, .slice none 0 0] 2 En11 (by kernel_rfl) (by kernel_rfl) rfl ?_
      intro ac27 En28
      refine from_end (by kernel_rfl) ?_
      refine then_normal ?_
      refine wp_ret ?_
      refine d_ret1 (t := 4) (v := .slice none 0 0) En28 (by kernel_rfl) (by kernel_rfl) ?_
      exact ⟨none, 0, rfl, Ev.nil (sz := 1) (T := 5) Hv0⟩

theorem flat_take_succ {l : List (Sl UInt8)} {k : Nat} {x : Sl UInt8} (h : l[k]? = some x) : (l.take (k + 1)).flatMap (fun s => s.l) = (l.take k).flatMap (fun s => s.l) ++ x.l := by
  rw [List.take_add_one, h, List.flatMap_append]
  simp
theorem flat_take_le {l : List (Sl UInt8)} {k : Nat} {x : Sl UInt8} (h : l[k]? = some x) : ((l.take k).flatMap (fun s => s.l)).length + x.l.length ≤ (l.flatMap (fun s => s.l)).length := by
  have h1 := flat_take_succ h
  have h2 : l.flatMap (fun s => s.l) = (l.take (k + 1)).flatMap (fun s => s.l) ++ (l.drop (k + 1)).flatMap (fun s => s.l) := by rw [← List.flatMap_append, List.take_append_drop]
  rw [h2, h1]
  simp

theorem concat_go (w : World) (ax : Option Addr) (nx cx : Nat) (lx : List (Sl UInt8)) (ex : nx = List.length lx) (ix : InS (fun s : Sl UInt8 => s.f) 24 (fun x : Sl UInt8 => InB w [] x.a x.c x.l) w [] ax cx lx) (hT : List.length (List.flatMap (fun s : Sl UInt8 => s.l) lx) ≤ 140737488351232) : Calls Try.prog 42 #[.slice ax nx cx] w fun e w' => ∃ ao co, e = .returned (.slice ao (List.length (List.flatMap (fun s : Sl UInt8 => s.l) lx)) co) ∧ Ev w [] w' [.vec ao co 1 (bys (List.flatMap (fun s : Sl UInt8 => s.l) lx)) 5] := by
  subst ex
  have hs := ix.small
  have hc2 := ix.cap
  refine d_start [(0, .slice ax (List.length lx) cx)] 36 Go.Proofs.Try.func42 Go.Proofs.Try.ntmps42 rfl (by kernel_rfl) (by kernel_rfl) ?_
  intro act0 En0
  have Hv0 : Ev w [] w [] := Ev.refl (Heap.nil _)
  refine wp_seq ?_
  refine region_from ?_  -- region 0
  refine d_pures [(0, .slice ax (List.length lx) cx), (2, .slice none 0 0)] [.slice none 0 0] 1 En0 (by kernel_rfl) (by kernel_rfl) rfl ?_
  intro ac1 En2
  refine from_end (by kernel_rfl) ?_
  refine then_normal ?_
  refine wp_seq ?_
  refine region_from ?_  -- region 1
  refine d_pures [(0, .slice ax (List.length lx) cx), (2, .slice none 0 0), (3, .int .i64 0)] [.int .i64 0] 1 En2 (by kernel_rfl) (by kernel_rfl) rfl ?_
  intro ac3 En4
  refine from_end (by kernel_rfl) ?_
  refine then_normal ?_
  refine wp_seq ?_
  refine wp_seq ?_
  refine region_from ?_  -- region 2
  refine d_pures [(0, .slice ax (List.length lx) cx), (2, .slice none 0 0), (3, .int .i64 0), (9, .slice ax (List.length lx) cx), (10, .int .i64 ((List.length lx : Nat) : Int)), (11, .int .i64 0)] [.slice ax (List.length lx) cx, .int .i64 ((List.length lx : Nat) : Int), .int .i64 0] 3 En4 (by kernel_rfl) (by kernel_rfl) rfl ?_
  intro ac5 En6
  refine from_end (by kernel_rfl) ?_
  refine then_normal ?_
  refine wp_block ?_
  refine loop_m (fun ms7 ac wo => ∃ (k : Nat) (t : Nat), ms7 = (List.length lx - k : Nat) ∧ Env ac 36 [(0, .slice ax (List.length lx) cx), (2, .slice none 0 0), (3, .int .i64 ((t : Nat) : Int)), (9, .slice ax (List.length lx) cx), (10, .int .i64 ((List.length lx : Nat) : Int)), (11, .int .i64 ((k : Nat) : Int))] ∧ Ev w [] wo [] ∧ (k ≤ List.length lx) ∧ (t = List.length (List.flatMap (fun s : Sl UInt8 => s.l) (List.take k lx)))) ⟨_, 0, 0, rfl, En6.sub (by kernel_rfl), Hv0.pick [] (by kernel_rfl) (by decide), by omega, by rfl⟩ ?_
  rintro mm13 ac9 wo10 ⟨k, t, rfl, En11, Hv12, hk, ht⟩
  refine wp_seq ?_
  refine region_from ?_  -- region 3
  refine d_pures [(0, .slice ax (List.length lx) cx), (2, .slice none 0 0), (3, .int .i64 ((t : Nat) : Int)), (9, .slice ax (List.length lx) cx), (10, .int .i64 ((List.length lx : Nat) : Int)), (11, .int .i64 ((k : Nat) : Int)), (12, .bool (decide (((k : Nat) : Int) < ((List.length lx : Nat) : Int))))] [.bool (decide (((k : Nat) : Int) < ((List.length lx : Nat) : Int)))] 1 En11 (by kernel_rfl) (by kernel_rfl) rfl ?_
  intro ac14 En15
  refine from_end (by kernel_rfl) ?_
  refine then_normal ?_
  refine wp_seq ?_
  refine cond_at En15 (t := decide (((k : Nat) : Int) < ((List.length lx : Nat) : Int))) (by kernel_rfl) (fun hc16 => ?_) (fun hc16 => ?_)
  ·
    replace hc16 : ((k : Nat) : Int) < ((List.length lx : Nat) : Int) := of_decide_eq_true hc16
    refine wp_skip ?_
    refine then_normal ?_
    refine wp_seq ?_
    refine wp_block ?_
    refine wp_seq ?_
    refine region_from ?_  -- region 4
    refine from_op (by kernel_rfl) ?_
    refine op_index (d := some 13) (t := 32) (e := 22) (sz := 1) (len := List.length lx) (cap := cx) (j := k) (ao := ax) (k := .i64) (ix := ((k : Nat) : Int)) En15 (by kernel_rfl) ix.nz (by kernel_rfl) (by kernel_rfl) (by omega) (by omega) (jo := k) (Nat.mul_one _) ?_
    intro ac19 adr17 had18 En20
    have hb21 : k < List.length lx := by omega
    obtain ⟨⟨a_x23, c_x23, x23⟩, hx22⟩ : ∃ x, (lx)[k]? = some x := ⟨_, List.getElem?_eq_getElem hb21⟩
    obtain i_x23 := ix.each _ (List.mem_of_getElem? hx22)
    replace i_x23 : InB w [] a_x23 c_x23 x23 := i_x23
    refine from_op (by kernel_rfl) ?_
    refine op_loadf (d := some 14) (t := 22) (ad := adr17) (ao := ax) (ys := List.flatMap (fun s : Sl UInt8 => s.f) lx) (o := k) (v := .slice a_x23 (List.length x23) c_x23) En20 (by kernel_rfl) rfl (ix.ro.ev Hv12).reads had18 ((flat_get1 (fun _ _ => rfl) hx22).trans rfl) (by kernel_rfl) ?_
    intro ac24 En25
    refine d_pures [(0, .slice ax (List.length lx) cx), (2, .slice none 0 0), (3, .int .i64 ((t : Nat) : Int)), (5, .slice a_x23 (List.length x23) c_x23), (9, .slice ax (List.length lx) cx), (10, .int .i64 ((List.length lx : Nat) : Int)), (11, .int .i64 ((k : Nat) : Int))] [.slice a_x23 (List.length x23) c_x23] 3 En25 (by kernel_rfl) (by kernel_rfl) rfl ?_
    intro ac26 En27
    refine from_end (by kernel_rfl) ?_
    refine then_normal ?_
    refine wp_seq ?_
    refine region_from ?_  -- region 5
    have hqhx22 := flat_take_le hx22
    simp only at hqhx22
    rw [← ht] at hqhx22
    refine d_pures [(0, .slice ax (List.length lx) cx), (2, .slice none 0 0), (3, .int .i64 ((t : Nat) : Int)), (9, .slice ax (List.length lx) cx), (10, .int .i64 ((List.length lx : Nat) : Int)), (11, .int .i64 ((k : Nat) : Int)), (18, .int .i64 (IntKind.wrap .i64 (((t : Nat) : Int) + ((List.length x23 : Nat) : Int))))] [.int .i64 ((t : Nat) : Int), .slice a_x23 (List.length x23) c_x23, .int .i64 ((List.length x23 : Nat) : Int), .int .i64 (IntKind.wrap .i64 (((t : Nat) : Int) + ((List.length x23 : Nat) : Int)))] 4 En27 (by kernel_rfl) (by kernel_rfl) rfl ?_
    intro ac28 En29
    rw [Go.Dbr.wr64 (e := ((t : Nat) : Int) + ((List.length x23 : Nat) : Int)) (x := ((t + (List.length x23) : Nat) : Int)) (by omega) (by omega) (by omega)] at En29
    refine d_pures [(0, .slice ax (List.length lx) cx), (2, .slice none 0 0), (3, .int .i64 ((t + (List.length x23) : Nat) : Int)), (9, .slice ax (List.length lx) cx), (10, .int .i64 ((List.length lx : Nat) : Int)), (11, .int .i64 ((k : Nat) : Int))] [.int .i64 ((t + (List.length x23) : Nat) : Int)] 5 En29 (by kernel_rfl) (by kernel_rfl) rfl ?_
    intro ac30 En31
    refine from_end (by kernel_rfl) ?_
    refine then_normal ?_
    refine wp_seq ?_
    refine region_from ?_  -- region 6
    refine d_pures [(0, .slice ax (List.length lx) cx), (2, .slice none 0 0), (3, .int .i64 ((t + (List.length x23) : Nat) : Int)), (9, .slice ax (List.length lx) cx), (10, .int .i64 ((List.length lx : Nat) : Int)), (11, .int .i64 ((k : Nat) : Int)), (20, .bool (decide (((t + (List.length x23) : Nat) : Int) < (0 : Int))))] [.int .i64 ((t + (List.length x23) : Nat) : Int), .bool (decide (((t + (List.length x23) : Nat) : Int) < (0 : Int)))] 2 En31 (by kernel_rfl) (by kernel_rfl) rfl ?_
    intro ac32 En33
    refine from_end (by kernel_rfl) ?_
    refine then_normal ?_
    refine cond_at En33 (t := decide (((t + (List.length x23) : Nat) : Int) < (0 : Int))) (by kernel_rfl) (fun hc34 => ?_) (fun hc34 => ?_)
    ·
      replace hc34 : ((t + (List.length x23) : Nat) : Int) < (0 : Int) := of_decide_eq_true hc34
      exfalso; omega
    ·
      replace hc34 : ¬ (((t + (List.length x23) : Nat) : Int) < (0 : Int)) := of_decide_eq_false hc34
      refine wp_skip ?_
      refine block_normal ?_
      refine then_normal ?_
      refine region_from ?_  -- region 8
      refine d_pures [(0, .slice ax (List.length lx) cx), (2, .slice none 0 0), (3, .int .i64 ((t + (List.length x23) : Nat) : Int)), (9, .slice ax (List.length lx) cx), (10, .int .i64 ((List.length lx : Nat) : Int)), (11, .int .i64 ((k : Nat) : Int)), (22, .int .i64 (IntKind.wrap .i64 (((k : Nat) : Int) + (1 : Int))))] [.int .i64 (IntKind.wrap .i64 (((k : Nat) : Int) + (1 : Int)))] 1 En33 (by kernel_rfl) (by kernel_rfl) rfl ?_
      intro ac35 En36
      rw [Go.Dbr.wr64 (e := ((k : Nat) : Int) + (1 : Int)) (x := ((k + 1 : Nat) : Int)) (by omega) (by omega) (by omega)] at En36
      refine d_pures [(0, .slice ax (List.length lx) cx), (2, .slice none 0 0), (3, .int .i64 ((t + (List.length x23) : Nat) : Int)), (9, .slice ax (List.length lx) cx), (10, .int .i64 ((List.length lx : Nat) : Int)), (11, .int .i64 ((k + 1 : Nat) : Int))] [.int .i64 ((k + 1 : Nat) : Int)] 2 En36 (by kernel_rfl) (by kernel_rfl) rfl ?_
      intro ac37 En38
      refine from_end (by kernel_rfl) ?_
      refine then_normal ?_
      have hq := flat_take_le hx22
      refine ⟨_, ⟨k + 1, t + List.length x23, rfl, En38.sub (by kernel_rfl), Hv12.pick [] (by kernel_rfl) (by decide), by omega, by rw [flat_take_succ hx22, List.length_append, ht]⟩, ?_⟩
      omega
  ·
    replace hc16 : ¬ (((k : Nat) : Int) < ((List.length lx : Nat) : Int)) := of_decide_eq_false hc16
    refine wp_exit ?_
    refine then_exit ?_
    refine then_exit ?_
    refine block_exit ?_
    refine then_normal ?_
    refine wp_seq ?_
    refine region_from ?_  -- region 9
    refine d_pures [(0, .slice ax (List.length lx) cx), (2, .slice none 0 0), (3, .int .i64 ((t : Nat) : Int)), (9, .slice ax (List.length lx) cx), (10, .int .i64 ((List.length lx : Nat) : Int)), (11, .int .i64 ((k : Nat) : Int)), (23, .int .i64 ((t : Nat) : Int))] [.int .i64 ((t : Nat) : Int)] 1 En15 (by kernel_rfl) (by kernel_rfl) rfl ?_
    intro ac39 En40
    refine from_op (by kernel_rfl) ?_
    have hcc : t ≤ 140737488351232 := by rw [ht]; have := hT; rw [show List.take k lx = lx from List.take_of_length_le (by omega)]; omega
    have hM41 : Heap wo10 [] := Hv12.heap.pick [] (by kernel_rfl) (by decide)
    refine op_call (d := some 24) (f := 43) (args := #[.slice none 0 0, .int .i64 ((t : Nat) : Int)]) En40 (by kernel_rfl) ((grow_nil _ t hcc).mono ?_)
    rintro _ wo43 ⟨gao, gco, rfl, he46⟩
    refine ⟨_, rfl, ?_⟩
    intro ac42 En44
    have Hv45 : Ev w [] wo43 [.vec gao gco 1 (bys []) 5] := Hv12.trans (Ev.call (R := []) Hv12.heap [] (by kernel_rfl) (by decide) he46)
    clear hM41 he46
    refine d_pures [(0, .slice ax (List.length lx) cx), (2, .slice none 0 0), (3, .int .i64 ((t : Nat) : Int)), (6, .slice gao 0 gco), (9, .slice ax (List.length lx) cx), (10, .int .i64 ((List.length lx : Nat) : Int)), (11, .int .i64 ((k : Nat) : Int))] [.slice gao 0 gco] 3 En44 (by kernel_rfl) (by kernel_rfl) rfl ?_
    intro ac47 En48
    refine from_end (by kernel_rfl) ?_
    refine then_normal ?_
    refine wp_seq ?_
    refine wp_seq ?_
    refine region_from ?_  -- region 10
    refine d_pures [(0, .slice ax (List.length lx) cx), (2, .slice none 0 0), (3, .int .i64 ((t : Nat) : Int)), (6, .slice gao 0 gco), (9, .slice ax (List.length lx) cx), (10, .int .i64 ((List.length lx : Nat) : Int)), (11, .int .i64 ((k : Nat) : Int)), (25, .slice ax (List.length lx) cx), (26, .int .i64 ((List.length lx : Nat) : Int)), (27, .int .i64 0)] [.slice ax (List.length lx) cx, .int .i64 ((List.length lx : Nat) : Int), .int .i64 0] 3 En48 (by kernel_rfl) (by kernel_rfl) rfl ?_
    intro ac49 En50
    refine from_end (by kernel_rfl) ?_
    refine then_normal ?_
    refine wp_block ?_
    have htt : k = List.length lx := by omega
    refine loop_m (fun ms51 ac wo => ∃ (j : Nat) (lo : List UInt8) (xo : Option Addr) (yo : Nat), ms51 = (List.length lx - j : Nat) ∧ Env ac 36 [(0, .slice ax (List.length lx) cx), (2, .slice none 0 0), (3, .int .i64 ((t : Nat) : Int)), (6, .slice xo (List.length lo) yo), (9, .slice ax (List.length lx) cx), (10, .int .i64 ((List.length lx : Nat) : Int)), (11, .int .i64 ((k : Nat) : Int)), (25, .slice ax (List.length lx) cx), (26, .int .i64 ((List.length lx : Nat) : Int)), (27, .int .i64 ((j : Nat) : Int))] ∧ Ev w [] wo [.vec xo yo 1 (bys lo) 5] ∧ (j ≤ List.length lx) ∧ (lo = List.flatMap (fun s : Sl UInt8 => s.l) (List.take j lx))) ⟨_, 0, [], gao, gco, rfl, En50.sub (by kernel_rfl), Hv45.pick [0] (by kernel_rfl) (by decide), by omega, by rfl⟩ ?_
    rintro mm57 ac53 wo54 ⟨j, lo, xo, yo, rfl, En55, Hv56, hj, hlo⟩
    refine wp_seq ?_
    refine region_from ?_  -- region 11
    refine d_pures [(0, .slice ax (List.length lx) cx), (2, .slice none 0 0), (3, .int .i64 ((t : Nat) : Int)), (6, .slice xo (List.length lo) yo), (9, .slice ax (List.length lx) cx), (10, .int .i64 ((List.length lx : Nat) : Int)), (11, .int .i64 ((k : Nat) : Int)), (25, .slice ax (List.length lx) cx), (26, .int .i64 ((List.length lx : Nat) : Int)), (27, .int .i64 ((j : Nat) : Int)), (28, .bool (decide (((j : Nat) : Int) < ((List.length lx : Nat) : Int))))] [.bool (decide (((j : Nat) : Int) < ((List.length lx : Nat) : Int)))] 1 En55 (by kernel_rfl) (by kernel_rfl) rfl ?_
    intro ac58 En59
    refine from_end (by kernel_rfl) ?_
    refine then_normal ?_
    refine wp_seq ?_
    refine cond_at En59 (t := decide (((j : Nat) : Int) < ((List.length lx : Nat) : Int))) (by kernel_rfl) (fun hc60 => ?_) (fun hc60 => ?_)
    ·
      replace hc60 : ((j : Nat) : Int) < ((List.length lx : Nat) : Int) := of_decide_eq_true hc60
      refine wp_skip ?_
      refine then_normal ?_
      refine wp_seq ?_
      refine wp_block ?_
      refine wp_seq ?_
      refine region_from ?_  -- region 12
      refine from_op (by kernel_rfl) ?_
      refine op_index (d := some 29) (t := 32) (e := 22) (sz := 1) (len := List.length lx) (cap := cx) (j := j) (ao := ax) (k := .i64) (ix := ((j : Nat) : Int)) En59 (by kernel_rfl) ix.nz (by kernel_rfl) (by kernel_rfl) (by omega) (by omega) (jo := j) (Nat.mul_one _) ?_
      intro ac63 adr61 had62 En64
      have hb65 : j < List.length lx := by omega
      obtain ⟨⟨a_x67, c_x67, x67⟩, hx66⟩ : ∃ x, (lx)[j]? = some x := ⟨_, List.getElem?_eq_getElem hb65⟩
      obtain i_x67 := ix.each _ (List.mem_of_getElem? hx66)
      replace i_x67 : InB w [] a_x67 c_x67 x67 := i_x67
      refine from_op (by kernel_rfl) ?_
      refine op_loadf (d := some 30) (t := 22) (ad := adr61) (ao := ax) (ys := List.flatMap (fun s : Sl UInt8 => s.f) lx) (o := j) (v := .slice a_x67 (List.length x67) c_x67) En64 (by kernel_rfl) rfl (ix.ro.ev Hv56).reads had62 ((flat_get1 (fun _ _ => rfl) hx66).trans rfl) (by kernel_rfl) ?_
      intro ac68 En69
      refine d_pures [(0, .slice ax (List.length lx) cx), (2, .slice none 0 0), (3, .int .i64 ((t : Nat) : Int)), (6, .slice xo (List.length lo) yo), (8, .slice a_x67 (List.length x67) c_x67), (9, .slice ax (List.length lx) cx), (10, .int .i64 ((List.length lx : Nat) : Int)), (11, .int .i64 ((k : Nat) : Int)), (25, .slice ax (List.length lx) cx), (26, .int .i64 ((List.length lx : Nat) : Int)), (27, .int .i64 ((j : Nat) : Int))] [.slice a_x67 (List.length x67) c_x67] 3 En69 (by kernel_rfl) (by kernel_rfl) rfl ?_
      intro ac70 En71
      refine from_end (by kernel_rfl) ?_
      refine then_normal ?_
      refine region_from ?_  -- region 13
      refine d_pures [(0, .slice ax (List.length lx) cx), (2, .slice none 0 0), (3, .int .i64 ((t : Nat) : Int)), (6, .slice xo (List.length lo) yo), (9, .slice ax (List.length lx) cx), (10, .int .i64 ((List.length lx : Nat) : Int)), (11, .int .i64 ((k : Nat) : Int)), (25, .slice ax (List.length lx) cx), (26, .int .i64 ((List.length lx : Nat) : Int)), (27, .int .i64 ((j : Nat) : Int)), (31, .slice xo (List.length lo) yo), (32, .slice a_x67 (List.length x67) c_x67)] [.slice xo (List.length lo) yo, .slice a_x67 (List.length x67) c_x67] 2 En71 (by kernel_rfl) (by kernel_rfl) rfl ?_
      intro ac72 En73
      refine from_op (by kernel_rfl) ?_
      have hqa := flat_take_le hx66
      rw [← hlo] at hqa
      simp only at hqa
      refine op_append (d := some 33) (t := 22) (tx := 22) (ty := 22) (k := 0) (p := List.length lo) (m := List.length x67) (x := .slice a_x67 (List.length x67) c_x67) (bytes := 1) En73 (by kernel_rfl) Hv56 rfl (bys_len _) (Reads.src (size := 1) (tx := 22) (e' := 5) (by kernel_rfl) (i_x67.ev Hv56).reads (bys_len _) i_x67.nz (bys_one _)) (by kernel_rfl) (z := .int .u8 0) (by kernel_rfl) rfl (by decide) (by omega) (by unfold maxLen; omega) ?_
      intro ac78 wo79 ao74 cp75 En80 Hv81 _ _
      rw [← bys_append] at Hv81
      have ehz76 : (List.length lo) + List.length x67 = List.length (lo ++ x67) := (by first | (simp; done) | (simp; omega) | omega)
      rw [ehz76] at En80
      refine d_pures [(0, .slice ax (List.length lx) cx), (2, .slice none 0 0), (3, .int .i64 ((t : Nat) : Int)), (6, .slice ao74 (List.length (lo ++ x67)) cp75), (9, .slice ax (List.length lx) cx), (10, .int .i64 ((List.length lx : Nat) : Int)), (11, .int .i64 ((k : Nat) : Int)), (25, .slice ax (List.length lx) cx), (26, .int .i64 ((List.length lx : Nat) : Int)), (27, .int .i64 ((j : Nat) : Int))] [.slice ao74 (List.length (lo ++ x67)) cp75] 4 En80 (by kernel_rfl) (by kernel_rfl) rfl ?_
      intro ac82 En83
      refine from_end (by kernel_rfl) ?_
      refine block_normal ?_
      refine then_normal ?_
      refine region_from ?_  -- region 14
      refine d_pures [(0, .slice ax (List.length lx) cx), (2, .slice none 0 0), (3, .int .i64 ((t : Nat) : Int)), (6, .slice ao74 (List.length (lo ++ x67)) cp75), (9, .slice ax (List.length lx) cx), (10, .int .i64 ((List.length lx : Nat) : Int)), (11, .int .i64 ((k : Nat) : Int)), (25, .slice ax (List.length lx) cx), (26, .int .i64 ((List.length lx : Nat) : Int)), (27, .int .i64 ((j : Nat) : Int)), (34, .int .i64 (IntKind.wrap .i64 (((j : Nat) : Int) + (1 : Int))))] [.int .i64 (IntKind.wrap .i64 (((j : Nat) : Int) + (1 : Int)))] 1 En83 (by kernel_rfl) (by kernel_rfl) rfl ?_
      intro ac84 En85
      rw [Go.Dbr.wr64 (e := ((j : Nat) : Int) + (1 : Int)) (x := ((j + 1 : Nat) : Int)) (by omega) (by omega) (by omega)] at En85
      refine d_pures [(0, .slice ax (List.length lx) cx), (2, .slice none 0 0), (3, .int .i64 ((t : Nat) : Int)), (6, .slice ao74 (List.length (lo ++ x67)) cp75), (9, .slice ax (List.length lx) cx), (10, .int .i64 ((List.length lx : Nat) : Int)), (11, .int .i64 ((k : Nat) : Int)), (25, .slice ax (List.length lx) cx), (26, .int .i64 ((List.length lx : Nat) : Int)), (27, .int .i64 ((j + 1 : Nat) : Int))] [.int .i64 ((j + 1 : Nat) : Int)] 2 En85 (by kernel_rfl) (by kernel_rfl) rfl ?_
      intro ac86 En87
      refine from_end (by kernel_rfl) ?_
      refine then_normal ?_
      refine ⟨_, ⟨j + 1, lo ++ x67, ao74, cp75, rfl, En87.sub (by kernel_rfl), Hv81.pick [0] (by kernel_rfl) (by decide), by omega, by rw [flat_take_succ hx66, hlo]⟩, ?_⟩
      omega
    ·
      replace hc60 : ¬ (((j : Nat) : Int) < ((List.length lx : Nat) : Int)) := of_decide_eq_false hc60
      refine wp_exit ?_
      refine then_exit ?_
      refine then_exit ?_
      refine block_exit ?_
      refine then_normal ?_
      refine wp_seq ?_
      refine region_from ?_  -- region 15
      refine d_pures [(0, .slice ax (List.length lx) cx), (2, .slice xo (List.length lo) yo), (3, .int .i64 ((t : Nat) : Int)), (6, .slice xo (List.length lo) yo), (9, .slice ax (List.length lx) cx), (10, .int .i64 ((List.length lx : Nat) : Int)), (11, .int .i64 ((k : Nat) : Int)), (25, .slice ax (List.length lx) cx), (26, .int .i64 ((List.length lx : Nat) : Int)), (27, .int .i64 ((j : Nat) : Int))] [.slice xo (List.length lo) yo, .slice xo (List.length lo) yo] 2 En59 (by kernel_rfl) (by kernel_rfl) rfl ?_
      intro ac88 En89
      refine from_end (by kernel_rfl) ?_
      refine then_normal ?_
      refine wp_ret ?_
      refine d_ret1 (t := 2) (v := .slice xo (List.length lo) yo) En89 (by kernel_rfl) (by kernel_rfl) ?_
      have hjj : j = List.length lx := by omega
      subst hjj
      rw [List.take_length] at hlo
      subst hlo
      exact ⟨xo, yo, rfl, Hv56.pick [0] (by kernel_rfl) (by decide)⟩

end Go.Proofs.Ytjecaljhipfbfaa
