/- Ideal relays: reads, stories. -/
import Derived.Test.YtjecaljhipfbfaaJ7
namespace Go.Proofs.Ytjecaljhipfbfaa
open Go.Dbr
set_option maxRecDepth 100000
set_option maxHeartbeats 2000000
set_option linter.unusedVariables false
set_option linter.unusedSimpArgs false

theorem take_u (w : World) (b : Nat) (au ad ah ap aq ar av : Option Addr) (cu cd ch cp cq cr cv : Nat) (lu ld lh lp lq lr lv : List UInt8) (fc fe bc be : Bool) (n : Int) (hH : Heap w [.box b [.slice au (List.length lu) cu, .bool fc, .slice ad (List.length ld) cd, .bool bc, .slice ah (List.length lh) ch, .slice ap (List.length lp) cp, .slice aq (List.length lq) cq, .bool fc, .bool fe, .slice ar (List.length lr) cr, .slice av (List.length lv) cv, .bool bc, .bool be] 66, .vec au cu 1 (bys lu) 5]) (hS : List.length lu ≤ 140737488351232) : Calls Try.prog 37 #[.pointer (some ⟨b, 0, none⟩), .int .i64 n] w fun e w' => ∃ a0 c0 ao co, e = .returned (.slice ao (List.length (List.take (clampN n (List.length lu)) lu)) co) ∧ Ev w [.box b [.slice au (List.length lu) cu, .bool fc, .slice ad (List.length ld) cd, .bool bc, .slice ah (List.length lh) ch, .slice ap (List.length lp) cp, .slice aq (List.length lq) cq, .bool fc, .bool fe, .slice ar (List.length lr) cr, .slice av (List.length lv) cv, .bool bc, .bool be] 66, .vec au cu 1 (bys lu) 5] w' [.box b [.slice a0 (List.length (List.drop (clampN n (List.length lu)) lu)) c0, .bool fc, .slice ad (List.length ld) cd, .bool bc, .slice ah (List.length lh) ch, .slice ap (List.length lp) cp, .slice aq (List.length lq) cq, .bool fc, .bool fe, .slice ar (List.length lr) cr, .slice av (List.length lv) cv, .bool bc, .bool be] 66, .vec a0 c0 1 (bys (List.drop (clampN n (List.length lu)) lu)) 5, .vec ao co 1 (bys (List.take (clampN n (List.length lu)) lu)) 5] := by
  have hcl := clampN_le n (List.length lu)
  refine d_start [(0, .pointer (some ⟨b, 0, none⟩)), (1, .int .i64 n)] 31 Go.Proofs.Try.func37 Go.Proofs.Try.ntmps37 rfl (by kernel_rfl) (by kernel_rfl) ?_
  intro act0 En0
  have Hv0 : Ev w [.box b [.slice au (List.length lu) cu, .bool fc, .slice ad (List.length ld) cd, .bool bc, .slice ah (List.length lh) ch, .slice ap (List.length lp) cp, .slice aq (List.length lq) cq, .bool fc, .bool fe, .slice ar (List.length lr) cr, .slice av (List.length lv) cv, .bool bc, .bool be] 66, .vec au cu 1 (bys lu) 5] w [.box b [.slice au (List.length lu) cu, .bool fc, .slice ad (List.length ld) cd, .bool bc, .slice ah (List.length lh) ch, .slice ap (List.length lp) cp, .slice aq (List.length lq) cq, .bool fc, .bool fe, .slice ar (List.length lr) cr, .slice av (List.length lv) cv, .bool bc, .bool be] 66, .vec au cu 1 (bys lu) 5] := Ev.refl (hH)
  refine wp_seq ?_
  refine region_from ?_  -- region 0
  refine d_pures [(0, .pointer (some ⟨b, 0, none⟩)), (1, .int .i64 n), (4, .slice none 0 0)] [.slice none 0 0] 1 En0 (by kernel_rfl) (by kernel_rfl) rfl ?_
  intro ac1 En2
  refine from_end (by kernel_rfl) ?_
  refine then_normal ?_
  refine wp_seq ?_
  refine region_from ?_  -- region 1
  refine d_pures [(0, .pointer (some ⟨b, 0, none⟩)), (1, .int .i64 n), (4, .slice none 0 0), (6, .int .i64 n), (9, .pointer (some ⟨b, 0, none⟩))] [.int .i64 n, .pointer (some ⟨b, 0, none⟩), .pointer (some ⟨b, 0, none⟩), .pointer (some ⟨b, 0, none⟩)] 4 En2 (by kernel_rfl) (by kernel_rfl) rfl ?_
  intro ac3 En4
  refine from_op (by kernel_rfl) ?_
  refine op_loadbox (d := some 10) (t := 22) (b := b) (off := 0) (k := 0) (v := .slice au (List.length lu) cu) En4 (by kernel_rfl) Hv0 rfl rfl (by kernel_rfl) ?_
  intro ac5 En6
  refine d_pures [(0, .pointer (some ⟨b, 0, none⟩)), (1, .int .i64 n), (4, .slice none 0 0), (13, .int .i64 (if (0 : Int) < if ((List.length lu : Nat) : Int) < n then ((List.length lu : Nat) : Int) else n then if ((List.length lu : Nat) : Int) < n then ((List.length lu : Nat) : Int) else n else (0 : Int)))] [.int .i64 ((List.length lu : Nat) : Int), .int .i64 (if ((List.length lu : Nat) : Int) < n then ((List.length lu : Nat) : Int) else n), .int .i64 (if (0 : Int) < if ((List.length lu : Nat) : Int) < n then ((List.length lu : Nat) : Int) else n then if ((List.length lu : Nat) : Int) < n then ((List.length lu : Nat) : Int) else n else (0 : Int))] 8 En6 (by kernel_rfl) (by kernel_rfl) rfl ?_
  intro ac7 En8
  rw [show (if (0 : Int) < if ((List.length lu : Nat) : Int) < n then ((List.length lu : Nat) : Int) else n then if ((List.length lu : Nat) : Int) < n then ((List.length lu : Nat) : Int) else n else (0 : Int)) = ((clampN n (List.length lu) : Nat) : Int) from clamp_eq _ _] at En8
  refine d_pures [(0, .pointer (some ⟨b, 0, none⟩)), (1, .int .i64 ((clampN n (List.length lu) : Nat) : Int)), (4, .slice none 0 0)] [.int .i64 ((clampN n (List.length lu) : Nat) : Int)] 9 En8 (by kernel_rfl) (by kernel_rfl) rfl ?_
  intro ac9 En10
  refine from_end (by kernel_rfl) ?_
  refine then_normal ?_
  refine wp_seq ?_
  refine region_from ?_  -- region 2
  refine d_pures [(0, .pointer (some ⟨b, 0, none⟩)), (1, .int .i64 ((clampN n (List.length lu) : Nat) : Int)), (4, .slice none 0 0), (16, .pointer (some ⟨b, 0, none⟩))] [.pointer (some ⟨b, 0, none⟩), .pointer (some ⟨b, 0, none⟩), .pointer (some ⟨b, 0, none⟩)] 3 En10 (by kernel_rfl) (by kernel_rfl) rfl ?_
  intro ac11 En12
  refine from_op (by kernel_rfl) ?_
  refine op_loadbox (d := some 17) (t := 22) (b := b) (off := 0) (k := 0) (v := .slice au (List.length lu) cu) En12 (by kernel_rfl) Hv0 rfl rfl (by kernel_rfl) ?_
  intro ac13 En14
  refine d_pures [(0, .pointer (some ⟨b, 0, none⟩)), (1, .int .i64 ((clampN n (List.length lu) : Nat) : Int)), (4, .slice none 0 0), (17, .slice au (List.length lu) cu), (18, .int .i64 ((clampN n (List.length lu) : Nat) : Int))] [.int .i64 ((clampN n (List.length lu) : Nat) : Int)] 5 En14 (by kernel_rfl) (by kernel_rfl) rfl ?_
  intro ac15 En16
  refine from_op (by kernel_rfl) ?_
  have hcap17 := bys_vcap Hv0.heap (k := 1) rfl
  refine op_slice0 (d := some 19) (t := 22) (e := 5) (sz := 1) (len := List.length lu) (cap := cu) (hi := clampN n (List.length lu)) (ao := au) (lov := none) (hiv := (some (.int .i64 ((clampN n (List.length lu) : Nat) : Int)))) En16 (by kernel_rfl) (by kernel_rfl) (by kernel_rfl) (by omega) (.inl ⟨rfl, rfl⟩) (.inr ⟨.i64, rfl⟩) ?_
  intro ac18 En19
  refine from_op (by kernel_rfl) ?_
  have hM21 : Heap w [] := Hv0.heap.pick [] (by kernel_rfl) (by decide)
  refine op_call (d := some 20) (f := 35) (args := #[.slice au (clampN n (List.length lu)) cu]) En19 (by kernel_rfl) ((clone_go _ au (clampN n (List.length lu)) cu (List.take (clampN n (List.length lu)) lu) (by first | rfl | (simp; done) | (simp; omega) | omega) ((bys_in Hv0.heap (k := 1) rfl [] (by kernel_rfl) rfl (by first | omega | (simp; done) | (simp; omega))).take (clampN n (List.length lu)))).mono ?_)
  rintro _ wo23 ⟨aoq20, coq20, rfl, he26⟩
  refine ⟨_, rfl, ?_⟩
  intro ac22 En24
  have Hv25 : Ev w [.box b [.slice au (List.length lu) cu, .bool fc, .slice ad (List.length ld) cd, .bool bc, .slice ah (List.length lh) ch, .slice ap (List.length lp) cp, .slice aq (List.length lq) cq, .bool fc, .bool fe, .slice ar (List.length lr) cr, .slice av (List.length lv) cv, .bool bc, .bool be] 66, .vec au cu 1 (bys lu) 5] wo23 [.vec aoq20 coq20 1 (bys (List.take (clampN n (List.length lu)) lu)) 5, .box b [.slice au (List.length lu) cu, .bool fc, .slice ad (List.length ld) cd, .bool bc, .slice ah (List.length lh) ch, .slice ap (List.length lp) cp, .slice aq (List.length lq) cq, .bool fc, .bool fe, .slice ar (List.length lr) cr, .slice av (List.length lv) cv, .bool bc, .bool be] 66, .vec au cu 1 (bys lu) 5] := Hv0.trans (Ev.call (R := [.box b [.slice au (List.length lu) cu, .bool fc, .slice ad (List.length ld) cd, .bool bc, .slice ah (List.length lh) ch, .slice ap (List.length lp) cp, .slice aq (List.length lq) cq, .bool fc, .bool fe, .slice ar (List.length lr) cr, .slice av (List.length lv) cv, .bool bc, .bool be] 66, .vec au cu 1 (bys lu) 5]) Hv0.heap [0, 1] (by kernel_rfl) (by decide) he26)
  clear hM21 he26
  refine d_pures [(0, .pointer (some ⟨b, 0, none⟩)), (1, .int .i64 ((clampN n (List.length lu) : Nat) : Int)), (4, .slice none 0 0), (5, .slice aoq20 (List.length (List.take (clampN n (List.length lu)) lu)) coq20)] [.slice aoq20 (List.length (List.take (clampN n (List.length lu)) lu)) coq20] 8 En24 (by kernel_rfl) (by kernel_rfl) rfl ?_
  intro ac27 En28
  refine from_end (by kernel_rfl) ?_
  refine then_normal ?_
  refine wp_seq ?_
  refine region_from ?_  -- region 3
  refine d_pures [(0, .pointer (some ⟨b, 0, none⟩)), (1, .int .i64 ((clampN n (List.length lu) : Nat) : Int)), (4, .slice none 0 0), (5, .slice aoq20 (List.length (List.take (clampN n (List.length lu)) lu)) coq20), (21, .pointer (some ⟨b, 0, none⟩)), (24, .pointer (some ⟨b, 0, none⟩))] [.pointer (some ⟨b, 0, none⟩), .pointer (some ⟨b, 0, none⟩), .pointer (some ⟨b, 0, none⟩), .pointer (some ⟨b, 0, none⟩)] 4 En28 (by kernel_rfl) (by kernel_rfl) rfl ?_
  intro ac29 En30
  refine from_op (by kernel_rfl) ?_
  refine op_loadbox (d := some 25) (t := 22) (b := b) (off := 0) (k := 1) (v := .slice au (List.length lu) cu) En30 (by kernel_rfl) Hv25 rfl rfl (by kernel_rfl) ?_
  intro ac31 En32
  refine d_pures [(0, .pointer (some ⟨b, 0, none⟩)), (1, .int .i64 ((clampN n (List.length lu) : Nat) : Int)), (4, .slice none 0 0), (5, .slice aoq20 (List.length (List.take (clampN n (List.length lu)) lu)) coq20), (21, .pointer (some ⟨b, 0, none⟩)), (25, .slice au (List.length lu) cu), (26, .int .i64 ((clampN n (List.length lu) : Nat) : Int))] [.int .i64 ((clampN n (List.length lu) : Nat) : Int)] 6 En32 (by kernel_rfl) (by kernel_rfl) rfl ?_
  intro ac33 En34
  refine from_op (by kernel_rfl) ?_
  have hcap35 := bys_vcap Hv25.heap (k := 2) rfl
  refine op_slice (d := some 27) (t := 22) (e := 5) (sz := 1) (len := List.length lu) (cap := cu) (lo := clampN n (List.length lu)) (hi := List.length lu) (ao := au) (lov := (some (.int .i64 ((clampN n (List.length lu) : Nat) : Int)))) (hiv := none) En34 (by kernel_rfl) (by kernel_rfl) (by kernel_rfl) (by omega) (by omega) (.inr ⟨.i64, rfl⟩) (.inl ⟨rfl, rfl⟩) ?_
  intro ac36 En37
  have Hv38 : Ev w [.box b [.slice au (List.length lu) cu, .bool fc, .slice ad (List.length ld) cd, .bool bc, .slice ah (List.length lh) ch, .slice ap (List.length lp) cp, .slice aq (List.length lq) cq, .bool fc, .bool fe, .slice ar (List.length lr) cr, .slice av (List.length lv) cv, .bool bc, .bool be] 66, .vec au cu 1 (bys lu) 5] wo23 [.vec aoq20 coq20 1 (bys (List.take (clampN n (List.length lu)) lu)) 5, .box b [.slice au (List.length lu) cu, .bool fc, .slice ad (List.length ld) cd, .bool bc, .slice ah (List.length lh) ch, .slice ap (List.length lp) cp, .slice aq (List.length lq) cq, .bool fc, .bool fe, .slice ar (List.length lr) cr, .slice av (List.length lv) cv, .bool bc, .bool be] 66, .vec (cutAt au cu (clampN n (List.length lu)) 1) (cu - (clampN n (List.length lu))) 1 (bys (List.drop (clampN n (List.length lu)) lu)) 5] := by
    have h := Ev.cut (k := 2) (n := List.length lu) (sz := 1) Hv25 rfl (bys_len _) (by omega) (clampN n (List.length lu)) (List.length lu) (by omega) (by omega)
    rw [bys_cutw (l := lu) (lo := clampN n (List.length lu)) (n := List.length lu) (by simp)] at h
    exact h
  have el39 : (List.length lu) - (clampN n (List.length lu)) = List.length (List.drop (clampN n (List.length lu)) lu) := by first | (simp; done) | (simp; omega)
  rw [el39] at En37
  refine d_pures [(0, .pointer (some ⟨b, 0, none⟩)), (1, .int .i64 ((clampN n (List.length lu) : Nat) : Int)), (4, .slice none 0 0), (5, .slice aoq20 (List.length (List.take (clampN n (List.length lu)) lu)) coq20), (27, .slice (cutAt au cu (clampN n (List.length lu)) 1) (List.length (List.drop (clampN n (List.length lu)) lu)) (cu - (clampN n (List.length lu)))), (29, .pointer (some ⟨b, 0, none⟩))] [.pointer (some ⟨b, 0, none⟩), .pointer (some ⟨b, 0, none⟩)] 9 En37 (by kernel_rfl) (by kernel_rfl) rfl ?_
  intro ac40 En41
  refine from_op (by kernel_rfl) ?_
  refine op_storebox2 (d := none) (t := 22) (b := b) (off := 0) (k := 1) (v := .slice (cutAt au cu (clampN n (List.length lu)) 1) (List.length (List.drop (clampN n (List.length lu)) lu)) (cu - (clampN n (List.length lu)))) En41 (by kernel_rfl) Hv38 rfl rfl (by kernel_rfl) rfl rfl (L' := [.vec aoq20 coq20 1 (bys (List.take (clampN n (List.length lu)) lu)) 5, .box b [.slice (cutAt au cu (clampN n (List.length lu)) 1) (List.length (List.drop (clampN n (List.length lu)) lu)) (cu - (clampN n (List.length lu))), .bool fc, .slice ad (List.length ld) cd, .bool bc, .slice ah (List.length lh) ch, .slice ap (List.length lp) cp, .slice aq (List.length lq) cq, .bool fc, .bool fe, .slice ar (List.length lr) cr, .slice av (List.length lv) cv, .bool bc, .bool be] 66, .vec (cutAt au cu (clampN n (List.length lu)) 1) (cu - (clampN n (List.length lu))) 1 (bys (List.drop (clampN n (List.length lu)) lu)) 5]) rfl ?_
  intro ac42 wo43  En44 Hv45
  refine from_end (by kernel_rfl) ?_
  refine then_normal ?_
  refine wp_seq ?_
  refine region_from ?_  -- region 4
  refine d_pures [(0, .pointer (some ⟨b, 0, none⟩)), (1, .int .i64 ((clampN n (List.length lu) : Nat) : Int)), (4, .slice aoq20 (List.length (List.take (clampN n (List.length lu)) lu)) coq20)] [.slice aoq20 (List.length (List.take (clampN n (List.length lu)) lu)) coq20, .slice aoq20 (List.length (List.take (clampN n (List.length lu)) lu)) coq20] 2 En44 (by kernel_rfl) (by kernel_rfl) rfl ?_
  intro ac46 En47
  refine from_end (by kernel_rfl) ?_
  refine then_normal ?_
  refine wp_ret ?_
  refine d_ret1 (t := 4) (v := .slice aoq20 (List.length (List.take (clampN n (List.length lu)) lu)) coq20) En47 (by kernel_rfl) (by kernel_rfl) ?_
  exact ⟨cutAt au cu (clampN n (List.length lu)) 1, cu - (clampN n (List.length lu)), aoq20, coq20, rfl, Hv45.pick [1, 2, 0] (by kernel_rfl) (by decide)⟩

theorem done_u (w : World) (b : Nat) (au ad ah ap aq ar av : Option Addr) (cu cd ch cp cq cr cv : Nat) (lu ld lh lp lq lr lv : List UInt8) (fc fe bc be : Bool) (hH : Heap w [.box b [.slice au (List.length lu) cu, .bool fc, .slice ad (List.length ld) cd, .bool bc, .slice ah (List.length lh) ch, .slice ap (List.length lp) cp, .slice aq (List.length lq) cq, .bool fc, .bool fe, .slice ar (List.length lr) cr, .slice av (List.length lv) cv, .bool bc, .bool be] 66]) : Calls Try.prog 38 #[.pointer (some ⟨b, 0, none⟩)] w fun e w' => e = .returned (.bool (decide (List.length lu = 0) && fc)) ∧ Ev w [.box b [.slice au (List.length lu) cu, .bool fc, .slice ad (List.length ld) cd, .bool bc, .slice ah (List.length lh) ch, .slice ap (List.length lp) cp, .slice aq (List.length lq) cq, .bool fc, .bool fe, .slice ar (List.length lr) cr, .slice av (List.length lv) cv, .bool bc, .bool be] 66] w' [.box b [.slice au (List.length lu) cu, .bool fc, .slice ad (List.length ld) cd, .bool bc, .slice ah (List.length lh) ch, .slice ap (List.length lp) cp, .slice aq (List.length lq) cq, .bool fc, .bool fe, .slice ar (List.length lr) cr, .slice av (List.length lv) cv, .bool bc, .bool be] 66] := by
  refine d_start [(0, .pointer (some ⟨b, 0, none⟩))] 15 Go.Proofs.Try.func38 Go.Proofs.Try.ntmps38 rfl (by kernel_rfl) (by kernel_rfl) ?_
  intro act0 En0
  have Hv0 : Ev w [.box b [.slice au (List.length lu) cu, .bool fc, .slice ad (List.length ld) cd, .bool bc, .slice ah (List.length lh) ch, .slice ap (List.length lp) cp, .slice aq (List.length lq) cq, .bool fc, .bool fe, .slice ar (List.length lr) cr, .slice av (List.length lv) cv, .bool bc, .bool be] 66] w [.box b [.slice au (List.length lu) cu, .bool fc, .slice ad (List.length ld) cd, .bool bc, .slice ah (List.length lh) ch, .slice ap (List.length lp) cp, .slice aq (List.length lq) cq, .bool fc, .bool fe, .slice ar (List.length lr) cr, .slice av (List.length lv) cv, .bool bc, .bool be] 66] := Ev.refl (hH)
  refine wp_seq ?_
  refine region_from ?_  -- region 0
  refine d_pures [(0, .pointer (some ⟨b, 0, none⟩)), (2, .bool false)] [.bool false] 1 En0 (by kernel_rfl) (by kernel_rfl) rfl ?_
  intro ac1 En2
  refine from_end (by kernel_rfl) ?_
  refine then_normal ?_
  refine wp_seq ?_
  refine region_from ?_  -- region 1
  refine d_pures [(0, .pointer (some ⟨b, 0, none⟩)), (2, .bool false), (5, .pointer (some ⟨b, 0, none⟩))] [.pointer (some ⟨b, 0, none⟩), .pointer (some ⟨b, 0, none⟩), .pointer (some ⟨b, 0, none⟩)] 3 En2 (by kernel_rfl) (by kernel_rfl) rfl ?_
  intro ac3 En4
  refine from_op (by kernel_rfl) ?_
  refine op_loadbox (d := some 6) (t := 22) (b := b) (off := 0) (k := 0) (v := .slice au (List.length lu) cu) En4 (by kernel_rfl) Hv0 rfl rfl (by kernel_rfl) ?_
  intro ac5 En6
  refine d_pures [(0, .pointer (some ⟨b, 0, none⟩)), (2, .bool false), (9, .bool (((List.length lu : Nat) : Int) == (0 : Int)))] [.int .i64 ((List.length lu : Nat) : Int), .bool (((List.length lu : Nat) : Int) == (0 : Int)), .bool (((List.length lu : Nat) : Int) == (0 : Int))] 7 En6 (by kernel_rfl) (by kernel_rfl) rfl ?_
  intro ac7 En8
  rcases Bool.eq_false_or_eq_true (((List.length lu : Nat) : Int) == (0 : Int)) with hb9 | hb9
  · rw [hb9] at En8
    have hp10 : ((List.length lu : Nat) : Int) = (0 : Int) := eq_of_beq hb9
    refine d_pures [(2, .bool false), (9, .bool true), (12, .pointer (some ⟨b, 1, none⟩))] [.pointer (some ⟨b, 0, none⟩), .pointer (some ⟨b, 0, none⟩), .pointer (some ⟨b, 1, none⟩)] 10 En8 (by kernel_rfl) (by kernel_rfl) rfl ?_
    intro ac11 En12
    refine from_op (by kernel_rfl) ?_
    refine op_loadbox (d := some 13) (t := 4) (b := b) (off := 1) (k := 0) (v := .bool fc) En12 (by kernel_rfl) Hv0 rfl rfl (by kernel_rfl) ?_
    intro ac13 En14
    refine d_pures [(2, .bool fc)] [.bool fc, .bool fc] 13 En14 (by kernel_rfl) (by kernel_rfl) rfl ?_
    intro ac15 En16
    refine from_end (by kernel_rfl) ?_
    refine then_normal ?_
    refine wp_ret ?_
    refine d_ret1 (t := 2) (v := .bool fc) En16 (by kernel_rfl) (by kernel_rfl) ?_
    try simp at hp10
    have e : (fc) = (decide (List.length lu = 0) && fc) := by simp [hp10]
    exact ⟨by rw [← e], Hv0.pick [0] (by kernel_rfl) (by decide)⟩
  · rw [hb9] at En8
    have hp17 : ¬ (((List.length lu : Nat) : Int) = (0 : Int)) := ne_of_beq_false hb9
    refine d_pures [(2, .bool false)] [undef, undef, undef, undef, .bool false, .bool false] 13 En8 (by kernel_rfl) (by kernel_rfl) rfl ?_
    intro ac18 En19
    refine from_end (by kernel_rfl) ?_
    refine then_normal ?_
    refine wp_ret ?_
    refine d_ret1 (t := 2) (v := .bool false) En19 (by kernel_rfl) (by kernel_rfl) ?_
    try simp at hp17
    have e : (false) = (decide (List.length lu = 0) && fc) := by simp [hp17]
    exact ⟨by rw [← e], Hv0.pick [0] (by kernel_rfl) (by decide)⟩

theorem take_d (w : World) (b : Nat) (au ad ah ap aq ar av : Option Addr) (cu cd ch cp cq cr cv : Nat) (lu ld lh lp lq lr lv : List UInt8) (fc fe bc be : Bool) (n : Int) (hH : Heap w [.box b [.slice au (List.length lu) cu, .bool fc, .slice ad (List.length ld) cd, .bool bc, .slice ah (List.length lh) ch, .slice ap (List.length lp) cp, .slice aq (List.length lq) cq, .bool fc, .bool fe, .slice ar (List.length lr) cr, .slice av (List.length lv) cv, .bool bc, .bool be] 66, .vec ad cd 1 (bys ld) 5]) (hS : List.length ld ≤ 140737488351232) : Calls Try.prog 37 #[.pointer (some ⟨b, 2, none⟩), .int .i64 n] w fun e w' => ∃ a0 c0 ao co, e = .returned (.slice ao (List.length (List.take (clampN n (List.length ld)) ld)) co) ∧ Ev w [.box b [.slice au (List.length lu) cu, .bool fc, .slice ad (List.length ld) cd, .bool bc, .slice ah (List.length lh) ch, .slice ap (List.length lp) cp, .slice aq (List.length lq) cq, .bool fc, .bool fe, .slice ar (List.length lr) cr, .slice av (List.length lv) cv, .bool bc, .bool be] 66, .vec ad cd 1 (bys ld) 5] w' [.box b [.slice au (List.length lu) cu, .bool fc, .slice a0 (List.length (List.drop (clampN n (List.length ld)) ld)) c0, .bool bc, .slice ah (List.length lh) ch, .slice ap (List.length lp) cp, .slice aq (List.length lq) cq, .bool fc, .bool fe, .slice ar (List.length lr) cr, .slice av (List.length lv) cv, .bool bc, .bool be] 66, .vec a0 c0 1 (bys (List.drop (clampN n (List.length ld)) ld)) 5, .vec ao co 1 (bys (List.take (clampN n (List.length ld)) ld)) 5] := by
  have hcl := clampN_le n (List.length ld)
  refine d_start [(0, .pointer (some ⟨b, 2, none⟩)), (1, .int .i64 n)] 31 Go.Proofs.Try.func37 Go.Proofs.Try.ntmps37 rfl (by kernel_rfl) (by kernel_rfl) ?_
  intro act0 En0
  have Hv0 : Ev w [.box b [.slice au (List.length lu) cu, .bool fc, .slice ad (List.length ld) cd, .bool bc, .slice ah (List.length lh) ch, .slice ap (List.length lp) cp, .slice aq (List.length lq) cq, .bool fc, .bool fe, .slice ar (List.length lr) cr, .slice av (List.length lv) cv, .bool bc, .bool be] 66, .vec ad cd 1 (bys ld) 5] w [.box b [.slice au (List.length lu) cu, .bool fc, .slice ad (List.length ld) cd, .bool bc, .slice ah (List.length lh) ch, .slice ap (List.length lp) cp, .slice aq (List.length lq) cq, .bool fc, .bool fe, .slice ar (List.length lr) cr, .slice av (List.length lv) cv, .bool bc, .bool be] 66, .vec ad cd 1 (bys ld) 5] := Ev.refl (hH)
  refine wp_seq ?_
  refine region_from ?_  -- region 0
  refine d_pures [(0, .pointer (some ⟨b, 2, none⟩)), (1, .int .i64 n), (4, .slice none 0 0)] [.slice none 0 0] 1 En0 (by kernel_rfl) (by kernel_rfl) rfl ?_
  intro ac1 En2
  refine from_end (by kernel_rfl) ?_
  refine then_normal ?_
  refine wp_seq ?_
  refine region_from ?_  -- region 1
  refine d_pures [(0, .pointer (some ⟨b, 2, none⟩)), (1, .int .i64 n), (4, .slice none 0 0), (6, .int .i64 n), (9, .pointer (some ⟨b, 2, none⟩))] [.int .i64 n, .pointer (some ⟨b, 2, none⟩), .pointer (some ⟨b, 2, none⟩), .pointer (some ⟨b, 2, none⟩)] 4 En2 (by kernel_rfl) (by kernel_rfl) rfl ?_
  intro ac3 En4
  refine from_op (by kernel_rfl) ?_
  refine op_loadbox (d := some 10) (t := 22) (b := b) (off := 2) (k := 0) (v := .slice ad (List.length ld) cd) En4 (by kernel_rfl) Hv0 rfl rfl (by kernel_rfl) ?_
  intro ac5 En6
  refine d_pures [(0, .pointer (some ⟨b, 2, none⟩)), (1, .int .i64 n), (4, .slice none 0 0), (13, .int .i64 (if (0 : Int) < if ((List.length ld : Nat) : Int) < n then ((List.length ld : Nat) : Int) else n then if ((List.length ld : Nat) : Int) < n then ((List.length ld : Nat) : Int) else n else (0 : Int)))] [.int .i64 ((List.length ld : Nat) : Int), .int .i64 (if ((List.length ld : Nat) : Int) < n then ((List.length ld : Nat) : Int) else n), .int .i64 (if (0 : Int) < if ((List.length ld : Nat) : Int) < n then ((List.length ld : Nat) : Int) else n then if ((List.length ld : Nat) : Int) < n then ((List.length ld : Nat) : Int) else n else (0 : Int))] 8 En6 (by kernel_rfl) (by kernel_rfl) rfl ?_
  intro ac7 En8
  rw [show (if (0 : Int) < if ((List.length ld : Nat) : Int) < n then ((List.length ld : Nat) : Int) else n then if ((List.length ld : Nat) : Int) < n then ((List.length ld : Nat) : Int) else n else (0 : Int)) = ((clampN n (List.length ld) : Nat) : Int) from clamp_eq _ _] at En8
  refine d_pures [(0, .pointer (some ⟨b, 2, none⟩)), (1, .int .i64 ((clampN n (List.length ld) : Nat) : Int)), (4, .slice none 0 0)] [.int .i64 ((clampN n (List.length ld) : Nat) : Int)] 9 En8 (by kernel_rfl) (by kernel_rfl) rfl ?_
  intro ac9 En10
  refine from_end (by kernel_rfl) ?_
  refine then_normal ?_
  refine wp_seq ?_
  refine region_from ?_  -- region 2
  refine d_pures [(0, .pointer (some ⟨b, 2, none⟩)), (1, .int .i64 ((clampN n (List.length ld) : Nat) : Int)), (4, .slice none 0 0), (16, .pointer (some ⟨b, 2, none⟩))] [.pointer (some ⟨b, 2, none⟩), .pointer (some ⟨b, 2, none⟩), .pointer (some ⟨b, 2, none⟩)] 3 En10 (by kernel_rfl) (by kernel_rfl) rfl ?_
  intro ac11 En12
  refine from_op (by kernel_rfl) ?_
  refine op_loadbox (d := some 17) (t := 22) (b := b) (off := 2) (k := 0) (v := .slice ad (List.length ld) cd) En12 (by kernel_rfl) Hv0 rfl rfl (by kernel_rfl) ?_
  intro ac13 En14
  refine d_pures [(0, .pointer (some ⟨b, 2, none⟩)), (1, .int .i64 ((clampN n (List.length ld) : Nat) : Int)), (4, .slice none 0 0), (17, .slice ad (List.length ld) cd), (18, .int .i64 ((clampN n (List.length ld) : Nat) : Int))] [.int .i64 ((clampN n (List.length ld) : Nat) : Int)] 5 En14 (by kernel_rfl) (by kernel_rfl) rfl ?_
  intro ac15 En16
  refine from_op (by kernel_rfl) ?_
  have hcap17 := bys_vcap Hv0.heap (k := 1) rfl
  refine op_slice0 (d := some 19) (t := 22) (e := 5) (sz := 1) (len := List.length ld) (cap := cd) (hi := clampN n (List.length ld)) (ao := ad) (lov := none) (hiv := (some (.int .i64 ((clampN n (List.length ld) : Nat) : Int)))) En16 (by kernel_rfl) (by kernel_rfl) (by kernel_rfl) (by omega) (.inl ⟨rfl, rfl⟩) (.inr ⟨.i64, rfl⟩) ?_
  intro ac18 En19
  refine from_op (by kernel_rfl) ?_
  have hM21 : Heap w [] := Hv0.heap.pick [] (by kernel_rfl) (by decide)
  refine op_call (d := some 20) (f := 35) (args := #[.slice ad (clampN n (List.length ld)) cd]) En19 (by kernel_rfl) ((clone_go _ ad (clampN n (List.length ld)) cd (List.take (clampN n (List.length ld)) ld) (by first | rfl | (simp; done) | (simp; omega) | omega) ((bys_in Hv0.heap (k := 1) rfl [] (by kernel_rfl) rfl (by first | omega | (simp; done) | (simp; omega))).take (clampN n (List.length ld)))).mono ?_)
  rintro _ wo23 ⟨aoq20, coq20, rfl, he26⟩
  refine ⟨_, rfl, ?_⟩
  intro ac22 En24
  have Hv25 : Ev w [.box b [.slice au (List.length lu) cu, .bool fc, .slice ad (List.length ld) cd, .bool bc, .slice ah (List.length lh) ch, .slice ap (List.length lp) cp, .slice aq (List.length lq) cq, .bool fc, .bool fe, .slice ar (List.length lr) cr, .slice av (List.length lv) cv, .bool bc, .bool be] 66, .vec ad cd 1 (bys ld) 5] wo23 [.vec aoq20 coq20 1 (bys (List.take (clampN n (List.length ld)) ld)) 5, .box b [.slice au (List.length lu) cu, .bool fc, .slice ad (List.length ld) cd, .bool bc, .slice ah (List.length lh) ch, .slice ap (List.length lp) cp, .slice aq (List.length lq) cq, .bool fc, .bool fe, .slice ar (List.length lr) cr, .slice av (List.length lv) cv, .bool bc, .bool be] 66, .vec ad cd 1 (bys ld) 5] := Hv0.trans (Ev.call (R := [.box b [.slice au (List.length lu) cu, .bool fc, .slice ad (List.length ld) cd, .bool bc, .slice ah (List.length lh) ch, .slice ap (List.length lp) cp, .slice aq (List.length lq) cq, .bool fc, .bool fe, .slice ar (List.length lr) cr, .slice av (List.length lv) cv, .bool bc, .bool be] 66, .vec ad cd 1 (bys ld) 5]) Hv0.heap [0, 1] (by kernel_rfl) (by decide) he26)
  clear hM21 he26
  refine d_pures [(0, .pointer (some ⟨b, 2, none⟩)), (1, .int .i64 ((clampN n (List.length ld) : Nat) : Int)), (4, .slice none 0 0), (5, .slice aoq20 (List.length (List.take (clampN n (List.length ld)) ld)) coq20)] [.slice aoq20 (List.length (List.take (clampN n (List.length ld)) ld)) coq20] 8 En24 (by kernel_rfl) (by kernel_rfl) rfl ?_
  intro ac27 En28
  refine from_end (by kernel_rfl) ?_
  refine then_normal ?_
  refine wp_seq ?_
  refine region_from ?_  -- region 3
  refine d_pures [(0, .pointer (some ⟨b, 2, none⟩)), (1, .int .i64 ((clampN n (List.length ld) : Nat) : Int)), (4, .slice none 0 0), (5, .slice aoq20 (List.length (List.take (clampN n (List.length ld)) ld)) coq20), (21, .pointer (some ⟨b, 2, none⟩)), (24, .pointer (some ⟨b, 2, none⟩))] [.pointer (some ⟨b, 2, none⟩), .pointer (some ⟨b, 2, none⟩), .pointer (some ⟨b, 2, none⟩), .pointer (some ⟨b, 2, none⟩)] 4 En28 (by kernel_rfl) (by kernel_rfl) rfl ?_
  intro ac29 En30
  refine from_op (by kernel_rfl) ?_
  refine op_loadbox (d := some 25) (t := 22) (b := b) (off := 2) (k := 1) (v := .slice ad (List.length ld) cd) En30 (by kernel_rfl) Hv25 rfl rfl (by kernel_rfl) ?_
  intro ac31 En32
  refine d_pures [(0, .pointer (some ⟨b, 2, none⟩)), (1, .int .i64 ((clampN n (List.length ld) : Nat) : Int)), (4, .slice none 0 0), (5, .slice aoq20 (List.length (List.take (clampN n (List.length ld)) ld)) coq20), (21, .pointer (some ⟨b, 2, none⟩)), (25, .slice ad (List.length ld) cd), (26, .int .i64 ((clampN n (List.length ld) : Nat) : Int))] [.int .i64 ((clampN n (List.length ld) : Nat) : Int)] 6 En32 (by kernel_rfl) (by kernel_rfl) rfl ?_
  intro ac33 En34
  refine from_op (by kernel_rfl) ?_
  have hcap35 := bys_vcap Hv25.heap (k := 2) rfl
  refine op_slice (d := some 27) (t := 22) (e := 5) (sz := 1) (len := List.length ld) (cap := cd) (lo := clampN n (List.length ld)) (hi := List.length ld) (ao := ad) (lov := (some (.int .i64 ((clampN n (List.length ld) : Nat) : Int)))) (hiv := none) En34 (by kernel_rfl) (by kernel_rfl) (by kernel_rfl) (by omega) (by omega) (.inr ⟨.i64, rfl⟩) (.inl ⟨rfl, rfl⟩) ?_
  intro ac36 En37
  have Hv38 : Ev w [.box b [.slice au (List.length lu) cu, .bool fc, .slice ad (List.length ld) cd, .bool bc, .slice ah (List.length lh) ch, .slice ap (List.length lp) cp, .slice aq (List.length lq) cq, .bool fc, .bool fe, .slice ar (List.length lr) cr, .slice av (List.length lv) cv, .bool bc, .bool be] 66, .vec ad cd 1 (bys ld) 5] wo23 [.vec aoq20 coq20 1 (bys (List.take (clampN n (List.length ld)) ld)) 5, .box b [.slice au (List.length lu) cu, .bool fc, .slice ad (List.length ld) cd, .bool bc, .slice ah (List.length lh) ch, .slice ap (List.length lp) cp, .slice aq (List.length lq) cq, .bool fc, .bool fe, .slice ar (List.length lr) cr, .slice av (List.length lv) cv, .bool bc, .bool be] 66, .vec (cutAt ad cd (clampN n (List.length ld)) 1) (cd - (clampN n (List.length ld))) 1 (bys (List.drop (clampN n (List.length ld)) ld)) 5] := by
    have h := Ev.cut (k := 2) (n := List.length ld) (sz := 1) Hv25 rfl (bys_len _) (by omega) (clampN n (List.length ld)) (List.length ld) (by omega) (by omega)
    rw [bys_cutw (l := ld) (lo := clampN n (List.length ld)) (n := List.length ld) (by simp)] at h
    exact h
  have el39 : (List.length ld) - (clampN n (List.length ld)) = List.length (List.drop (clampN n (List.length ld)) ld) := by first | (simp; done) | (simp; omega)
  rw [el39] at En37
  refine d_pures [(0, .pointer (some ⟨b, 2, none⟩)), (1, .int .i64 ((clampN n (List.length ld) : Nat) : Int)), (4, .slice none 0 0), (5, .slice aoq20 (List.length (List.take (clampN n (List.length ld)) ld)) coq20), (27, .slice (cutAt ad cd (clampN n (List.length ld)) 1) (List.length (List.drop (clampN n (List.length ld)) ld)) (cd - (clampN n (List.length ld)))), (29, .pointer (some ⟨b, 2, none⟩))] [.pointer (some ⟨b, 2, none⟩), .pointer (some ⟨b, 2, none⟩)] 9 En37 (by kernel_rfl) (by kernel_rfl) rfl ?_
  intro ac40 En41
  refine from_op (by kernel_rfl) ?_
  refine op_storebox2 (d := none) (t := 22) (b := b) (off := 2) (k := 1) (v := .slice (cutAt ad cd (clampN n (List.length ld)) 1) (List.length (List.drop (clampN n (List.length ld)) ld)) (cd - (clampN n (List.length ld)))) En41 (by kernel_rfl) Hv38 rfl rfl (by kernel_rfl) rfl rfl (L' := [.vec aoq20 coq20 1 (bys (List.take (clampN n (List.length ld)) ld)) 5, .box b [.slice au (List.length lu) cu, .bool fc, .slice (cutAt ad cd (clampN n (List.length ld)) 1) (List.length (List.drop (clampN n (List.length ld)) ld)) (cd - (clampN n (List.length ld))), .bool bc, .slice ah (List.length lh) ch, .slice ap (List.length lp) cp, .slice aq (List.length lq) cq, .bool fc, .bool fe, .slice ar (List.length lr) cr, .slice av (List.length lv) cv, .bool bc, .bool be] 66, .vec (cutAt ad cd (clampN n (List.length ld)) 1) (cd - (clampN n (List.length ld))) 1 (bys (List.drop (clampN n (List.length ld)) ld)) 5]) rfl ?_
  intro ac42 wo43  En44 Hv45
  refine from_end (by kernel_rfl) ?_
  refine then_normal ?_
  refine wp_seq ?_
  refine region_from ?_  -- region 4
  refine d_pures [(0, .pointer (some ⟨b, 2, none⟩)), (1, .int .i64 ((clampN n (List.length ld) : Nat) : Int)), (4, .slice aoq20 (List.length (List.take (clampN n (List.length ld)) ld)) coq20)] [.slice aoq20 (List.length (List.take (clampN n (List.length ld)) ld)) coq20, .slice aoq20 (List.length (List.take (clampN n (List.length ld)) ld)) coq20] 2 En44 (by kernel_rfl) (by kernel_rfl) rfl ?_
  intro ac46 En47
  refine from_end (by kernel_rfl) ?_
  refine then_normal ?_
  refine wp_ret ?_
  refine d_ret1 (t := 4) (v := .slice aoq20 (List.length (List.take (clampN n (List.length ld)) ld)) coq20) En47 (by kernel_rfl) (by kernel_rfl) ?_
  exact ⟨cutAt ad cd (clampN n (List.length ld)) 1, cd - (clampN n (List.length ld)), aoq20, coq20, rfl, Hv45.pick [1, 2, 0] (by kernel_rfl) (by decide)⟩

theorem done_d (w : World) (b : Nat) (au ad ah ap aq ar av : Option Addr) (cu cd ch cp cq cr cv : Nat) (lu ld lh lp lq lr lv : List UInt8) (fc fe bc be : Bool) (hH : Heap w [.box b [.slice au (List.length lu) cu, .bool fc, .slice ad (List.length ld) cd, .bool bc, .slice ah (List.length lh) ch, .slice ap (List.length lp) cp, .slice aq (List.length lq) cq, .bool fc, .bool fe, .slice ar (List.length lr) cr, .slice av (List.length lv) cv, .bool bc, .bool be] 66]) : Calls Try.prog 38 #[.pointer (some ⟨b, 2, none⟩)] w fun e w' => e = .returned (.bool (decide (List.length ld = 0) && bc)) ∧ Ev w [.box b [.slice au (List.length lu) cu, .bool fc, .slice ad (List.length ld) cd, .bool bc, .slice ah (List.length lh) ch, .slice ap (List.length lp) cp, .slice aq (List.length lq) cq, .bool fc, .bool fe, .slice ar (List.length lr) cr, .slice av (List.length lv) cv, .bool bc, .bool be] 66] w' [.box b [.slice au (List.length lu) cu, .bool fc, .slice ad (List.length ld) cd, .bool bc, .slice ah (List.length lh) ch, .slice ap (List.length lp) cp, .slice aq (List.length lq) cq, .bool fc, .bool fe, .slice ar (List.length lr) cr, .slice av (List.length lv) cv, .bool bc, .bool be] 66] := by
  refine d_start [(0, .pointer (some ⟨b, 2, none⟩))] 15 Go.Proofs.Try.func38 Go.Proofs.Try.ntmps38 rfl (by kernel_rfl) (by kernel_rfl) ?_
  intro act0 En0
  have Hv0 : Ev w [.box b [.slice au (List.length lu) cu, .bool fc, .slice ad (List.length ld) cd, .bool bc, .slice ah (List.length lh) ch, .slice ap (List.length lp) cp, .slice aq (List.length lq) cq, .bool fc, .bool fe, .slice ar (List.length lr) cr, .slice av (List.length lv) cv, .bool bc, .bool be] 66] w [.box b [.slice au (List.length lu) cu, .bool fc, .slice ad (List.length ld) cd, .bool bc, .slice ah (List.length lh) ch, .slice ap (List.length lp) cp, .slice aq (List.length lq) cq, .bool fc, .bool fe, .slice ar (List.length lr) cr, .slice av (List.length lv) cv, .bool bc, .bool be] 66] := Ev.refl (hH)
  refine wp_seq ?_
  refine region_from ?_  -- region 0
  refine d_pures [(0, .pointer (some ⟨b, 2, none⟩)), (2, .bool false)] [.bool false] 1 En0 (by kernel_rfl) (by kernel_rfl) rfl ?_
  intro ac1 En2
  refine from_end (by kernel_rfl) ?_
  refine then_normal ?_
  refine wp_seq ?_
  refine region_from ?_  -- region 1
  refine d_pures [(0, .pointer (some ⟨b, 2, none⟩)), (2, .bool false), (5, .pointer (some ⟨b, 2, none⟩))] [.pointer (some ⟨b, 2, none⟩), .pointer (some ⟨b, 2, none⟩), .pointer (some ⟨b, 2, none⟩)] 3 En2 (by kernel_rfl) (by kernel_rfl) rfl ?_
  intro ac3 En4
  refine from_op (by kernel_rfl) ?_
  refine op_loadbox (d := some 6) (t := 22) (b := b) (off := 2) (k := 0) (v := .slice ad (List.length ld) cd) En4 (by kernel_rfl) Hv0 rfl rfl (by kernel_rfl) ?_
  intro ac5 En6
  refine d_pures [(0, .pointer (some ⟨b, 2, none⟩)), (2, .bool false), (9, .bool (((List.length ld : Nat) : Int) == (0 : Int)))] [.int .i64 ((List.length ld : Nat) : Int), .bool (((List.length ld : Nat) : Int) == (0 : Int)), .bool (((List.length ld : Nat) : Int) == (0 : Int))] 7 En6 (by kernel_rfl) (by kernel_rfl) rfl ?_
  intro ac7 En8
  rcases Bool.eq_false_or_eq_true (((List.length ld : Nat) : Int) == (0 : Int)) with hb9 | hb9
  · rw [hb9] at En8
    have hp10 : ((List.length ld : Nat) : Int) = (0 : Int) := eq_of_beq hb9
    refine d_pures [(2, .bool false), (9, .bool true), (12, .pointer (some ⟨b, 3, none⟩))] [.pointer (some ⟨b, 2, none⟩), .pointer (some ⟨b, 2, none⟩), .pointer (some ⟨b, 3, none⟩)] 10 En8 (by kernel_rfl) (by kernel_rfl) rfl ?_
    intro ac11 En12
    refine from_op (by kernel_rfl) ?_
    refine op_loadbox (d := some 13) (t := 4) (b := b) (off := 3) (k := 0) (v := .bool bc) En12 (by kernel_rfl) Hv0 rfl rfl (by kernel_rfl) ?_
    intro ac13 En14
    refine d_pures [(2, .bool bc)] [.bool bc, .bool bc] 13 En14 (by kernel_rfl) (by kernel_rfl) rfl ?_
    intro ac15 En16
    refine from_end (by kernel_rfl) ?_
    refine then_normal ?_
    refine wp_ret ?_
    refine d_ret1 (t := 2) (v := .bool bc) En16 (by kernel_rfl) (by kernel_rfl) ?_
    try simp at hp10
    have e : (bc) = (decide (List.length ld = 0) && bc) := by simp [hp10]
    exact ⟨by rw [← e], Hv0.pick [0] (by kernel_rfl) (by decide)⟩
  · rw [hb9] at En8
    have hp17 : ¬ (((List.length ld : Nat) : Int) = (0 : Int)) := ne_of_beq_false hb9
    refine d_pures [(2, .bool false)] [undef, undef, undef, undef, .bool false, .bool false] 13 En8 (by kernel_rfl) (by kernel_rfl) rfl ?_
    intro ac18 En19
    refine from_end (by kernel_rfl) ?_
    refine then_normal ?_
    refine wp_ret ?_
    refine d_ret1 (t := 2) (v := .bool false) En19 (by kernel_rfl) (by kernel_rfl) ?_
    try simp at hp17
    have e : (false) = (decide (List.length ld = 0) && bc) := by simp [hp17]
    exact ⟨by rw [← e], Hv0.pick [0] (by kernel_rfl) (by decide)⟩

theorem xread1 (w : World) (b : Nat) (au ad ah ap aq ar av : Option Addr) (cu cd ch cp cq cr cv : Nat) (lu ld lh lp lq lr lv : List UInt8) (fc fe bc be : Bool) (n : Int) (hH : Heap w [.box b [.slice au (List.length lu) cu, .bool fc, .slice ad (List.length ld) cd, .bool bc, .slice ah (List.length lh) ch, .slice ap (List.length lp) cp, .slice aq (List.length lq) cq, .bool fc, .bool fe, .slice ar (List.length lr) cr, .slice av (List.length lv) cv, .bool bc, .bool be] 66, .vec au cu 1 (bys lu) 5, .vec ad cd 1 (bys ld) 5, .vec ah ch 1 (bys lh) 5, .vec ap cp 1 (bys lp) 5, .vec aq cq 1 (bys lq) 5, .vec ar cr 1 (bys lr) 5, .vec av cv 1 (bys lv) 5]) (hS : List.length lu + List.length ld + List.length lh + List.length lp + List.length lq + List.length lr + List.length lv ≤ 140737488351232) : Calls Try.prog 21 #[.pointer (some ⟨b, 0, none⟩), .int .i64 1, .int .i64 n] w fun e w' => ∃ au0 ad0 ah0 ap0 aq0 ar0 av0, ∃ cu0 cd0 ch0 cp0 cq0 cr0 cv0, ∃ (lu0 : List UInt8) (ld0 : List UInt8) (lh0 : List UInt8) (lp0 : List UInt8) (lq0 : List UInt8) (lr0 : List UInt8) (lv0 : List UInt8), ∃ (fc0 : Bool) (fe0 : Bool) (bc0 : Bool) (be0 : Bool), ∃ ao co lo, e = .returned (.slice ao (List.length lo) co) ∧ Ev w [.box b [.slice au (List.length lu) cu, .bool fc, .slice ad (List.length ld) cd, .bool bc, .slice ah (List.length lh) ch, .slice ap (List.length lp) cp, .slice aq (List.length lq) cq, .bool fc, .bool fe, .slice ar (List.length lr) cr, .slice av (List.length lv) cv, .bool bc, .bool be] 66, .vec au cu 1 (bys lu) 5, .vec ad cd 1 (bys ld) 5, .vec ah ch 1 (bys lh) 5, .vec ap cp 1 (bys lp) 5, .vec aq cq 1 (bys lq) 5, .vec ar cr 1 (bys lr) 5, .vec av cv 1 (bys lv) 5] w' [.box b [.slice au0 (List.length lu0) cu0, .bool fc0, .slice ad0 (List.length ld0) cd0, .bool bc0, .slice ah0 (List.length lh0) ch0, .slice ap0 (List.length lp0) cp0, .slice aq0 (List.length lq0) cq0, .bool fc0, .bool fe0, .slice ar0 (List.length lr0) cr0, .slice av0 (List.length lv0) cv0, .bool bc0, .bool be0] 66, .vec au0 cu0 1 (bys lu0) 5, .vec ad0 cd0 1 (bys ld0) 5, .vec ah0 ch0 1 (bys lh0) 5, .vec ap0 cp0 1 (bys lp0) 5, .vec aq0 cq0 1 (bys lq0) 5, .vec ar0 cr0 1 (bys lr0) 5, .vec av0 cv0 1 (bys lv0) 5, .vec ao co 1 (bys lo) 5] ∧ (⟨lu0, ld0, lh0, lp0, lq0, fc0, fe0, lr0, lv0, bc0, be0⟩ : Rel) = Rel.read (⟨lu, ld, lh, lp, lq, fc, fe, lr, lv, bc, be⟩ : Rel) 1 n ∧ lo = Rel.out (⟨lu, ld, lh, lp, lq, fc, fe, lr, lv, bc, be⟩ : Rel) 1 n := by
  have hcu := clampN_le n (List.length lu)
  have hcd := clampN_le n (List.length ld)
  have hmu : (List.take (clampN n (List.length lu)) lu).length = clampN n (List.length lu) := by rw [List.length_take]; omega
  have hmd : (List.take (clampN n (List.length ld)) ld).length = clampN n (List.length ld) := by rw [List.length_take]; omega
  refine d_start [(0, .pointer (some ⟨b, 0, none⟩)), (1, .int .i64 1), (2, .int .i64 n)] 44 Go.Proofs.Try.func21 Go.Proofs.Try.ntmps21 rfl (by kernel_rfl) (by kernel_rfl) ?_
  intro act0 En0
  have Hv0 : Ev w [.box b [.slice au (List.length lu) cu, .bool fc, .slice ad (List.length ld) cd, .bool bc, .slice ah (List.length lh) ch, .slice ap (List.length lp) cp, .slice aq (List.length lq) cq, .bool fc, .bool fe, .slice ar (List.length lr) cr, .slice av (List.length lv) cv, .bool bc, .bool be] 66, .vec au cu 1 (bys lu) 5, .vec ad cd 1 (bys ld) 5, .vec ah ch 1 (bys lh) 5, .vec ap cp 1 (bys lp) 5, .vec aq cq 1 (bys lq) 5, .vec ar cr 1 (bys lr) 5, .vec av cv 1 (bys lv) 5] w [.box b [.slice au (List.length lu) cu, .bool fc, .slice ad (List.length ld) cd, .bool bc, .slice ah (List.length lh) ch, .slice ap (List.length lp) cp, .slice aq (List.length lq) cq, .bool fc, .bool fe, .slice ar (List.length lr) cr, .slice av (List.length lv) cv, .bool bc, .bool be] 66, .vec au cu 1 (bys lu) 5, .vec ad cd 1 (bys ld) 5, .vec ah ch 1 (bys lh) 5, .vec ap cp 1 (bys lp) 5, .vec aq cq 1 (bys lq) 5, .vec ar cr 1 (bys lr) 5, .vec av cv 1 (bys lv) 5] := Ev.refl (hH)
  refine wp_seq ?_
  refine region_from ?_  -- region 0
  refine d_pures [(0, .pointer (some ⟨b, 0, none⟩)), (1, .int .i64 1), (2, .int .i64 n), (6, .slice none 0 0)] [.slice none 0 0] 1 En0 (by kernel_rfl) (by kernel_rfl) rfl ?_
  intro ac1 En2
  refine from_end (by kernel_rfl) ?_
  refine then_normal ?_
  refine wp_seq ?_
  refine region_from ?_  -- region 1
  refine d_pures [(2, .int .i64 n), (6, .slice none 0 0), (12, .pointer (some ⟨b, 0, none⟩)), (13, .int .i64 1)] [.pointer (some ⟨b, 0, none⟩), .int .i64 1] 2 En2 (by kernel_rfl) (by kernel_rfl) rfl ?_
  intro ac3 En4
  refine from_op (by kernel_rfl) ?_
  have hM5 : Heap w [] := Hv0.heap.pick [] (by kernel_rfl) (by decide)
  refine op_call (d := some 14) (f := 36) (args := #[.pointer (some ⟨b, 0, none⟩), .int .i64 1]) En4 (by kernel_rfl) ((end1 _ b).mono ?_)
  rintro _ wo7 ⟨rfl, he10⟩
  refine ⟨_, rfl, ?_⟩
  intro ac6 En8
  have Hv9 : Ev w [.box b [.slice au (List.length lu) cu, .bool fc, .slice ad (List.length ld) cd, .bool bc, .slice ah (List.length lh) ch, .slice ap (List.length lp) cp, .slice aq (List.length lq) cq, .bool fc, .bool fe, .slice ar (List.length lr) cr, .slice av (List.length lv) cv, .bool bc, .bool be] 66, .vec au cu 1 (bys lu) 5, .vec ad cd 1 (bys ld) 5, .vec ah ch 1 (bys lh) 5, .vec ap cp 1 (bys lp) 5, .vec aq cq 1 (bys lq) 5, .vec ar cr 1 (bys lr) 5, .vec av cv 1 (bys lv) 5] wo7 [.box b [.slice au (List.length lu) cu, .bool fc, .slice ad (List.length ld) cd, .bool bc, .slice ah (List.length lh) ch, .slice ap (List.length lp) cp, .slice aq (List.length lq) cq, .bool fc, .bool fe, .slice ar (List.length lr) cr, .slice av (List.length lv) cv, .bool bc, .bool be] 66, .vec au cu 1 (bys lu) 5, .vec ad cd 1 (bys ld) 5, .vec ah ch 1 (bys lh) 5, .vec ap cp 1 (bys lp) 5, .vec aq cq 1 (bys lq) 5, .vec ar cr 1 (bys lr) 5, .vec av cv 1 (bys lv) 5] := Hv0.trans (Ev.call (R := [.box b [.slice au (List.length lu) cu, .bool fc, .slice ad (List.length ld) cd, .bool bc, .slice ah (List.length lh) ch, .slice ap (List.length lp) cp, .slice aq (List.length lq) cq, .bool fc, .bool fe, .slice ar (List.length lr) cr, .slice av (List.length lv) cv, .bool bc, .bool be] 66, .vec au cu 1 (bys lu) 5, .vec ad cd 1 (bys ld) 5, .vec ah ch 1 (bys lh) 5, .vec ap cp 1 (bys lp) 5, .vec aq cq 1 (bys lq) 5, .vec ar cr 1 (bys lr) 5, .vec av cv 1 (bys lv) 5]) Hv0.heap [0, 1, 2, 3, 4, 5, 6, 7] (by kernel_rfl) (by decide) he10)
  clear hM5 he10
  refine d_pures [(2, .int .i64 n), (6, .slice none 0 0), (7, .pointer (some ⟨b, 5, none⟩)), (9, .pointer (some ⟨b, 2, none⟩))] [.tuple #[.pointer (some ⟨b, 5, none⟩), .pointer (some ⟨b, 0, none⟩), .pointer (some ⟨b, 2, none⟩)], .pointer (some ⟨b, 5, none⟩), .pointer (some ⟨b, 0, none⟩), .pointer (some ⟨b, 2, none⟩), .pointer (some ⟨b, 5, none⟩), .pointer (some ⟨b, 0, none⟩), .pointer (some ⟨b, 2, none⟩)] 10 En8 (by kernel_rfl) (by kernel_rfl) rfl ?_
  intro ac11 En12
  refine from_end (by kernel_rfl) ?_
  refine then_normal ?_
  refine wp_seq ?_
  refine wp_seq ?_
  refine region_from ?_  -- region 2
  refine d_pures [(2, .int .i64 n), (6, .slice none 0 0), (7, .pointer (some ⟨b, 5, none⟩)), (9, .pointer (some ⟨b, 2, none⟩)), (19, .bool false)] [.pointer (some ⟨b, 5, none⟩), .bool false] 2 En12 (by kernel_rfl) (by kernel_rfl) rfl ?_
  intro ac13 En14
  refine from_end (by kernel_rfl) ?_
  refine then_normal ?_
  refine cond_false En14 (t := false) (by kernel_rfl) rfl ?_
  refine wp_skip ?_
  refine then_normal ?_
  refine wp_seq ?_
  refine region_from ?_  -- region 4
  refine d_pures [(6, .slice none 0 0), (7, .pointer (some ⟨b, 5, none⟩)), (9, .pointer (some ⟨b, 2, none⟩)), (20, .pointer (some ⟨b, 2, none⟩)), (21, .int .i64 n)] [.pointer (some ⟨b, 2, none⟩), .int .i64 n] 2 En14 (by kernel_rfl) (by kernel_rfl) rfl ?_
  intro ac15 En16
  refine from_op (by kernel_rfl) ?_
  have hM18 : Heap wo7 [.box b [.slice au (List.length lu) cu, .bool fc, .slice ad (List.length ld) cd, .bool bc, .slice ah (List.length lh) ch, .slice ap (List.length lp) cp, .slice aq (List.length lq) cq, .bool fc, .bool fe, .slice ar (List.length lr) cr, .slice av (List.length lv) cv, .bool bc, .bool be] 66, .vec ad cd 1 (bys ld) 5] := Hv9.heap.pick [0, 2] (by kernel_rfl) (by decide)
  refine op_call (d := some 22) (f := 37) (args := #[.pointer (some ⟨b, 2, none⟩), .int .i64 n]) En16 (by kernel_rfl) ((take_d _ b au ad ah ap aq ar av cu cd ch cp cq cr cv lu ld lh lp lq lr lv fc fe bc be n hM18 (by omega)).mono ?_)
  rintro _ wo20 ⟨azq17, czq17, ayq17, cyq17, rfl, he23⟩
  refine ⟨_, rfl, ?_⟩
  intro ac19 En21
  have Hv22 : Ev w [.box b [.slice au (List.length lu) cu, .bool fc, .slice ad (List.length ld) cd, .bool bc, .slice ah (List.length lh) ch, .slice ap (List.length lp) cp, .slice aq (List.length lq) cq, .bool fc, .bool fe, .slice ar (List.length lr) cr, .slice av (List.length lv) cv, .bool bc, .bool be] 66, .vec au cu 1 (bys lu) 5, .vec ad cd 1 (bys ld) 5, .vec ah ch 1 (bys lh) 5, .vec ap cp 1 (bys lp) 5, .vec aq cq 1 (bys lq) 5, .vec ar cr 1 (bys lr) 5, .vec av cv 1 (bys lv) 5] wo20 [.box b [.slice au (List.length lu) cu, .bool fc, .slice azq17 (List.length (List.drop (clampN n (List.length ld)) ld)) czq17, .bool bc, .slice ah (List.length lh) ch, .slice ap (List.length lp) cp, .slice aq (List.length lq) cq, .bool fc, .bool fe, .slice ar (List.length lr) cr, .slice av (List.length lv) cv, .bool bc, .bool be] 66, .vec azq17 czq17 1 (bys (List.drop (clampN n (List.length ld)) ld)) 5, .vec ayq17 cyq17 1 (bys (List.take (clampN n (List.length ld)) ld)) 5, .vec au cu 1 (bys lu) 5, .vec ah ch 1 (bys lh) 5, .vec ap cp 1 (bys lp) 5, .vec aq cq 1 (bys lq) 5, .vec ar cr 1 (bys lr) 5, .vec av cv 1 (bys lv) 5] := Hv9.trans (Ev.call (R := [.vec au cu 1 (bys lu) 5, .vec ah ch 1 (bys lh) 5, .vec ap cp 1 (bys lp) 5, .vec aq cq 1 (bys lq) 5, .vec ar cr 1 (bys lr) 5, .vec av cv 1 (bys lv) 5]) Hv9.heap [0, 2, 1, 3, 4, 5, 6, 7] (by kernel_rfl) (by decide) he23)
  clear hM18 he23
  refine d_pures [(6, .slice none 0 0), (7, .pointer (some ⟨b, 5, none⟩)), (9, .pointer (some ⟨b, 2, none⟩)), (10, .slice ayq17 (List.length (List.take (clampN n (List.length ld)) ld)) cyq17)] [.slice ayq17 (List.length (List.take (clampN n (List.length ld)) ld)) cyq17] 4 En21 (by kernel_rfl) (by kernel_rfl) rfl ?_
  intro ac24 En25
  refine from_end (by kernel_rfl) ?_
  refine then_normal ?_
  refine wp_seq ?_
  refine region_from ?_  -- region 5
  refine d_pures [(6, .slice none 0 0), (7, .pointer (some ⟨b, 5, none⟩)), (9, .pointer (some ⟨b, 2, none⟩)), (10, .slice ayq17 (List.length (List.take (clampN n (List.length ld)) ld)) cyq17), (23, .pointer (some ⟨b, 5, none⟩)), (26, .pointer (some ⟨b, 6, none⟩))] [.pointer (some ⟨b, 5, none⟩), .pointer (some ⟨b, 5, none⟩), .pointer (some ⟨b, 5, none⟩), .pointer (some ⟨b, 6, none⟩)] 4 En25 (by kernel_rfl) (by kernel_rfl) rfl ?_
  intro ac26 En27
  refine from_op (by kernel_rfl) ?_
  refine op_loadbox (d := some 27) (t := 22) (b := b) (off := 6) (k := 0) (v := .slice aq (List.length lq) cq) En27 (by kernel_rfl) Hv22 rfl rfl (by kernel_rfl) ?_
  intro ac28 En29
  refine d_pures [(6, .slice none 0 0), (7, .pointer (some ⟨b, 5, none⟩)), (9, .pointer (some ⟨b, 2, none⟩)), (10, .slice ayq17 (List.length (List.take (clampN n (List.length ld)) ld)) cyq17), (23, .pointer (some ⟨b, 5, none⟩)), (27, .slice aq (List.length lq) cq), (28, .slice ayq17 (List.length (List.take (clampN n (List.length ld)) ld)) cyq17)] [.slice ayq17 (List.length (List.take (clampN n (List.length ld)) ld)) cyq17] 6 En29 (by kernel_rfl) (by kernel_rfl) rfl ?_
  intro ac30 En31
  refine from_op (by kernel_rfl) ?_
  refine op_append (d := some 29) (t := 22) (tx := 22) (ty := 22) (k := 6) (p := List.length lq) (m := List.length (List.take (clampN n (List.length ld)) ld)) (x := .slice ayq17 (List.length (List.take (clampN n (List.length ld)) ld)) cyq17) (bytes := 1) En31 (by kernel_rfl) Hv22 rfl (bys_len _) (Reads.src (size := 1) (tx := 22) (e' := 5) (by kernel_rfl) (Hv22.heap.reads (k := 2) rfl) (bys_len _) (bys_vnz Hv22.heap (k := 2) rfl) (bys_one _)) (by kernel_rfl) (z := .int .u8 0) (by kernel_rfl) rfl (by decide) (by omega) (by unfold maxLen; omega) ?_
  intro ac36 wo37 ao32 cp33 En38 Hv39 _ _
  rw [← bys_append] at Hv39
  have ehz34 : (List.length lq) + (List.length (List.take (clampN n (List.length ld)) ld)) = List.length (lq ++ (List.take (clampN n (List.length ld)) ld)) := (by first | (simp; done) | (simp; omega) | omega)
  rw [ehz34] at En38
  refine d_pures [(6, .slice none 0 0), (7, .pointer (some ⟨b, 5, none⟩)), (9, .pointer (some ⟨b, 2, none⟩)), (10, .slice ayq17 (List.length (List.take (clampN n (List.length ld)) ld)) cyq17), (29, .slice ao32 (List.length (lq ++ (List.take (clampN n (List.length ld)) ld))) cp33), (31, .pointer (some ⟨b, 6, none⟩))] [.pointer (some ⟨b, 5, none⟩), .pointer (some ⟨b, 6, none⟩)] 9 En38 (by kernel_rfl) (by kernel_rfl) rfl ?_
  intro ac40 En41
  refine from_op (by kernel_rfl) ?_
  refine op_storebox2 (d := none) (t := 22) (b := b) (off := 6) (k := 0) (v := .slice ao32 (List.length (lq ++ (List.take (clampN n (List.length ld)) ld))) cp33) En41 (by kernel_rfl) Hv39 rfl rfl (by kernel_rfl) rfl rfl (L' := [.box b [.slice au (List.length lu) cu, .bool fc, .slice azq17 (List.length (List.drop (clampN n (List.length ld)) ld)) czq17, .bool bc, .slice ah (List.length lh) ch, .slice ap (List.length lp) cp, .slice ao32 (List.length (lq ++ (List.take (clampN n (List.length ld)) ld))) cp33, .bool fc, .bool fe, .slice ar (List.length lr) cr, .slice av (List.length lv) cv, .bool bc, .bool be] 66, .vec azq17 czq17 1 (bys (List.drop (clampN n (List.length ld)) ld)) 5, .vec ayq17 cyq17 1 (bys (List.take (clampN n (List.length ld)) ld)) 5, .vec au cu 1 (bys lu) 5, .vec ah ch 1 (bys lh) 5, .vec ap cp 1 (bys lp) 5, .vec ao32 cp33 1 (bys (lq ++ (List.take (clampN n (List.length ld)) ld))) 5, .vec ar cr 1 (bys lr) 5, .vec av cv 1 (bys lv) 5]) rfl ?_
  intro ac42 wo43  En44 Hv45
  refine from_end (by kernel_rfl) ?_
  refine then_normal ?_
  refine wp_seq ?_
  refine region_from ?_  -- region 6
  refine d_pures [(6, .slice none 0 0), (7, .pointer (some ⟨b, 5, none⟩)), (9, .pointer (some ⟨b, 2, none⟩)), (10, .slice ayq17 (List.length (List.take (clampN n (List.length ld)) ld)) cyq17), (32, .pointer (some ⟨b, 5, none⟩)), (35, .pointer (some ⟨b, 8, none⟩))] [.pointer (some ⟨b, 5, none⟩), .pointer (some ⟨b, 5, none⟩), .pointer (some ⟨b, 5, none⟩), .pointer (some ⟨b, 8, none⟩)] 4 En44 (by kernel_rfl) (by kernel_rfl) rfl ?_
  intro ac46 En47
  refine from_op (by kernel_rfl) ?_
  refine op_loadbox (d := some 36) (t := 4) (b := b) (off := 8) (k := 0) (v := .bool fe) En47 (by kernel_rfl) Hv45 rfl rfl (by kernel_rfl) ?_
  intro ac48 En49
  refine d_pures [(6, .slice none 0 0), (7, .pointer (some ⟨b, 5, none⟩)), (9, .pointer (some ⟨b, 2, none⟩)), (10, .slice ayq17 (List.length (List.take (clampN n (List.length ld)) ld)) cyq17), (32, .pointer (some ⟨b, 5, none⟩)), (37, .bool fe)] [.bool fe] 6 En49 (by kernel_rfl) (by kernel_rfl) rfl ?_
  intro ac50 En51
  rcases Bool.eq_false_or_eq_true (fe) with hb52 | hb52
  · rw [hb52] at En51
    have hp53 : fe = true := hb52
    refine d_pures [(6, .slice none 0 0), (7, .pointer (some ⟨b, 5, none⟩)), (9, .pointer (some ⟨b, 2, none⟩)), (10, .slice ayq17 (List.length (List.take (clampN n (List.length ld)) ld)) cyq17), (40, .bool true), (42, .pointer (some ⟨b, 8, none⟩))] [undef, undef, .bool true, .pointer (some ⟨b, 5, none⟩), .pointer (some ⟨b, 8, none⟩)] 11 En51 (by kernel_rfl) (by kernel_rfl) rfl ?_
    intro ac54 En55
    refine from_op (by kernel_rfl) ?_
    refine op_storebox2 (d := none) (t := 4) (b := b) (off := 8) (k := 0) (v := .bool true) En55 (by kernel_rfl) Hv45 rfl rfl (by kernel_rfl) rfl rfl (L' := [.box b [.slice au (List.length lu) cu, .bool fc, .slice azq17 (List.length (List.drop (clampN n (List.length ld)) ld)) czq17, .bool bc, .slice ah (List.length lh) ch, .slice ap (List.length lp) cp, .slice ao32 (List.length (lq ++ (List.take (clampN n (List.length ld)) ld))) cp33, .bool fc, .bool true, .slice ar (List.length lr) cr, .slice av (List.length lv) cv, .bool bc, .bool be] 66, .vec azq17 czq17 1 (bys (List.drop (clampN n (List.length ld)) ld)) 5, .vec ayq17 cyq17 1 (bys (List.take (clampN n (List.length ld)) ld)) 5, .vec au cu 1 (bys lu) 5, .vec ah ch 1 (bys lh) 5, .vec ap cp 1 (bys lp) 5, .vec ao32 cp33 1 (bys (lq ++ (List.take (clampN n (List.length ld)) ld))) 5, .vec ar cr 1 (bys lr) 5, .vec av cv 1 (bys lv) 5]) rfl ?_
    intro ac56 wo57  En58 Hv59
    refine from_end (by kernel_rfl) ?_
    refine then_normal ?_
    refine wp_seq ?_
    refine region_from ?_  -- region 7
    refine d_pures [(6, .slice ayq17 (List.length (List.take (clampN n (List.length ld)) ld)) cyq17), (7, .pointer (some ⟨b, 5, none⟩)), (9, .pointer (some ⟨b, 2, none⟩)), (10, .slice ayq17 (List.length (List.take (clampN n (List.length ld)) ld)) cyq17)] [.slice ayq17 (List.length (List.take (clampN n (List.length ld)) ld)) cyq17, .slice ayq17 (List.length (List.take (clampN n (List.length ld)) ld)) cyq17] 2 En58 (by kernel_rfl) (by kernel_rfl) rfl ?_
    intro ac60 En61
    refine from_end (by kernel_rfl) ?_
    refine then_normal ?_
    refine wp_ret ?_
    refine d_ret1 (t := 6) (v := .slice ayq17 (List.length (List.take (clampN n (List.length ld)) ld)) cyq17) En61 (by kernel_rfl) (by kernel_rfl) ?_
    try simp at hp53
    exact ⟨au, azq17, ah, ap, ao32, ar, av, cu, czq17, ch, cp, cp33, cr, cv, lu, (List.drop (clampN n (List.length ld)) ld), lh, lp, (lq ++ (List.take (clampN n (List.length ld)) ld)), lr, lv, fc, true, bc, be, ayq17, cyq17, (List.take (clampN n (List.length ld)) ld), rfl, Hv59.pick [0, 3, 1, 4, 5, 6, 7, 8, 2] (by kernel_rfl) (by decide), by simp [Rel.read, hp53], by simp [Rel.out]⟩
  · rw [hb52] at En51
    have hp62 : ¬ (fe = true) := Bool.eq_false_iff.1 hb52
    refine d_pures [(6, .slice none 0 0), (7, .pointer (some ⟨b, 5, none⟩)), (9, .pointer (some ⟨b, 2, none⟩)), (10, .slice ayq17 (List.length (List.take (clampN n (List.length ld)) ld)) cyq17), (32, .pointer (some ⟨b, 5, none⟩)), (37, .bool false), (38, .pointer (some ⟨b, 2, none⟩))] [.pointer (some ⟨b, 2, none⟩)] 7 En51 (by kernel_rfl) (by kernel_rfl) rfl ?_
    intro ac63 En64
    refine from_op (by kernel_rfl) ?_
    have hM65 : Heap wo43 [.box b [.slice au (List.length lu) cu, .bool fc, .slice azq17 (List.length (List.drop (clampN n (List.length ld)) ld)) czq17, .bool bc, .slice ah (List.length lh) ch, .slice ap (List.length lp) cp, .slice ao32 (List.length (lq ++ (List.take (clampN n (List.length ld)) ld))) cp33, .bool fc, .bool fe, .slice ar (List.length lr) cr, .slice av (List.length lv) cv, .bool bc, .bool be] 66] := Hv45.heap.pick [0] (by kernel_rfl) (by decide)
    refine op_call (d := some 39) (f := 38) (args := #[.pointer (some ⟨b, 2, none⟩)]) En64 (by kernel_rfl) ((done_d _ b au azq17 ah ap ao32 ar av cu czq17 ch cp cp33 cr cv lu (List.drop (clampN n (List.length ld)) ld) lh lp (lq ++ (List.take (clampN n (List.length ld)) ld)) lr lv fc fe bc be hM65).mono ?_)
    rintro _ wo67 ⟨rfl, he70⟩
    refine ⟨_, rfl, ?_⟩
    intro ac66 En68
    have Hv69 : Ev w [.box b [.slice au (List.length lu) cu, .bool fc, .slice ad (List.length ld) cd, .bool bc, .slice ah (List.length lh) ch, .slice ap (List.length lp) cp, .slice aq (List.length lq) cq, .bool fc, .bool fe, .slice ar (List.length lr) cr, .slice av (List.length lv) cv, .bool bc, .bool be] 66, .vec au cu 1 (bys lu) 5, .vec ad cd 1 (bys ld) 5, .vec ah ch 1 (bys lh) 5, .vec ap cp 1 (bys lp) 5, .vec aq cq 1 (bys lq) 5, .vec ar cr 1 (bys lr) 5, .vec av cv 1 (bys lv) 5] wo67 [.box b [.slice au (List.length lu) cu, .bool fc, .slice azq17 (List.length (List.drop (clampN n (List.length ld)) ld)) czq17, .bool bc, .slice ah (List.length lh) ch, .slice ap (List.length lp) cp, .slice ao32 (List.length (lq ++ (List.take (clampN n (List.length ld)) ld))) cp33, .bool fc, .bool fe, .slice ar (List.length lr) cr, .slice av (List.length lv) cv, .bool bc, .bool be] 66, .vec azq17 czq17 1 (bys (List.drop (clampN n (List.length ld)) ld)) 5, .vec ayq17 cyq17 1 (bys (List.take (clampN n (List.length ld)) ld)) 5, .vec au cu 1 (bys lu) 5, .vec ah ch 1 (bys lh) 5, .vec ap cp 1 (bys lp) 5, .vec ao32 cp33 1 (bys (lq ++ (List.take (clampN n (List.length ld)) ld))) 5, .vec ar cr 1 (bys lr) 5, .vec av cv 1 (bys lv) 5] := Hv45.trans (Ev.call (R := [.vec azq17 czq17 1 (bys (List.drop (clampN n (List.length ld)) ld)) 5, .vec ayq17 cyq17 1 (bys (List.take (clampN n (List.length ld)) ld)) 5, .vec au cu 1 (bys lu) 5, .vec ah ch 1 (bys lh) 5, .vec ap cp 1 (bys lp) 5, .vec ao32 cp33 1 (bys (lq ++ (List.take (clampN n (List.length ld)) ld))) 5, .vec ar cr 1 (bys lr) 5, .vec av cv 1 (bys lv) 5]) Hv45.heap [0, 1, 2, 3, 4, 5, 6, 7, 8] (by kernel_rfl) (by decide) he70)
    clear hM65 he70
    refine d_pures [(6, .slice none 0 0), (7, .pointer (some ⟨b, 5, none⟩)), (9, .pointer (some ⟨b, 2, none⟩)), (10, .slice ayq17 (List.length (List.take (clampN n (List.length ld)) ld)) cyq17), (40, .bool (decide (List.length (List.drop (clampN n (List.length ld)) ld) = 0) && bc)), (42, .pointer (some ⟨b, 8, none⟩))] [.bool (decide (List.length (List.drop (clampN n (List.length ld)) ld) = 0) && bc), .pointer (some ⟨b, 5, none⟩), .pointer (some ⟨b, 8, none⟩)] 11 En68 (by kernel_rfl) (by kernel_rfl) rfl ?_
    intro ac71 En72
    refine from_op (by kernel_rfl) ?_
    refine op_storebox2 (d := none) (t := 4) (b := b) (off := 8) (k := 0) (v := .bool (decide (List.length (List.drop (clampN n (List.length ld)) ld) = 0) && bc)) En72 (by kernel_rfl) Hv69 rfl rfl (by kernel_rfl) rfl rfl (L' := [.box b [.slice au (List.length lu) cu, .bool fc, .slice azq17 (List.length (List.drop (clampN n (List.length ld)) ld)) czq17, .bool bc, .slice ah (List.length lh) ch, .slice ap (List.length lp) cp, .slice ao32 (List.length (lq ++ (List.take (clampN n (List.length ld)) ld))) cp33, .bool fc, .bool (decide (List.length (List.drop (clampN n (List.length ld)) ld) = 0) && bc), .slice ar (List.length lr) cr, .slice av (List.length lv) cv, .bool bc, .bool be] 66, .vec azq17 czq17 1 (bys (List.drop (clampN n (List.length ld)) ld)) 5, .vec ayq17 cyq17 1 (bys (List.take (clampN n (List.length ld)) ld)) 5, .vec au cu 1 (bys lu) 5, .vec ah ch 1 (bys lh) 5, .vec ap cp 1 (bys lp) 5, .vec ao32 cp33 1 (bys (lq ++ (List.take (clampN n (List.length ld)) ld))) 5, .vec ar cr 1 (bys lr) 5, .vec av cv 1 (bys lv) 5]) rfl ?_
    intro ac73 wo74  En75 Hv76
    refine from_end (by kernel_rfl) ?_
    refine then_normal ?_
    refine wp_seq ?_
    refine region_from ?_  -- region 7
    refine d_pures [(6, .slice ayq17 (List.length (List.take (clampN n (List.length ld)) ld)) cyq17), (7, .pointer (some ⟨b, 5, none⟩)), (9, .pointer (some ⟨b, 2, none⟩)), (10, .slice ayq17 (List.length (List.take (clampN n (List.length ld)) ld)) cyq17)] [.slice ayq17 (List.length (List.take (clampN n (List.length ld)) ld)) cyq17, .slice ayq17 (List.length (List.take (clampN n (List.length ld)) ld)) cyq17] 2 En75 (by kernel_rfl) (by kernel_rfl) rfl ?_
    intro ac77 En78
    refine from_end (by kernel_rfl) ?_
    refine then_normal ?_
    refine wp_ret ?_
    refine d_ret1 (t := 6) (v := .slice ayq17 (List.length (List.take (clampN n (List.length ld)) ld)) cyq17) En78 (by kernel_rfl) (by kernel_rfl) ?_
    try simp at hp62
    exact ⟨au, azq17, ah, ap, ao32, ar, av, cu, czq17, ch, cp, cp33, cr, cv, lu, (List.drop (clampN n (List.length ld)) ld), lh, lp, (lq ++ (List.take (clampN n (List.length ld)) ld)), lr, lv, fc, (decide (List.length (List.drop (clampN n (List.length ld)) ld) = 0) && bc), bc, be, ayq17, cyq17, (List.take (clampN n (List.length ld)) ld), rfl, Hv76.pick [0, 3, 1, 4, 5, 6, 7, 8, 2] (by kernel_rfl) (by decide), by simp [Rel.read, hp62], by simp [Rel.out]⟩

theorem xread2 (w : World) (b : Nat) (au ad ah ap aq ar av : Option Addr) (cu cd ch cp cq cr cv : Nat) (lu ld lh lp lq lr lv : List UInt8) (fc fe bc be : Bool) (n : Int) (hH : Heap w [.box b [.slice au (List.length lu) cu, .bool fc, .slice ad (List.length ld) cd, .bool bc, .slice ah (List.length lh) ch, .slice ap (List.length lp) cp, .slice aq (List.length lq) cq, .bool fc, .bool fe, .slice ar (List.length lr) cr, .slice av (List.length lv) cv, .bool bc, .bool be] 66, .vec au cu 1 (bys lu) 5, .vec ad cd 1 (bys ld) 5, .vec ah ch 1 (bys lh) 5, .vec ap cp 1 (bys lp) 5, .vec aq cq 1 (bys lq) 5, .vec ar cr 1 (bys lr) 5, .vec av cv 1 (bys lv) 5]) (hS : List.length lu + List.length ld + List.length lh + List.length lp + List.length lq + List.length lr + List.length lv ≤ 140737488351232) : Calls Try.prog 21 #[.pointer (some ⟨b, 0, none⟩), .int .i64 2, .int .i64 n] w fun e w' => ∃ au0 ad0 ah0 ap0 aq0 ar0 av0, ∃ cu0 cd0 ch0 cp0 cq0 cr0 cv0, ∃ (lu0 : List UInt8) (ld0 : List UInt8) (lh0 : List UInt8) (lp0 : List UInt8) (lq0 : List UInt8) (lr0 : List UInt8) (lv0 : List UInt8), ∃ (fc0 : Bool) (fe0 : Bool) (bc0 : Bool) (be0 : Bool), ∃ ao co lo, e = .returned (.slice ao (List.length lo) co) ∧ Ev w [.box b [.slice au (List.length lu) cu, .bool fc, .slice ad (List.length ld) cd, .bool bc, .slice ah (List.length lh) ch, .slice ap (List.length lp) cp, .slice aq (List.length lq) cq, .bool fc, .bool fe, .slice ar (List.length lr) cr, .slice av (List.length lv) cv, .bool bc, .bool be] 66, .vec au cu 1 (bys lu) 5, .vec ad cd 1 (bys ld) 5, .vec ah ch 1 (bys lh) 5, .vec ap cp 1 (bys lp) 5, .vec aq cq 1 (bys lq) 5, .vec ar cr 1 (bys lr) 5, .vec av cv 1 (bys lv) 5] w' [.box b [.slice au0 (List.length lu0) cu0, .bool fc0, .slice ad0 (List.length ld0) cd0, .bool bc0, .slice ah0 (List.length lh0) ch0, .slice ap0 (List.length lp0) cp0, .slice aq0 (List.length lq0) cq0, .bool fc0, .bool fe0, .slice ar0 (List.length lr0) cr0, .slice av0 (List.length lv0) cv0, .bool bc0, .bool be0] 66, .vec au0 cu0 1 (bys lu0) 5, .vec ad0 cd0 1 (bys ld0) 5, .vec ah0 ch0 1 (bys lh0) 5, .vec ap0 cp0 1 (bys lp0) 5, .vec aq0 cq0 1 (bys lq0) 5, .vec ar0 cr0 1 (bys lr0) 5, .vec av0 cv0 1 (bys lv0) 5, .vec ao co 1 (bys lo) 5] ∧ (⟨lu0, ld0, lh0, lp0, lq0, fc0, fe0, lr0, lv0, bc0, be0⟩ : Rel) = Rel.read (⟨lu, ld, lh, lp, lq, fc, fe, lr, lv, bc, be⟩ : Rel) 2 n ∧ lo = Rel.out (⟨lu, ld, lh, lp, lq, fc, fe, lr, lv, bc, be⟩ : Rel) 2 n := by
  have hcu := clampN_le n (List.length lu)
  have hcd := clampN_le n (List.length ld)
  have hmu : (List.take (clampN n (List.length lu)) lu).length = clampN n (List.length lu) := by rw [List.length_take]; omega
  have hmd : (List.take (clampN n (List.length ld)) ld).length = clampN n (List.length ld) := by rw [List.length_take]; omega
  refine d_start [(0, .pointer (some ⟨b, 0, none⟩)), (1, .int .i64 2), (2, .int .i64 n)] 44 Go.Proofs.Try.func21 Go.Proofs.Try.ntmps21 rfl (by kernel_rfl) (by kernel_rfl) ?_
  intro act0 En0
  have Hv0 : Ev w [.box b [.slice au (List.length lu) cu, .bool fc, .slice ad (List.length ld) cd, .bool bc, .slice ah (List.length lh) ch, .slice ap (List.length lp) cp, .slice aq (List.length lq) cq, .bool fc, .bool fe, .slice ar (List.length lr) cr, .slice av (List.length lv) cv, .bool bc, .bool be] 66, .vec au cu 1 (bys lu) 5, .vec ad cd 1 (bys ld) 5, .vec ah ch 1 (bys lh) 5, .vec ap cp 1 (bys lp) 5, .vec aq cq 1 (bys lq) 5, .vec ar cr 1 (bys lr) 5, .vec av cv 1 (bys lv) 5] w [.box b [.slice au (List.length lu) cu, .bool fc, .slice ad (List.length ld) cd, .bool bc, .slice ah (List.length lh) ch, .slice ap (List.length lp) cp, .slice aq (List.length lq) cq, .bool fc, .bool fe, .slice ar (List.length lr) cr, .slice av (List.length lv) cv, .bool bc, .bool be] 66, .vec au cu 1 (bys lu) 5, .vec ad cd 1 (bys ld) 5, .vec ah ch 1 (bys lh) 5, .vec ap cp 1 (bys lp) 5, .vec aq cq 1 (bys lq) 5, .vec ar cr 1 (bys lr) 5, .vec av cv 1 (bys lv) 5] := Ev.refl (hH)
  refine wp_seq ?_
  refine region_from ?_  -- region 0
  refine d_pures [(0, .pointer (some ⟨b, 0, none⟩)), (1, .int .i64 2), (2, .int .i64 n), (6, .slice none 0 0)] [.slice none 0 0] 1 En0 (by kernel_rfl) (by kernel_rfl) rfl ?_
  intro ac1 En2
  refine from_end (by kernel_rfl) ?_
  refine then_normal ?_
  refine wp_seq ?_
  refine region_from ?_  -- region 1
  refine d_pures [(2, .int .i64 n), (6, .slice none 0 0), (12, .pointer (some ⟨b, 0, none⟩)), (13, .int .i64 2)] [.pointer (some ⟨b, 0, none⟩), .int .i64 2] 2 En2 (by kernel_rfl) (by kernel_rfl) rfl ?_
  intro ac3 En4
  refine from_op (by kernel_rfl) ?_
  have hM5 : Heap w [] := Hv0.heap.pick [] (by kernel_rfl) (by decide)
  refine op_call (d := some 14) (f := 36) (args := #[.pointer (some ⟨b, 0, none⟩), .int .i64 2]) En4 (by kernel_rfl) ((end2 _ b).mono ?_)
  rintro _ wo7 ⟨rfl, he10⟩
  refine ⟨_, rfl, ?_⟩
  intro ac6 En8
  have Hv9 : Ev w [.box b [.slice au (List.length lu) cu, .bool fc, .slice ad (List.length ld) cd, .bool bc, .slice ah (List.length lh) ch, .slice ap (List.length lp) cp, .slice aq (List.length lq) cq, .bool fc, .bool fe, .slice ar (List.length lr) cr, .slice av (List.length lv) cv, .bool bc, .bool be] 66, .vec au cu 1 (bys lu) 5, .vec ad cd 1 (bys ld) 5, .vec ah ch 1 (bys lh) 5, .vec ap cp 1 (bys lp) 5, .vec aq cq 1 (bys lq) 5, .vec ar cr 1 (bys lr) 5, .vec av cv 1 (bys lv) 5] wo7 [.box b [.slice au (List.length lu) cu, .bool fc, .slice ad (List.length ld) cd, .bool bc, .slice ah (List.length lh) ch, .slice ap (List.length lp) cp, .slice aq (List.length lq) cq, .bool fc, .bool fe, .slice ar (List.length lr) cr, .slice av (List.length lv) cv, .bool bc, .bool be] 66, .vec au cu 1 (bys lu) 5, .vec ad cd 1 (bys ld) 5, .vec ah ch 1 (bys lh) 5, .vec ap cp 1 (bys lp) 5, .vec aq cq 1 (bys lq) 5, .vec ar cr 1 (bys lr) 5, .vec av cv 1 (bys lv) 5] := Hv0.trans (Ev.call (R := [.box b [.slice au (List.length lu) cu, .bool fc, .slice ad (List.length ld) cd, .bool bc, .slice ah (List.length lh) ch, .slice ap (List.length lp) cp, .slice aq (List.length lq) cq, .bool fc, .bool fe, .slice ar (List.length lr) cr, .slice av (List.length lv) cv, .bool bc, .bool be] 66, .vec au cu 1 (bys lu) 5, .vec ad cd 1 (bys ld) 5, .vec ah ch 1 (bys lh) 5, .vec ap cp 1 (bys lp) 5, .vec aq cq 1 (bys lq) 5, .vec ar cr 1 (bys lr) 5, .vec av cv 1 (bys lv) 5]) Hv0.heap [0, 1, 2, 3, 4, 5, 6, 7] (by kernel_rfl) (by decide) he10)
  clear hM5 he10
  refine d_pures [(2, .int .i64 n), (6, .slice none 0 0), (7, .pointer (some ⟨b, 9, none⟩)), (9, .pointer (some ⟨b, 0, none⟩))] [.tuple #[.pointer (some ⟨b, 9, none⟩), .pointer (some ⟨b, 2, none⟩), .pointer (some ⟨b, 0, none⟩)], .pointer (some ⟨b, 9, none⟩), .pointer (some ⟨b, 2, none⟩), .pointer (some ⟨b, 0, none⟩), .pointer (some ⟨b, 9, none⟩), .pointer (some ⟨b, 2, none⟩), .pointer (some ⟨b, 0, none⟩)] 10 En8 (by kernel_rfl) (by kernel_rfl) rfl ?_
  intro ac11 En12
  refine from_end (by kernel_rfl) ?_
  refine then_normal ?_
  refine wp_seq ?_
  refine wp_seq ?_
  refine region_from ?_  -- region 2
  refine d_pures [(2, .int .i64 n), (6, .slice none 0 0), (7, .pointer (some ⟨b, 9, none⟩)), (9, .pointer (some ⟨b, 0, none⟩)), (19, .bool false)] [.pointer (some ⟨b, 9, none⟩), .bool false] 2 En12 (by kernel_rfl) (by kernel_rfl) rfl ?_
  intro ac13 En14
  refine from_end (by kernel_rfl) ?_
  refine then_normal ?_
  refine cond_false En14 (t := false) (by kernel_rfl) rfl ?_
  refine wp_skip ?_
  refine then_normal ?_
  refine wp_seq ?_
  refine region_from ?_  -- region 4
  refine d_pures [(6, .slice none 0 0), (7, .pointer (some ⟨b, 9, none⟩)), (9, .pointer (some ⟨b, 0, none⟩)), (20, .pointer (some ⟨b, 0, none⟩)), (21, .int .i64 n)] [.pointer (some ⟨b, 0, none⟩), .int .i64 n] 2 En14 (by kernel_rfl) (by kernel_rfl) rfl ?_
  intro ac15 En16
  refine from_op (by kernel_rfl) ?_
  have hM18 : Heap wo7 [.box b [.slice au (List.length lu) cu, .bool fc, .slice ad (List.length ld) cd, .bool bc, .slice ah (List.length lh) ch, .slice ap (List.length lp) cp, .slice aq (List.length lq) cq, .bool fc, .bool fe, .slice ar (List.length lr) cr, .slice av (List.length lv) cv, .bool bc, .bool be] 66, .vec au cu 1 (bys lu) 5] := Hv9.heap.pick [0, 1] (by kernel_rfl) (by decide)
  refine op_call (d := some 22) (f := 37) (args := #[.pointer (some ⟨b, 0, none⟩), .int .i64 n]) En16 (by kernel_rfl) ((take_u _ b au ad ah ap aq ar av cu cd ch cp cq cr cv lu ld lh lp lq lr lv fc fe bc be n hM18 (by omega)).mono ?_)
  rintro _ wo20 ⟨azq17, czq17, ayq17, cyq17, rfl, he23⟩
  refine ⟨_, rfl, ?_⟩
  intro ac19 En21
  have Hv22 : Ev w [.box b [.slice au (List.length lu) cu, .bool fc, .slice ad (List.length ld) cd, .bool bc, .slice ah (List.length lh) ch, .slice ap (List.length lp) cp, .slice aq (List.length lq) cq, .bool fc, .bool fe, .slice ar (List.length lr) cr, .slice av (List.length lv) cv, .bool bc, .bool be] 66, .vec au cu 1 (bys lu) 5, .vec ad cd 1 (bys ld) 5, .vec ah ch 1 (bys lh) 5, .vec ap cp 1 (bys lp) 5, .vec aq cq 1 (bys lq) 5, .vec ar cr 1 (bys lr) 5, .vec av cv 1 (bys lv) 5] wo20 [.box b [.slice azq17 (List.length (List.drop (clampN n (List.length lu)) lu)) czq17, .bool fc, .slice ad (List.length ld) cd, .bool bc, .slice ah (List.length lh) ch, .slice ap (List.length lp) cp, .slice aq (List.length lq) cq, .bool fc, .bool fe, .slice ar (List.length lr) cr, .slice av (List.length lv) cv, .bool bc, .bool be] 66, .vec azq17 czq17 1 (bys (List.drop (clampN n (List.length lu)) lu)) 5, .vec ayq17 cyq17 1 (bys (List.take (clampN n (List.length lu)) lu)) 5, .vec ad cd 1 (bys ld) 5, .vec ah ch 1 (bys lh) 5, .vec ap cp 1 (bys lp) 5, .vec aq cq 1 (bys lq) 5, .vec ar cr 1 (bys lr) 5, .vec av cv 1 (bys lv) 5] := Hv9.trans (Ev.call (R := [.vec ad cd 1 (bys ld) 5, .vec ah ch 1 (bys lh) 5, .vec ap cp 1 (bys lp) 5, .vec aq cq 1 (bys lq) 5, .vec ar cr 1 (bys lr) 5, .vec av cv 1 (bys lv) 5]) Hv9.heap [0, 1, 2, 3, 4, 5, 6, 7] (by kernel_rfl) (by decide) he23)
  clear hM18 he23
  refine d_pures [(6, .slice none 0 0), (7, .pointer (some ⟨b, 9, none⟩)), (9, .pointer (some ⟨b, 0, none⟩)), (10, .slice ayq17 (List.length (List.take (clampN n (List.length lu)) lu)) cyq17)] [.slice ayq17 (List.length (List.take (clampN n (List.length lu)) lu)) cyq17] 4 En21 (by kernel_rfl) (by kernel_rfl) rfl ?_
  intro ac24 En25
  refine from_end (by kernel_rfl) ?_
  refine then_normal ?_
  refine wp_seq ?_
  refine region_from ?_  -- region 5
  refine d_pures [(6, .slice none 0 0), (7, .pointer (some ⟨b, 9, none⟩)), (9, .pointer (some ⟨b, 0, none⟩)), (10, .slice ayq17 (List.length (List.take (clampN n (List.length lu)) lu)) cyq17), (23, .pointer (some ⟨b, 9, none⟩)), (26, .pointer (some ⟨b, 10, none⟩))] [.pointer (some ⟨b, 9, none⟩), .pointer (some ⟨b, 9, none⟩), .pointer (some ⟨b, 9, none⟩), .pointer (some ⟨b, 10, none⟩)] 4 En25 (by kernel_rfl) (by kernel_rfl) rfl ?_
  intro ac26 En27
  refine from_op (by kernel_rfl) ?_
  refine op_loadbox (d := some 27) (t := 22) (b := b) (off := 10) (k := 0) (v := .slice av (List.length lv) cv) En27 (by kernel_rfl) Hv22 rfl rfl (by kernel_rfl) ?_
  intro ac28 En29
  refine d_pures [(6, .slice none 0 0), (7, .pointer (some ⟨b, 9, none⟩)), (9, .pointer (some ⟨b, 0, none⟩)), (10, .slice ayq17 (List.length (List.take (clampN n (List.length lu)) lu)) cyq17), (23, .pointer (some ⟨b, 9, none⟩)), (27, .slice av (List.length lv) cv), (28, .slice ayq17 (List.length (List.take (clampN n (List.length lu)) lu)) cyq17)] [.slice ayq17 (List.length (List.take (clampN n (List.length lu)) lu)) cyq17] 6 En29 (by kernel_rfl) (by kernel_rfl) rfl ?_
  intro ac30 En31
  refine from_op (by kernel_rfl) ?_
  refine op_append (d := some 29) (t := 22) (tx := 22) (ty := 22) (k := 8) (p := List.length lv) (m := List.length (List.take (clampN n (List.length lu)) lu)) (x := .slice ayq17 (List.length (List.take (clampN n (List.length lu)) lu)) cyq17) (bytes := 1) En31 (by kernel_rfl) Hv22 rfl (bys_len _) (Reads.src (size := 1) (tx := 22) (e' := 5) (by kernel_rfl) (Hv22.heap.reads (k := 2) rfl) (bys_len _) (bys_vnz Hv22.heap (k := 2) rfl) (bys_one _)) (by kernel_rfl) (z := .int .u8 0) (by kernel_rfl) rfl (by decide) (by omega) (by unfold maxLen; omega) ?_
  intro ac36 wo37 ao32 cp33 En38 Hv39 _ _
  rw [← bys_append] at Hv39
  have ehz34 : (List.length lv) + (List.length (List.take (clampN n (List.length lu)) lu)) = List.length (lv ++ (List.take (clampN n (List.length lu)) lu)) := (by first | (simp; done) | (simp; omega) | omega)
  rw [ehz34] at En38
  refine d_pures [(6, .slice none 0 0), (7, .pointer (some ⟨b, 9, none⟩)), (9, .pointer (some ⟨b, 0, none⟩)), (10, .slice ayq17 (List.length (List.take (clampN n (List.length lu)) lu)) cyq17), (29, .slice ao32 (List.length (lv ++ (List.take (clampN n (List.length lu)) lu))) cp33), (31, .pointer (some ⟨b, 10, none⟩))] [.pointer (some ⟨b, 9, none⟩), .pointer (some ⟨b, 10, none⟩)] 9 En38 (by kernel_rfl) (by kernel_rfl) rfl ?_
  intro ac40 En41
  refine from_op (by kernel_rfl) ?_
  refine op_storebox2 (d := none) (t := 22) (b := b) (off := 10) (k := 0) (v := .slice ao32 (List.length (lv ++ (List.take (clampN n (List.length lu)) lu))) cp33) En41 (by kernel_rfl) Hv39 rfl rfl (by kernel_rfl) rfl rfl (L' := [.box b [.slice azq17 (List.length (List.drop (clampN n (List.length lu)) lu)) czq17, .bool fc, .slice ad (List.length ld) cd, .bool bc, .slice ah (List.length lh) ch, .slice ap (List.length lp) cp, .slice aq (List.length lq) cq, .bool fc, .bool fe, .slice ar (List.length lr) cr, .slice ao32 (List.length (lv ++ (List.take (clampN n (List.length lu)) lu))) cp33, .bool bc, .bool be] 66, .vec azq17 czq17 1 (bys (List.drop (clampN n (List.length lu)) lu)) 5, .vec ayq17 cyq17 1 (bys (List.take (clampN n (List.length lu)) lu)) 5, .vec ad cd 1 (bys ld) 5, .vec ah ch 1 (bys lh) 5, .vec ap cp 1 (bys lp) 5, .vec aq cq 1 (bys lq) 5, .vec ar cr 1 (bys lr) 5, .vec ao32 cp33 1 (bys (lv ++ (List.take (clampN n (List.length lu)) lu))) 5]) rfl ?_
  intro ac42 wo43  En44 Hv45
  refine from_end (by kernel_rfl) ?_
  refine then_normal ?_
  refine wp_seq ?_
  refine region_from ?_  -- region 6
  refine d_pures [(6, .slice none 0 0), (7, .pointer (some ⟨b, 9, none⟩)), (9, .pointer (some ⟨b, 0, none⟩)), (10, .slice ayq17 (List.length (List.take (clampN n (List.length lu)) lu)) cyq17), (32, .pointer (some ⟨b, 9, none⟩)), (35, .pointer (some ⟨b, 12, none⟩))] [.pointer (some ⟨b, 9, none⟩), .pointer (some ⟨b, 9, none⟩), .pointer (some ⟨b, 9, none⟩), .pointer (some ⟨b, 12, none⟩)] 4 En44 (by kernel_rfl) (by kernel_rfl) rfl ?_
  intro ac46 En47
  refine from_op (by kernel_rfl) ?_
  refine op_loadbox (d := some 36) (t := 4) (b := b) (off := 12) (k := 0) (v := .bool be) En47 (by kernel_rfl) Hv45 rfl rfl (by kernel_rfl) ?_
  intro ac48 En49
  refine d_pures [(6, .slice none 0 0), (7, .pointer (some ⟨b, 9, none⟩)), (9, .pointer (some ⟨b, 0, none⟩)), (10, .slice ayq17 (List.length (List.take (clampN n (List.length lu)) lu)) cyq17), (32, .pointer (some ⟨b, 9, none⟩)), (37, .bool be)] [.bool be] 6 En49 (by kernel_rfl) (by kernel_rfl) rfl ?_
  intro ac50 En51
  rcases Bool.eq_false_or_eq_true (be) with hb52 | hb52
  · rw [hb52] at En51
    have hp53 : be = true := hb52
    refine d_pures [(6, .slice none 0 0), (7, .pointer (some ⟨b, 9, none⟩)), (9, .pointer (some ⟨b, 0, none⟩)), (10, .slice ayq17 (List.length (List.take (clampN n (List.length lu)) lu)) cyq17), (40, .bool true), (42, .pointer (some ⟨b, 12, none⟩))] [undef, undef, .bool true, .pointer (some ⟨b, 9, none⟩), .pointer (some ⟨b, 12, none⟩)] 11 En51 (by kernel_rfl) (by kernel_rfl) rfl ?_
    intro ac54 En55
    refine from_op (by kernel_rfl) ?_
    refine op_storebox2 (d := none) (t := 4) (b := b) (off := 12) (k := 0) (v := .bool true) En55 (by kernel_rfl) Hv45 rfl rfl (by kernel_rfl) rfl rfl (L' := [.box b [.slice azq17 (List.length (List.drop (clampN n (List.length lu)) lu)) czq17, .bool fc, .slice ad (List.length ld) cd, .bool bc, .slice ah (List.length lh) ch, .slice ap (List.length lp) cp, .slice aq (List.length lq) cq, .bool fc, .bool fe, .slice ar (List.length lr) cr, .slice ao32 (List.length (lv ++ (List.take (clampN n (List.length lu)) lu))) cp33, .bool bc, .bool true] 66, .vec azq17 czq17 1 (bys (List.drop (clampN n (List.length lu)) lu)) 5, .vec ayq17 cyq17 1 (bys (List.take (clampN n (List.length lu)) lu)) 5, .vec ad cd 1 (bys ld) 5, .vec ah ch 1 (bys lh) 5, .vec ap cp 1 (bys lp) 5, .vec aq cq 1 (bys lq) 5, .vec ar cr 1 (bys lr) 5, .vec ao32 cp33 1 (bys (lv ++ (List.take (clampN n (List.length lu)) lu))) 5]) rfl ?_
    intro ac56 wo57  En58 Hv59
    refine from_end (by kernel_rfl) ?_
    refine then_normal ?_
    refine wp_seq ?_
    refine region_from ?_  -- region 7
    refine d_pures [(6, .slice ayq17 (List.length (List.take (clampN n (List.length lu)) lu)) cyq17), (7, .pointer (some ⟨b, 9, none⟩)), (9, .pointer (some ⟨b, 0, none⟩)), (10, .slice ayq17 (List.length (List.take (clampN n (List.length lu)) lu)) cyq17)] [.slice ayq17 (List.length (List.take (clampN n (List.length lu)) lu)) cyq17, .slice ayq17 (List.length (List.take (clampN n (List.length lu)) lu)) cyq17] 2 En58 (by kernel_rfl) (by kernel_rfl) rfl ?_
    intro ac60 En61
    refine from_end (by kernel_rfl) ?_
    refine then_normal ?_
    refine wp_ret ?_
    refine d_ret1 (t := 6) (v := .slice ayq17 (List.length (List.take (clampN n (List.length lu)) lu)) cyq17) En61 (by kernel_rfl) (by kernel_rfl) ?_
    try simp at hp53
    exact ⟨azq17, ad, ah, ap, aq, ar, ao32, czq17, cd, ch, cp, cq, cr, cp33, (List.drop (clampN n (List.length lu)) lu), ld, lh, lp, lq, lr, (lv ++ (List.take (clampN n (List.length lu)) lu)), fc, fe, bc, true, ayq17, cyq17, (List.take (clampN n (List.length lu)) lu), rfl, Hv59.pick [0, 1, 3, 4, 5, 6, 7, 8, 2] (by kernel_rfl) (by decide), by simp [Rel.read, hp53], by simp [Rel.out]⟩
  · rw [hb52] at En51
    have hp62 : ¬ (be = true) := Bool.eq_false_iff.1 hb52
    refine d_pures [(6, .slice none 0 0), (7, .pointer (some ⟨b, 9, none⟩)), (9, .pointer (some ⟨b, 0, none⟩)), (10, .slice ayq17 (List.length (List.take (clampN n (List.length lu)) lu)) cyq17), (32, .pointer (some ⟨b, 9, none⟩)), (37, .bool false), (38, .pointer (some ⟨b, 0, none⟩))] [.pointer (some ⟨b, 0, none⟩)] 7 En51 (by kernel_rfl) (by kernel_rfl) rfl ?_
    intro ac63 En64
    refine from_op (by kernel_rfl) ?_
    have hM65 : Heap wo43 [.box b [.slice azq17 (List.length (List.drop (clampN n (List.length lu)) lu)) czq17, .bool fc, .slice ad (List.length ld) cd, .bool bc, .slice ah (List.length lh) ch, .slice ap (List.length lp) cp, .slice aq (List.length lq) cq, .bool fc, .bool fe, .slice ar (List.length lr) cr, .slice ao32 (List.length (lv ++ (List.take (clampN n (List.length lu)) lu))) cp33, .bool bc, .bool be] 66] := Hv45.heap.pick [0] (by kernel_rfl) (by decide)
    refine op_call (d := some 39) (f := 38) (args := #[.pointer (some ⟨b, 0, none⟩)]) En64 (by kernel_rfl) ((done_u _ b azq17 ad ah ap aq ar ao32 czq17 cd ch cp cq cr cp33 (List.drop (clampN n (List.length lu)) lu) ld lh lp lq lr (lv ++ (List.take (clampN n (List.length lu)) lu)) fc fe bc be hM65).mono ?_)
    rintro _ wo67 ⟨rfl, he70⟩
    refine ⟨_, rfl, ?_⟩
    intro ac66 En68
    have Hv69 : Ev w [.box b [.slice au (List.length lu) cu, .bool fc, .slice ad (List.length ld) cd, .bool bc, .slice ah (List.length lh) ch, .slice ap (List.length lp) cp, .slice aq (List.length lq) cq, .bool fc, .bool fe, .slice ar (List.length lr) cr, .slice av (List.length lv) cv, .bool bc, .bool be] 66, .vec au cu 1 (bys lu) 5, .vec ad cd 1 (bys ld) 5, .vec ah ch 1 (bys lh) 5, .vec ap cp 1 (bys lp) 5, .vec aq cq 1 (bys lq) 5, .vec ar cr 1 (bys lr) 5, .vec av cv 1 (bys lv) 5] wo67 [.box b [.slice azq17 (List.length (List.drop (clampN n (List.length lu)) lu)) czq17, .bool fc, .slice ad (List.length ld) cd, .bool bc, .slice ah (List.length lh) ch, .slice ap (List.length lp) cp, .slice aq (List.length lq) cq, .bool fc, .bool fe, .slice ar (List.length lr) cr, .slice ao32 (List.length (lv ++ (List.take (clampN n (List.length lu)) lu))) cp33, .bool bc, .bool be] 66, .vec azq17 czq17 1 (bys (List.drop (clampN n (List.length lu)) lu)) 5, .vec ayq17 cyq17 1 (bys (List.take (clampN n (List.length lu)) lu)) 5, .vec ad cd 1 (bys ld) 5, .vec ah ch 1 (bys lh) 5, .vec ap cp 1 (bys lp) 5, .vec aq cq 1 (bys lq) 5, .vec ar cr 1 (bys lr) 5, .vec ao32 cp33 1 (bys (lv ++ (List.take (clampN n (List.length lu)) lu))) 5] := Hv45.trans (Ev.call (R := [.vec azq17 czq17 1 (bys (List.drop (clampN n (List.length lu)) lu)) 5, .vec ayq17 cyq17 1 (bys (List.take (clampN n (List.length lu)) lu)) 5, .vec ad cd 1 (bys ld) 5, .vec ah ch 1 (bys lh) 5, .vec ap cp 1 (bys lp) 5, .vec aq cq 1 (bys lq) 5, .vec ar cr 1 (bys lr) 5, .vec ao32 cp33 1 (bys (lv ++ (List.take (clampN n (List.length lu)) lu))) 5]) Hv45.heap [0, 1, 2, 3, 4, 5, 6, 7, 8] (by kernel_rfl) (by decide) he70)
    clear hM65 he70
    refine d_pures [(6, .slice none 0 0), (7, .pointer (some ⟨b, 9, none⟩)), (9, .pointer (some ⟨b, 0, none⟩)), (10, .slice ayq17 (List.length (List.take (clampN n (List.length lu)) lu)) cyq17), (40, .bool (decide (List.length (List.drop (clampN n (List.length lu)) lu) = 0) && fc)), (42, .pointer (some ⟨b, 12, none⟩))] [.bool (decide (List.length (List.drop (clampN n (List.length lu)) lu) = 0) && fc), .pointer (some ⟨b, 9, none⟩), .pointer (some ⟨b, 12, none⟩)] 11 En68 (by kernel_rfl) (by kernel_rfl) rfl ?_
    intro ac71 En72
    refine from_op (by kernel_rfl) ?_
    refine op_storebox2 (d := none) (t := 4) (b := b) (off := 12) (k := 0) (v := .bool (decide (List.length (List.drop (clampN n (List.length lu)) lu) = 0) && fc)) En72 (by kernel_rfl) Hv69 rfl rfl (by kernel_rfl) rfl rfl (L' := [.box b [.slice azq17 (List.length (List.drop (clampN n (List.length lu)) lu)) czq17, .bool fc, .slice ad (List.length ld) cd, .bool bc, .slice ah (List.length lh) ch, .slice ap (List.length lp) cp, .slice aq (List.length lq) cq, .bool fc, .bool fe, .slice ar (List.length lr) cr, .slice ao32 (List.length (lv ++ (List.take (clampN n (List.length lu)) lu))) cp33, .bool bc, .bool (decide (List.length (List.drop (clampN n (List.length lu)) lu) = 0) && fc)] 66, .vec azq17 czq17 1 (bys (List.drop (clampN n (List.length lu)) lu)) 5, .vec ayq17 cyq17 1 (bys (List.take (clampN n (List.length lu)) lu)) 5, .vec ad cd 1 (bys ld) 5, .vec ah ch 1 (bys lh) 5, .vec ap cp 1 (bys lp) 5, .vec aq cq 1 (bys lq) 5, .vec ar cr 1 (bys lr) 5, .vec ao32 cp33 1 (bys (lv ++ (List.take (clampN n (List.length lu)) lu))) 5]) rfl ?_
    intro ac73 wo74  En75 Hv76
    refine from_end (by kernel_rfl) ?_
    refine then_normal ?_
    refine wp_seq ?_
    refine region_from ?_  -- region 7
    refine d_pures [(6, .slice ayq17 (List.length (List.take (clampN n (List.length lu)) lu)) cyq17), (7, .pointer (some ⟨b, 9, none⟩)), (9, .pointer (some ⟨b, 0, none⟩)), (10, .slice ayq17 (List.length (List.take (clampN n (List.length lu)) lu)) cyq17)] [.slice ayq17 (List.length (List.take (clampN n (List.length lu)) lu)) cyq17, .slice ayq17 (List.length (List.take (clampN n (List.length lu)) lu)) cyq17] 2 En75 (by kernel_rfl) (by kernel_rfl) rfl ?_
    intro ac77 En78
    refine from_end (by kernel_rfl) ?_
    refine then_normal ?_
    refine wp_ret ?_
    refine d_ret1 (t := 6) (v := .slice ayq17 (List.length (List.take (clampN n (List.length lu)) lu)) cyq17) En78 (by kernel_rfl) (by kernel_rfl) ?_
    try simp at hp62
    exact ⟨azq17, ad, ah, ap, aq, ar, ao32, czq17, cd, ch, cp, cq, cr, cp33, (List.drop (clampN n (List.length lu)) lu), ld, lh, lp, lq, lr, (lv ++ (List.take (clampN n (List.length lu)) lu)), fc, fe, bc, (decide (List.length (List.drop (clampN n (List.length lu)) lu) = 0) && fc), ayq17, cyq17, (List.take (clampN n (List.length lu)) lu), rfl, Hv76.pick [0, 1, 3, 4, 5, 6, 7, 8, 2] (by kernel_rfl) (by decide), by simp [Rel.read, hp62], by simp [Rel.out]⟩

theorem xreadx (w : World) (b : Nat) (au ad ah ap aq ar av : Option Addr) (cu cd ch cp cq cr cv : Nat) (lu ld lh lp lq lr lv : List UInt8) (fc fe bc be : Bool) (n : Int) (sd : Int) (h1 : ¬ sd = 1) (h2 : ¬ sd = 2) (hH : Heap w [.box b [.slice au (List.length lu) cu, .bool fc, .slice ad (List.length ld) cd, .bool bc, .slice ah (List.length lh) ch, .slice ap (List.length lp) cp, .slice aq (List.length lq) cq, .bool fc, .bool fe, .slice ar (List.length lr) cr, .slice av (List.length lv) cv, .bool bc, .bool be] 66, .vec au cu 1 (bys lu) 5, .vec ad cd 1 (bys ld) 5, .vec ah ch 1 (bys lh) 5, .vec ap cp 1 (bys lp) 5, .vec aq cq 1 (bys lq) 5, .vec ar cr 1 (bys lr) 5, .vec av cv 1 (bys lv) 5]) (hS : List.length lu + List.length ld + List.length lh + List.length lp + List.length lq + List.length lr + List.length lv ≤ 140737488351232) : Calls Try.prog 21 #[.pointer (some ⟨b, 0, none⟩), .int .i64 sd, .int .i64 n] w fun e w' => ∃ au0 ad0 ah0 ap0 aq0 ar0 av0, ∃ cu0 cd0 ch0 cp0 cq0 cr0 cv0, ∃ (lu0 : List UInt8) (ld0 : List UInt8) (lh0 : List UInt8) (lp0 : List UInt8) (lq0 : List UInt8) (lr0 : List UInt8) (lv0 : List UInt8), ∃ (fc0 : Bool) (fe0 : Bool) (bc0 : Bool) (be0 : Bool), ∃ ao co lo, e = .returned (.slice ao (List.length lo) co) ∧ Ev w [.box b [.slice au (List.length lu) cu, .bool fc, .slice ad (List.length ld) cd, .bool bc, .slice ah (List.length lh) ch, .slice ap (List.length lp) cp, .slice aq (List.length lq) cq, .bool fc, .bool fe, .slice ar (List.length lr) cr, .slice av (List.length lv) cv, .bool bc, .bool be] 66, .vec au cu 1 (bys lu) 5, .vec ad cd 1 (bys ld) 5, .vec ah ch 1 (bys lh) 5, .vec ap cp 1 (bys lp) 5, .vec aq cq 1 (bys lq) 5, .vec ar cr 1 (bys lr) 5, .vec av cv 1 (bys lv) 5] w' [.box b [.slice au0 (List.length lu0) cu0, .bool fc0, .slice ad0 (List.length ld0) cd0, .bool bc0, .slice ah0 (List.length lh0) ch0, .slice ap0 (List.length lp0) cp0, .slice aq0 (List.length lq0) cq0, .bool fc0, .bool fe0, .slice ar0 (List.length lr0) cr0, .slice av0 (List.length lv0) cv0, .bool bc0, .bool be0] 66, .vec au0 cu0 1 (bys lu0) 5, .vec ad0 cd0 1 (bys ld0) 5, .vec ah0 ch0 1 (bys lh0) 5, .vec ap0 cp0 1 (bys lp0) 5, .vec aq0 cq0 1 (bys lq0) 5, .vec ar0 cr0 1 (bys lr0) 5, .vec av0 cv0 1 (bys lv0) 5, .vec ao co 1 (bys lo) 5] ∧ (⟨lu0, ld0, lh0, lp0, lq0, fc0, fe0, lr0, lv0, bc0, be0⟩ : Rel) = Rel.read (⟨lu, ld, lh, lp, lq, fc, fe, lr, lv, bc, be⟩ : Rel) sd n ∧ lo = Rel.out (⟨lu, ld, lh, lp, lq, fc, fe, lr, lv, bc, be⟩ : Rel) sd n := by
  have hcu := clampN_le n (List.length lu)
  have hcd := clampN_le n (List.length ld)
  have hmu : (List.take (clampN n (List.length lu)) lu).length = clampN n (List.length lu) := by rw [List.length_take]; omega
  have hmd : (List.take (clampN n (List.length ld)) ld).length = clampN n (List.length ld) := by rw [List.length_take]; omega
  refine d_start [(0, .pointer (some ⟨b, 0, none⟩)), (1, .int .i64 sd), (2, .int .i64 n)] 44 Go.Proofs.Try.func21 Go.Proofs.Try.ntmps21 rfl (by kernel_rfl) (by kernel_rfl) ?_
  intro act0 En0
  have Hv0 : Ev w [.box b [.slice au (List.length lu) cu, .bool fc, .slice ad (List.length ld) cd, .bool bc, .slice ah (List.length lh) ch, .slice ap (List.length lp) cp, .slice aq (List.length lq) cq, .bool fc, .bool fe, .slice ar (List.length lr) cr, .slice av (List.length lv) cv, .bool bc, .bool be] 66, .vec au cu 1 (bys lu) 5, .vec ad cd 1 (bys ld) 5, .vec ah ch 1 (bys lh) 5, .vec ap cp 1 (bys lp) 5, .vec aq cq 1 (bys lq) 5, .vec ar cr 1 (bys lr) 5, .vec av cv 1 (bys lv) 5] w [.box b [.slice au (List.length lu) cu, .bool fc, .slice ad (List.length ld) cd, .bool bc, .slice ah (List.length lh) ch, .slice ap (List.length lp) cp, .slice aq (List.length lq) cq, .bool fc, .bool fe, .slice ar (List.length lr) cr, .slice av (List.length lv) cv, .bool bc, .bool be] 66, .vec au cu 1 (bys lu) 5, .vec ad cd 1 (bys ld) 5, .vec ah ch 1 (bys lh) 5, .vec ap cp 1 (bys lp) 5, .vec aq cq 1 (bys lq) 5, .vec ar cr 1 (bys lr) 5, .vec av cv 1 (bys lv) 5] := Ev.refl (hH)
  refine wp_seq ?_
  refine region_from ?_  -- region 0
  refine d_pures [(0, .pointer (some ⟨b, 0, none⟩)), (1, .int .i64 sd), (2, .int .i64 n), (6, .slice none 0 0)] [.slice none 0 0] 1 En0 (by kernel_rfl) (by kernel_rfl) rfl ?_
  intro ac1 En2
  refine from_end (by kernel_rfl) ?_
  refine then_normal ?_
  refine wp_seq ?_
  refine region_from ?_  -- region 1
  refine d_pures [(2, .int .i64 n), (6, .slice none 0 0), (12, .pointer (some ⟨b, 0, none⟩)), (13, .int .i64 sd)] [.pointer (some ⟨b, 0, none⟩), .int .i64 sd] 2 En2 (by kernel_rfl) (by kernel_rfl) rfl ?_
  intro ac3 En4
  refine from_op (by kernel_rfl) ?_
  have hM5 : Heap w [] := Hv0.heap.pick [] (by kernel_rfl) (by decide)
  refine op_call (d := some 14) (f := 36) (args := #[.pointer (some ⟨b, 0, none⟩), .int .i64 sd]) En4 (by kernel_rfl) ((endx _ b sd h1 h2).mono ?_)
  rintro _ wo7 ⟨rfl, he10⟩
  refine ⟨_, rfl, ?_⟩
  intro ac6 En8
  have Hv9 : Ev w [.box b [.slice au (List.length lu) cu, .bool fc, .slice ad (List.length ld) cd, .bool bc, .slice ah (List.length lh) ch, .slice ap (List.length lp) cp, .slice aq (List.length lq) cq, .bool fc, .bool fe, .slice ar (List.length lr) cr, .slice av (List.length lv) cv, .bool bc, .bool be] 66, .vec au cu 1 (bys lu) 5, .vec ad cd 1 (bys ld) 5, .vec ah ch 1 (bys lh) 5, .vec ap cp 1 (bys lp) 5, .vec aq cq 1 (bys lq) 5, .vec ar cr 1 (bys lr) 5, .vec av cv 1 (bys lv) 5] wo7 [.box b [.slice au (List.length lu) cu, .bool fc, .slice ad (List.length ld) cd, .bool bc, .slice ah (List.length lh) ch, .slice ap (List.length lp) cp, .slice aq (List.length lq) cq, .bool fc, .bool fe, .slice ar (List.length lr) cr, .slice av (List.length lv) cv, .bool bc, .bool be] 66, .vec au cu 1 (bys lu) 5, .vec ad cd 1 (bys ld) 5, .vec ah ch 1 (bys lh) 5, .vec ap cp 1 (bys lp) 5, .vec aq cq 1 (bys lq) 5, .vec ar cr 1 (bys lr) 5, .vec av cv 1 (bys lv) 5] := Hv0.trans (Ev.call (R := [.box b [.slice au (List.length lu) cu, .bool fc, .slice ad (List.length ld) cd, .bool bc, .slice ah (List.length lh) ch, .slice ap (List.length lp) cp, .slice aq (List.length lq) cq, .bool fc, .bool fe, .slice ar (List.length lr) cr, .slice av (List.length lv) cv, .bool bc, .bool be] 66, .vec au cu 1 (bys lu) 5, .vec ad cd 1 (bys ld) 5, .vec ah ch 1 (bys lh) 5, .vec ap cp 1 (bys lp) 5, .vec aq cq 1 (bys lq) 5, .vec ar cr 1 (bys lr) 5, .vec av cv 1 (bys lv) 5]) Hv0.heap [0, 1, 2, 3, 4, 5, 6, 7] (by kernel_rfl) (by decide) he10)
  clear hM5 he10
  refine d_pures [(2, .int .i64 n), (6, .slice none 0 0), (7, .pointer none), (9, .pointer none)] [.tuple #[.pointer none, .pointer none, .pointer none], .pointer none, .pointer none, .pointer none, .pointer none, .pointer none, .pointer none] 10 En8 (by kernel_rfl) (by kernel_rfl) rfl ?_
  intro ac11 En12
  refine from_end (by kernel_rfl) ?_
  refine then_normal ?_
  refine wp_seq ?_
  refine wp_seq ?_
  refine region_from ?_  -- region 2
  refine d_pures [(2, .int .i64 n), (6, .slice none 0 0), (7, .pointer none), (9, .pointer none), (19, .bool true)] [.pointer none, .bool true] 2 En12 (by kernel_rfl) (by kernel_rfl) rfl ?_
  intro ac13 En14
  refine from_end (by kernel_rfl) ?_
  refine then_normal ?_
  refine cond_true En14 (t := true) (by kernel_rfl) rfl ?_
  refine wp_seq ?_
  refine region_from ?_  -- region 3
  refine d_pures [(2, .int .i64 n), (6, .slice none 0 0), (7, .pointer none), (9, .pointer none)] [.slice none 0 0] 1 En14 (by kernel_rfl) (by kernel_rfl) rfl ?_
  intro ac15 En16
  refine from_end (by kernel_rfl) ?_
  refine then_normal ?_
  refine wp_ret ?_
  refine then_ret ?_
  refine d_ret1 (t := 6) (v := .slice none 0 0) En16 (by kernel_rfl) (by kernel_rfl) ?_
  have Hv17 := Ev.nil (sz := 1) (T := 5) Hv9
  exact ⟨au, ad, ah, ap, aq, ar, av, cu, cd, ch, cp, cq, cr, cv, lu, ld, lh, lp, lq, lr, lv, fc, fe, bc, be, none, 0, [], rfl, Hv17.pick [0, 1, 2, 3, 4, 5, 6, 7, 8] (by kernel_rfl) (by decide), by simp [Rel.read, h1, h2], by simp [Rel.out, h1, h2]⟩

theorem xread (w : World) (b : Nat) (au ad ah ap aq ar av : Option Addr) (cu cd ch cp cq cr cv : Nat) (lu ld lh lp lq lr lv : List UInt8) (fc fe bc be : Bool) (n : Int) (sd : Int) (hH : Heap w [.box b [.slice au (List.length lu) cu, .bool fc, .slice ad (List.length ld) cd, .bool bc, .slice ah (List.length lh) ch, .slice ap (List.length lp) cp, .slice aq (List.length lq) cq, .bool fc, .bool fe, .slice ar (List.length lr) cr, .slice av (List.length lv) cv, .bool bc, .bool be] 66, .vec au cu 1 (bys lu) 5, .vec ad cd 1 (bys ld) 5, .vec ah ch 1 (bys lh) 5, .vec ap cp 1 (bys lp) 5, .vec aq cq 1 (bys lq) 5, .vec ar cr 1 (bys lr) 5, .vec av cv 1 (bys lv) 5]) (hS : List.length lu + List.length ld + List.length lh + List.length lp + List.length lq + List.length lr + List.length lv ≤ 140737488351232) : Calls Try.prog 21 #[.pointer (some ⟨b, 0, none⟩), .int .i64 sd, .int .i64 n] w fun e w' => ∃ au0 ad0 ah0 ap0 aq0 ar0 av0, ∃ cu0 cd0 ch0 cp0 cq0 cr0 cv0, ∃ (lu0 : List UInt8) (ld0 : List UInt8) (lh0 : List UInt8) (lp0 : List UInt8) (lq0 : List UInt8) (lr0 : List UInt8) (lv0 : List UInt8), ∃ (fc0 : Bool) (fe0 : Bool) (bc0 : Bool) (be0 : Bool), ∃ ao co lo, e = .returned (.slice ao (List.length lo) co) ∧ Ev w [.box b [.slice au (List.length lu) cu, .bool fc, .slice ad (List.length ld) cd, .bool bc, .slice ah (List.length lh) ch, .slice ap (List.length lp) cp, .slice aq (List.length lq) cq, .bool fc, .bool fe, .slice ar (List.length lr) cr, .slice av (List.length lv) cv, .bool bc, .bool be] 66, .vec au cu 1 (bys lu) 5, .vec ad cd 1 (bys ld) 5, .vec ah ch 1 (bys lh) 5, .vec ap cp 1 (bys lp) 5, .vec aq cq 1 (bys lq) 5, .vec ar cr 1 (bys lr) 5, .vec av cv 1 (bys lv) 5] w' [.box b [.slice au0 (List.length lu0) cu0, .bool fc0, .slice ad0 (List.length ld0) cd0, .bool bc0, .slice ah0 (List.length lh0) ch0, .slice ap0 (List.length lp0) cp0, .slice aq0 (List.length lq0) cq0, .bool fc0, .bool fe0, .slice ar0 (List.length lr0) cr0, .slice av0 (List.length lv0) cv0, .bool bc0, .bool be0] 66, .vec au0 cu0 1 (bys lu0) 5, .vec ad0 cd0 1 (bys ld0) 5, .vec ah0 ch0 1 (bys lh0) 5, .vec ap0 cp0 1 (bys lp0) 5, .vec aq0 cq0 1 (bys lq0) 5, .vec ar0 cr0 1 (bys lr0) 5, .vec av0 cv0 1 (bys lv0) 5, .vec ao co 1 (bys lo) 5] ∧ (⟨lu0, ld0, lh0, lp0, lq0, fc0, fe0, lr0, lv0, bc0, be0⟩ : Rel) = Rel.read (⟨lu, ld, lh, lp, lq, fc, fe, lr, lv, bc, be⟩ : Rel) sd n ∧ lo = Rel.out (⟨lu, ld, lh, lp, lq, fc, fe, lr, lv, bc, be⟩ : Rel) sd n := by
  by_cases h1 : sd = 1
  · subst h1; exact xread1 w b au ad ah ap aq ar av cu cd ch cp cq cr cv lu ld lh lp lq lr lv fc fe bc be n hH hS
  · by_cases h2 : sd = 2
    · subst h2; exact xread2 w b au ad ah ap aq ar av cu cd ch cp cq cr cv lu ld lh lp lq lr lv fc fe bc be n hH hS
    · exact xreadx w b au ad ah ap aq ar av cu cd ch cp cq cr cv lu ld lh lp lq lr lv fc fe bc be n sd h1 h2 hH hS
theorem clamp_neg {n : Int} {m : Nat} (h : n < 0) : clampN n m = 0 := by unfold clampN; omega
theorem clamp_big {n : Int} {m : Nat} (h : n > ((m : Nat) : Int)) : clampN n m = m := by unfold clampN; omega
theorem clamp_mid {n m : Nat} (h : n ≤ m) : clampN (n : Int) m = n := by unfold clampN; omega

theorem take_ref (w : World) (ax : Option Addr) (nx cx : Nat) (lx : List UInt8) (ex : nx = List.length lx) (ix : InB w [] ax cx lx) (n : Int) : Calls Try.prog 39 #[.slice ax nx cx, .int .i64 n] w fun e w' => ∃ ao co ap cp, e = .returned (.tuple #[.slice ao (List.length (List.take (clampN n (List.length lx)) lx)) co, .slice ap (List.length (List.drop (clampN n (List.length lx)) lx)) cp]) ∧ Ev w [] w' [.vec ao co 1 (bys (List.take (clampN n (List.length lx)) lx)) 5, .vec ap cp 1 (bys (List.drop (clampN n (List.length lx)) lx)) 5] := by
  subst ex
  have hs := ix.small
  have hc := ix.cap
  refine d_start [(0, .slice ax (List.length lx) cx), (1, .int .i64 n)] 24 Go.Proofs.Try.func39 Go.Proofs.Try.ntmps39 rfl (by kernel_rfl) (by kernel_rfl) ?_
  intro act0 En0
  have Hv0 : Ev w [] w [] := Ev.refl (Heap.nil _)
  refine wp_seq ?_
  refine region_from ?_  -- region 0
  refine d_pures [(0, .slice ax (List.length lx) cx), (1, .int .i64 n), (4, .slice none 0 0), (5, .slice none 0 0)] [.slice none 0 0, .slice none 0 0] 2 En0 (by kernel_rfl) (by kernel_rfl) rfl ?_
  intro ac1 En2
  refine from_end (by kernel_rfl) ?_
  refine then_normal ?_
  refine wp_seq ?_
  refine wp_seq ?_
  refine region_from ?_  -- region 1
  refine d_pures [(0, .slice ax (List.length lx) cx), (1, .int .i64 n), (4, .slice none 0 0), (5, .slice none 0 0), (7, .bool (decide (n < (0 : Int))))] [.int .i64 n, .bool (decide (n < (0 : Int)))] 2 En2 (by kernel_rfl) (by kernel_rfl) rfl ?_
  intro ac3 En4
  refine from_end (by kernel_rfl) ?_
  refine then_normal ?_
  refine cond_at En4 (t := decide (n < (0 : Int))) (by kernel_rfl) (fun hc5 => ?_) (fun hc5 => ?_)
  ·
    replace hc5 : n < (0 : Int) := of_decide_eq_true hc5
    refine region_from ?_  -- region 2
    refine d_pures [(0, .slice ax (List.length lx) cx), (1, .int .i64 0), (4, .slice none 0 0), (5, .slice none 0 0)] [.int .i64 0] 1 En4 (by kernel_rfl) (by kernel_rfl) rfl ?_
    intro ac6 En7
    refine from_end (by kernel_rfl) ?_
    refine then_normal ?_
    refine wp_seq ?_
    refine wp_seq ?_
    refine region_from ?_  -- region 3
    refine d_pures [(0, .slice ax (List.length lx) cx), (1, .int .i64 0), (4, .slice none 0 0), (5, .slice none 0 0), (11, .bool (decide ((0 : Int) > ((List.length lx : Nat) : Int))))] [.int .i64 0, .slice ax (List.length lx) cx, .int .i64 ((List.length lx : Nat) : Int), .bool (decide ((0 : Int) > ((List.length lx : Nat) : Int)))] 4 En7 (by kernel_rfl) (by kernel_rfl) rfl ?_
    intro ac8 En9
    refine from_end (by kernel_rfl) ?_
    refine then_normal ?_
    refine cond_at En9 (t := decide ((0 : Int) > ((List.length lx : Nat) : Int))) (by kernel_rfl) (fun hc10 => ?_) (fun hc10 => ?_)
    ·
      replace hc10 : (0 : Int) > ((List.length lx : Nat) : Int) := of_decide_eq_true hc10
      exfalso; omega
    ·
      replace hc10 : ¬ ((0 : Int) > ((List.length lx : Nat) : Int)) := of_decide_eq_false hc10
      refine wp_skip ?_
      refine then_normal ?_
      refine wp_seq ?_
      refine region_cut (F := fun ac wo => ∃ (ao28 : Option Addr) (cp29 : Nat) (ao44 : Option Addr) (cp45 : Nat), Env ac 24 [(0, .slice ax (List.length lx) cx), (1, .int .i64 0), (4, .slice ao28 (List.length (List.take 0 lx)) cp29), (5, .slice ao44 (List.length (List.take (List.length lx) lx)) cp45)] ∧ Ev w [] wo [.vec ao28 cp29 1 (bys (List.take 0 lx)) 5, .vec ao44 cp45 1 (bys (List.take (List.length lx) lx)) 5]) ?_ ?_
      ·
        refine draw_any (by kernel_rfl) 12 (by kernel_rfl) ?_  -- region 5
        have wo11 := Hv0.trans (Ev.drew Hv0.heap)
        refine any_name fun G hG => ?_
        have nd272 : ∀ (ac : Act) (wo : World) (ao28 : Option Addr) (cp29 : Nat) (bk36 : Nat), Env ac 24 [(0, .slice ax (List.length lx) cx), (1, .int .i64 0), (4, .slice none 0 0), (5, .slice none 0 0), (18, .slice ao28 (List.length (List.take 0 lx)) cp29), (19, .slice (some ⟨bk36, 0, none⟩) 0 0), (20, .slice ax (List.length lx) cx), (21, .int .i64 0)] → Ev w [] wo [.vec ao28 cp29 1 (bys (List.take 0 lx)) 5, .vec (some ⟨bk36, 0, none⟩) 0 1 (bys []) 5] → G 4 #[true, true, true, true, true, true, true, true, false, false, false, false] ac wo := by
          intro ac273 wo274 ao28 cp29 bk36 En275 Hv276
          refine any_from hG ?_
          refine any_at 8 (by kernel_rfl) rfl ?_
          have hcap277 := ix.cap
          refine op_slice0 (d := some 22) (t := 22) (e := 5) (sz := 1) (len := List.length lx) (cap := cx) (hi := List.length lx) (ao := ax) (lov := (some (.int .i64 0))) (hiv := none) En275 (by kernel_rfl) (by kernel_rfl) (by kernel_rfl) (by omega) (.inr ⟨.i64, rfl⟩) (.inl ⟨rfl, rfl⟩) ?_
          intro ac278 En279
          refine any_at 9 (by kernel_rfl) rfl ?_
          refine op_append (d := some 23) (t := 22) (tx := 22) (ty := 22) (k := 1) (p := 0) (m := List.length lx) (x := .slice ax (List.length lx) cx) (bytes := 1) En279 (by kernel_rfl) Hv276 rfl rfl (Reads.src (size := 1) (tx := 22) (e' := 5) (by kernel_rfl) (bys_take_reads (ix.ev Hv276).reads (List.length lx)) (bys_lenn (by first | (simp; done) | (simp; omega))) (fun e => by have := ix.nz e; omega) (bys_one _)) (by kernel_rfl) (z := .int .u8 0) (by kernel_rfl) rfl (by decide) (by omega) (by unfold maxLen; omega) ?_
          intro ac284 wo285 ao280 cp281 En286 Hv287 _ _
          rw [bys_nil_append] at Hv287
          have ehz282 : 0 + (List.length lx) = List.length (List.take (List.length lx) lx) := (by first | (simp; done) | (simp; omega) | omega)
          rw [ehz282] at En286
          refine any_pureR (d := some 4) En286 (v := .slice ao28 (List.length (List.take 0 lx)) cp29) 10 (by kernel_rfl) (by kernel_rfl) rfl ?_
          intro ac288 En289
          refine any_pureR (d := some 5) En289 (v := .slice ao280 (List.length (List.take (List.length lx) lx)) cp281) 11 (by kernel_rfl) (by kernel_rfl) rfl ?_
          intro ac290 En291
          exact any_end (by kernel_rfl) ⟨ao28, cp29, ao280, cp281, En291.sub (by kernel_rfl), Hv287.pick [0, 1] (by kernel_rfl) (by decide)⟩
        have nd292 : ∀ (ac : Act) (wo : World) (ao28 : Option Addr) (cp29 : Nat), Env ac 24 [(0, .slice ax (List.length lx) cx), (1, .int .i64 0), (4, .slice none 0 0), (5, .slice none 0 0), (18, .slice ao28 (List.length (List.take 0 lx)) cp29), (22, .slice ax (List.length lx) cx)] → Ev w [] wo [.vec ao28 cp29 1 (bys (List.take 0 lx)) 5] → G 4 #[true, true, true, true, true, false, true, true, true, false, false, false] ac wo := by
          intro ac293 wo294 ao28 cp29 En295 Hv296
          refine any_from hG ?_
          refine any_at 5 (by kernel_rfl) rfl ?_
          refine op_lit (d := some 19) (t := 22) (T := 5) (m := 0) (parts := #[]) (xs := bys []) (sz := 1) En295 (by kernel_rfl) (by kernel_rfl) rfl (by decide) Hv296 ?_
          intro ac298 wo299 bk297 En300 Hv301
          refine any_at 9 (by kernel_rfl) rfl ?_
          refine op_append (d := some 23) (t := 22) (tx := 22) (ty := 22) (k := 1) (p := 0) (m := List.length lx) (x := .slice ax (List.length lx) cx) (bytes := 1) En300 (by kernel_rfl) Hv301 rfl rfl (Reads.src (size := 1) (tx := 22) (e' := 5) (by kernel_rfl) (bys_take_reads (ix.ev Hv301).reads (List.length lx)) (bys_lenn (by first | (simp; done) | (simp; omega))) (fun e => by have := ix.nz e; omega) (bys_one _)) (by kernel_rfl) (z := .int .u8 0) (by kernel_rfl) rfl (by decide) (by omega) (by unfold maxLen; omega) ?_
          intro ac306 wo307 ao302 cp303 En308 Hv309 _ _
          rw [bys_nil_append] at Hv309
          have ehz304 : 0 + (List.length lx) = List.length (List.take (List.length lx) lx) := (by first | (simp; done) | (simp; omega) | omega)
          rw [ehz304] at En308
          refine any_pureR (d := some 4) En308 (v := .slice ao28 (List.length (List.take 0 lx)) cp29) 10 (by kernel_rfl) (by kernel_rfl) rfl ?_
          intro ac310 En311
          refine any_pureR (d := some 5) En311 (v := .slice ao302 (List.length (List.take (List.length lx) lx)) cp303) 11 (by kernel_rfl) (by kernel_rfl) rfl ?_
          intro ac312 En313
          exact any_end (by kernel_rfl) ⟨ao28, cp29, ao302, cp303, En313.sub (by kernel_rfl), Hv309.pick [0, 1] (by kernel_rfl) (by decide)⟩
        have nd314 : ∀ (ac : Act) (wo : World) (bk20 : Nat) (bk76 : Nat), Env ac 24 [(0, .slice ax (List.length lx) cx), (1, .int .i64 0), (4, .slice none 0 0), (5, .slice none 0 0), (14, .slice (some ⟨bk20, 0, none⟩) 0 0), (17, .slice ax 0 cx), (19, .slice (some ⟨bk76, 0, none⟩) 0 0), (22, .slice ax (List.length lx) cx)] → Ev w [] wo [.vec (some ⟨bk20, 0, none⟩) 0 1 (bys []) 5, .vec (some ⟨bk76, 0, none⟩) 0 1 (bys []) 5] → G 4 #[true, true, true, true, false, true, true, true, true, false, false, false] ac wo := by
          intro ac315 wo316 bk20 bk76 En317 Hv318
          refine any_from hG ?_
          refine any_at 4 (by kernel_rfl) rfl ?_
          refine op_append (d := some 18) (t := 22) (tx := 22) (ty := 22) (k := 0) (p := 0) (m := 0) (x := .slice ax 0 cx) (bytes := 1) En317 (by kernel_rfl) Hv318 rfl rfl (Reads.src (size := 1) (tx := 22) (e' := 5) (by kernel_rfl) (bys_take_reads (ix.ev Hv318).reads 0) (bys_lenn (by first | (simp; done) | (simp; omega))) (fun e => by have := ix.nz e; omega) (bys_one _)) (by kernel_rfl) (z := .int .u8 0) (by kernel_rfl) rfl (by decide) (by omega) (by unfold maxLen; omega) ?_
          intro ac323 wo324 ao319 cp320 En325 Hv326 _ _
          rw [bys_nil_append] at Hv326
          have ehz321 : 0 + 0 = List.length (List.take 0 lx) := (by first | (simp; done) | (simp; omega) | omega)
          rw [ehz321] at En325
          refine any_at 9 (by kernel_rfl) rfl ?_
          refine op_append (d := some 23) (t := 22) (tx := 22) (ty := 22) (k := 1) (p := 0) (m := List.length lx) (x := .slice ax (List.length lx) cx) (bytes := 1) En325 (by kernel_rfl) Hv326 rfl rfl (Reads.src (size := 1) (tx := 22) (e' := 5) (by kernel_rfl) (bys_take_reads (ix.ev Hv326).reads (List.length lx)) (bys_lenn (by first | (simp; done) | (simp; omega))) (fun e => by have := ix.nz e; omega) (bys_one _)) (by kernel_rfl) (z := .int .u8 0) (by kernel_rfl) rfl (by decide) (by omega) (by unfold maxLen; omega) ?_
          intro ac331 wo332 ao327 cp328 En333 Hv334 _ _
          rw [bys_nil_append] at Hv334
          have ehz329 : 0 + (List.length lx) = List.length (List.take (List.length lx) lx) := (by first | (simp; done) | (simp; omega) | omega)
          rw [ehz329] at En333
          refine any_pureR (d := some 4) En333 (v := .slice ao319 (List.length (List.take 0 lx)) cp320) 10 (by kernel_rfl) (by kernel_rfl) rfl ?_
          intro ac335 En336
          refine any_pureR (d := some 5) En336 (v := .slice ao327 (List.length (List.take (List.length lx) lx)) cp328) 11 (by kernel_rfl) (by kernel_rfl) rfl ?_
          intro ac337 En338
          exact any_end (by kernel_rfl) ⟨ao319, cp320, ao327, cp328, En338.sub (by kernel_rfl), Hv334.pick [0, 1] (by kernel_rfl) (by decide)⟩
        have nd339 : ∀ (ac : Act) (wo : World) (ao28 : Option Addr) (cp29 : Nat), Env ac 24 [(0, .slice ax (List.length lx) cx), (1, .int .i64 0), (4, .slice none 0 0), (5, .slice none 0 0), (18, .slice ao28 (List.length (List.take 0 lx)) cp29), (20, .slice ax (List.length lx) cx), (21, .int .i64 0)] → Ev w [] wo [.vec ao28 cp29 1 (bys (List.take 0 lx)) 5] → G 5 #[true, true, true, true, true, false, true, true, false, false, false, false] ac wo := by
          intro ac340 wo341 ao28 cp29 En342 Hv343
          refine any_from hG ?_
          refine any_two 5 8 (by kernel_rfl) ?_ ?_
          · rintro _ rfl
            refine op_lit (d := some 19) (t := 22) (T := 5) (m := 0) (parts := #[]) (xs := bys []) (sz := 1) En342 (by kernel_rfl) (by kernel_rfl) rfl (by decide) Hv343 ?_
            intro ac345 wo346 bk344 En347 Hv348
            exact any_to hG (by kernel_rfl) (nd272 _ _ ao28 cp29 bk344 (En347.sub (by kernel_rfl)) (Hv348.pick [0, 1] (by kernel_rfl) (by decide)))
          · rintro _ rfl
            have hcap349 := ix.cap
            refine op_slice0 (d := some 22) (t := 22) (e := 5) (sz := 1) (len := List.length lx) (cap := cx) (hi := List.length lx) (ao := ax) (lov := (some (.int .i64 0))) (hiv := none) En342 (by kernel_rfl) (by kernel_rfl) (by kernel_rfl) (by omega) (.inr ⟨.i64, rfl⟩) (.inl ⟨rfl, rfl⟩) ?_
            intro ac350 En351
            exact any_to hG (by kernel_rfl) (nd292 _ _ ao28 cp29 (En351.sub (by kernel_rfl)) (Hv343.pick [0] (by kernel_rfl) (by decide)))
        have nd352 : ∀ (ac : Act) (wo : World) (bk20 : Nat) (bk76 : Nat), Env ac 24 [(0, .slice ax (List.length lx) cx), (1, .int .i64 0), (4, .slice none 0 0), (5, .slice none 0 0), (14, .slice (some ⟨bk20, 0, none⟩) 0 0), (17, .slice ax 0 cx), (19, .slice (some ⟨bk76, 0, none⟩) 0 0), (20, .slice ax (List.length lx) cx), (21, .int .i64 0)] → Ev w [] wo [.vec (some ⟨bk20, 0, none⟩) 0 1 (bys []) 5, .vec (some ⟨bk76, 0, none⟩) 0 1 (bys []) 5] → G 5 #[true, true, true, true, false, true, true, true, false, false, false, false] ac wo := by
          intro ac353 wo354 bk20 bk76 En355 Hv356
          refine any_from hG ?_
          refine any_two 4 8 (by kernel_rfl) ?_ ?_
          · rintro _ rfl
            refine op_append (d := some 18) (t := 22) (tx := 22) (ty := 22) (k := 0) (p := 0) (m := 0) (x := .slice ax 0 cx) (bytes := 1) En355 (by kernel_rfl) Hv356 rfl rfl (Reads.src (size := 1) (tx := 22) (e' := 5) (by kernel_rfl) (bys_take_reads (ix.ev Hv356).reads 0) (bys_lenn (by first | (simp; done) | (simp; omega))) (fun e => by have := ix.nz e; omega) (bys_one _)) (by kernel_rfl) (z := .int .u8 0) (by kernel_rfl) rfl (by decide) (by omega) (by unfold maxLen; omega) ?_
            intro ac361 wo362 ao357 cp358 En363 Hv364 _ _
            rw [bys_nil_append] at Hv364
            have ehz359 : 0 + 0 = List.length (List.take 0 lx) := (by first | (simp; done) | (simp; omega) | omega)
            rw [ehz359] at En363
            exact any_to hG (by kernel_rfl) (nd272 _ _ ao357 cp358 bk76 (En363.sub (by kernel_rfl)) (Hv364.pick [0, 1] (by kernel_rfl) (by decide)))
          · rintro _ rfl
            have hcap365 := ix.cap
            refine op_slice0 (d := some 22) (t := 22) (e := 5) (sz := 1) (len := List.length lx) (cap := cx) (hi := List.length lx) (ao := ax) (lov := (some (.int .i64 0))) (hiv := none) En355 (by kernel_rfl) (by kernel_rfl) (by kernel_rfl) (by omega) (.inr ⟨.i64, rfl⟩) (.inl ⟨rfl, rfl⟩) ?_
            intro ac366 En367
            exact any_to hG (by kernel_rfl) (nd314 _ _ bk20 bk76 (En367.sub (by kernel_rfl)) (Hv356.pick [0, 1] (by kernel_rfl) (by decide)))
        have nd368 : ∀ (ac : Act) (wo : World) (bk20 : Nat), Env ac 24 [(0, .slice ax (List.length lx) cx), (1, .int .i64 0), (4, .slice none 0 0), (5, .slice none 0 0), (14, .slice (some ⟨bk20, 0, none⟩) 0 0), (17, .slice ax 0 cx), (22, .slice ax (List.length lx) cx)] → Ev w [] wo [.vec (some ⟨bk20, 0, none⟩) 0 1 (bys []) 5] → G 5 #[true, true, true, true, false, false, true, true, true, false, false, false] ac wo := by
          intro ac369 wo370 bk20 En371 Hv372
          refine any_from hG ?_
          refine any_two 4 5 (by kernel_rfl) ?_ ?_
          · rintro _ rfl
            refine op_append (d := some 18) (t := 22) (tx := 22) (ty := 22) (k := 0) (p := 0) (m := 0) (x := .slice ax 0 cx) (bytes := 1) En371 (by kernel_rfl) Hv372 rfl rfl (Reads.src (size := 1) (tx := 22) (e' := 5) (by kernel_rfl) (bys_take_reads (ix.ev Hv372).reads 0) (bys_lenn (by first | (simp; done) | (simp; omega))) (fun e => by have := ix.nz e; omega) (bys_one _)) (by kernel_rfl) (z := .int .u8 0) (by kernel_rfl) rfl (by decide) (by omega) (by unfold maxLen; omega) ?_
            intro ac377 wo378 ao373 cp374 En379 Hv380 _ _
            rw [bys_nil_append] at Hv380
            have ehz375 : 0 + 0 = List.length (List.take 0 lx) := (by first | (simp; done) | (simp; omega) | omega)
            rw [ehz375] at En379
            exact any_to hG (by kernel_rfl) (nd292 _ _ ao373 cp374 (En379.sub (by kernel_rfl)) (Hv380.pick [0] (by kernel_rfl) (by decide)))
          · rintro _ rfl
            refine op_lit (d := some 19) (t := 22) (T := 5) (m := 0) (parts := #[]) (xs := bys []) (sz := 1) En371 (by kernel_rfl) (by kernel_rfl) rfl (by decide) Hv372 ?_
            intro ac382 wo383 bk381 En384 Hv385
            exact any_to hG (by kernel_rfl) (nd314 _ _ bk20 bk381 (En384.sub (by kernel_rfl)) (Hv385.pick [0, 1] (by kernel_rfl) (by decide)))
        have nd386 : ∀ (ac : Act) (wo : World) (bk20 : Nat) (bk128 : Nat), Env ac 24 [(0, .slice ax (List.length lx) cx), (1, .int .i64 0), (4, .slice none 0 0), (5, .slice none 0 0), (14, .slice (some ⟨bk20, 0, none⟩) 0 0), (15, .slice ax (List.length lx) cx), (16, .int .i64 0), (19, .slice (some ⟨bk128, 0, none⟩) 0 0), (22, .slice ax (List.length lx) cx)] → Ev w [] wo [.vec (some ⟨bk20, 0, none⟩) 0 1 (bys []) 5, .vec (some ⟨bk128, 0, none⟩) 0 1 (bys []) 5] → G 5 #[true, true, true, false, false, true, true, true, true, false, false, false] ac wo := by
          intro ac387 wo388 bk20 bk128 En389 Hv390
          refine any_from hG ?_
          refine any_at 3 (by kernel_rfl) rfl ?_
          have hcap391 := ix.cap
          refine op_slice0 (d := some 17) (t := 22) (e := 5) (sz := 1) (len := List.length lx) (cap := cx) (hi := 0) (ao := ax) (lov := none) (hiv := (some (.int .i64 0))) En389 (by kernel_rfl) (by kernel_rfl) (by kernel_rfl) (by omega) (.inl ⟨rfl, rfl⟩) (.inr ⟨.i64, rfl⟩) ?_
          intro ac392 En393
          refine any_at 4 (by kernel_rfl) rfl ?_
          refine op_append (d := some 18) (t := 22) (tx := 22) (ty := 22) (k := 0) (p := 0) (m := 0) (x := .slice ax 0 cx) (bytes := 1) En393 (by kernel_rfl) Hv390 rfl rfl (Reads.src (size := 1) (tx := 22) (e' := 5) (by kernel_rfl) (bys_take_reads (ix.ev Hv390).reads 0) (bys_lenn (by first | (simp; done) | (simp; omega))) (fun e => by have := ix.nz e; omega) (bys_one _)) (by kernel_rfl) (z := .int .u8 0) (by kernel_rfl) rfl (by decide) (by omega) (by unfold maxLen; omega) ?_
          intro ac398 wo399 ao394 cp395 En400 Hv401 _ _
          rw [bys_nil_append] at Hv401
          have ehz396 : 0 + 0 = List.length (List.take 0 lx) := (by first | (simp; done) | (simp; omega) | omega)
          rw [ehz396] at En400
          refine any_at 9 (by kernel_rfl) rfl ?_
          refine op_append (d := some 23) (t := 22) (tx := 22) (ty := 22) (k := 1) (p := 0) (m := List.length lx) (x := .slice ax (List.length lx) cx) (bytes := 1) En400 (by kernel_rfl) Hv401 rfl rfl (Reads.src (size := 1) (tx := 22) (e' := 5) (by kernel_rfl) (bys_take_reads (ix.ev Hv401).reads (List.length lx)) (bys_lenn (by first | (simp; done) | (simp; omega))) (fun e => by have := ix.nz e; omega) (bys_one _)) (by kernel_rfl) (z := .int .u8 0) (by kernel_rfl) rfl (by decide) (by omega) (by unfold maxLen; omega) ?_
          intro ac406 wo407 ao402 cp403 En408 Hv409 _ _
          rw [bys_nil_append] at Hv409
          have ehz404 : 0 + (List.length lx) = List.length (List.take (List.length lx) lx) := (by first | (simp; done) | (simp; omega) | omega)
          rw [ehz404] at En408
          refine any_pureR (d := some 4) En408 (v := .slice ao394 (List.length (List.take 0 lx)) cp395) 10 (by kernel_rfl) (by kernel_rfl) rfl ?_
          intro ac410 En411
          refine any_pureR (d := some 5) En411 (v := .slice ao402 (List.length (List.take (List.length lx) lx)) cp403) 11 (by kernel_rfl) (by kernel_rfl) rfl ?_
          intro ac412 En413
          exact any_end (by kernel_rfl) ⟨ao394, cp395, ao402, cp403, En413.sub (by kernel_rfl), Hv409.pick [0, 1] (by kernel_rfl) (by decide)⟩
        have nd414 : ∀ (ac : Act) (wo : World) (bk181 : Nat), Env ac 24 [(0, .slice ax (List.length lx) cx), (1, .int .i64 0), (4, .slice none 0 0), (5, .slice none 0 0), (17, .slice ax 0 cx), (19, .slice (some ⟨bk181, 0, none⟩) 0 0), (22, .slice ax (List.length lx) cx)] → Ev w [] wo [.vec (some ⟨bk181, 0, none⟩) 0 1 (bys []) 5] → G 5 #[false, true, true, true, false, true, true, true, true, false, false, false] ac wo := by
          intro ac415 wo416 bk181 En417 Hv418
          refine any_from hG ?_
          refine any_at 0 (by kernel_rfl) rfl ?_
          refine op_lit (d := some 14) (t := 22) (T := 5) (m := 0) (parts := #[]) (xs := bys []) (sz := 1) En417 (by kernel_rfl) (by kernel_rfl) rfl (by decide) Hv418 ?_
          intro ac420 wo421 bk419 En422 Hv423
          refine any_at 4 (by kernel_rfl) rfl ?_
          refine op_append (d := some 18) (t := 22) (tx := 22) (ty := 22) (k := 1) (p := 0) (m := 0) (x := .slice ax 0 cx) (bytes := 1) En422 (by kernel_rfl) Hv423 rfl rfl (Reads.src (size := 1) (tx := 22) (e' := 5) (by kernel_rfl) (bys_take_reads (ix.ev Hv423).reads 0) (bys_lenn (by first | (simp; done) | (simp; omega))) (fun e => by have := ix.nz e; omega) (bys_one _)) (by kernel_rfl) (z := .int .u8 0) (by kernel_rfl) rfl (by decide) (by omega) (by unfold maxLen; omega) ?_
          intro ac428 wo429 ao424 cp425 En430 Hv431 _ _
          rw [bys_nil_append] at Hv431
          have ehz426 : 0 + 0 = List.length (List.take 0 lx) := (by first | (simp; done) | (simp; omega) | omega)
          rw [ehz426] at En430
          refine any_at 9 (by kernel_rfl) rfl ?_
          refine op_append (d := some 23) (t := 22) (tx := 22) (ty := 22) (k := 0) (p := 0) (m := List.length lx) (x := .slice ax (List.length lx) cx) (bytes := 1) En430 (by kernel_rfl) Hv431 rfl rfl (Reads.src (size := 1) (tx := 22) (e' := 5) (by kernel_rfl) (bys_take_reads (ix.ev Hv431).reads (List.length lx)) (bys_lenn (by first | (simp; done) | (simp; omega))) (fun e => by have := ix.nz e; omega) (bys_one _)) (by kernel_rfl) (z := .int .u8 0) (by kernel_rfl) rfl (by decide) (by omega) (by unfold maxLen; omega) ?_
          intro ac436 wo437 ao432 cp433 En438 Hv439 _ _
          rw [bys_nil_append] at Hv439
          have ehz434 : 0 + (List.length lx) = List.length (List.take (List.length lx) lx) := (by first | (simp; done) | (simp; omega) | omega)
          rw [ehz434] at En438
          refine any_pureR (d := some 4) En438 (v := .slice ao424 (List.length (List.take 0 lx)) cp425) 10 (by kernel_rfl) (by kernel_rfl) rfl ?_
          intro ac440 En441
          refine any_pureR (d := some 5) En441 (v := .slice ao432 (List.length (List.take (List.length lx) lx)) cp433) 11 (by kernel_rfl) (by kernel_rfl) rfl ?_
          intro ac442 En443
          exact any_end (by kernel_rfl) ⟨ao424, cp425, ao432, cp433, En443.sub (by kernel_rfl), Hv439.pick [1, 0] (by kernel_rfl) (by decide)⟩
        have nd444 : ∀ (ac : Act) (wo : World) (bk20 : Nat), Env ac 24 [(0, .slice ax (List.length lx) cx), (1, .int .i64 0), (4, .slice none 0 0), (5, .slice none 0 0), (14, .slice (some ⟨bk20, 0, none⟩) 0 0), (17, .slice ax 0 cx), (20, .slice ax (List.length lx) cx), (21, .int .i64 0)] → Ev w [] wo [.vec (some ⟨bk20, 0, none⟩) 0 1 (bys []) 5] → G 6 #[true, true, true, true, false, false, true, true, false, false, false, false] ac wo := by
          intro ac445 wo446 bk20 En447 Hv448
          refine any_from hG ?_
          refine any_ways [4, 5, 8] (by kernel_rfl) rfl ?_
          refine ⟨?_, ?_, ?_, trivial⟩
          · rintro _ rfl
            refine op_append (d := some 18) (t := 22) (tx := 22) (ty := 22) (k := 0) (p := 0) (m := 0) (x := .slice ax 0 cx) (bytes := 1) En447 (by kernel_rfl) Hv448 rfl rfl (Reads.src (size := 1) (tx := 22) (e' := 5) (by kernel_rfl) (bys_take_reads (ix.ev Hv448).reads 0) (bys_lenn (by first | (simp; done) | (simp; omega))) (fun e => by have := ix.nz e; omega) (bys_one _)) (by kernel_rfl) (z := .int .u8 0) (by kernel_rfl) rfl (by decide) (by omega) (by unfold maxLen; omega) ?_
            intro ac453 wo454 ao449 cp450 En455 Hv456 _ _
            rw [bys_nil_append] at Hv456
            have ehz451 : 0 + 0 = List.length (List.take 0 lx) := (by first | (simp; done) | (simp; omega) | omega)
            rw [ehz451] at En455
            exact any_to hG (by kernel_rfl) (nd339 _ _ ao449 cp450 (En455.sub (by kernel_rfl)) (Hv456.pick [0] (by kernel_rfl) (by decide)))
          · rintro _ rfl
            refine op_lit (d := some 19) (t := 22) (T := 5) (m := 0) (parts := #[]) (xs := bys []) (sz := 1) En447 (by kernel_rfl) (by kernel_rfl) rfl (by decide) Hv448 ?_
            intro ac458 wo459 bk457 En460 Hv461
            exact any_to hG (by kernel_rfl) (nd352 _ _ bk20 bk457 (En460.sub (by kernel_rfl)) (Hv461.pick [0, 1] (by kernel_rfl) (by decide)))
          · rintro _ rfl
            have hcap462 := ix.cap
            refine op_slice0 (d := some 22) (t := 22) (e := 5) (sz := 1) (len := List.length lx) (cap := cx) (hi := List.length lx) (ao := ax) (lov := (some (.int .i64 0))) (hiv := none) En447 (by kernel_rfl) (by kernel_rfl) (by kernel_rfl) (by omega) (.inr ⟨.i64, rfl⟩) (.inl ⟨rfl, rfl⟩) ?_
            intro ac463 En464
            exact any_to hG (by kernel_rfl) (nd368 _ _ bk20 (En464.sub (by kernel_rfl)) (Hv448.pick [0] (by kernel_rfl) (by decide)))
        have nd465 : ∀ (ac : Act) (wo : World) (bk20 : Nat) (bk128 : Nat), Env ac 24 [(0, .slice ax (List.length lx) cx), (1, .int .i64 0), (4, .slice none 0 0), (5, .slice none 0 0), (14, .slice (some ⟨bk20, 0, none⟩) 0 0), (15, .slice ax (List.length lx) cx), (16, .int .i64 0), (19, .slice (some ⟨bk128, 0, none⟩) 0 0), (20, .slice ax (List.length lx) cx), (21, .int .i64 0)] → Ev w [] wo [.vec (some ⟨bk20, 0, none⟩) 0 1 (bys []) 5, .vec (some ⟨bk128, 0, none⟩) 0 1 (bys []) 5] → G 6 #[true, true, true, false, false, true, true, true, false, false, false, false] ac wo := by
          intro ac466 wo467 bk20 bk128 En468 Hv469
          refine any_from hG ?_
          refine any_two 3 8 (by kernel_rfl) ?_ ?_
          · rintro _ rfl
            have hcap470 := ix.cap
            refine op_slice0 (d := some 17) (t := 22) (e := 5) (sz := 1) (len := List.length lx) (cap := cx) (hi := 0) (ao := ax) (lov := none) (hiv := (some (.int .i64 0))) En468 (by kernel_rfl) (by kernel_rfl) (by kernel_rfl) (by omega) (.inl ⟨rfl, rfl⟩) (.inr ⟨.i64, rfl⟩) ?_
            intro ac471 En472
            exact any_to hG (by kernel_rfl) (nd352 _ _ bk20 bk128 (En472.sub (by kernel_rfl)) (Hv469.pick [0, 1] (by kernel_rfl) (by decide)))
          · rintro _ rfl
            have hcap473 := ix.cap
            refine op_slice0 (d := some 22) (t := 22) (e := 5) (sz := 1) (len := List.length lx) (cap := cx) (hi := List.length lx) (ao := ax) (lov := (some (.int .i64 0))) (hiv := none) En468 (by kernel_rfl) (by kernel_rfl) (by kernel_rfl) (by omega) (.inr ⟨.i64, rfl⟩) (.inl ⟨rfl, rfl⟩) ?_
            intro ac474 En475
            exact any_to hG (by kernel_rfl) (nd386 _ _ bk20 bk128 (En475.sub (by kernel_rfl)) (Hv469.pick [0, 1] (by kernel_rfl) (by decide)))
        have nd476 : ∀ (ac : Act) (wo : World) (bk20 : Nat), Env ac 24 [(0, .slice ax (List.length lx) cx), (1, .int .i64 0), (4, .slice none 0 0), (5, .slice none 0 0), (14, .slice (some ⟨bk20, 0, none⟩) 0 0), (15, .slice ax (List.length lx) cx), (16, .int .i64 0), (22, .slice ax (List.length lx) cx)] → Ev w [] wo [.vec (some ⟨bk20, 0, none⟩) 0 1 (bys []) 5] → G 6 #[true, true, true, false, false, false, true, true, true, false, false, false] ac wo := by
          intro ac477 wo478 bk20 En479 Hv480
          refine any_from hG ?_
          refine any_two 3 5 (by kernel_rfl) ?_ ?_
          · rintro _ rfl
            have hcap481 := ix.cap
            refine op_slice0 (d := some 17) (t := 22) (e := 5) (sz := 1) (len := List.length lx) (cap := cx) (hi := 0) (ao := ax) (lov := none) (hiv := (some (.int .i64 0))) En479 (by kernel_rfl) (by kernel_rfl) (by kernel_rfl) (by omega) (.inl ⟨rfl, rfl⟩) (.inr ⟨.i64, rfl⟩) ?_
            intro ac482 En483
            exact any_to hG (by kernel_rfl) (nd368 _ _ bk20 (En483.sub (by kernel_rfl)) (Hv480.pick [0] (by kernel_rfl) (by decide)))
          · rintro _ rfl
            refine op_lit (d := some 19) (t := 22) (T := 5) (m := 0) (parts := #[]) (xs := bys []) (sz := 1) En479 (by kernel_rfl) (by kernel_rfl) rfl (by decide) Hv480 ?_
            intro ac485 wo486 bk484 En487 Hv488
            exact any_to hG (by kernel_rfl) (nd386 _ _ bk20 bk484 (En487.sub (by kernel_rfl)) (Hv488.pick [0, 1] (by kernel_rfl) (by decide)))
        have nd489 : ∀ (ac : Act) (wo : World) (bk181 : Nat), Env ac 24 [(0, .slice ax (List.length lx) cx), (1, .int .i64 0), (4, .slice none 0 0), (5, .slice none 0 0), (17, .slice ax 0 cx), (19, .slice (some ⟨bk181, 0, none⟩) 0 0), (20, .slice ax (List.length lx) cx), (21, .int .i64 0)] → Ev w [] wo [.vec (some ⟨bk181, 0, none⟩) 0 1 (bys []) 5] → G 6 #[false, true, true, true, false, true, true, true, false, false, false, false] ac wo := by
          intro ac490 wo491 bk181 En492 Hv493
          refine any_from hG ?_
          refine any_two 0 8 (by kernel_rfl) ?_ ?_
          · rintro _ rfl
            refine op_lit (d := some 14) (t := 22) (T := 5) (m := 0) (parts := #[]) (xs := bys []) (sz := 1) En492 (by kernel_rfl) (by kernel_rfl) rfl (by decide) Hv493 ?_
            intro ac495 wo496 bk494 En497 Hv498
            exact any_to hG (by kernel_rfl) (nd352 _ _ bk494 bk181 (En497.sub (by kernel_rfl)) (Hv498.pick [1, 0] (by kernel_rfl) (by decide)))
          · rintro _ rfl
            have hcap499 := ix.cap
            refine op_slice0 (d := some 22) (t := 22) (e := 5) (sz := 1) (len := List.length lx) (cap := cx) (hi := List.length lx) (ao := ax) (lov := (some (.int .i64 0))) (hiv := none) En492 (by kernel_rfl) (by kernel_rfl) (by kernel_rfl) (by omega) (.inr ⟨.i64, rfl⟩) (.inl ⟨rfl, rfl⟩) ?_
            intro ac500 En501
            exact any_to hG (by kernel_rfl) (nd414 _ _ bk181 (En501.sub (by kernel_rfl)) (Hv493.pick [0] (by kernel_rfl) (by decide)))
        have nd502 : ∀ (ac : Act) (wo : World), Env ac 24 [(0, .slice ax (List.length lx) cx), (1, .int .i64 0), (4, .slice none 0 0), (5, .slice none 0 0), (17, .slice ax 0 cx), (22, .slice ax (List.length lx) cx)] → Ev w [] wo [] → G 6 #[false, true, true, true, false, false, true, true, true, false, false, false] ac wo := by
          intro ac503 wo504 En505 Hv506
          refine any_from hG ?_
          refine any_two 0 5 (by kernel_rfl) ?_ ?_
          · rintro _ rfl
            refine op_lit (d := some 14) (t := 22) (T := 5) (m := 0) (parts := #[]) (xs := bys []) (sz := 1) En505 (by kernel_rfl) (by kernel_rfl) rfl (by decide) Hv506 ?_
            intro ac508 wo509 bk507 En510 Hv511
            exact any_to hG (by kernel_rfl) (nd368 _ _ bk507 (En510.sub (by kernel_rfl)) (Hv511.pick [0] (by kernel_rfl) (by decide)))
          · rintro _ rfl
            refine op_lit (d := some 19) (t := 22) (T := 5) (m := 0) (parts := #[]) (xs := bys []) (sz := 1) En505 (by kernel_rfl) (by kernel_rfl) rfl (by decide) Hv506 ?_
            intro ac513 wo514 bk512 En515 Hv516
            exact any_to hG (by kernel_rfl) (nd414 _ _ bk512 (En515.sub (by kernel_rfl)) (Hv516.pick [0] (by kernel_rfl) (by decide)))
        have nd517 : ∀ (ac : Act) (wo : World) (bk232 : Nat), Env ac 24 [(0, .slice ax (List.length lx) cx), (1, .int .i64 0), (4, .slice none 0 0), (5, .slice none 0 0), (15, .slice ax (List.length lx) cx), (16, .int .i64 0), (19, .slice (some ⟨bk232, 0, none⟩) 0 0), (22, .slice ax (List.length lx) cx)] → Ev w [] wo [.vec (some ⟨bk232, 0, none⟩) 0 1 (bys []) 5] → G 6 #[false, true, true, false, false, true, true, true, true, false, false, false] ac wo := by
          intro ac518 wo519 bk232 En520 Hv521
          refine any_from hG ?_
          refine any_two 0 3 (by kernel_rfl) ?_ ?_
          · rintro _ rfl
            refine op_lit (d := some 14) (t := 22) (T := 5) (m := 0) (parts := #[]) (xs := bys []) (sz := 1) En520 (by kernel_rfl) (by kernel_rfl) rfl (by decide) Hv521 ?_
            intro ac523 wo524 bk522 En525 Hv526
            exact any_to hG (by kernel_rfl) (nd386 _ _ bk522 bk232 (En525.sub (by kernel_rfl)) (Hv526.pick [1, 0] (by kernel_rfl) (by decide)))
          · rintro _ rfl
            have hcap527 := ix.cap
            refine op_slice0 (d := some 17) (t := 22) (e := 5) (sz := 1) (len := List.length lx) (cap := cx) (hi := 0) (ao := ax) (lov := none) (hiv := (some (.int .i64 0))) En520 (by kernel_rfl) (by kernel_rfl) (by kernel_rfl) (by omega) (.inl ⟨rfl, rfl⟩) (.inr ⟨.i64, rfl⟩) ?_
            intro ac528 En529
            exact any_to hG (by kernel_rfl) (nd414 _ _ bk232 (En529.sub (by kernel_rfl)) (Hv521.pick [0] (by kernel_rfl) (by decide)))
        have nd530 : ∀ (ac : Act) (wo : World) (bk20 : Nat), Env ac 24 [(0, .slice ax (List.length lx) cx), (1, .int .i64 0), (4, .slice none 0 0), (5, .slice none 0 0), (14, .slice (some ⟨bk20, 0, none⟩) 0 0), (15, .slice ax (List.length lx) cx), (16, .int .i64 0), (20, .slice ax (List.length lx) cx), (21, .int .i64 0)] → Ev w [] wo [.vec (some ⟨bk20, 0, none⟩) 0 1 (bys []) 5] → G 7 #[true, true, true, false, false, false, true, true, false, false, false, false] ac wo := by
          intro ac531 wo532 bk20 En533 Hv534
          refine any_from hG ?_
          refine any_ways [3, 5, 8] (by kernel_rfl) rfl ?_
          refine ⟨?_, ?_, ?_, trivial⟩
          · rintro _ rfl
            have hcap535 := ix.cap
            refine op_slice0 (d := some 17) (t := 22) (e := 5) (sz := 1) (len := List.length lx) (cap := cx) (hi := 0) (ao := ax) (lov := none) (hiv := (some (.int .i64 0))) En533 (by kernel_rfl) (by kernel_rfl) (by kernel_rfl) (by omega) (.inl ⟨rfl, rfl⟩) (.inr ⟨.i64, rfl⟩) ?_
            intro ac536 En537
            exact any_to hG (by kernel_rfl) (nd444 _ _ bk20 (En537.sub (by kernel_rfl)) (Hv534.pick [0] (by kernel_rfl) (by decide)))
          · rintro _ rfl
            refine op_lit (d := some 19) (t := 22) (T := 5) (m := 0) (parts := #[]) (xs := bys []) (sz := 1) En533 (by kernel_rfl) (by kernel_rfl) rfl (by decide) Hv534 ?_
            intro ac539 wo540 bk538 En541 Hv542
            exact any_to hG (by kernel_rfl) (nd465 _ _ bk20 bk538 (En541.sub (by kernel_rfl)) (Hv542.pick [0, 1] (by kernel_rfl) (by decide)))
          · rintro _ rfl
            have hcap543 := ix.cap
            refine op_slice0 (d := some 22) (t := 22) (e := 5) (sz := 1) (len := List.length lx) (cap := cx) (hi := List.length lx) (ao := ax) (lov := (some (.int .i64 0))) (hiv := none) En533 (by kernel_rfl) (by kernel_rfl) (by kernel_rfl) (by omega) (.inr ⟨.i64, rfl⟩) (.inl ⟨rfl, rfl⟩) ?_
            intro ac544 En545
            exact any_to hG (by kernel_rfl) (nd476 _ _ bk20 (En545.sub (by kernel_rfl)) (Hv534.pick [0] (by kernel_rfl) (by decide)))
        have nd546 : ∀ (ac : Act) (wo : World), Env ac 24 [(0, .slice ax (List.length lx) cx), (1, .int .i64 0), (4, .slice none 0 0), (5, .slice none 0 0), (17, .slice ax 0 cx), (20, .slice ax (List.length lx) cx), (21, .int .i64 0)] → Ev w [] wo [] → G 7 #[false, true, true, true, false, false, true, true, false, false, false, false] ac wo := by
          intro ac547 wo548 En549 Hv550
          refine any_from hG ?_
          refine any_ways [0, 5, 8] (by kernel_rfl) rfl ?_
          refine ⟨?_, ?_, ?_, trivial⟩
          · rintro _ rfl
            refine op_lit (d := some 14) (t := 22) (T := 5) (m := 0) (parts := #[]) (xs := bys []) (sz := 1) En549 (by kernel_rfl) (by kernel_rfl) rfl (by decide) Hv550 ?_
            intro ac552 wo553 bk551 En554 Hv555
            exact any_to hG (by kernel_rfl) (nd444 _ _ bk551 (En554.sub (by kernel_rfl)) (Hv555.pick [0] (by kernel_rfl) (by decide)))
          · rintro _ rfl
            refine op_lit (d := some 19) (t := 22) (T := 5) (m := 0) (parts := #[]) (xs := bys []) (sz := 1) En549 (by kernel_rfl) (by kernel_rfl) rfl (by decide) Hv550 ?_
            intro ac557 wo558 bk556 En559 Hv560
            exact any_to hG (by kernel_rfl) (nd489 _ _ bk556 (En559.sub (by kernel_rfl)) (Hv560.pick [0] (by kernel_rfl) (by decide)))
          · rintro _ rfl
            have hcap561 := ix.cap
            refine op_slice0 (d := some 22) (t := 22) (e := 5) (sz := 1) (len := List.length lx) (cap := cx) (hi := List.length lx) (ao := ax) (lov := (some (.int .i64 0))) (hiv := none) En549 (by kernel_rfl) (by kernel_rfl) (by kernel_rfl) (by omega) (.inr ⟨.i64, rfl⟩) (.inl ⟨rfl, rfl⟩) ?_
            intro ac562 En563
            exact any_to hG (by kernel_rfl) (nd502 _ _ (En563.sub (by kernel_rfl)) (Hv550.pick [] (by kernel_rfl) (by decide)))
        have nd564 : ∀ (ac : Act) (wo : World) (bk232 : Nat), Env ac 24 [(0, .slice ax (List.length lx) cx), (1, .int .i64 0), (4, .slice none 0 0), (5, .slice none 0 0), (15, .slice ax (List.length lx) cx), (16, .int .i64 0), (19, .slice (some ⟨bk232, 0, none⟩) 0 0), (20, .slice ax (List.length lx) cx), (21, .int .i64 0)] → Ev w [] wo [.vec (some ⟨bk232, 0, none⟩) 0 1 (bys []) 5] → G 7 #[false, true, true, false, false, true, true, true, false, false, false, false] ac wo := by
          intro ac565 wo566 bk232 En567 Hv568
          refine any_from hG ?_
          refine any_ways [0, 3, 8] (by kernel_rfl) rfl ?_
          refine ⟨?_, ?_, ?_, trivial⟩
          · rintro _ rfl
            refine op_lit (d := some 14) (t := 22) (T := 5) (m := 0) (parts := #[]) (xs := bys []) (sz := 1) En567 (by kernel_rfl) (by kernel_rfl) rfl (by decide) Hv568 ?_
            intro ac570 wo571 bk569 En572 Hv573
            exact any_to hG (by kernel_rfl) (nd465 _ _ bk569 bk232 (En572.sub (by kernel_rfl)) (Hv573.pick [1, 0] (by kernel_rfl) (by decide)))
          · rintro _ rfl
            have hcap574 := ix.cap
            refine op_slice0 (d := some 17) (t := 22) (e := 5) (sz := 1) (len := List.length lx) (cap := cx) (hi := 0) (ao := ax) (lov := none) (hiv := (some (.int .i64 0))) En567 (by kernel_rfl) (by kernel_rfl) (by kernel_rfl) (by omega) (.inl ⟨rfl, rfl⟩) (.inr ⟨.i64, rfl⟩) ?_
            intro ac575 En576
            exact any_to hG (by kernel_rfl) (nd489 _ _ bk232 (En576.sub (by kernel_rfl)) (Hv568.pick [0] (by kernel_rfl) (by decide)))
          · rintro _ rfl
            have hcap577 := ix.cap
            refine op_slice0 (d := some 22) (t := 22) (e := 5) (sz := 1) (len := List.length lx) (cap := cx) (hi := List.length lx) (ao := ax) (lov := (some (.int .i64 0))) (hiv := none) En567 (by kernel_rfl) (by kernel_rfl) (by kernel_rfl) (by omega) (.inr ⟨.i64, rfl⟩) (.inl ⟨rfl, rfl⟩) ?_
            intro ac578 En579
            exact any_to hG (by kernel_rfl) (nd517 _ _ bk232 (En579.sub (by kernel_rfl)) (Hv568.pick [0] (by kernel_rfl) (by decide)))
        have nd580 : ∀ (ac : Act) (wo : World), Env ac 24 [(0, .slice ax (List.length lx) cx), (1, .int .i64 0), (4, .slice none 0 0), (5, .slice none 0 0), (15, .slice ax (List.length lx) cx), (16, .int .i64 0), (22, .slice ax (List.length lx) cx)] → Ev w [] wo [] → G 7 #[false, true, true, false, false, false, true, true, true, false, false, false] ac wo := by
          intro ac581 wo582 En583 Hv584
          refine any_from hG ?_
          refine any_ways [0, 3, 5] (by kernel_rfl) rfl ?_
          refine ⟨?_, ?_, ?_, trivial⟩
          · rintro _ rfl
            refine op_lit (d := some 14) (t := 22) (T := 5) (m := 0) (parts := #[]) (xs := bys []) (sz := 1) En583 (by kernel_rfl) (by kernel_rfl) rfl (by decide) Hv584 ?_
            intro ac586 wo587 bk585 En588 Hv589
            exact any_to hG (by kernel_rfl) (nd476 _ _ bk585 (En588.sub (by kernel_rfl)) (Hv589.pick [0] (by kernel_rfl) (by decide)))
          · rintro _ rfl
            have hcap590 := ix.cap
            refine op_slice0 (d := some 17) (t := 22) (e := 5) (sz := 1) (len := List.length lx) (cap := cx) (hi := 0) (ao := ax) (lov := none) (hiv := (some (.int .i64 0))) En583 (by kernel_rfl) (by kernel_rfl) (by kernel_rfl) (by omega) (.inl ⟨rfl, rfl⟩) (.inr ⟨.i64, rfl⟩) ?_
            intro ac591 En592
            exact any_to hG (by kernel_rfl) (nd502 _ _ (En592.sub (by kernel_rfl)) (Hv584.pick [] (by kernel_rfl) (by decide)))
          · rintro _ rfl
            refine op_lit (d := some 19) (t := 22) (T := 5) (m := 0) (parts := #[]) (xs := bys []) (sz := 1) En583 (by kernel_rfl) (by kernel_rfl) rfl (by decide) Hv584 ?_
            intro ac594 wo595 bk593 En596 Hv597
            exact any_to hG (by kernel_rfl) (nd517 _ _ bk593 (En596.sub (by kernel_rfl)) (Hv597.pick [0] (by kernel_rfl) (by decide)))
        refine any_from hG ?_
        refine any_pureR (d := some 15) En9 (v := .slice ax (List.length lx) cx) 1 (by kernel_rfl) (by kernel_rfl) rfl ?_
        intro ac598 En599
        refine any_pureR (d := some 16) En599 (v := .int .i64 0) 2 (by kernel_rfl) (by kernel_rfl) rfl ?_
        intro ac600 En601
        refine any_pureR (d := some 20) En601 (v := .slice ax (List.length lx) cx) 6 (by kernel_rfl) (by kernel_rfl) rfl ?_
        intro ac602 En603
        refine any_pureR (d := some 21) En603 (v := .int .i64 0) 7 (by kernel_rfl) (by kernel_rfl) rfl ?_
        intro ac604 En605
        refine any_ways [0, 3, 5, 8] (by kernel_rfl) rfl ?_
        refine ⟨?_, ?_, ?_, ?_, trivial⟩
        · rintro _ rfl
          refine op_lit (d := some 14) (t := 22) (T := 5) (m := 0) (parts := #[]) (xs := bys []) (sz := 1) En605 (by kernel_rfl) (by kernel_rfl) rfl (by decide) wo11 ?_
          intro ac607 wo608 bk606 En609 Hv610
          exact any_to hG (by kernel_rfl) (nd530 _ _ bk606 (En609.sub (by kernel_rfl)) (Hv610.pick [0] (by kernel_rfl) (by decide)))
        · rintro _ rfl
          have hcap611 := ix.cap
          refine op_slice0 (d := some 17) (t := 22) (e := 5) (sz := 1) (len := List.length lx) (cap := cx) (hi := 0) (ao := ax) (lov := none) (hiv := (some (.int .i64 0))) En605 (by kernel_rfl) (by kernel_rfl) (by kernel_rfl) (by omega) (.inl ⟨rfl, rfl⟩) (.inr ⟨.i64, rfl⟩) ?_
          intro ac612 En613
          exact any_to hG (by kernel_rfl) (nd546 _ _ (En613.sub (by kernel_rfl)) (wo11.pick [] (by kernel_rfl) (by decide)))
        · rintro _ rfl
          refine op_lit (d := some 19) (t := 22) (T := 5) (m := 0) (parts := #[]) (xs := bys []) (sz := 1) En605 (by kernel_rfl) (by kernel_rfl) rfl (by decide) wo11 ?_
          intro ac615 wo616 bk614 En617 Hv618
          exact any_to hG (by kernel_rfl) (nd564 _ _ bk614 (En617.sub (by kernel_rfl)) (Hv618.pick [0] (by kernel_rfl) (by decide)))
        · rintro _ rfl
          have hcap619 := ix.cap
          refine op_slice0 (d := some 22) (t := 22) (e := 5) (sz := 1) (len := List.length lx) (cap := cx) (hi := List.length lx) (ao := ax) (lov := (some (.int .i64 0))) (hiv := none) En605 (by kernel_rfl) (by kernel_rfl) (by kernel_rfl) (by omega) (.inr ⟨.i64, rfl⟩) (.inl ⟨rfl, rfl⟩) ?_
          intro ac620 En621
          exact any_to hG (by kernel_rfl) (nd580 _ _ (En621.sub (by kernel_rfl)) (wo11.pick [] (by kernel_rfl) (by decide)))
      rintro ac622 wo623 ⟨ao28, cp29, ao44, cp45, En624, Hv625⟩
      refine then_normal ?_
      refine wp_ret ?_
      refine d_ret2 (t := 4) (u := 5) (v := .slice ao28 (List.length (List.take 0 lx)) cp29) (x := .slice ao44 (List.length (List.take (List.length lx) lx)) cp45) En624 (by kernel_rfl) (by kernel_rfl) (by kernel_rfl) ?_
      have e1 : List.take 0 lx = List.take (clampN n (List.length lx)) lx := by first | (rw [clamp_neg (by omega)]; done) | (rw [clamp_neg (by omega)]; simp; done) | (rw [clamp_big (by omega)]; done) | (rw [hnn, clamp_mid (by omega)]) | (rw [clamp_big (by omega)]; simp)
      have e2 : List.take (List.length lx) lx = List.drop (clampN n (List.length lx)) lx := by first | (rw [clamp_neg (by omega)]; done) | (rw [clamp_neg (by omega)]; simp; done) | (rw [clamp_big (by omega)]; done) | (rw [hnn, clamp_mid (by omega)]) | (rw [clamp_big (by omega)]; simp)
      have Hf626 := Hv625.pick [0, 1] (by kernel_rfl) (by decide) (M := [.vec ao28 cp29 1 (bys (List.take 0 lx)) 5, .vec ao44 cp45 1 (bys (List.take (List.length lx) lx)) 5])
      have f1 : List.length (List.take 0 lx) = List.length (List.take (clampN n (List.length lx)) lx) := by first | (rw [← e1]; done) | (rw [← e1]; simp; done) | (rw [← e1]; simp; omega)
      have f2 : List.length (List.take (List.length lx) lx) = List.length (List.drop (clampN n (List.length lx)) lx) := by first | (rw [← e2]; done) | (rw [← e2]; simp; done) | (rw [← e2]; simp; omega)
      rw [e1, e2] at Hf626
      exact ⟨ao28, cp29, ao44, cp45, by rw [f1, f2], Hf626⟩
  ·
    replace hc5 : ¬ (n < (0 : Int)) := of_decide_eq_false hc5
    obtain ⟨nn, hnn⟩ := Int.eq_ofNat_of_zero_le (show (0 : Int) ≤ n by omega)
    rw [hnn] at En4
    refine wp_skip ?_
    refine then_normal ?_
    refine wp_seq ?_
    refine wp_seq ?_
    refine region_from ?_  -- region 3
    refine d_pures [(0, .slice ax (List.length lx) cx), (1, .int .i64 ((nn : Nat) : Int)), (4, .slice none 0 0), (5, .slice none 0 0), (11, .bool (decide (((nn : Nat) : Int) > ((List.length lx : Nat) : Int))))] [.int .i64 ((nn : Nat) : Int), .slice ax (List.length lx) cx, .int .i64 ((List.length lx : Nat) : Int), .bool (decide (((nn : Nat) : Int) > ((List.length lx : Nat) : Int)))] 4 En4 (by kernel_rfl) (by kernel_rfl) rfl ?_
    intro ac627 En628
    refine from_end (by kernel_rfl) ?_
    refine then_normal ?_
    refine cond_at En628 (t := decide (((nn : Nat) : Int) > ((List.length lx : Nat) : Int))) (by kernel_rfl) (fun hc629 => ?_) (fun hc629 => ?_)
    ·
      replace hc629 : ((nn : Nat) : Int) > ((List.length lx : Nat) : Int) := of_decide_eq_true hc629
      refine region_from ?_  -- region 4
      refine d_pures [(0, .slice ax (List.length lx) cx), (1, .int .i64 ((List.length lx : Nat) : Int)), (4, .slice none 0 0), (5, .slice none 0 0)] [.slice ax (List.length lx) cx, .int .i64 ((List.length lx : Nat) : Int), .int .i64 ((List.length lx : Nat) : Int)] 3 En628 (by kernel_rfl) (by kernel_rfl) rfl ?_
      intro ac630 En631
      refine from_end (by kernel_rfl) ?_
      refine then_normal ?_
      refine wp_seq ?_
      refine region_cut (F := fun ac wo => ∃ (ao649 : Option Addr) (cp650 : Nat) (ao665 : Option Addr) (cp666 : Nat), Env ac 24 [(0, .slice ax (List.length lx) cx), (1, .int .i64 ((List.length lx : Nat) : Int)), (4, .slice ao649 (List.length (List.take (List.length lx) lx)) cp650), (5, .slice ao665 (List.length (List.drop (List.length lx) lx)) cp666)] ∧ Ev w [] wo [.vec ao649 cp650 1 (bys (List.take (List.length lx) lx)) 5, .vec ao665 cp666 1 (bys (List.drop (List.length lx) lx)) 5]) ?_ ?_
      ·
        refine draw_any (by kernel_rfl) 12 (by kernel_rfl) ?_  -- region 5
        have wo632 := Hv0.trans (Ev.drew Hv0.heap)
        refine any_name fun G hG => ?_
        have nd893 : ∀ (ac : Act) (wo : World) (ao649 : Option Addr) (cp650 : Nat) (bk657 : Nat), Env ac 24 [(0, .slice ax (List.length lx) cx), (1, .int .i64 ((List.length lx : Nat) : Int)), (4, .slice none 0 0), (5, .slice none 0 0), (18, .slice ao649 (List.length (List.take (List.length lx) lx)) cp650), (19, .slice (some ⟨bk657, 0, none⟩) 0 0), (20, .slice ax (List.length lx) cx), (21, .int .i64 ((List.length lx : Nat) : Int))] → Ev w [] wo [.vec ao649 cp650 1 (bys (List.take (List.length lx) lx)) 5, .vec (some ⟨bk657, 0, none⟩) 0 1 (bys []) 5] → G 4 #[true, true, true, true, true, true, true, true, false, false, false, false] ac wo := by
          intro ac894 wo895 ao649 cp650 bk657 En896 Hv897
          refine any_from hG ?_
          refine any_at 8 (by kernel_rfl) rfl ?_
          have hcap898 := ix.cap
          refine op_slice (d := some 22) (t := 22) (e := 5) (sz := 1) (len := List.length lx) (cap := cx) (lo := List.length lx) (hi := List.length lx) (ao := ax) (lov := (some (.int .i64 ((List.length lx : Nat) : Int)))) (hiv := none) En896 (by kernel_rfl) (by kernel_rfl) (by kernel_rfl) (by omega) (by omega) (.inr ⟨.i64, rfl⟩) (.inl ⟨rfl, rfl⟩) ?_
          intro ac899 En900
          refine any_at 9 (by kernel_rfl) rfl ?_
          refine op_append (d := some 23) (t := 22) (tx := 22) (ty := 22) (k := 1) (p := 0) (m := (List.length lx) - (List.length lx)) (x := .slice (cutAt ax cx (List.length lx) 1) ((List.length lx) - (List.length lx)) (cx - (List.length lx))) (bytes := 1) En900 (by kernel_rfl) Hv897 rfl rfl (Reads.src (size := 1) (tx := 22) (e' := 5) (by kernel_rfl) (bys_drop_reads (ix.ev Hv897).reads cx (List.length lx) (n := (List.length lx)) (by simp) (by omega) (by omega)) (bys_lenn (by first | (simp; done) | (simp; omega))) (fun e => cut_nz ix.nz e (by omega)) (bys_one _)) (by kernel_rfl) (z := .int .u8 0) (by kernel_rfl) rfl (by decide) (by omega) (by unfold maxLen; omega) ?_
          intro ac905 wo906 ao901 cp902 En907 Hv908 _ _
          rw [bys_nil_append] at Hv908
          have ehz903 : 0 + ((List.length lx) - (List.length lx)) = List.length (List.drop (List.length lx) lx) := (by first | (simp; done) | (simp; omega) | omega)
          rw [ehz903] at En907
          refine any_pureR (d := some 4) En907 (v := .slice ao649 (List.length (List.take (List.length lx) lx)) cp650) 10 (by kernel_rfl) (by kernel_rfl) rfl ?_
          intro ac909 En910
          refine any_pureR (d := some 5) En910 (v := .slice ao901 (List.length (List.drop (List.length lx) lx)) cp902) 11 (by kernel_rfl) (by kernel_rfl) rfl ?_
          intro ac911 En912
          exact any_end (by kernel_rfl) ⟨ao649, cp650, ao901, cp902, En912.sub (by kernel_rfl), Hv908.pick [0, 1] (by kernel_rfl) (by decide)⟩
        have nd913 : ∀ (ac : Act) (wo : World) (ao649 : Option Addr) (cp650 : Nat), Env ac 24 [(0, .slice ax (List.length lx) cx), (1, .int .i64 ((List.length lx : Nat) : Int)), (4, .slice none 0 0), (5, .slice none 0 0), (18, .slice ao649 (List.length (List.take (List.length lx) lx)) cp650), (22, .slice (cutAt ax cx (List.length lx) 1) ((List.length lx) - (List.length lx)) (cx - (List.length lx)))] → Ev w [] wo [.vec ao649 cp650 1 (bys (List.take (List.length lx) lx)) 5] → G 4 #[true, true, true, true, true, false, true, true, true, false, false, false] ac wo := by
          intro ac914 wo915 ao649 cp650 En916 Hv917
          refine any_from hG ?_
          refine any_at 5 (by kernel_rfl) rfl ?_
          refine op_lit (d := some 19) (t := 22) (T := 5) (m := 0) (parts := #[]) (xs := bys []) (sz := 1) En916 (by kernel_rfl) (by kernel_rfl) rfl (by decide) Hv917 ?_
          intro ac919 wo920 bk918 En921 Hv922
          refine any_at 9 (by kernel_rfl) rfl ?_
          refine op_append (d := some 23) (t := 22) (tx := 22) (ty := 22) (k := 1) (p := 0) (m := (List.length lx) - (List.length lx)) (x := .slice (cutAt ax cx (List.length lx) 1) ((List.length lx) - (List.length lx)) (cx - (List.length lx))) (bytes := 1) En921 (by kernel_rfl) Hv922 rfl rfl (Reads.src (size := 1) (tx := 22) (e' := 5) (by kernel_rfl) (bys_drop_reads (ix.ev Hv922).reads cx (List.length lx) (n := (List.length lx)) (by simp) (by omega) (by omega)) (bys_lenn (by first | (simp; done) | (simp; omega))) (fun e => cut_nz ix.nz e (by omega)) (bys_one _)) (by kernel_rfl) (z := .int .u8 0) (by kernel_rfl) rfl (by decide) (by omega) (by unfold maxLen; omega) ?_
          intro ac927 wo928 ao923 cp924 En929 Hv930 _ _
          rw [bys_nil_append] at Hv930
          have ehz925 : 0 + ((List.length lx) - (List.length lx)) = List.length (List.drop (List.length lx) lx) := (by first | (simp; done) | (simp; omega) | omega)
          rw [ehz925] at En929
          refine any_pureR (d := some 4) En929 (v := .slice ao649 (List.length (List.take (List.length lx) lx)) cp650) 10 (by kernel_rfl) (by kernel_rfl) rfl ?_
          intro ac931 En932
          refine any_pureR (d := some 5) En932 (v := .slice ao923 (List.length (List.drop (List.length lx) lx)) cp924) 11 (by kernel_rfl) (by kernel_rfl) rfl ?_
          intro ac933 En934
          exact any_end (by kernel_rfl) ⟨ao649, cp650, ao923, cp924, En934.sub (by kernel_rfl), Hv930.pick [0, 1] (by kernel_rfl) (by decide)⟩
        have nd935 : ∀ (ac : Act) (wo : World) (bk641 : Nat) (bk697 : Nat), Env ac 24 [(0, .slice ax (List.length lx) cx), (1, .int .i64 ((List.length lx : Nat) : Int)), (4, .slice none 0 0), (5, .slice none 0 0), (14, .slice (some ⟨bk641, 0, none⟩) 0 0), (17, .slice ax (List.length lx) cx), (19, .slice (some ⟨bk697, 0, none⟩) 0 0), (22, .slice (cutAt ax cx (List.length lx) 1) ((List.length lx) - (List.length lx)) (cx - (List.length lx)))] → Ev w [] wo [.vec (some ⟨bk641, 0, none⟩) 0 1 (bys []) 5, .vec (some ⟨bk697, 0, none⟩) 0 1 (bys []) 5] → G 4 #[true, true, true, true, false, true, true, true, true, false, false, false] ac wo := by
          intro ac936 wo937 bk641 bk697 En938 Hv939
          refine any_from hG ?_
          refine any_at 4 (by kernel_rfl) rfl ?_
          refine op_append (d := some 18) (t := 22) (tx := 22) (ty := 22) (k := 0) (p := 0) (m := List.length lx) (x := .slice ax (List.length lx) cx) (bytes := 1) En938 (by kernel_rfl) Hv939 rfl rfl (Reads.src (size := 1) (tx := 22) (e' := 5) (by kernel_rfl) (bys_take_reads (ix.ev Hv939).reads (List.length lx)) (bys_lenn (by first | (simp; done) | (simp; omega))) (fun e => by have := ix.nz e; omega) (bys_one _)) (by kernel_rfl) (z := .int .u8 0) (by kernel_rfl) rfl (by decide) (by omega) (by unfold maxLen; omega) ?_
          intro ac944 wo945 ao940 cp941 En946 Hv947 _ _
          rw [bys_nil_append] at Hv947
          have ehz942 : 0 + (List.length lx) = List.length (List.take (List.length lx) lx) := (by first | (simp; done) | (simp; omega) | omega)
          rw [ehz942] at En946
          refine any_at 9 (by kernel_rfl) rfl ?_
          refine op_append (d := some 23) (t := 22) (tx := 22) (ty := 22) (k := 1) (p := 0) (m := (List.length lx) - (List.length lx)) (x := .slice (cutAt ax cx (List.length lx) 1) ((List.length lx) - (List.length lx)) (cx - (List.length lx))) (bytes := 1) En946 (by kernel_rfl) Hv947 rfl rfl (Reads.src (size := 1) (tx := 22) (e' := 5) (by kernel_rfl) (bys_drop_reads (ix.ev Hv947).reads cx (List.length lx) (n := (List.length lx)) (by simp) (by omega) (by omega)) (bys_lenn (by first | (simp; done) | (simp; omega))) (fun e => cut_nz ix.nz e (by omega)) (bys_one _)) (by kernel_rfl) (z := .int .u8 0) (by kernel_rfl) rfl (by decide) (by omega) (by unfold maxLen; omega) ?_
          intro ac952 wo953 ao948 cp949 En954 Hv955 _ _
          rw [bys_nil_append] at Hv955
          have ehz950 : 0 + ((List.length lx) - (List.length lx)) = List.length (List.drop (List.length lx) lx) := (by first | (simp; done) | (simp; omega) | omega)
          rw [ehz950] at En954
          refine any_pureR (d := some 4) En954 (v := .slice ao940 (List.length (List.take (List.length lx) lx)) cp941) 10 (by kernel_rfl) (by kernel_rfl) rfl ?_
          intro ac956 En957
          refine any_pureR (d := some 5) En957 (v := .slice ao948 (List.length (List.drop (List.length lx) lx)) cp949) 11 (by kernel_rfl) (by kernel_rfl) rfl ?_
          intro ac958 En959
          exact any_end (by kernel_rfl) ⟨ao940, cp941, ao948, cp949, En959.sub (by kernel_rfl), Hv955.pick [0, 1] (by kernel_rfl) (by decide)⟩
        have nd960 : ∀ (ac : Act) (wo : World) (ao649 : Option Addr) (cp650 : Nat), Env ac 24 [(0, .slice ax (List.length lx) cx), (1, .int .i64 ((List.length lx : Nat) : Int)), (4, .slice none 0 0), (5, .slice none 0 0), (18, .slice ao649 (List.length (List.take (List.length lx) lx)) cp650), (20, .slice ax (List.length lx) cx), (21, .int .i64 ((List.length lx : Nat) : Int))] → Ev w [] wo [.vec ao649 cp650 1 (bys (List.take (List.length lx) lx)) 5] → G 5 #[true, true, true, true, true, false, true, true, false, false, false, false] ac wo := by
          intro ac961 wo962 ao649 cp650 En963 Hv964
          refine any_from hG ?_
          refine any_two 5 8 (by kernel_rfl) ?_ ?_
          · rintro _ rfl
            refine op_lit (d := some 19) (t := 22) (T := 5) (m := 0) (parts := #[]) (xs := bys []) (sz := 1) En963 (by kernel_rfl) (by kernel_rfl) rfl (by decide) Hv964 ?_
            intro ac966 wo967 bk965 En968 Hv969
            exact any_to hG (by kernel_rfl) (nd893 _ _ ao649 cp650 bk965 (En968.sub (by kernel_rfl)) (Hv969.pick [0, 1] (by kernel_rfl) (by decide)))
          · rintro _ rfl
            have hcap970 := ix.cap
            refine op_slice (d := some 22) (t := 22) (e := 5) (sz := 1) (len := List.length lx) (cap := cx) (lo := List.length lx) (hi := List.length lx) (ao := ax) (lov := (some (.int .i64 ((List.length lx : Nat) : Int)))) (hiv := none) En963 (by kernel_rfl) (by kernel_rfl) (by kernel_rfl) (by omega) (by omega) (.inr ⟨.i64, rfl⟩) (.inl ⟨rfl, rfl⟩) ?_
            intro ac971 En972
            exact any_to hG (by kernel_rfl) (nd913 _ _ ao649 cp650 (En972.sub (by kernel_rfl)) (Hv964.pick [0] (by kernel_rfl) (by decide)))
        have nd973 : ∀ (ac : Act) (wo : World) (bk641 : Nat) (bk697 : Nat), Env ac 24 [(0, .slice ax (List.length lx) cx), (1, .int .i64 ((List.length lx : Nat) : Int)), (4, .slice none 0 0), (5, .slice none 0 0), (14, .slice (some ⟨bk641, 0, none⟩) 0 0), (17, .slice ax (List.length lx) cx), (19, .slice (some ⟨bk697, 0, none⟩) 0 0), (20, .slice ax (List.length lx) cx), (21, .int .i64 ((List.length lx : Nat) : Int))] → Ev w [] wo [.vec (some ⟨bk641, 0, none⟩) 0 1 (bys []) 5, .vec (some ⟨bk697, 0, none⟩) 0 1 (bys []) 5] → G 5 #[true, true, true, true, false, true, true, true, false, false, false, false] ac wo := by
          intro ac974 wo975 bk641 bk697 En976 Hv977
          refine any_from hG ?_
          refine any_two 4 8 (by kernel_rfl) ?_ ?_
          · rintro _ rfl
            refine op_append (d := some 18) (t := 22) (tx := 22) (ty := 22) (k := 0) (p := 0) (m := List.length lx) (x := .slice ax (List.length lx) cx) (bytes := 1) En976 (by kernel_rfl) Hv977 rfl rfl (Reads.src (size := 1) (tx := 22) (e' := 5) (by kernel_rfl) (bys_take_reads (ix.ev Hv977).reads (List.length lx)) (bys_lenn (by first | (simp; done) | (simp; omega))) (fun e => by have := ix.nz e; omega) (bys_one _)) (by kernel_rfl) (z := .int .u8 0) (by kernel_rfl) rfl (by decide) (by omega) (by unfold maxLen; omega) ?_
            intro ac982 wo983 ao978 cp979 En984 Hv985 _ _
            rw [bys_nil_append] at Hv985
            have ehz980 : 0 + (List.length lx) = List.length (List.take (List.length lx) lx) := (by first | (simp; done) | (simp; omega) | omega)
            rw [ehz980] at En984
            exact any_to hG (by kernel_rfl) (nd893 _ _ ao978 cp979 bk697 (En984.sub (by kernel_rfl)) (Hv985.pick [0, 1] (by kernel_rfl) (by decide)))
          · rintro _ rfl
            have hcap986 := ix.cap
            refine op_slice (d := some 22) (t := 22) (e := 5) (sz := 1) (len := List.length lx) (cap := cx) (lo := List.length lx) (hi := List.length lx) (ao := ax) (lov := (some (.int .i64 ((List.length lx : Nat) : Int)))) (hiv := none) En976 (by kernel_rfl) (by kernel_rfl) (by kernel_rfl) (by omega) (by omega) (.inr ⟨.i64, rfl⟩) (.inl ⟨rfl, rfl⟩) ?_
            intro ac987 En988
            exact any_to hG (by kernel_rfl) (nd935 _ _ bk641 bk697 (En988.sub (by kernel_rfl)) (Hv977.pick [0, 1] (by kernel_rfl) (by decide)))
        have nd989 : ∀ (ac : Act) (wo : World) (bk641 : Nat), Env ac 24 [(0, .slice ax (List.length lx) cx), (1, .int .i64 ((List.length lx : Nat) : Int)), (4, .slice none 0 0), (5, .slice none 0 0), (14, .slice (some ⟨bk641, 0, none⟩) 0 0), (17, .slice ax (List.length lx) cx), (22, .slice (cutAt ax cx (List.length lx) 1) ((List.length lx) - (List.length lx)) (cx - (List.length lx)))] → Ev w [] wo [.vec (some ⟨bk641, 0, none⟩) 0 1 (bys []) 5] → G 5 #[true, true, true, true, false, false, true, true, true, false, false, false] ac wo := by
          intro ac990 wo991 bk641 En992 Hv993
          refine any_from hG ?_
          refine any_two 4 5 (by kernel_rfl) ?_ ?_
          · rintro _ rfl
            refine op_append (d := some 18) (t := 22) (tx := 22) (ty := 22) (k := 0) (p := 0) (m := List.length lx) (x := .slice ax (List.length lx) cx) (bytes := 1) En992 (by kernel_rfl) Hv993 rfl rfl (Reads.src (size := 1) (tx := 22) (e' := 5) (by kernel_rfl) (bys_take_reads (ix.ev Hv993).reads (List.length lx)) (bys_lenn (by first | (simp; done) | (simp; omega))) (fun e => by have := ix.nz e; omega) (bys_one _)) (by kernel_rfl) (z := .int .u8 0) (by kernel_rfl) rfl (by decide) (by omega) (by unfold maxLen; omega) ?_
            intro ac998 wo999 ao994 cp995 En1000 Hv1001 _ _
            rw [bys_nil_append] at Hv1001
            have ehz996 : 0 + (List.length lx) = List.length (List.take (List.length lx) lx) := (by first | (simp; done) | (simp; omega) | omega)
            rw [ehz996] at En1000
            exact any_to hG (by kernel_rfl) (nd913 _ _ ao994 cp995 (En1000.sub (by kernel_rfl)) (Hv1001.pick [0] (by kernel_rfl) (by decide)))
          · rintro _ rfl
            refine op_lit (d := some 19) (t := 22) (T := 5) (m := 0) (parts := #[]) (xs := bys []) (sz := 1) En992 (by kernel_rfl) (by kernel_rfl) rfl (by decide) Hv993 ?_
            intro ac1003 wo1004 bk1002 En1005 Hv1006
            exact any_to hG (by kernel_rfl) (nd935 _ _ bk641 bk1002 (En1005.sub (by kernel_rfl)) (Hv1006.pick [0, 1] (by kernel_rfl) (by decide)))
        have nd1007 : ∀ (ac : Act) (wo : World) (bk641 : Nat) (bk749 : Nat), Env ac 24 [(0, .slice ax (List.length lx) cx), (1, .int .i64 ((List.length lx : Nat) : Int)), (4, .slice none 0 0), (5, .slice none 0 0), (14, .slice (some ⟨bk641, 0, none⟩) 0 0), (15, .slice ax (List.length lx) cx), (16, .int .i64 ((List.length lx : Nat) : Int)), (19, .slice (some ⟨bk749, 0, none⟩) 0 0), (22, .slice (cutAt ax cx (List.length lx) 1) ((List.length lx) - (List.length lx)) (cx - (List.length lx)))] → Ev w [] wo [.vec (some ⟨bk641, 0, none⟩) 0 1 (bys []) 5, .vec (some ⟨bk749, 0, none⟩) 0 1 (bys []) 5] → G 5 #[true, true, true, false, false, true, true, true, true, false, false, false] ac wo := by
          intro ac1008 wo1009 bk641 bk749 En1010 Hv1011
          refine any_from hG ?_
          refine any_at 3 (by kernel_rfl) rfl ?_
          have hcap1012 := ix.cap
          refine op_slice0 (d := some 17) (t := 22) (e := 5) (sz := 1) (len := List.length lx) (cap := cx) (hi := List.length lx) (ao := ax) (lov := none) (hiv := (some (.int .i64 ((List.length lx : Nat) : Int)))) En1010 (by kernel_rfl) (by kernel_rfl) (by kernel_rfl) (by omega) (.inl ⟨rfl, rfl⟩) (.inr ⟨.i64, rfl⟩) ?_
          intro ac1013 En1014
          refine any_at 4 (by kernel_rfl) rfl ?_
          refine op_append (d := some 18) (t := 22) (tx := 22) (ty := 22) (k := 0) (p := 0) (m := List.length lx) (x := .slice ax (List.length lx) cx) (bytes := 1) En1014 (by kernel_rfl) Hv1011 rfl rfl (Reads.src (size := 1) (tx := 22) (e' := 5) (by kernel_rfl) (bys_take_reads (ix.ev Hv1011).reads (List.length lx)) (bys_lenn (by first | (simp; done) | (simp; omega))) (fun e => by have := ix.nz e; omega) (bys_one _)) (by kernel_rfl) (z := .int .u8 0) (by kernel_rfl) rfl (by decide) (by omega) (by unfold maxLen; omega) ?_
          intro ac1019 wo1020 ao1015 cp1016 En1021 Hv1022 _ _
          rw [bys_nil_append] at Hv1022
          have ehz1017 : 0 + (List.length lx) = List.length (List.take (List.length lx) lx) := (by first | (simp; done) | (simp; omega) | omega)
          rw [ehz1017] at En1021
          refine any_at 9 (by kernel_rfl) rfl ?_
          refine op_append (d := some 23) (t := 22) (tx := 22) (ty := 22) (k := 1) (p := 0) (m := (List.length lx) - (List.length lx)) (x := .slice (cutAt ax cx (List.length lx) 1) ((List.length lx) - (List.length lx)) (cx - (List.length lx))) (bytes := 1) En1021 (by kernel_rfl) Hv1022 rfl rfl (Reads.src (size := 1) (tx := 22) (e' := 5) (by kernel_rfl) (bys_drop_reads (ix.ev Hv1022).reads cx (List.length lx) (n := (List.length lx)) (by simp) (by omega) (by omega)) (bys_lenn (by first | (simp; done) | (simp; omega))) (fun e => cut_nz ix.nz e (by omega)) (bys_one _)) (by kernel_rfl) (z := .int .u8 0) (by kernel_rfl) rfl (by decide) (by omega) (by unfold maxLen; omega) ?_
          intro ac1027 wo1028 ao1023 cp1024 En1029 Hv1030 _ _
          rw [bys_nil_append] at Hv1030
          have ehz1025 : 0 + ((List.length lx) - (List.length lx)) = List.length (List.drop (List.length lx) lx) := (by first | (simp; done) | (simp; omega) | omega)
          rw [ehz1025] at En1029
          refine any_pureR (d := some 4) En1029 (v := .slice ao1015 (List.length (List.take (List.length lx) lx)) cp1016) 10 (by kernel_rfl) (by kernel_rfl) rfl ?_
          intro ac1031 En1032
          refine any_pureR (d := some 5) En1032 (v := .slice ao1023 (List.length (List.drop (List.length lx) lx)) cp1024) 11 (by kernel_rfl) (by kernel_rfl) rfl ?_
          intro ac1033 En1034
          exact any_end (by kernel_rfl) ⟨ao1015, cp1016, ao1023, cp1024, En1034.sub (by kernel_rfl), Hv1030.pick [0, 1] (by kernel_rfl) (by decide)⟩
        have nd1035 : ∀ (ac : Act) (wo : World) (bk802 : Nat), Env ac 24 [(0, .slice ax (List.length lx) cx), (1, .int .i64 ((List.length lx : Nat) : Int)), (4, .slice none 0 0), (5, .slice none 0 0), (17, .slice ax (List.length lx) cx), (19, .slice (some ⟨bk802, 0, none⟩) 0 0), (22, .slice (cutAt ax cx (List.length lx) 1) ((List.length lx) - (List.length lx)) (cx - (List.length lx)))] → Ev w [] wo [.vec (some ⟨bk802, 0, none⟩) 0 1 (bys []) 5] → G 5 #[false, true, true, true, false, true, true, true, true, false, false, false] ac wo := by
          intro ac1036 wo1037 bk802 En1038 Hv1039
          refine any_from hG ?_
          refine any_at 0 (by kernel_rfl) rfl ?_
          refine op_lit (d := some 14) (t := 22) (T := 5) (m := 0) (parts := #[]) (xs := bys []) (sz := 1) En1038 (by kernel_rfl) (by kernel_rfl) rfl (by decide) Hv1039 ?_
          intro ac1041 wo1042 bk1040 En1043 Hv1044
          refine any_at 4 (by kernel_rfl) rfl ?_
          refine op_append (d := some 18) (t := 22) (tx := 22) (ty := 22) (k := 1) (p := 0) (m := List.length lx) (x := .slice ax (List.length lx) cx) (bytes := 1) En1043 (by kernel_rfl) Hv1044 rfl rfl (Reads.src (size := 1) (tx := 22) (e' := 5) (by kernel_rfl) (bys_take_reads (ix.ev Hv1044).reads (List.length lx)) (bys_lenn (by first | (simp; done) | (simp; omega))) (fun e => by have := ix.nz e; omega) (bys_one _)) (by kernel_rfl) (z := .int .u8 0) (by kernel_rfl) rfl (by decide) (by omega) (by unfold maxLen; omega) ?_
          intro ac1049 wo1050 ao1045 cp1046 En1051 Hv1052 _ _
          rw [bys_nil_append] at Hv1052
          have ehz1047 : 0 + (List.length lx) = List.length (List.take (List.length lx) lx) := (by first | (simp; done) | (simp; omega) | omega)
          rw [ehz1047] at En1051
          refine any_at 9 (by kernel_rfl) rfl ?_
          refine op_append (d := some 23) (t := 22) (tx := 22) (ty := 22) (k := 0) (p := 0) (m := (List.length lx) - (List.length lx)) (x := .slice (cutAt ax cx (List.length lx) 1) ((List.length lx) - (List.length lx)) (cx - (List.length lx))) (bytes := 1) En1051 (by kernel_rfl) Hv1052 rfl rfl (Reads.src (size := 1) (tx := 22) (e' := 5) (by kernel_rfl) (bys_drop_reads (ix.ev Hv1052).reads cx (List.length lx) (n := (List.length lx)) (by simp) (by omega) (by omega)) (bys_lenn (by first | (simp; done) | (simp; omega))) (fun e => cut_nz ix.nz e (by omega)) (bys_one _)) (by kernel_rfl) (z := .int .u8 0) (by kernel_rfl) rfl (by decide) (by omega) (by unfold maxLen; omega) ?_
          intro ac1057 wo1058 ao1053 cp1054 En1059 Hv1060 _ _
          rw [bys_nil_append] at Hv1060
          have ehz1055 : 0 + ((List.length lx) - (List.length lx)) = List.length (List.drop (List.length lx) lx) := (by first | (simp; done) | (simp; omega) | omega)
          rw [ehz1055] at En1059
          refine any_pureR (d := some 4) En1059 (v := .slice ao1045 (List.length (List.take (List.length lx) lx)) cp1046) 10 (by kernel_rfl) (by kernel_rfl) rfl ?_
          intro ac1061 En1062
          refine any_pureR (d := some 5) En1062 (v := .slice ao1053 (List.length (List.drop (List.length lx) lx)) cp1054) 11 (by kernel_rfl) (by kernel_rfl) rfl ?_
          intro ac1063 En1064
          exact any_end (by kernel_rfl) ⟨ao1045, cp1046, ao1053, cp1054, En1064.sub (by kernel_rfl), Hv1060.pick [1, 0] (by kernel_rfl) (by decide)⟩
        have nd1065 : ∀ (ac : Act) (wo : World) (bk641 : Nat), Env ac 24 [(0, .slice ax (List.length lx) cx), (1, .int .i64 ((List.length lx : Nat) : Int)), (4, .slice none 0 0), (5, .slice none 0 0), (14, .slice (some ⟨bk641, 0, none⟩) 0 0), (17, .slice ax (List.length lx) cx), (20, .slice ax (List.length lx) cx), (21, .int .i64 ((List.length lx : Nat) : Int))] → Ev w [] wo [.vec (some ⟨bk641, 0, none⟩) 0 1 (bys []) 5] → G 6 #[true, true, true, true, false, false, true, true, false, false, false, false] ac wo := by
          intro ac1066 wo1067 bk641 En1068 Hv1069
          refine any_from hG ?_
          refine any_ways [4, 5, 8] (by kernel_rfl) rfl ?_
          refine ⟨?_, ?_, ?_, trivial⟩
          · rintro _ rfl
            refine op_append (d := some 18) (t := 22) (tx := 22) (ty := 22) (k := 0) (p := 0) (m := List.length lx) (x := .slice ax (List.length lx) cx) (bytes := 1) En1068 (by kernel_rfl) Hv1069 rfl rfl (Reads.src (size := 1) (tx := 22) (e' := 5) (by kernel_rfl) (bys_take_reads (ix.ev Hv1069).reads (List.length lx)) (bys_lenn (by first | (simp; done) | (simp; omega))) (fun e => by have := ix.nz e; omega) (bys_one _)) (by kernel_rfl) (z := .int .u8 0) (by kernel_rfl) rfl (by decide) (by omega) (by unfold maxLen; omega) ?_
            intro ac1074 wo1075 ao1070 cp1071 En1076 Hv1077 _ _
            rw [bys_nil_append] at Hv1077
            have ehz1072 : 0 + (List.length lx) = List.length (List.take (List.length lx) lx) := (by first | (simp; done) | (simp; omega) | omega)
            rw [ehz1072] at En1076
            exact any_to hG (by kernel_rfl) (nd960 _ _ ao1070 cp1071 (En1076.sub (by kernel_rfl)) (Hv1077.pick [0] (by kernel_rfl) (by decide)))
          · rintro _ rfl
            refine op_lit (d := some 19) (t := 22) (T := 5) (m := 0) (parts := #[]) (xs := bys []) (sz := 1) En1068 (by kernel_rfl) (by kernel_rfl) rfl (by decide) Hv1069 ?_
            intro ac1079 wo1080 bk1078 En1081 Hv1082
            exact any_to hG (by kernel_rfl) (nd973 _ _ bk641 bk1078 (En1081.sub (by kernel_rfl)) (Hv1082.pick [0, 1] (by kernel_rfl) (by decide)))
          · rintro _ rfl
            have hcap1083 := ix.cap
            refine op_slice (d := some 22) (t := 22) (e := 5) (sz := 1) (len := List.length lx) (cap := cx) (lo := List.length lx) (hi := List.length lx) (ao := ax) (lov := (some (.int .i64 ((List.length lx : Nat) : Int)))) (hiv := none) En1068 (by kernel_rfl) (by kernel_rfl) (by kernel_rfl) (by omega) (by omega) (.inr ⟨.i64, rfl⟩) (.inl ⟨rfl, rfl⟩) ?_
            intro ac1084 En1085
            exact any_to hG (by kernel_rfl) (nd989 _ _ bk641 (En1085.sub (by kernel_rfl)) (Hv1069.pick [0] (by kernel_rfl) (by decide)))
        have nd1086 : ∀ (ac : Act) (wo : World) (bk641 : Nat) (bk749 : Nat), Env ac 24 [(0, .slice ax (List.length lx) cx), (1, .int .i64 ((List.length lx : Nat) : Int)), (4, .slice none 0 0), (5, .slice none 0 0), (14, .slice (some ⟨bk641, 0, none⟩) 0 0), (15, .slice ax (List.length lx) cx), (16, .int .i64 ((List.length lx : Nat) : Int)), (19, .slice (some ⟨bk749, 0, none⟩) 0 0), (20, .slice ax (List.length lx) cx), (21, .int .i64 ((List.length lx : Nat) : Int))] → Ev w [] wo [.vec (some ⟨bk641, 0, none⟩) 0 1 (bys []) 5, .vec (some ⟨bk749, 0, none⟩) 0 1 (bys []) 5] → G 6 #[true, true, true, false, false, true, true, true, false, false, false, false] ac wo := by
          intro ac1087 wo1088 bk641 bk749 En1089 Hv1090
          refine any_from hG ?_
          refine any_two 3 8 (by kernel_rfl) ?_ ?_
          · rintro _ rfl
            have hcap1091 := ix.cap
            refine op_slice0 (d := some 17) (t := 22) (e := 5) (sz := 1) (len := List.length lx) (cap := cx) (hi := List.length lx) (ao := ax) (lov := none) (hiv := (some (.int .i64 ((List.length lx : Nat) : Int)))) En1089 (by kernel_rfl) (by kernel_rfl) (by kernel_rfl) (by omega) (.inl ⟨rfl, rfl⟩) (.inr ⟨.i64, rfl⟩) ?_
            intro ac1092 En1093
            exact any_to hG (by kernel_rfl) (nd973 _ _ bk641 bk749 (En1093.sub (by kernel_rfl)) (Hv1090.pick [0, 1] (by kernel_rfl) (by decide)))
          · rintro _ rfl
            have hcap1094 := ix.cap
            refine op_slice (d := some 22) (t := 22) (e := 5) (sz := 1) (len := List.length lx) (cap := cx) (lo := List.length lx) (hi := List.length lx) (ao := ax) (lov := (some (.int .i64 ((List.length lx : Nat) : Int)))) (hiv := none) En1089 (by kernel_rfl) (by kernel_rfl) (by kernel_rfl) (by omega) (by omega) (.inr ⟨.i64, rfl⟩) (.inl ⟨rfl, rfl⟩) ?_
            intro ac1095 En1096
            exact any_to hG (by kernel_rfl) (nd1007 _ _ bk641 bk749 (En1096.sub (by kernel_rfl)) (Hv1090.pick [0, 1] (by kernel_rfl) (by decide)))
        have nd1097 : ∀ (ac : Act) (wo : World) (bk641 : Nat), Env ac 24 [(0, .slice ax (List.length lx) cx), (1, .int .i64 ((List.length lx : Nat) : Int)), (4, .slice none 0 0), (5, .slice none 0 0), (14, .slice (some ⟨bk641, 0, none⟩) 0 0), (15, .slice ax (List.length lx) cx), (16, .int .i64 ((List.length lx : Nat) : Int)), (22, .slice (cutAt ax cx (List.length lx) 1) ((List.length lx) - (List.length lx)) (cx - (List.length lx)))] → Ev w [] wo [.vec (some ⟨bk641, 0, none⟩) 0 1 (bys []) 5] → G 6 #[true, true, true, false, false, false, true, true, true, false, false, false] ac wo := by
          intro ac1098 wo1099 bk641 En1100 Hv1101
          refine any_from hG ?_
          refine any_two 3 5 (by kernel_rfl) ?_ ?_
          · rintro _ rfl
            have hcap1102 := ix.cap
            refine op_slice0 (d := some 17) (t := 22) (e := 5) (sz := 1) (len := List.length lx) (cap := cx) (hi := List.length lx) (ao := ax) (lov := none) (hiv := (some (.int .i64 ((List.length lx : Nat) : Int)))) En1100 (by kernel_rfl) (by kernel_rfl) (by kernel_rfl) (by omega) (.inl ⟨rfl, rfl⟩) (.inr ⟨.i64, rfl⟩) ?_
            intro ac1103 En1104
            exact any_to hG (by kernel_rfl) (nd989 _ _ bk641 (En1104.sub (by kernel_rfl)) (Hv1101.pick [0] (by kernel_rfl) (by decide)))
          · rintro _ rfl
            refine op_lit (d := some 19) (t := 22) (T := 5) (m := 0) (parts := #[]) (xs := bys []) (sz := 1) En1100 (by kernel_rfl) (by kernel_rfl) rfl (by decide) Hv1101 ?_
            intro ac1106 wo1107 bk1105 En1108 Hv1109
            exact any_to hG (by kernel_rfl) (nd1007 _ _ bk641 bk1105 (En1108.sub (by kernel_rfl)) (Hv1109.pick [0, 1] (by kernel_rfl) (by decide)))
        have nd1110 : ∀ (ac : Act) (wo : World) (bk802 : Nat), Env ac 24 [(0, .slice ax (List.length lx) cx), (1, .int .i64 ((List.length lx : Nat) : Int)), (4, .slice none 0 0), (5, .slice none 0 0), (17, .slice ax (List.length lx) cx), (19, .slice (some ⟨bk802, 0, none⟩) 0 0), (20, .slice ax (List.length lx) cx), (21, .int .i64 ((List.length lx : Nat) : Int))] → Ev w [] wo [.vec (some ⟨bk802, 0, none⟩) 0 1 (bys []) 5] → G 6 #[false, true, true, true, false, true, true, true, false, false, false, false] ac wo := by
          intro ac1111 wo1112 bk802 En1113 Hv1114
          refine any_from hG ?_
          refine any_two 0 8 (by kernel_rfl) ?_ ?_
          · rintro _ rfl
            refine op_lit (d := some 14) (t := 22) (T := 5) (m := 0) (parts := #[]) (xs := bys []) (sz := 1) En1113 (by kernel_rfl) (by kernel_rfl) rfl (by decide) Hv1114 ?_
            intro ac1116 wo1117 bk1115 En1118 Hv1119
            exact any_to hG (by kernel_rfl) (nd973 _ _ bk1115 bk802 (En1118.sub (by kernel_rfl)) (Hv1119.pick [1, 0] (by kernel_rfl) (by decide)))
          · rintro _ rfl
            have hcap1120 := ix.cap
            refine op_slice (d := some 22) (t := 22) (e := 5) (sz := 1) (len := List.length lx) (cap := cx) (lo := List.length lx) (hi := List.length lx) (ao := ax) (lov := (some (.int .i64 ((List.length lx : Nat) : Int)))) (hiv := none) En1113 (by kernel_rfl) (by kernel_rfl) (by kernel_rfl) (by omega) (by omega) (.inr ⟨.i64, rfl⟩) (.inl ⟨rfl, rfl⟩) ?_
            intro ac1121 En1122
            exact any_to hG (by kernel_rfl) (nd1035 _ _ bk802 (En1122.sub (by kernel_rfl)) (Hv1114.pick [0] (by kernel_rfl) (by decide)))
        have nd1123 : ∀ (ac : Act) (wo : World), Env ac 24 [(0, .slice ax (List.length lx) cx), (1, .int .i64 ((List.length lx : Nat) : Int)), (4, .slice none 0 0), (5, .slice none 0 0), (17, .slice ax (List.length lx) cx), (22, .slice (cutAt ax cx (List.length lx) 1) ((List.length lx) - (List.length lx)) (cx - (List.length lx)))] → Ev w [] wo [] → G 6 #[false, true, true, true, false, false, true, true, true, false, false, false] ac wo := by
          intro ac1124 wo1125 En1126 Hv1127
          refine any_from hG ?_
          refine any_two 0 5 (by kernel_rfl) ?_ ?_
          · rintro _ rfl
            refine op_lit (d := some 14) (t := 22) (T := 5) (m := 0) (parts := #[]) (xs := bys []) (sz := 1) En1126 (by kernel_rfl) (by kernel_rfl) rfl (by decide) Hv1127 ?_
            intro ac1129 wo1130 bk1128 En1131 Hv1132
            exact any_to hG (by kernel_rfl) (nd989 _ _ bk1128 (En1131.sub (by kernel_rfl)) (Hv1132.pick [0] (by kernel_rfl) (by decide)))
          · rintro _ rfl
            refine op_lit (d := some 19) (t := 22) (T := 5) (m := 0) (parts := #[]) (xs := bys []) (sz := 1) En1126 (by kernel_rfl) (by kernel_rfl) rfl (by decide) Hv1127 ?_
            intro ac1134 wo1135 bk1133 En1136 Hv1137
            exact any_to hG (by kernel_rfl) (nd1035 _ _ bk1133 (En1136.sub (by kernel_rfl)) (Hv1137.pick [0] (by kernel_rfl) (by decide)))
        have nd1138 : ∀ (ac : Act) (wo : World) (bk853 : Nat), Env ac 24 [(0, .slice ax (List.length lx) cx), (1, .int .i64 ((List.length lx : Nat) : Int)), (4, .slice none 0 0), (5, .slice none 0 0), (15, .slice ax (List.length lx) cx), (16, .int .i64 ((List.length lx : Nat) : Int)), (19, .slice (some ⟨bk853, 0, none⟩) 0 0), (22, .slice (cutAt ax cx (List.length lx) 1) ((List.length lx) - (List.length lx)) (cx - (List.length lx)))] → Ev w [] wo [.vec (some ⟨bk853, 0, none⟩) 0 1 (bys []) 5] → G 6 #[false, true, true, false, false, true, true, true, true, false, false, false] ac wo := by
          intro ac1139 wo1140 bk853 En1141 Hv1142
          refine any_from hG ?_
          refine any_two 0 3 (by kernel_rfl) ?_ ?_
          · rintro _ rfl
            refine op_lit (d := some 14) (t := 22) (T := 5) (m := 0) (parts := #[]) (xs := bys []) (sz := 1) En1141 (by kernel_rfl) (by kernel_rfl) rfl (by decide) Hv1142 ?_
            intro ac1144 wo1145 bk1143 En1146 Hv1147
            exact any_to hG (by kernel_rfl) (nd1007 _ _ bk1143 bk853 (En1146.sub (by kernel_rfl)) (Hv1147.pick [1, 0] (by kernel_rfl) (by decide)))
          · rintro _ rfl
            have hcap1148 := ix.cap
            refine op_slice0 (d := some 17) (t := 22) (e := 5) (sz := 1) (len := List.length lx) (cap := cx) (hi := List.length lx) (ao := ax) (lov := none) (hiv := (some (.int .i64 ((List.length lx : Nat) : Int)))) En1141 (by kernel_rfl) (by kernel_rfl) (by kernel_rfl) (by omega) (.inl ⟨rfl, rfl⟩) (.inr ⟨.i64, rfl⟩) ?_
            intro ac1149 En1150
            exact any_to hG (by kernel_rfl) (nd1035 _ _ bk853 (En1150.sub (by kernel_rfl)) (Hv1142.pick [0] (by kernel_rfl) (by decide)))
        have nd1151 : ∀ (ac : Act) (wo : World) (bk641 : Nat), Env ac 24 [(0, .slice ax (List.length lx) cx), (1, .int .i64 ((List.length lx : Nat) : Int)), (4, .slice none 0 0), (5, .slice none 0 0), (14, .slice (some ⟨bk641, 0, none⟩) 0 0), (15, .slice ax (List.length lx) cx), (16, .int .i64 ((List.length lx : Nat) : Int)), (20, .slice ax (List.length lx) cx), (21, .int .i64 ((List.length lx : Nat) : Int))] → Ev w [] wo [.vec (some ⟨bk641, 0, none⟩) 0 1 (bys []) 5] → G 7 #[true, true, true, false, false, false, true, true, false, false, false, false] ac wo := by
          intro ac1152 wo1153 bk641 En1154 Hv1155
          refine any_from hG ?_
          refine any_ways [3, 5, 8] (by kernel_rfl) rfl ?_
          refine ⟨?_, ?_, ?_, trivial⟩
          · rintro _ rfl
            have hcap1156 := ix.cap
            refine op_slice0 (d := some 17) (t := 22) (e := 5) (sz := 1) (len := List.length lx) (cap := cx) (hi := List.length lx) (ao := ax) (lov := none) (hiv := (some (.int .i64 ((List.length lx : Nat) : Int)))) En1154 (by kernel_rfl) (by kernel_rfl) (by kernel_rfl) (by omega) (.inl ⟨rfl, rfl⟩) (.inr ⟨.i64, rfl⟩) ?_
            intro ac1157 En1158
            exact any_to hG (by kernel_rfl) (nd1065 _ _ bk641 (En1158.sub (by kernel_rfl)) (Hv1155.pick [0] (by kernel_rfl) (by decide)))
          · rintro _ rfl
            refine op_lit (d := some 19) (t := 22) (T := 5) (m := 0) (parts := #[]) (xs := bys []) (sz := 1) En1154 (by kernel_rfl) (by kernel_rfl) rfl (by decide) Hv1155 ?_
            intro ac1160 wo1161 bk1159 En1162 Hv1163
            exact any_to hG (by kernel_rfl) (nd1086 _ _ bk641 bk1159 (En1162.sub (by kernel_rfl)) (Hv1163.pick [0, 1] (by kernel_rfl) (by decide)))
          · rintro _ rfl
            have hcap1164 := ix.cap
            refine op_slice (d := some 22) (t := 22) (e := 5) (sz := 1) (len := List.length lx) (cap := cx) (lo := List.length lx) (hi := List.length lx) (ao := ax) (lov := (some (.int .i64 ((List.length lx : Nat) : Int)))) (hiv := none) En1154 (by kernel_rfl) (by kernel_rfl) (by kernel_rfl) (by omega) (by omega) (.inr ⟨.i64, rfl⟩) (.inl ⟨rfl, rfl⟩) ?_
            intro ac1165 En1166
            exact any_to hG (by kernel_rfl) (nd1097 _ _ bk641 (En1166.sub (by kernel_rfl)) (Hv1155.pick [0] (by kernel_rfl) (by decide)))
        have nd1167 : ∀ (ac : Act) (wo : World), Env ac 24 [(0, .slice ax (List.length lx) cx), (1, .int .i64 ((List.length lx : Nat) : Int)), (4, .slice none 0 0), (5, .slice none 0 0), (17, .slice ax (List.length lx) cx), (20, .slice ax (List.length lx) cx), (21, .int .i64 ((List.length lx : Nat) : Int))] → Ev w [] wo [] → G 7 #[false, true, true, true, false, false, true, true, false, false, false, false] ac wo := by
          intro ac1168 wo1169 En1170 Hv1171
          refine any_from hG ?_
          refine any_ways [0, 5, 8] (by kernel_rfl) rfl ?_
          refine ⟨?_, ?_, ?_, trivial⟩
          · rintro _ rfl
            refine op_lit (d := some 14) (t := 22) (T := 5) (m := 0) (parts := #[]) (xs := bys []) (sz := 1) En1170 (by kernel_rfl) (by kernel_rfl) rfl (by decide) Hv1171 ?_
            intro ac1173 wo1174 bk1172 En1175 Hv1176
            exact any_to hG (by kernel_rfl) (nd1065 _ _ bk1172 (En1175.sub (by kernel_rfl)) (Hv1176.pick [0] (by kernel_rfl) (by decide)))
          · rintro _ rfl
            refine op_lit (d := some 19) (t := 22) (T := 5) (m := 0) (parts := #[]) (xs := bys []) (sz := 1) En1170 (by kernel_rfl) (by kernel_rfl) rfl (by decide) Hv1171 ?_
            intro ac1178 wo1179 bk1177 En1180 Hv1181
            exact any_to hG (by kernel_rfl) (nd1110 _ _ bk1177 (En1180.sub (by kernel_rfl)) (Hv1181.pick [0] (by kernel_rfl) (by decide)))
          · rintro _ rfl
            have hcap1182 := ix.cap
            refine op_slice (d := some 22) (t := 22) (e := 5) (sz := 1) (len := List.length lx) (cap := cx) (lo := List.length lx) (hi := List.length lx) (ao := ax) (lov := (some (.int .i64 ((List.length lx : Nat) : Int)))) (hiv := none) En1170 (by kernel_rfl) (by kernel_rfl) (by kernel_rfl) (by omega) (by omega) (.inr ⟨.i64, rfl⟩) (.inl ⟨rfl, rfl⟩) ?_
            intro ac1183 En1184
            exact any_to hG (by kernel_rfl) (nd1123 _ _ (En1184.sub (by kernel_rfl)) (Hv1171.pick [] (by kernel_rfl) (by decide)))
        have nd1185 : ∀ (ac : Act) (wo : World) (bk853 : Nat), Env ac 24 [(0, .slice ax (List.length lx) cx), (1, .int .i64 ((List.length lx : Nat) : Int)), (4, .slice none 0 0), (5, .slice none 0 0), (15, .slice ax (List.length lx) cx), (16, .int .i64 ((List.length lx : Nat) : Int)), (19, .slice (some ⟨bk853, 0, none⟩) 0 0), (20, .slice ax (List.length lx) cx), (21, .int .i64 ((List.length lx : Nat) : Int))] → Ev w [] wo [.vec (some ⟨bk853, 0, none⟩) 0 1 (bys []) 5] → G 7 #[false, true, true, false, false, true, true, true, false, false, false, false] ac wo := by
          intro ac1186 wo1187 bk853 En1188 Hv1189
          refine any_from hG ?_
          refine any_ways [0, 3, 8] (by kernel_rfl) rfl ?_
          refine ⟨?_, ?_, ?_, trivial⟩
          · rintro _ rfl
            refine op_lit (d := some 14) (t := 22) (T := 5) (m := 0) (parts := #[]) (xs := bys []) (sz := 1) En1188 (by kernel_rfl) (by kernel_rfl) rfl (by decide) Hv1189 ?_
            intro ac1191 wo1192 bk1190 En1193 Hv1194
            exact any_to hG (by kernel_rfl) (nd1086 _ _ bk1190 bk853 (En1193.sub (by kernel_rfl)) (Hv1194.pick [1, 0] (by kernel_rfl) (by decide)))
          · rintro _ rfl
            have hcap1195 := ix.cap
            refine op_slice0 (d := some 17) (t := 22) (e := 5) (sz := 1) (len := List.length lx) (cap := cx) (hi := List.length lx) (ao := ax) (lov := none) (hiv := (some (.int .i64 ((List.length lx : Nat) : Int)))) En1188 (by kernel_rfl) (by kernel_rfl) (by kernel_rfl) (by omega) (.inl ⟨rfl, rfl⟩) (.inr ⟨.i64, rfl⟩) ?_
            intro ac1196 En1197
            exact any_to hG (by kernel_rfl) (nd1110 _ _ bk853 (En1197.sub (by kernel_rfl)) (Hv1189.pick [0] (by kernel_rfl) (by decide)))
          · rintro _ rfl
            have hcap1198 := ix.cap
            refine op_slice (d := some 22) (t := 22) (e := 5) (sz := 1) (len := List.length lx) (cap := cx) (lo := List.length lx) (hi := List.length lx) (ao := ax) (lov := (some (.int .i64 ((List.length lx : Nat) : Int)))) (hiv := none) En1188 (by kernel_rfl) (by kernel_rfl) (by kernel_rfl) (by omega) (by omega) (.inr ⟨.i64, rfl⟩) (.inl ⟨rfl, rfl⟩) ?_
            intro ac1199 En1200
            exact any_to hG (by kernel_rfl) (nd1138 _ _ bk853 (En1200.sub (by kernel_rfl)) (Hv1189.pick [0] (by kernel_rfl) (by decide)))
        have nd1201 : ∀ (ac : Act) (wo : World), Env ac 24 [(0, .slice ax (List.length lx) cx), (1, .int .i64 ((List.length lx : Nat) : Int)), (4, .slice none 0 0), (5, .slice none 0 0), (15, .slice ax (List.length lx) cx), (16, .int .i64 ((List.length lx : Nat) : Int)), (22, .slice (cutAt ax cx (List.length lx) 1) ((List.length lx) - (List.length lx)) (cx - (List.length lx)))] → Ev w [] wo [] → G 7 #[false, true, true, false, false, false, true, true, true, false, false, false] ac wo := by
          intro ac1202 wo1203 En1204 Hv1205
          refine any_from hG ?_
          refine any_ways [0, 3, 5] (by kernel_rfl) rfl ?_
          refine ⟨?_, ?_, ?_, trivial⟩
          · rintro _ rfl
            refine op_lit (d := some 14) (t := 22) (T := 5) (m := 0) (parts := #[]) (xs := bys []) (sz := 1) En1204 (by kernel_rfl) (by kernel_rfl) rfl (by decide) Hv1205 ?_
            intro ac1207 wo1208 bk1206 En1209 Hv1210
            exact any_to hG (by kernel_rfl) (nd1097 _ _ bk1206 (En1209.sub (by kernel_rfl)) (Hv1210.pick [0] (by kernel_rfl) (by decide)))
          · rintro _ rfl
            have hcap1211 := ix.cap
            refine op_slice0 (d := some 17) (t := 22) (e := 5) (sz := 1) (len := List.length lx) (cap := cx) (hi := List.length lx) (ao := ax) (lov := none) (hiv := (some (.int .i64 ((List.length lx : Nat) : Int)))) En1204 (by kernel_rfl) (by kernel_rfl) (by kernel_rfl) (by omega) (.inl ⟨rfl, rfl⟩) (.inr ⟨.i64, rfl⟩) ?_
            intro ac1212 En1213
            exact any_to hG (by kernel_rfl) (nd1123 _ _ (En1213.sub (by kernel_rfl)) (Hv1205.pick [] (by kernel_rfl) (by decide)))
          · rintro _ rfl
            refine op_lit (d := some 19) (t := 22) (T := 5) (m := 0) (parts := #[]) (xs := bys []) (sz := 1) En1204 (by kernel_rfl) (by kernel_rfl) rfl (by decide) Hv1205 ?_
            intro ac1215 wo1216 bk1214 En1217 Hv1218
            exact any_to hG (by kernel_rfl) (nd1138 _ _ bk1214 (En1217.sub (by kernel_rfl)) (Hv1218.pick [0] (by kernel_rfl) (by decide)))
        refine any_from hG ?_
        refine any_pureR (d := some 15) En631 (v := .slice ax (List.length lx) cx) 1 (by kernel_rfl) (by kernel_rfl) rfl ?_
        intro ac1219 En1220
        refine any_pureR (d := some 16) En1220 (v := .int .i64 ((List.length lx : Nat) : Int)) 2 (by kernel_rfl) (by kernel_rfl) rfl ?_
        intro ac1221 En1222
        refine any_pureR (d := some 20) En1222 (v := .slice ax (List.length lx) cx) 6 (by kernel_rfl) (by kernel_rfl) rfl ?_
        intro ac1223 En1224
        refine any_pureR (d := some 21) En1224 (v := .int .i64 ((List.length lx : Nat) : Int)) 7 (by kernel_rfl) (by kernel_rfl) rfl ?_
        intro ac1225 En1226
        refine any_ways [0, 3, 5, 8] (by kernel_rfl) rfl ?_
        refine ⟨?_, ?_, ?_, ?_, trivial⟩
        · rintro _ rfl
          refine op_lit (d := some 14) (t := 22) (T := 5) (m := 0) (parts := #[]) (xs := bys []) (sz := 1) En1226 (by kernel_rfl) (by kernel_rfl) rfl (by decide) wo632 ?_
          intro ac1228 wo1229 bk1227 En1230 Hv1231
          exact any_to hG (by kernel_rfl) (nd1151 _ _ bk1227 (En1230.sub (by kernel_rfl)) (Hv1231.pick [0] (by kernel_rfl) (by decide)))
        · rintro _ rfl
          have hcap1232 := ix.cap
          refine op_slice0 (d := some 17) (t := 22) (e := 5) (sz := 1) (len := List.length lx) (cap := cx) (hi := List.length lx) (ao := ax) (lov := none) (hiv := (some (.int .i64 ((List.length lx : Nat) : Int)))) En1226 (by kernel_rfl) (by kernel_rfl) (by kernel_rfl) (by omega) (.inl ⟨rfl, rfl⟩) (.inr ⟨.i64, rfl⟩) ?_
          intro ac1233 En1234
          exact any_to hG (by kernel_rfl) (nd1167 _ _ (En1234.sub (by kernel_rfl)) (wo632.pick [] (by kernel_rfl) (by decide)))
        · rintro _ rfl
          refine op_lit (d := some 19) (t := 22) (T := 5) (m := 0) (parts := #[]) (xs := bys []) (sz := 1) En1226 (by kernel_rfl) (by kernel_rfl) rfl (by decide) wo632 ?_
          intro ac1236 wo1237 bk1235 En1238 Hv1239
          exact any_to hG (by kernel_rfl) (nd1185 _ _ bk1235 (En1238.sub (by kernel_rfl)) (Hv1239.pick [0] (by kernel_rfl) (by decide)))
        · rintro _ rfl
          have hcap1240 := ix.cap
          refine op_slice (d := some 22) (t := 22) (e := 5) (sz := 1) (len := List.length lx) (cap := cx) (lo := List.length lx) (hi := List.length lx) (ao := ax) (lov := (some (.int .i64 ((List.length lx : Nat) : Int)))) (hiv := none) En1226 (by kernel_rfl) (by kernel_rfl) (by kernel_rfl) (by omega) (by omega) (.inr ⟨.i64, rfl⟩) (.inl ⟨rfl, rfl⟩) ?_
          intro ac1241 En1242
          exact any_to hG (by kernel_rfl) (nd1201 _ _ (En1242.sub (by kernel_rfl)) (wo632.pick [] (by kernel_rfl) (by decide)))
      rintro ac1243 wo1244 ⟨ao649, cp650, ao665, cp666, En1245, Hv1246⟩
      refine then_normal ?_
      refine wp_ret ?_
      refine d_ret2 (t := 4) (u := 5) (v := .slice ao649 (List.length (List.take (List.length lx) lx)) cp650) (x := .slice ao665 (List.length (List.drop (List.length lx) lx)) cp666) En1245 (by kernel_rfl) (by kernel_rfl) (by kernel_rfl) ?_
      have e1 : List.take (List.length lx) lx = List.take (clampN n (List.length lx)) lx := by first | (rw [clamp_neg (by omega)]; done) | (rw [clamp_neg (by omega)]; simp; done) | (rw [clamp_big (by omega)]; done) | (rw [hnn, clamp_mid (by omega)]) | (rw [clamp_big (by omega)]; simp)
      have e2 : List.drop (List.length lx) lx = List.drop (clampN n (List.length lx)) lx := by first | (rw [clamp_neg (by omega)]; done) | (rw [clamp_neg (by omega)]; simp; done) | (rw [clamp_big (by omega)]; done) | (rw [hnn, clamp_mid (by omega)]) | (rw [clamp_big (by omega)]; simp)
      have Hf1247 := Hv1246.pick [0, 1] (by kernel_rfl) (by decide) (M := [.vec ao649 cp650 1 (bys (List.take (List.length lx) lx)) 5, .vec ao665 cp666 1 (bys (List.drop (List.length lx) lx)) 5])
      have f1 : List.length (List.take (List.length lx) lx) = List.length (List.take (clampN n (List.length lx)) lx) := by first | (rw [← e1]; done) | (rw [← e1]; simp; done) | (rw [← e1]; simp; omega)
      have f2 : List.length (List.drop (List.length lx) lx) = List.length (List.drop (clampN n (List.length lx)) lx) := by first | (rw [← e2]; done) | (rw [← e2]; simp; done) | (rw [← e2]; simp; omega)
      rw [e1, e2] at Hf1247
      exact ⟨ao649, cp650, ao665, cp666, by rw [f1, f2], Hf1247⟩
    ·
      replace hc629 : ¬ (((nn : Nat) : Int) > ((List.length lx : Nat) : Int)) := of_decide_eq_false hc629
      refine wp_skip ?_
      refine then_normal ?_
      refine wp_seq ?_
      refine region_cut (F := fun ac wo => ∃ (ao1265 : Option Addr) (cp1266 : Nat) (ao1281 : Option Addr) (cp1282 : Nat), Env ac 24 [(0, .slice ax (List.length lx) cx), (1, .int .i64 ((nn : Nat) : Int)), (4, .slice ao1265 (List.length (List.take nn lx)) cp1266), (5, .slice ao1281 (List.length (List.drop nn lx)) cp1282)] ∧ Ev w [] wo [.vec ao1265 cp1266 1 (bys (List.take nn lx)) 5, .vec ao1281 cp1282 1 (bys (List.drop nn lx)) 5]) ?_ ?_
      ·
        refine draw_any (by kernel_rfl) 12 (by kernel_rfl) ?_  -- region 5
        have wo1248 := Hv0.trans (Ev.drew Hv0.heap)
        refine any_name fun G hG => ?_
        have nd1509 : ∀ (ac : Act) (wo : World) (ao1265 : Option Addr) (cp1266 : Nat) (bk1273 : Nat), Env ac 24 [(0, .slice ax (List.length lx) cx), (1, .int .i64 ((nn : Nat) : Int)), (4, .slice none 0 0), (5, .slice none 0 0), (18, .slice ao1265 (List.length (List.take nn lx)) cp1266), (19, .slice (some ⟨bk1273, 0, none⟩) 0 0), (20, .slice ax (List.length lx) cx), (21, .int .i64 ((nn : Nat) : Int))] → Ev w [] wo [.vec ao1265 cp1266 1 (bys (List.take nn lx)) 5, .vec (some ⟨bk1273, 0, none⟩) 0 1 (bys []) 5] → G 4 #[true, true, true, true, true, true, true, true, false, false, false, false] ac wo := by
          intro ac1510 wo1511 ao1265 cp1266 bk1273 En1512 Hv1513
          refine any_from hG ?_
          refine any_at 8 (by kernel_rfl) rfl ?_
          have hcap1514 := ix.cap
          refine op_slice (d := some 22) (t := 22) (e := 5) (sz := 1) (len := List.length lx) (cap := cx) (lo := nn) (hi := List.length lx) (ao := ax) (lov := (some (.int .i64 ((nn : Nat) : Int)))) (hiv := none) En1512 (by kernel_rfl) (by kernel_rfl) (by kernel_rfl) (by omega) (by omega) (.inr ⟨.i64, rfl⟩) (.inl ⟨rfl, rfl⟩) ?_
          intro ac1515 En1516
          refine any_at 9 (by kernel_rfl) rfl ?_
          refine op_append (d := some 23) (t := 22) (tx := 22) (ty := 22) (k := 1) (p := 0) (m := (List.length lx) - nn) (x := .slice (cutAt ax cx nn 1) ((List.length lx) - nn) (cx - nn)) (bytes := 1) En1516 (by kernel_rfl) Hv1513 rfl rfl (Reads.src (size := 1) (tx := 22) (e' := 5) (by kernel_rfl) (bys_drop_reads (ix.ev Hv1513).reads cx nn (n := (List.length lx)) (by simp) (by omega) (by omega)) (bys_lenn (by first | (simp; done) | (simp; omega))) (fun e => cut_nz ix.nz e (by omega)) (bys_one _)) (by kernel_rfl) (z := .int .u8 0) (by kernel_rfl) rfl (by decide) (by omega) (by unfold maxLen; omega) ?_
          intro ac1521 wo1522 ao1517 cp1518 En1523 Hv1524 _ _
          rw [bys_nil_append] at Hv1524
          have ehz1519 : 0 + ((List.length lx) - nn) = List.length (List.drop nn lx) := (by first | (simp; done) | (simp; omega) | omega)
          rw [ehz1519] at En1523
          refine any_pureR (d := some 4) En1523 (v := .slice ao1265 (List.length (List.take nn lx)) cp1266) 10 (by kernel_rfl) (by kernel_rfl) rfl ?_
          intro ac1525 En1526
          refine any_pureR (d := some 5) En1526 (v := .slice ao1517 (List.length (List.drop nn lx)) cp1518) 11 (by kernel_rfl) (by kernel_rfl) rfl ?_
          intro ac1527 En1528
          exact any_end (by kernel_rfl) ⟨ao1265, cp1266, ao1517, cp1518, En1528.sub (by kernel_rfl), Hv1524.pick [0, 1] (by kernel_rfl) (by decide)⟩
        have nd1529 : ∀ (ac : Act) (wo : World) (ao1265 : Option Addr) (cp1266 : Nat), Env ac 24 [(0, .slice ax (List.length lx) cx), (1, .int .i64 ((nn : Nat) : Int)), (4, .slice none 0 0), (5, .slice none 0 0), (18, .slice ao1265 (List.length (List.take nn lx)) cp1266), (22, .slice (cutAt ax cx nn 1) ((List.length lx) - nn) (cx - nn))] → Ev w [] wo [.vec ao1265 cp1266 1 (bys (List.take nn lx)) 5] → G 4 #[true, true, true, true, true, false, true, true, true, false, false, false] ac wo := by
          intro ac1530 wo1531 ao1265 cp1266 En1532 Hv1533
          refine any_from hG ?_
          refine any_at 5 (by kernel_rfl) rfl ?_
          refine op_lit (d := some 19) (t := 22) (T := 5) (m := 0) (parts := #[]) (xs := bys []) (sz := 1) En1532 (by kernel_rfl) (by kernel_rfl) rfl (by decide) Hv1533 ?_
          intro ac1535 wo1536 bk1534 En1537 Hv1538
          refine any_at 9 (by kernel_rfl) rfl ?_
          refine op_append (d := some 23) (t := 22) (tx := 22) (ty := 22) (k := 1) (p := 0) (m := (List.length lx) - nn) (x := .slice (cutAt ax cx nn 1) ((List.length lx) - nn) (cx - nn)) (bytes := 1) En1537 (by kernel_rfl) Hv1538 rfl rfl (Reads.src (size := 1) (tx := 22) (e' := 5) (by kernel_rfl) (bys_drop_reads (ix.ev Hv1538).reads cx nn (n := (List.length lx)) (by simp) (by omega) (by omega)) (bys_lenn (by first | (simp; done) | (simp; omega))) (fun e => cut_nz ix.nz e (by omega)) (bys_one _)) (by kernel_rfl) (z := .int .u8 0) (by kernel_rfl) rfl (by decide) (by omega) (by unfold maxLen; omega) ?_
          intro ac1543 wo1544 ao1539 cp1540 En1545 Hv1546 _ _
          rw [bys_nil_append] at Hv1546
          have ehz1541 : 0 + ((List.length lx) - nn) = List.length (List.drop nn lx) := (by first | (simp; done) | (simp; omega) | omega)
          rw [ehz1541] at En1545
          refine any_pureR (d := some 4) En1545 (v := .slice ao1265 (List.length (List.take nn lx)) cp1266) 10 (by kernel_rfl) (by kernel_rfl) rfl ?_
          intro ac1547 En1548
          refine any_pureR (d := some 5) En1548 (v := .slice ao1539 (List.length (List.drop nn lx)) cp1540) 11 (by kernel_rfl) (by kernel_rfl) rfl ?_
          intro ac1549 En1550
          exact any_end (by kernel_rfl) ⟨ao1265, cp1266, ao1539, cp1540, En1550.sub (by kernel_rfl), Hv1546.pick [0, 1] (by kernel_rfl) (by decide)⟩
        have nd1551 : ∀ (ac : Act) (wo : World) (bk1257 : Nat) (bk1313 : Nat), Env ac 24 [(0, .slice ax (List.length lx) cx), (1, .int .i64 ((nn : Nat) : Int)), (4, .slice none 0 0), (5, .slice none 0 0), (14, .slice (some ⟨bk1257, 0, none⟩) 0 0), (17, .slice ax nn cx), (19, .slice (some ⟨bk1313, 0, none⟩) 0 0), (22, .slice (cutAt ax cx nn 1) ((List.length lx) - nn) (cx - nn))] → Ev w [] wo [.vec (some ⟨bk1257, 0, none⟩) 0 1 (bys []) 5, .vec (some ⟨bk1313, 0, none⟩) 0 1 (bys []) 5] → G 4 #[true, true, true, true, false, true, true, true, true, false, false, false] ac wo := by
          intro ac1552 wo1553 bk1257 bk1313 En1554 Hv1555
          refine any_from hG ?_
          refine any_at 4 (by kernel_rfl) rfl ?_
          refine op_append (d := some 18) (t := 22) (tx := 22) (ty := 22) (k := 0) (p := 0) (m := nn) (x := .slice ax nn cx) (bytes := 1) En1554 (by kernel_rfl) Hv1555 rfl rfl (Reads.src (size := 1) (tx := 22) (e' := 5) (by kernel_rfl) (bys_take_reads (ix.ev Hv1555).reads nn) (bys_lenn (by first | (simp; done) | (simp; omega))) (fun e => by have := ix.nz e; omega) (bys_one _)) (by kernel_rfl) (z := .int .u8 0) (by kernel_rfl) rfl (by decide) (by omega) (by unfold maxLen; omega) ?_
          intro ac1560 wo1561 ao1556 cp1557 En1562 Hv1563 _ _
          rw [bys_nil_append] at Hv1563
          have ehz1558 : 0 + nn = List.length (List.take nn lx) := (by first | (simp; done) | (simp; omega) | omega)
          rw [ehz1558] at En1562
          refine any_at 9 (by kernel_rfl) rfl ?_
          refine op_append (d := some 23) (t := 22) (tx := 22) (ty := 22) (k := 1) (p := 0) (m := (List.length lx) - nn) (x := .slice (cutAt ax cx nn 1) ((List.length lx) - nn) (cx - nn)) (bytes := 1) En1562 (by kernel_rfl) Hv1563 rfl rfl (Reads.src (size := 1) (tx := 22) (e' := 5) (by kernel_rfl) (bys_drop_reads (ix.ev Hv1563).reads cx nn (n := (List.length lx)) (by simp) (by omega) (by omega)) (bys_lenn (by first | (simp; done) | (simp; omega))) (fun e => cut_nz ix.nz e (by omega)) (bys_one _)) (by kernel_rfl) (z := .int .u8 0) (by kernel_rfl) rfl (by decide) (by omega) (by unfold maxLen; omega) ?_
          intro ac1568 wo1569 ao1564 cp1565 En1570 Hv1571 _ _
          rw [bys_nil_append] at Hv1571
          have ehz1566 : 0 + ((List.length lx) - nn) = List.length (List.drop nn lx) := (by first | (simp; done) | (simp; omega) | omega)
          rw [ehz1566] at En1570
          refine any_pureR (d := some 4) En1570 (v := .slice ao1556 (List.length (List.take nn lx)) cp1557) 10 (by kernel_rfl) (by kernel_rfl) rfl ?_
          intro ac1572 En1573
          refine any_pureR (d := some 5) En1573 (v := .slice ao1564 (List.length (List.drop nn lx)) cp1565) 11 (by kernel_rfl) (by kernel_rfl) rfl ?_
          intro ac1574 En1575
          exact any_end (by kernel_rfl) ⟨ao1556, cp1557, ao1564, cp1565, En1575.sub (by kernel_rfl), Hv1571.pick [0, 1] (by kernel_rfl) (by decide)⟩
        have nd1576 : ∀ (ac : Act) (wo : World) (ao1265 : Option Addr) (cp1266 : Nat), Env ac 24 [(0, .slice ax (List.length lx) cx), (1, .int .i64 ((nn : Nat) : Int)), (4, .slice none 0 0), (5, .slice none 0 0), (18, .slice ao1265 (List.length (List.take nn lx)) cp1266), (20, .slice ax (List.length lx) cx), (21, .int .i64 ((nn : Nat) : Int))] → Ev w [] wo [.vec ao1265 cp1266 1 (bys (List.take nn lx)) 5] → G 5 #[true, true, true, true, true, false, true, true, false, false, false, false] ac wo := by
          intro ac1577 wo1578 ao1265 cp1266 En1579 Hv1580
          refine any_from hG ?_
          refine any_two 5 8 (by kernel_rfl) ?_ ?_
          · rintro _ rfl
            refine op_lit (d := some 19) (t := 22) (T := 5) (m := 0) (parts := #[]) (xs := bys []) (sz := 1) En1579 (by kernel_rfl) (by kernel_rfl) rfl (by decide) Hv1580 ?_
            intro ac1582 wo1583 bk1581 En1584 Hv1585
            exact any_to hG (by kernel_rfl) (nd1509 _ _ ao1265 cp1266 bk1581 (En1584.sub (by kernel_rfl)) (Hv1585.pick [0, 1] (by kernel_rfl) (by decide)))
          · rintro _ rfl
            have hcap1586 := ix.cap
            refine op_slice (d := some 22) (t := 22) (e := 5) (sz := 1) (len := List.length lx) (cap := cx) (lo := nn) (hi := List.length lx) (ao := ax) (lov := (some (.int .i64 ((nn : Nat) : Int)))) (hiv := none) En1579 (by kernel_rfl) (by kernel_rfl) (by kernel_rfl) (by omega) (by omega) (.inr ⟨.i64, rfl⟩) (.inl ⟨rfl, rfl⟩) ?_
            intro ac1587 En1588
            exact any_to hG (by kernel_rfl) (nd1529 _ _ ao1265 cp1266 (En1588.sub (by kernel_rfl)) (Hv1580.pick [0] (by kernel_rfl) (by decide)))
        have nd1589 : ∀ (ac : Act) (wo : World) (bk1257 : Nat) (bk1313 : Nat), Env ac 24 [(0, .slice ax (List.length lx) cx), (1, .int .i64 ((nn : Nat) : Int)), (4, .slice none 0 0), (5, .slice none 0 0), (14, .slice (some ⟨bk1257, 0, none⟩) 0 0), (17, .slice ax nn cx), (19, .slice (some ⟨bk1313, 0, none⟩) 0 0), (20, .slice ax (List.length lx) cx), (21, .int .i64 ((nn : Nat) : Int))] → Ev w [] wo [.vec (some ⟨bk1257, 0, none⟩) 0 1 (bys []) 5, .vec (some ⟨bk1313, 0, none⟩) 0 1 (bys []) 5] → G 5 #[true, true, true, true, false, true, true, true, false, false, false, false] ac wo := by
          intro ac1590 wo1591 bk1257 bk1313 En1592 Hv1593
          refine any_from hG ?_
          refine any_two 4 8 (by kernel_rfl) ?_ ?_
          · rintro _ rfl
            refine op_append (d := some 18) (t := 22) (tx := 22) (ty := 22) (k := 0) (p := 0) (m := nn) (x := .slice ax nn cx) (bytes := 1) En1592 (by kernel_rfl) Hv1593 rfl rfl (Reads.src (size := 1) (tx := 22) (e' := 5) (by kernel_rfl) (bys_take_reads (ix.ev Hv1593).reads nn) (bys_lenn (by first | (simp; done) | (simp; omega))) (fun e => by have := ix.nz e; omega) (bys_one _)) (by kernel_rfl) (z := .int .u8 0) (by kernel_rfl) rfl (by decide) (by omega) (by unfold maxLen; omega) ?_
            intro ac1598 wo1599 ao1594 cp1595 En1600 Hv1601 _ _
            rw [bys_nil_append] at Hv1601
            have ehz1596 : 0 + nn = List.length (List.take nn lx) := (by first | (simp; done) | (simp; omega) | omega)
            rw [ehz1596] at En1600
            exact any_to hG (by kernel_rfl) (nd1509 _ _ ao1594 cp1595 bk1313 (En1600.sub (by kernel_rfl)) (Hv1601.pick [0, 1] (by kernel_rfl) (by decide)))
          · rintro _ rfl
            have hcap1602 := ix.cap
            refine op_slice (d := some 22) (t := 22) (e := 5) (sz := 1) (len := List.length lx) (cap := cx) (lo := nn) (hi := List.length lx) (ao := ax) (lov := (some (.int .i64 ((nn : Nat) : Int)))) (hiv := none) En1592 (by kernel_rfl) (by kernel_rfl) (by kernel_rfl) (by omega) (by omega) (.inr ⟨.i64, rfl⟩) (.inl ⟨rfl, rfl⟩) ?_
            intro ac1603 En1604
            exact any_to hG (by kernel_rfl) (nd1551 _ _ bk1257 bk1313 (En1604.sub (by kernel_rfl)) (Hv1593.pick [0, 1] (by kernel_rfl) (by decide)))
        have nd1605 : ∀ (ac : Act) (wo : World) (bk1257 : Nat), Env ac 24 [(0, .slice ax (List.length lx) cx), (1, .int .i64 ((nn : Nat) : Int)), (4, .slice none 0 0), (5, .slice none 0 0), (14, .slice (some ⟨bk1257, 0, none⟩) 0 0), (17, .slice ax nn cx), (22, .slice (cutAt ax cx nn 1) ((List.length lx) - nn) (cx - nn))] → Ev w [] wo [.vec (some ⟨bk1257, 0, none⟩) 0 1 (bys []) 5] → G 5 #[true, true, true, true, false, false, true, true, true, false, false, false] ac wo := by
          intro ac1606 wo1607 bk1257 En1608 Hv1609
          refine any_from hG ?_
          refine any_two 4 5 (by kernel_rfl) ?_ ?_
          · rintro _ rfl
            refine op_append (d := some 18) (t := 22) (tx := 22) (ty := 22) (k := 0) (p := 0) (m := nn) (x := .slice ax nn cx) (bytes := 1) En1608 (by kernel_rfl) Hv1609 rfl rfl (Reads.src (size := 1) (tx := 22) (e' := 5) (by kernel_rfl) (bys_take_reads (ix.ev Hv1609).reads nn) (bys_lenn (by first | (simp; done) | (simp; omega))) (fun e => by have := ix.nz e; omega) (bys_one _)) (by kernel_rfl) (z := .int .u8 0) (by kernel_rfl) rfl (by decide) (by omega) (by unfold maxLen; omega) ?_
            intro ac1614 wo1615 ao1610 cp1611 En1616 Hv1617 _ _
            rw [bys_nil_append] at Hv1617
            have ehz1612 : 0 + nn = List.length (List.take nn lx) := (by first | (simp; done) | (simp; omega) | omega)
            rw [ehz1612] at En1616
            exact any_to hG (by kernel_rfl) (nd1529 _ _ ao1610 cp1611 (En1616.sub (by kernel_rfl)) (Hv1617.pick [0] (by kernel_rfl) (by decide)))
          · rintro _ rfl
            refine op_lit (d := some 19) (t := 22) (T := 5) (m := 0) (parts := #[]) (xs := bys []) (sz := 1) En1608 (by kernel_rfl) (by kernel_rfl) rfl (by decide) Hv1609 ?_
            intro ac1619 wo1620 bk1618 En1621 Hv1622
            exact any_to hG (by kernel_rfl) (nd1551 _ _ bk1257 bk1618 (En1621.sub (by kernel_rfl)) (Hv1622.pick [0, 1] (by kernel_rfl) (by decide)))
        have nd1623 : ∀ (ac : Act) (wo : World) (bk1257 : Nat) (bk1365 : Nat), Env ac 24 [(0, .slice ax (List.length lx) cx), (1, .int .i64 ((nn : Nat) : Int)), (4, .slice none 0 0), (5, .slice none 0 0), (14, .slice (some ⟨bk1257, 0, none⟩) 0 0), (15, .slice ax (List.length lx) cx), (16, .int .i64 ((nn : Nat) : Int)), (19, .slice (some ⟨bk1365, 0, none⟩) 0 0), (22, .slice (cutAt ax cx nn 1) ((List.length lx) - nn) (cx - nn))] → Ev w [] wo [.vec (some ⟨bk1257, 0, none⟩) 0 1 (bys []) 5, .vec (some ⟨bk1365, 0, none⟩) 0 1 (bys []) 5] → G 5 #[true, true, true, false, false, true, true, true, true, false, false, false] ac wo := by
          intro ac1624 wo1625 bk1257 bk1365 En1626 Hv1627
          refine any_from hG ?_
          refine any_at 3 (by kernel_rfl) rfl ?_
          have hcap1628 := ix.cap
          refine op_slice0 (d := some 17) (t := 22) (e := 5) (sz := 1) (len := List.length lx) (cap := cx) (hi := nn) (ao := ax) (lov := none) (hiv := (some (.int .i64 ((nn : Nat) : Int)))) En1626 (by kernel_rfl) (by kernel_rfl) (by kernel_rfl) (by omega) (.inl ⟨rfl, rfl⟩) (.inr ⟨.i64, rfl⟩) ?_
          intro ac1629 En1630
          refine any_at 4 (by kernel_rfl) rfl ?_
          refine op_append (d := some 18) (t := 22) (tx := 22) (ty := 22) (k := 0) (p := 0) (m := nn) (x := .slice ax nn cx) (bytes := 1) En1630 (by kernel_rfl) Hv1627 rfl rfl (Reads.src (size := 1) (tx := 22) (e' := 5) (by kernel_rfl) (bys_take_reads (ix.ev Hv1627).reads nn) (bys_lenn (by first | (simp; done) | (simp; omega))) (fun e => by have := ix.nz e; omega) (bys_one _)) (by kernel_rfl) (z := .int .u8 0) (by kernel_rfl) rfl (by decide) (by omega) (by unfold maxLen; omega) ?_
          intro ac1635 wo1636 ao1631 cp1632 En1637 Hv1638 _ _
          rw [bys_nil_append] at Hv1638
          have ehz1633 : 0 + nn = List.length (List.take nn lx) := (by first | (simp; done) | (simp; omega) | omega)
          rw [ehz1633] at En1637
          refine any_at 9 (by kernel_rfl) rfl ?_
          refine op_append (d := some 23) (t := 22) (tx := 22) (ty := 22) (k := 1) (p := 0) (m := (List.length lx) - nn) (x := .slice (cutAt ax cx nn 1) ((List.length lx) - nn) (cx - nn)) (bytes := 1) En1637 (by kernel_rfl) Hv1638 rfl rfl (Reads.src (size := 1) (tx := 22) (e' := 5) (by kernel_rfl) (bys_drop_reads (ix.ev Hv1638).reads cx nn (n := (List.length lx)) (by simp) (by omega) (by omega)) (bys_lenn (by first | (simp; done) | (simp; omega))) (fun e => cut_nz ix.nz e (by omega)) (bys_one _)) (by kernel_rfl) (z := .int .u8 0) (by kernel_rfl) rfl (by decide) (by omega) (by unfold maxLen; omega) ?_
          intro ac1643 wo1644 ao1639 cp1640 En1645 Hv1646 _ _
          rw [bys_nil_append] at Hv1646
          have ehz1641 : 0 + ((List.length lx) - nn) = List.length (List.drop nn lx) := (by first | (simp; done) | (simp; omega) | omega)
          rw [ehz1641] at En1645
          refine any_pureR (d := some 4) En1645 (v := .slice ao1631 (List.length (List.take nn lx)) cp1632) 10 (by kernel_rfl) (by kernel_rfl) rfl ?_
          intro ac1647 En1648
          refine any_pureR (d := some 5) En1648 (v := .slice ao1639 (List.length (List.drop nn lx)) cp1640) 11 (by kernel_rfl) (by kernel_rfl) rfl ?_
          intro ac1649 En1650
          exact any_end (by kernel_rfl) ⟨ao1631, cp1632, ao1639, cp1640, En1650.sub (by kernel_rfl), Hv1646.pick [0, 1] (by kernel_rfl) (by decide)⟩
        have nd1651 : ∀ (ac : Act) (wo : World) (bk1418 : Nat), Env ac 24 [(0, .slice ax (List.length lx) cx), (1, .int .i64 ((nn : Nat) : Int)), (4, .slice none 0 0), (5, .slice none 0 0), (17, .slice ax nn cx), (19, .slice (some ⟨bk1418, 0, none⟩) 0 0), (22, .slice (cutAt ax cx nn 1) ((List.length lx) - nn) (cx - nn))] → Ev w [] wo [.vec (some ⟨bk1418, 0, none⟩) 0 1 (bys []) 5] → G 5 #[false, true, true, true, false, true, true, true, true, false, false, false] ac wo := by
          intro ac1652 wo1653 bk1418 En1654 Hv1655
          refine any_from hG ?_
          refine any_at 0 (by kernel_rfl) rfl ?_
          refine op_lit (d := some 14) (t := 22) (T := 5) (m := 0) (parts := #[]) (xs := bys []) (sz := 1) En1654 (by kernel_rfl) (by kernel_rfl) rfl (by decide) Hv1655 ?_
          intro ac1657 wo1658 bk1656 En1659 Hv1660
          refine any_at 4 (by kernel_rfl) rfl ?_
          refine op_append (d := some 18) (t := 22) (tx := 22) (ty := 22) (k := 1) (p := 0) (m := nn) (x := .slice ax nn cx) (bytes := 1) En1659 (by kernel_rfl) Hv1660 rfl rfl (Reads.src (size := 1) (tx := 22) (e' := 5) (by kernel_rfl) (bys_take_reads (ix.ev Hv1660).reads nn) (bys_lenn (by first | (simp; done) | (simp; omega))) (fun e => by have := ix.nz e; omega) (bys_one _)) (by kernel_rfl) (z := .int .u8 0) (by kernel_rfl) rfl (by decide) (by omega) (by unfold maxLen; omega) ?_
          intro ac1665 wo1666 ao1661 cp1662 En1667 Hv1668 _ _
          rw [bys_nil_append] at Hv1668
          have ehz1663 : 0 + nn = List.length (List.take nn lx) := (by first | (simp; done) | (simp; omega) | omega)
          rw [ehz1663] at En1667
          refine any_at 9 (by kernel_rfl) rfl ?_
          refine op_append (d := some 23) (t := 22) (tx := 22) (ty := 22) (k := 0) (p := 0) (m := (List.length lx) - nn) (x := .slice (cutAt ax cx nn 1) ((List.length lx) - nn) (cx - nn)) (bytes := 1) En1667 (by kernel_rfl) Hv1668 rfl rfl (Reads.src (size := 1) (tx := 22) (e' := 5) (by kernel_rfl) (bys_drop_reads (ix.ev Hv1668).reads cx nn (n := (List.length lx)) (by simp) (by omega) (by omega)) (bys_lenn (by first | (simp; done) | (simp; omega))) (fun e => cut_nz ix.nz e (by omega)) (bys_one _)) (by kernel_rfl) (z := .int .u8 0) (by kernel_rfl) rfl (by decide) (by omega) (by unfold maxLen; omega) ?_
          intro ac1673 wo1674 ao1669 cp1670 En1675 Hv1676 _ _
          rw [bys_nil_append] at Hv1676
          have ehz1671 : 0 + ((List.length lx) - nn) = List.length (List.drop nn lx) := (by first | (simp; done) | (simp; omega) | omega)
          rw [ehz1671] at En1675
          refine any_pureR (d := some 4) En1675 (v := .slice ao1661 (List.length (List.take nn lx)) cp1662) 10 (by kernel_rfl) (by kernel_rfl) rfl ?_
          intro ac1677 En1678
          refine any_pureR (d := some 5) En1678 (v := .slice ao1669 (List.length (List.drop nn lx)) cp1670) 11 (by kernel_rfl) (by kernel_rfl) rfl ?_
          intro ac1679 En1680
          exact any_end (by kernel_rfl) ⟨ao1661, cp1662, ao1669, cp1670, En1680.sub (by kernel_rfl), Hv1676.pick [1, 0] (by kernel_rfl) (by decide)⟩
        have nd1681 : ∀ (ac : Act) (wo : World) (bk1257 : Nat), Env ac 24 [(0, .slice ax (List.length lx) cx), (1, .int .i64 ((nn : Nat) : Int)), (4, .slice none 0 0), (5, .slice none 0 0), (14, .slice (some ⟨bk1257, 0, none⟩) 0 0), (17, .slice ax nn cx), (20, .slice ax (List.length lx) cx), (21, .int .i64 ((nn : Nat) : Int))] → Ev w [] wo [.vec (some ⟨bk1257, 0, none⟩) 0 1 (bys []) 5] → G 6 #[true, true, true, true, false, false, true, true, false, false, false, false] ac wo := by
          intro ac1682 wo1683 bk1257 En1684 Hv1685
          refine any_from hG ?_
          refine any_ways [4, 5, 8] (by kernel_rfl) rfl ?_
          refine ⟨?_, ?_, ?_, trivial⟩
          · rintro _ rfl
            refine op_append (d := some 18) (t := 22) (tx := 22) (ty := 22) (k := 0) (p := 0) (m := nn) (x := .slice ax nn cx) (bytes := 1) En1684 (by kernel_rfl) Hv1685 rfl rfl (Reads.src (size := 1) (tx := 22) (e' := 5) (by kernel_rfl) (bys_take_reads (ix.ev Hv1685).reads nn) (bys_lenn (by first | (simp; done) | (simp; omega))) (fun e => by have := ix.nz e; omega) (bys_one _)) (by kernel_rfl) (z := .int .u8 0) (by kernel_rfl) rfl (by decide) (by omega) (by unfold maxLen; omega) ?_
            intro ac1690 wo1691 ao1686 cp1687 En1692 Hv1693 _ _
            rw [bys_nil_append] at Hv1693
            have ehz1688 : 0 + nn = List.length (List.take nn lx) := (by first | (simp; done) | (simp; omega) | omega)
            rw [ehz1688] at En1692
            exact any_to hG (by kernel_rfl) (nd1576 _ _ ao1686 cp1687 (En1692.sub (by kernel_rfl)) (Hv1693.pick [0] (by kernel_rfl) (by decide)))
          · rintro _ rfl
            refine op_lit (d := some 19) (t := 22) (T := 5) (m := 0) (parts := #[]) (xs := bys []) (sz := 1) En1684 (by kernel_rfl) (by kernel_rfl) rfl (by decide) Hv1685 ?_
            intro ac1695 wo1696 bk1694 En1697 Hv1698
            exact any_to hG (by kernel_rfl) (nd1589 _ _ bk1257 bk1694 (En1697.sub (by kernel_rfl)) (Hv1698.pick [0, 1] (by kernel_rfl) (by decide)))
          · rintro _ rfl
            have hcap1699 := ix.cap
            refine op_slice (d := some 22) (t := 22) (e := 5) (sz := 1) (len := List.length lx) (cap := cx) (lo := nn) (hi := List.length lx) (ao := ax) (lov := (some (.int .i64 ((nn : Nat) : Int)))) (hiv := none) En1684 (by kernel_rfl) (by kernel_rfl) (by kernel_rfl) (by omega) (by omega) (.inr ⟨.i64, rfl⟩) (.inl ⟨rfl, rfl⟩) ?_
            intro ac1700 En1701
            exact any_to hG (by kernel_rfl) (nd1605 _ _ bk1257 (En1701.sub (by kernel_rfl)) (Hv1685.pick [0] (by kernel_rfl) (by decide)))
        have nd1702 : ∀ (ac : Act) (wo : World) (bk1257 : Nat) (bk1365 : Nat), Env ac 24 [(0, .slice ax (List.length lx) cx), (1, .int .i64 ((nn : Nat) : Int)), (4, .slice none 0 0), (5, .slice none 0 0), (14, .slice (some ⟨bk1257, 0, none⟩) 0 0), (15, .slice ax (List.length lx) cx), (16, .int .i64 ((nn : Nat) : Int)), (19, .slice (some ⟨bk1365, 0, none⟩) 0 0), (20, .slice ax (List.length lx) cx), (21, .int .i64 ((nn : Nat) : Int))] → Ev w [] wo [.vec (some ⟨bk1257, 0, none⟩) 0 1 (bys []) 5, .vec (some ⟨bk1365, 0, none⟩) 0 1 (bys []) 5] → G 6 #[true, true, true, false, false, true, true, true, false, false, false, false] ac wo := by
          intro ac1703 wo1704 bk1257 bk1365 En1705 Hv1706
          refine any_from hG ?_
          refine any_two 3 8 (by kernel_rfl) ?_ ?_
          · rintro _ rfl
            have hcap1707 := ix.cap
            refine op_slice0 (d := some 17) (t := 22) (e := 5) (sz := 1) (len := List.length lx) (cap := cx) (hi := nn) (ao := ax) (lov := none) (hiv := (some (.int .i64 ((nn : Nat) : Int)))) En1705 (by kernel_rfl) (by kernel_rfl) (by kernel_rfl) (by omega) (.inl ⟨rfl, rfl⟩) (.inr ⟨.i64, rfl⟩) ?_
            intro ac1708 En1709
            exact any_to hG (by kernel_rfl) (nd1589 _ _ bk1257 bk1365 (En1709.sub (by kernel_rfl)) (Hv1706.pick [0, 1] (by kernel_rfl) (by decide)))
          · rintro _ rfl
            have hcap1710 := ix.cap
            refine op_slice (d := some 22) (t := 22) (e := 5) (sz := 1) (len := List.length lx) (cap := cx) (lo := nn) (hi := List.length lx) (ao := ax) (lov := (some (.int .i64 ((nn : Nat) : Int)))) (hiv := none) En1705 (by kernel_rfl) (by kernel_rfl) (by kernel_rfl) (by omega) (by omega) (.inr ⟨.i64, rfl⟩) (.inl ⟨rfl, rfl⟩) ?_
            intro ac1711 En1712
            exact any_to hG (by kernel_rfl) (nd1623 _ _ bk1257 bk1365 (En1712.sub (by kernel_rfl)) (Hv1706.pick [0, 1] (by kernel_rfl) (by decide)))
        have nd1713 : ∀ (ac : Act) (wo : World) (bk1257 : Nat), Env ac 24 [(0, .slice ax (List.length lx) cx), (1, .int .i64 ((nn : Nat) : Int)), (4, .slice none 0 0), (5, .slice none 0 0), (14, .slice (some ⟨bk1257, 0, none⟩) 0 0), (15, .slice ax (List.length lx) cx), (16, .int .i64 ((nn : Nat) : Int)), (22, .slice (cutAt ax cx nn 1) ((List.length lx) - nn) (cx - nn))] → Ev w [] wo [.vec (some ⟨bk1257, 0, none⟩) 0 1 (bys []) 5] → G 6 #[true, true, true, false, false, false, true, true, true, false, false, false] ac wo := by
          intro ac1714 wo1715 bk1257 En1716 Hv1717
          refine any_from hG ?_
          refine any_two 3 5 (by kernel_rfl) ?_ ?_
          · rintro _ rfl
            have hcap1718 := ix.cap
            refine op_slice0 (d := some 17) (t := 22) (e := 5) (sz := 1) (len := List.length lx) (cap := cx) (hi := nn) (ao := ax) (lov := none) (hiv := (some (.int .i64 ((nn : Nat) : Int)))) En1716 (by kernel_rfl) (by kernel_rfl) (by kernel_rfl) (by omega) (.inl ⟨rfl, rfl⟩) (.inr ⟨.i64, rfl⟩) ?_
            intro ac1719 En1720
            exact any_to hG (by kernel_rfl) (nd1605 _ _ bk1257 (En1720.sub (by kernel_rfl)) (Hv1717.pick [0] (by kernel_rfl) (by decide)))
          · rintro _ rfl
            refine op_lit (d := some 19) (t := 22) (T := 5) (m := 0) (parts := #[]) (xs := bys []) (sz := 1) En1716 (by kernel_rfl) (by kernel_rfl) rfl (by decide) Hv1717 ?_
            intro ac1722 wo1723 bk1721 En1724 Hv1725
            exact any_to hG (by kernel_rfl) (nd1623 _ _ bk1257 bk1721 (En1724.sub (by kernel_rfl)) (Hv1725.pick [0, 1] (by kernel_rfl) (by decide)))
        have nd1726 : ∀ (ac : Act) (wo : World) (bk1418 : Nat), Env ac 24 [(0, .slice ax (List.length lx) cx), (1, .int .i64 ((nn : Nat) : Int)), (4, .slice none 0 0), (5, .slice none 0 0), (17, .slice ax nn cx), (19, .slice (some ⟨bk1418, 0, none⟩) 0 0), (20, .slice ax (List.length lx) cx), (21, .int .i64 ((nn : Nat) : Int))] → Ev w [] wo [.vec (some ⟨bk1418, 0, none⟩) 0 1 (bys []) 5] → G 6 #[false, true, true, true, false, true, true, true, false, false, false, false] ac wo := by
          intro ac1727 wo1728 bk1418 En1729 Hv1730
          refine any_from hG ?_
          refine any_two 0 8 (by kernel_rfl) ?_ ?_
          · rintro _ rfl
            refine op_lit (d := some 14) (t := 22) (T := 5) (m := 0) (parts := #[]) (xs := bys []) (sz := 1) En1729 (by kernel_rfl) (by kernel_rfl) rfl (by decide) Hv1730 ?_
            intro ac1732 wo1733 bk1731 En1734 Hv1735
            exact any_to hG (by kernel_rfl) (nd1589 _ _ bk1731 bk1418 (En1734.sub (by kernel_rfl)) (Hv1735.pick [1, 0] (by kernel_rfl) (by decide)))
          · rintro _ rfl
            have hcap1736 := ix.cap
            refine op_slice (d := some 22) (t := 22) (e := 5) (sz := 1) (len := List.length lx) (cap := cx) (lo := nn) (hi := List.length lx) (ao := ax) (lov := (some (.int .i64 ((nn : Nat) : Int)))) (hiv := none) En1729 (by kernel_rfl) (by kernel_rfl) (by kernel_rfl) (by omega) (by omega) (.inr ⟨.i64, rfl⟩) (.inl ⟨rfl, rfl⟩) ?_
            intro ac1737 En1738
            exact any_to hG (by kernel_rfl) (nd1651 _ _ bk1418 (En1738.sub (by kernel_rfl)) (Hv1730.pick [0] (by kernel_rfl) (by decide)))
        have nd1739 : ∀ (ac : Act) (wo : World), Env ac 24 [(0, .slice ax (List.length lx) cx), (1, .int .i64 ((nn : Nat) : Int)), (4, .slice none 0 0), (5, .slice none 0 0), (17, .slice ax nn cx), (22, .slice (cutAt ax cx nn 1) ((List.length lx) - nn) (cx - nn))] → Ev w [] wo [] → G 6 #[false, true, true, true, false, false, true, true, true, false, false, false] ac wo := by
          intro ac1740 wo1741 En1742 Hv1743
          refine any_from hG ?_
          refine any_two 0 5 (by kernel_rfl) ?_ ?_
          · rintro _ rfl
            refine op_lit (d := some 14) (t := 22) (T := 5) (m := 0) (parts := #[]) (xs := bys []) (sz := 1) En1742 (by kernel_rfl) (by kernel_rfl) rfl (by decide) Hv1743 ?_
            intro ac1745 wo1746 bk1744 En1747 Hv1748
            exact any_to hG (by kernel_rfl) (nd1605 _ _ bk1744 (En1747.sub (by kernel_rfl)) (Hv1748.pick [0] (by kernel_rfl) (by decide)))
          · rintro _ rfl
            refine op_lit (d := some 19) (t := 22) (T := 5) (m := 0) (parts := #[]) (xs := bys []) (sz := 1) En1742 (by kernel_rfl) (by kernel_rfl) rfl (by decide) Hv1743 ?_
            intro ac1750 wo1751 bk1749 En1752 Hv1753
            exact any_to hG (by kernel_rfl) (nd1651 _ _ bk1749 (En1752.sub (by kernel_rfl)) (Hv1753.pick [0] (by kernel_rfl) (by decide)))
        have nd1754 : ∀ (ac : Act) (wo : World) (bk1469 : Nat), Env ac 24 [(0, .slice ax (List.length lx) cx), (1, .int .i64 ((nn : Nat) : Int)), (4, .slice none 0 0), (5, .slice none 0 0), (15, .slice ax (List.length lx) cx), (16, .int .i64 ((nn : Nat) : Int)), (19, .slice (some ⟨bk1469, 0, none⟩) 0 0), (22, .slice (cutAt ax cx nn 1) ((List.length lx) - nn) (cx - nn))] → Ev w [] wo [.vec (some ⟨bk1469, 0, none⟩) 0 1 (bys []) 5] → G 6 #[false, true, true, false, false, true, true, true, true, false, false, false] ac wo := by
          intro ac1755 wo1756 bk1469 En1757 Hv1758
          refine any_from hG ?_
          refine any_two 0 3 (by kernel_rfl) ?_ ?_
          · rintro _ rfl
            refine op_lit (d := some 14) (t := 22) (T := 5) (m := 0) (parts := #[]) (xs := bys []) (sz := 1) En1757 (by kernel_rfl) (by kernel_rfl) rfl (by decide) Hv1758 ?_
            intro ac1760 wo1761 bk1759 En1762 Hv1763
            exact any_to hG (by kernel_rfl) (nd1623 _ _ bk1759 bk1469 (En1762.sub (by kernel_rfl)) (Hv1763.pick [1, 0] (by kernel_rfl) (by decide)))
          · rintro _ rfl
            have hcap1764 := ix.cap
            refine op_slice0 (d := some 17) (t := 22) (e := 5) (sz := 1) (len := List.length lx) (cap := cx) (hi := nn) (ao := ax) (lov := none) (hiv := (some (.int .i64 ((nn : Nat) : Int)))) En1757 (by kernel_rfl) (by kernel_rfl) (by kernel_rfl) (by omega) (.inl ⟨rfl, rfl⟩) (.inr ⟨.i64, rfl⟩) ?_
            intro ac1765 En1766
            exact any_to hG (by kernel_rfl) (nd1651 _ _ bk1469 (En1766.sub (by kernel_rfl)) (Hv1758.pick [0] (by kernel_rfl) (by decide)))
        have nd1767 : ∀ (ac : Act) (wo : World) (bk1257 : Nat), Env ac 24 [(0, .slice ax (List.length lx) cx), (1, .int .i64 ((nn : Nat) : Int)), (4, .slice none 0 0), (5, .slice none 0 0), (14, .slice (some ⟨bk1257, 0, none⟩) 0 0), (15, .slice ax (List.length lx) cx), (16, .int .i64 ((nn : Nat) : Int)), (20, .slice ax (List.length lx) cx), (21, .int .i64 ((nn : Nat) : Int))] → Ev w [] wo [.vec (some ⟨bk1257, 0, none⟩) 0 1 (bys []) 5] → G 7 #[true, true, true, false, false, false, true, true, false, false, false, false] ac wo := by
          intro ac1768 wo1769 bk1257 En1770 Hv1771
          refine any_from hG ?_
          refine any_ways [3, 5, 8] (by kernel_rfl) rfl ?_
          refine ⟨?_, ?_, ?_, trivial⟩
          · rintro _ rfl
            have hcap1772 := ix.cap
            refine op_slice0 (d := some 17) (t := 22) (e := 5) (sz := 1) (len := List.length lx) (cap := cx) (hi := nn) (ao := ax) (lov := none) (hiv := (some (.int .i64 ((nn : Nat) : Int)))) En1770 (by kernel_rfl) (by kernel_rfl) (by kernel_rfl) (by omega) (.inl ⟨rfl, rfl⟩) (.inr ⟨.i64, rfl⟩) ?_
            intro ac1773 En1774
            exact any_to hG (by kernel_rfl) (nd1681 _ _ bk1257 (En1774.sub (by kernel_rfl)) (Hv1771.pick [0] (by kernel_rfl) (by decide)))
          · rintro _ rfl
            refine op_lit (d := some 19) (t := 22) (T := 5) (m := 0) (parts := #[]) (xs := bys []) (sz := 1) En1770 (by kernel_rfl) (by kernel_rfl) rfl (by decide) Hv1771 ?_
            intro ac1776 wo1777 bk1775 En1778 Hv1779
            exact any_to hG (by kernel_rfl) (nd1702 _ _ bk1257 bk1775 (En1778.sub (by kernel_rfl)) (Hv1779.pick [0, 1] (by kernel_rfl) (by decide)))
          · rintro _ rfl
            have hcap1780 := ix.cap
            refine op_slice (d := some 22) (t := 22) (e := 5) (sz := 1) (len := List.length lx) (cap := cx) (lo := nn) (hi := List.length lx) (ao := ax) (lov := (some (.int .i64 ((nn : Nat) : Int)))) (hiv := none) En1770 (by kernel_rfl) (by kernel_rfl) (by kernel_rfl) (by omega) (by omega) (.inr ⟨.i64, rfl⟩) (.inl ⟨rfl, rfl⟩) ?_
            intro ac1781 En1782
            exact any_to hG (by kernel_rfl) (nd1713 _ _ bk1257 (En1782.sub (by kernel_rfl)) (Hv1771.pick [0] (by kernel_rfl) (by decide)))
        have nd1783 : ∀ (ac : Act) (wo : World), Env ac 24 [(0, .slice ax (List.length lx) cx), (1, .int .i64 ((nn : Nat) : Int)), (4, .slice none 0 0), (5, .slice none 0 0), (17, .slice ax nn cx), (20, .slice ax (List.length lx) cx), (21, .int .i64 ((nn : Nat) : Int))] → Ev w [] wo [] → G 7 #[false, true, true, true, false, false, true, true, false, false, false, false] ac wo := by
          intro ac1784 wo1785 En1786 Hv1787
          refine any_from hG ?_
          refine any_ways [0, 5, 8] (by kernel_rfl) rfl ?_
          refine ⟨?_, ?_, ?_, trivial⟩
          · rintro _ rfl
            refine op_lit (d := some 14) (t := 22) (T := 5) (m := 0) (parts := #[]) (xs := bys []) (sz := 1) En1786 (by kernel_rfl) (by kernel_rfl) rfl (by decide) Hv1787 ?_
            intro ac1789 wo1790 bk1788 En1791 Hv1792
            exact any_to hG (by kernel_rfl) (nd1681 _ _ bk1788 (En1791.sub (by kernel_rfl)) (Hv1792.pick [0] (by kernel_rfl) (by decide)))
          · rintro _ rfl
            refine op_lit (d := some 19) (t := 22) (T := 5) (m := 0) (parts := #[]) (xs := bys []) (sz := 1) En1786 (by kernel_rfl) (by kernel_rfl) rfl (by decide) Hv1787 ?_
            intro ac1794 wo1795 bk1793 En1796 Hv1797
            exact any_to hG (by kernel_rfl) (nd1726 _ _ bk1793 (En1796.sub (by kernel_rfl)) (Hv1797.pick [0] (by kernel_rfl) (by decide)))
          · rintro _ rfl
            have hcap1798 := ix.cap
            refine op_slice (d := some 22) (t := 22) (e := 5) (sz := 1) (len := List.length lx) (cap := cx) (lo := nn) (hi := List.length lx) (ao := ax) (lov := (some (.int .i64 ((nn : Nat) : Int)))) (hiv := none) En1786 (by kernel_rfl) (by kernel_rfl) (by kernel_rfl) (by omega) (by omega) (.inr ⟨.i64, rfl⟩) (.inl ⟨rfl, rfl⟩) ?_
            intro ac1799 En1800
            exact any_to hG (by kernel_rfl) (nd1739 _ _ (En1800.sub (by kernel_rfl)) (Hv1787.pick [] (by kernel_rfl) (by decide)))
        have nd1801 : ∀ (ac : Act) (wo : World) (bk1469 : Nat), Env ac 24 [(0, .slice ax (List.length lx) cx), (1, .int .i64 ((nn : Nat) : Int)), (4, .slice none 0 0), (5, .slice none 0 0), (15, .slice ax (List.length lx) cx), (16, .int .i64 ((nn : Nat) : Int)), (19, .slice (some ⟨bk1469, 0, none⟩) 0 0), (20, .slice ax (List.length lx) cx), (21, .int .i64 ((nn : Nat) : Int))] → Ev w [] wo [.vec (some ⟨bk1469, 0, none⟩) 0 1 (bys []) 5] → G 7 #[false, true, true, false, false, true, true, true, false, false, false, false] ac wo := by
          intro ac1802 wo1803 bk1469 En1804 Hv1805
          refine any_from hG ?_
          refine any_ways [0, 3, 8] (by kernel_rfl) rfl ?_
          refine ⟨?_, ?_, ?_, trivial⟩
          · rintro _ rfl
            refine op_lit (d := some 14) (t := 22) (T := 5) (m := 0) (parts := #[]) (xs := bys []) (sz := 1) En1804 (by kernel_rfl) (by kernel_rfl) rfl (by decide) Hv1805 ?_
            intro ac1807 wo1808 bk1806 En1809 Hv1810
            exact any_to hG (by kernel_rfl) (nd1702 _ _ bk1806 bk1469 (En1809.sub (by kernel_rfl)) (Hv1810.pick [1, 0] (by kernel_rfl) (by decide)))
          · rintro _ rfl
            have hcap1811 := ix.cap
            refine op_slice0 (d := some 17) (t := 22) (e := 5) (sz := 1) (len := List.length lx) (cap := cx) (hi := nn) (ao := ax) (lov := none) (hiv := (some (.int .i64 ((nn : Nat) : Int)))) En1804 (by kernel_rfl) (by kernel_rfl) (by kernel_rfl) (by omega) (.inl ⟨rfl, rfl⟩) (.inr ⟨.i64, rfl⟩) ?_
            intro ac1812 En1813
            exact any_to hG (by kernel_rfl) (nd1726 _ _ bk1469 (En1813.sub (by kernel_rfl)) (Hv1805.pick [0] (by kernel_rfl) (by decide)))
          · rintro _ rfl
            have hcap1814 := ix.cap
            refine op_slice (d := some 22) (t := 22) (e := 5) (sz := 1) (len := List.length lx) (cap := cx) (lo := nn) (hi := List.length lx) (ao := ax) (lov := (some (.int .i64 ((nn : Nat) : Int)))) (hiv := none) En1804 (by kernel_rfl) (by kernel_rfl) (by kernel_rfl) (by omega) (by omega) (.inr ⟨.i64, rfl⟩) (.inl ⟨rfl, rfl⟩) ?_
            intro ac1815 En1816
            exact any_to hG (by kernel_rfl) (nd1754 _ _ bk1469 (En1816.sub (by kernel_rfl)) (Hv1805.pick [0] (by kernel_rfl) (by decide)))
        have nd1817 : ∀ (ac : Act) (wo : World), Env ac 24 [(0, .slice ax (List.length lx) cx), (1, .int .i64 ((nn : Nat) : Int)), (4, .slice none 0 0), (5, .slice none 0 0), (15, .slice ax (List.length lx) cx), (16, .int .i64 ((nn : Nat) : Int)), (22, .slice (cutAt ax cx nn 1) ((List.length lx) - nn) (cx - nn))] → Ev w [] wo [] → G 7 #[false, true, true, false, false, false, true, true, true, false, false, false] ac wo := by
          intro ac1818 wo1819 En1820 Hv1821
          refine any_from hG ?_
          refine any_ways [0, 3, 5] (by kernel_rfl) rfl ?_
          refine ⟨?_, ?_, ?_, trivial⟩
          · rintro _ rfl
            refine op_lit (d := some 14) (t := 22) (T := 5) (m := 0) (parts := #[]) (xs := bys []) (sz := 1) En1820 (by kernel_rfl) (by kernel_rfl) rfl (by decide) Hv1821 ?_
            intro ac1823 wo1824 bk1822 En1825 Hv1826
            exact any_to hG (by kernel_rfl) (nd1713 _ _ bk1822 (En1825.sub (by kernel_rfl)) (Hv1826.pick [0] (by kernel_rfl) (by decide)))
          · rintro _ rfl
            have hcap1827 := ix.cap
            refine op_slice0 (d := some 17) (t := 22) (e := 5) (sz := 1) (len := List.length lx) (cap := cx) (hi := nn) (ao := ax) (lov := none) (hiv := (some (.int .i64 ((nn : Nat) : Int)))) En1820 (by kernel_rfl) (by kernel_rfl) (by kernel_rfl) (by omega) (.inl ⟨rfl, rfl⟩) (.inr ⟨.i64, rfl⟩) ?_
            intro ac1828 En1829
            exact any_to hG (by kernel_rfl) (nd1739 _ _ (En1829.sub (by kernel_rfl)) (Hv1821.pick [] (by kernel_rfl) (by decide)))
          · rintro _ rfl
            refine op_lit (d := some 19) (t := 22) (T := 5) (m := 0) (parts := #[]) (xs := bys []) (sz := 1) En1820 (by kernel_rfl) (by kernel_rfl) rfl (by decide) Hv1821 ?_
            intro ac1831 wo1832 bk1830 En1833 Hv1834
            exact any_to hG (by kernel_rfl) (nd1754 _ _ bk1830 (En1833.sub (by kernel_rfl)) (Hv1834.pick [0] (by kernel_rfl) (by decide)))
        refine any_from hG ?_
        refine any_pureR (d := some 15) En628 (v := .slice ax (List.length lx) cx) 1 (by kernel_rfl) (by kernel_rfl) rfl ?_
        intro ac1835 En1836
        refine any_pureR (d := some 16) En1836 (v := .int .i64 ((nn : Nat) : Int)) 2 (by kernel_rfl) (by kernel_rfl) rfl ?_
        intro ac1837 En1838
        refine any_pureR (d := some 20) En1838 (v := .slice ax (List.length lx) cx) 6 (by kernel_rfl) (by kernel_rfl) rfl ?_
        intro ac1839 En1840
        refine any_pureR (d := some 21) En1840 (v := .int .i64 ((nn : Nat) : Int)) 7 (by kernel_rfl) (by kernel_rfl) rfl ?_
        intro ac1841 En1842
        refine any_ways [0, 3, 5, 8] (by kernel_rfl) rfl ?_
        refine ⟨?_, ?_, ?_, ?_, trivial⟩
        · rintro _ rfl
          refine op_lit (d := some 14) (t := 22) (T := 5) (m := 0) (parts := #[]) (xs := bys []) (sz := 1) En1842 (by kernel_rfl) (by kernel_rfl) rfl (by decide) wo1248 ?_
          intro ac1844 wo1845 bk1843 En1846 Hv1847
          exact any_to hG (by kernel_rfl) (nd1767 _ _ bk1843 (En1846.sub (by kernel_rfl)) (Hv1847.pick [0] (by kernel_rfl) (by decide)))
        · rintro _ rfl
          have hcap1848 := ix.cap
          refine op_slice0 (d := some 17) (t := 22) (e := 5) (sz := 1) (len := List.length lx) (cap := cx) (hi := nn) (ao := ax) (lov := none) (hiv := (some (.int .i64 ((nn : Nat) : Int)))) En1842 (by kernel_rfl) (by kernel_rfl) (by kernel_rfl) (by omega) (.inl ⟨rfl, rfl⟩) (.inr ⟨.i64, rfl⟩) ?_
          intro ac1849 En1850
          exact any_to hG (by kernel_rfl) (nd1783 _ _ (En1850.sub (by kernel_rfl)) (wo1248.pick [] (by kernel_rfl) (by decide)))
        · rintro _ rfl
          refine op_lit (d := some 19) (t := 22) (T := 5) (m := 0) (parts := #[]) (xs := bys []) (sz := 1) En1842 (by kernel_rfl) (by kernel_rfl) rfl (by decide) wo1248 ?_
          intro ac1852 wo1853 bk1851 En1854 Hv1855
          exact any_to hG (by kernel_rfl) (nd1801 _ _ bk1851 (En1854.sub (by kernel_rfl)) (Hv1855.pick [0] (by kernel_rfl) (by decide)))
        · rintro _ rfl
          have hcap1856 := ix.cap
          refine op_slice (d := some 22) (t := 22) (e := 5) (sz := 1) (len := List.length lx) (cap := cx) (lo := nn) (hi := List.length lx) (ao := ax) (lov := (some (.int .i64 ((nn : Nat) : Int)))) (hiv := none) En1842 (by kernel_rfl) (by kernel_rfl) (by kernel_rfl) (by omega) (by omega) (.inr ⟨.i64, rfl⟩) (.inl ⟨rfl, rfl⟩) ?_
          intro ac1857 En1858
          exact any_to hG (by kernel_rfl) (nd1817 _ _ (En1858.sub (by kernel_rfl)) (wo1248.pick [] (by kernel_rfl) (by decide)))
      rintro ac1859 wo1860 ⟨ao1265, cp1266, ao1281, cp1282, En1861, Hv1862⟩
      refine then_normal ?_
      refine wp_ret ?_
      refine d_ret2 (t := 4) (u := 5) (v := .slice ao1265 (List.length (List.take nn lx)) cp1266) (x := .slice ao1281 (List.length (List.drop nn lx)) cp1282) En1861 (by kernel_rfl) (by kernel_rfl) (by kernel_rfl) ?_
      have e1 : List.take nn lx = List.take (clampN n (List.length lx)) lx := by first | (rw [clamp_neg (by omega)]; done) | (rw [clamp_neg (by omega)]; simp; done) | (rw [clamp_big (by omega)]; done) | (rw [hnn, clamp_mid (by omega)]) | (rw [clamp_big (by omega)]; simp)
      have e2 : List.drop nn lx = List.drop (clampN n (List.length lx)) lx := by first | (rw [clamp_neg (by omega)]; done) | (rw [clamp_neg (by omega)]; simp; done) | (rw [clamp_big (by omega)]; done) | (rw [hnn, clamp_mid (by omega)]) | (rw [clamp_big (by omega)]; simp)
      have Hf1863 := Hv1862.pick [0, 1] (by kernel_rfl) (by decide) (M := [.vec ao1265 cp1266 1 (bys (List.take nn lx)) 5, .vec ao1281 cp1282 1 (bys (List.drop nn lx)) 5])
      have f1 : List.length (List.take nn lx) = List.length (List.take (clampN n (List.length lx)) lx) := by first | (rw [← e1]; done) | (rw [← e1]; simp; done) | (rw [← e1]; simp; omega)
      have f2 : List.length (List.drop nn lx) = List.length (List.drop (clampN n (List.length lx)) lx) := by first | (rw [← e2]; done) | (rw [← e2]; simp; done) | (rw [← e2]; simp; omega)
      rw [e1, e2] at Hf1863
      exact ⟨ao1265, cp1266, ao1281, cp1282, by rw [f1, f2], Hf1863⟩

end Go.Proofs.Ytjecaljhipfbfaa
