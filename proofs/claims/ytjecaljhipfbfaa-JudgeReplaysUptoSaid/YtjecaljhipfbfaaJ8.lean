/- Ideal relays: reads, stories. -/
import Derived.Test.YtjecaljhipfbfaaJ7
namespace Go.Proofs.Ytjecaljhipfbfaa
open Go.Dbr
set_option maxRecDepth 100000
set_option maxHeartbeats 2000000
set_option linter.unusedVariables false
set_option linter.unusedSimpArgs false

theorem take_u (w : World) (b : Nat) (au ad ah ap aq ar av : Option Addr) (cu cd ch cp cq cr cv : Nat) (lu ld lh lp lq lr lv : List UInt8) (fc fe bc be : Bool) (n : Int) (hH : Heap w [.box b [.slice au (List.length lu) cu, .bool fc, .slice ad (List.length ld) cd, .bool bc, .slice ah (List.length lh) ch, .slice ap (List.length lp) cp, .slice aq (List.length lq) cq, .bool fc, .bool fe, .slice ar (List.length lr) cr, .slice av (List.length lv) cv, .bool bc, .bool be] 66, .vec au cu 1 (bys lu) 5]) (hS : List.length lu ≤ 140737488351232) : Calls Try.prog 37 #[.pointer (some ⟨b, 0, none⟩), .int .i64 n] w fun e w' => ∃ a0 c0 ao co, e = .returned (.slice ao (List.length (List.take (clampN n (List.length lu)) lu)) co) ∧ Ev w [.box b [.slice au (List.length lu) cu, .bool fc, .slice ad (List.length ld) cd, .bool bc, .slice ah (List.length lh) ch, .slice ap (List.length lp) cp, .slice aq (List.length lq) cq, .bool fc, .bool fe, .slice ar (List.length lr) cr, .slice av (List.length lv) cv, .bool bc, .bool be] 66, .vec au cu 1 (bys lu) 5] w' [.box b [.slice a0 (List.length (List.drop (clampN n (List.length lu)) lu)) c0, .bool fc, .slice ad (List.length ld) cd, .bool bc, .slice ah (List.length lh) ch, .slice ap (List.length lp) cp, .slice aq (List.length lq) cq, .bool fc, .bool fe, .slice ar (List.length lr) cr, .slice av (List.length lv) cv, .bool bc, .bool be] 66, .vec a0 c0 1 (bys (List.drop (clampN n (List.length lu)) lu)) 5, .vec ao co 1 (bys (List.take (clampN n (List.length lu)) lu)) 5] := by
  have hcl := clampN_le n (List.length lu)
  refine d_start [(0, .pointer (some ⟨b, 0, none⟩)), (1, .int .i64 n)] 31 Go.Proofs.Try.func37 Go.Proofs.Try.ntmps37 rfl (by kernel_rfl) (by kernel_rfl) ?_
  intro act0 En0
  have Hv0 : Ev w [.box b [.slice au (List.length lu) cu, .bool fc, .slice ad (List.length ld) cd, .bool bc, .slice ah (List.length lh) ch, .slice ap (List.length lp) cp, .slice aq (List.length lq) cq, .bool fc, .bool fe, .slice ar (List.length lr) cr, .slice av (List.length lv) cv, .bool bc, .bool be] 66, .vec au cu 1 (bys lu) 5] w [.box b [.slice au (List.length lu) cu, .bool fc, .slice ad (List.length ld) cd, .bool bc, .slice ah (List.length lh) ch, .slice ap (List.length lp) cp, .slice aq (List.length lq) cq, .bool fc, .bool fe, .slice ar (List.length lr) cr, .slice av (List.length lv) cv, .bool bc, .bool be] 66, .vec au cu 1 (bys lu) 5] := Ev.refl (hH)
  refine wp_seq ?_
  refine region_from ?_  -- region 0
  refine d_pures [(0, .pointer (some ⟨b, 0, none⟩)), (1, .int .i64 n), (4, .slice none 0 0)] [.slice none 0 0] 1 En0 (by kernel_rfl) (by kernel_rfl) rfl ?_
  intro ac1 En2
  refine from_end (by kernel_rfl) ?_
  refine then_normal ?_
  refine wp_seq ?_
  refine region_from ?_  -- region 1
  refine d_pures [(0, .pointer (some ⟨b, 0, none⟩)), (1, .int .i64 n), (4, .slice none 0 0), (6, .int .i64 n), (9, .pointer (some ⟨b, 0, none⟩))] [.int .i64 n, .pointer (some ⟨b, 0, none⟩), .pointer (some ⟨b, 0, none⟩), .pointer (some ⟨b, 0, none⟩)] 4 En2 (by kernel_rfl) (by kernel_rfl) rfl ?_
  intro ac3 En4
  refine from_op (by kernel_rfl) ?_
  refine op_loadbox (d := some 10) (t := 22) (b := b) (off := 0) (k := 0) (v := .slice au (List.length lu) cu) En4 (by kernel_rfl) Hv0 rfl rfl (by kernel_rfl) ?_
  intro ac5 En6
  refine d_pures [(0, .pointer (some ⟨b, 0, none⟩)), (1, .int .i64 n), (4, .slice none 0 0), (13, .int .i64 (if (0 : Int) < if ((List.length lu : Nat) : Int) < n then ((List.length lu : Nat) : Int) else n then if ((List.length lu : Nat) : Int) < n then ((List.length lu : Nat) : Int) else n else (0 : Int)))] [.int .i64 ((List.length lu : Nat) : Int), .int .i64 (if ((List.length lu : Nat) : Int) < n then ((List.length lu : Nat) : Int) else n), .int .i64 (if (0 : Int) < if ((List.length lu : Nat) : Int) < n then ((List.length lu : Nat) : Int) else n then if ((List.length lu : Nat) : Int) < n then ((List.length lu : Nat) : Int) else n else (0 : Int))] 8 En6 (by kernel_rfl) (by kernel_rfl) rfl ?_
  intro ac7 En8
  rw [show (if (0 : Int) < if ((List.length lu : Nat) : Int) < n then ((List.length lu : Nat) : Int) else n then if ((List.length lu : Nat) : Int) < n then ((List.length lu : Nat) : Int) else n else (0 : Int)) = ((clampN n (List.length lu) : Nat) : Int) from clamp_eq _ _] at En8
  refine d_pures [(0, .pointer (some ⟨b, 0, none⟩)), (1, .int .i64 ((clampN n (List.length lu) : Nat) : Int)), (4, .slice none 0 0)] [.int .i64 ((clampN n (List.length lu) : Nat) : Int)] 9 En8 (by kernel_rfl) (by kernel_rfl) rfl ?_
  intro ac9 En10
  refine from_end (by kernel_rfl) ?_
  refine then_normal ?_
  refine wp_seq ?_
  refine region_from ?_  -- region 2
  refine d_pures [(0, .pointer (some ⟨b, 0, none⟩)), (1, .int .i64 ((clampN n (List.length lu) : Nat) : Int)), (4, .slice none 0 0), (16, .pointer (some ⟨b, 0, none⟩))] [.pointer (some ⟨b, 0, none⟩), .pointer (some ⟨b, 0, none⟩), .pointer (some ⟨b, 0, none⟩)] 3 En10 (by kernel_rfl) (by kernel_rfl) rfl ?_
  intro ac11 En12
  refine from_op (by kernel_rfl) ?_
  refine op_loadbox (d := some 17) (t := 22) (b := b) (off := 0) (k := 0) (v := .slice au (List.length lu) cu) En12 (by kernel_rfl) Hv0 rfl rfl (by kernel_rfl) ?_
  intro ac13 En14
  refine d_pures [(0, .pointer (some ⟨b, 0, none⟩)), (1, .int .i64 ((clampN n (List.length lu) : Nat) : Int)), (4, .slice none 0 0), (17, .slice au (List.length lu) cu), (18, .int .i64 ((clampN n (List.length lu) : Nat) : Int))] [.int .i64 ((clampN n (List.length lu) : Nat) : Int)] 5 En14 (by kernel_rfl) (by kernel_rfl) rfl ?_
  intro ac15 En16
  refine from_op (by kernel_rfl) ?_
  have hcap17 := bys_vcap Hv0.heap (k := 1) rfl
  refine op_slice0 (d := some 19) (t := 22) (e := 5) (sz := 1) (len := List.length lu) (cap := cu) (hi := clampN n (List.length lu)) (ao := au) (lov := none) (hiv := (some (.int .i64 ((clampN n (List.length lu) : Nat) : Int)))) En16 (by kernel_rfl) (by kernel_rfl) (by kernel_rfl) (by omega) (.inl ⟨rfl, rfl⟩) (.inr ⟨.i64, rfl⟩) ?_
  intro ac18 En19
  refine from_op (by kernel_rfl) ?_
  have hM21 : Heap w [] := Hv0.heap.pick [] (by kernel_rfl) (by decide)
  refine op_call (d := some 20) (f := 35) (args := #[.slice au (clampN n (List.length lu)) cu]) En19 (by kernel_rfl) ((clone_go _ au (clampN n (List.length lu)) cu (List.take (clampN n (List.length lu)) lu) (by first | rfl | (simp; done) | (simp; omega) | omega) ((bys_in Hv0.heap (k := 1) rfl [] (by kernel_rfl) rfl (by first | omega | (simp; done) | (simp; omega))).take (clampN n (List.length lu)))).mono ?_)
  rintro _ wo23 ⟨aoq20, coq20, rfl, he26⟩
  refine ⟨_, rfl, ?_⟩
  intro ac22 En24
  have Hv25 : Ev w [.box b [.slice au (List.length lu) cu, .bool fc, .slice ad (List.length ld) cd, .bool bc, .slice ah (List.length lh) ch, .slice ap (List.length lp) cp, .slice aq (List.length lq) cq, .bool fc, .bool fe, .slice ar (List.length lr) cr, .slice av (List.length lv) cv, .bool bc, .bool be] 66, .vec au cu 1 (bys lu) 5] wo23 [.vec aoq20 coq20 1 (bys (List.take (clampN n (List.length lu)) lu)) 5, .box b [.slice au (List.length lu) cu, .bool fc, .slice ad (List.length ld) cd, .bool bc, .slice ah (List.length lh) ch, .slice ap (List.length lp) cp, .slice aq (List.length lq) cq, .bool fc, .bool fe, .slice ar (List.length lr) cr, .slice av (List.length lv) cv, .bool bc, .bool be] 66, .vec au cu 1 (bys lu) 5] := Hv0.trans (Ev.call (R := [.box b [.slice au (List.length lu) cu, .bool fc, .slice ad (List.length ld) cd, .bool bc, .slice ah (List.length lh) ch, .slice ap (List.length lp) cp, .slice aq (List.length lq) cq, .bool fc, .bool fe, .slice ar (List.length lr) cr, .slice av (List.length lv) cv, .bool bc, .bool be] 66, .vec au cu 1 (bys lu) 5]) Hv0.heap [0, 1] (by kernel_rfl) (by decide) he26)
  clear hM21 he26
  refine d_pures [(0, .pointer (some ⟨b, 0, none⟩)), (1, .int .i64 ((clampN n (List.length lu) : Nat) : Int)), (4, .slice none 0 0), (5, .slice aoq20 (List.length (List.take (clampN n (List.length lu)) lu)) coq20)] [.slice aoq20 (List.length (List.take (clampN n (List.length lu)) lu)) coq20] 8 En24 (by kernel_rfl) (by kernel_rfl) rfl ?_
  intro ac27 En28
  refine from_end (by kernel_rfl) ?_
  refine then_normal ?_
  refine wp_seq ?_
  refine region_from ?_  -- region 3
  refine d_pures [(0, .pointer (some ⟨b, 0, none⟩)), (1, .int .i64 ((clampN n (List.length lu) : Nat) : Int)), (4, .slice none 0 0), (5, .slice aoq20 (List.length (List.take (clampN n (List.length lu)) lu)) coq20), (21, .pointer (some ⟨b, 0, none⟩)), (24, .pointer (some ⟨b, 0, none⟩))] [.pointer (some ⟨b, 0, none⟩), .pointer (some ⟨b, 0, none⟩), .pointer (some ⟨b, 0, none⟩), .pointer (some ⟨b, 0, none⟩)] 4 En28 (by kernel_rfl) (by kernel_rfl) rfl ?_
  intro ac29 En30
  refine from_op (by kernel_rfl) ?_
  refine op_loadbox (d := some 25) (t := 22) (b := b) (off := 0) (k := 1) (v := .slice au (List.length lu) cu) En30 (by kernel_rfl) Hv25 rfl rfl (by kernel_rfl) ?_
  intro ac31 En32
  refine d_pures [(0, .pointer (some ⟨b, 0, none⟩)), (1, .int .i64 ((clampN n (List.length lu) : Nat) : Int)), (4, .slice none 0 0), (5, .slice aoq20 (List.length (List.take (clampN n (List.length lu)) lu)) coq20), (21, .pointer (some ⟨b, 0, none⟩)), (25, .slice au (List.length lu) cu), (26, .int .i64 ((clampN n (List.length lu) : Nat) : Int))] [.int .i64 ((clampN n (List.length lu) : Nat) : Int)] 6 En32 (by kernel_rfl) (by kernel_rfl) rfl ?_
  intro ac33 En34
  refine from_op (by kernel_rfl) ?_
  have hcap35 := bys_vcap Hv25.heap (k := 2) rfl
  refine op_slice (d := some 27) (t := 22) (e := 5) (sz := 1) (len := List.length lu) (cap := cu) (lo := clampN n (List.length lu)) (hi := List.length lu) (ao := au) (lov := (some (.int .i64 ((clampN n (List.length lu) : Nat) : Int)))) (hiv := none) En34 (by kernel_rfl) (by kernel_rfl) (by kernel_rfl) (by omega) (by omega) (.inr ⟨.i64, rfl⟩) (.inl ⟨rfl, rfl⟩) ?_
  intro ac36 En37
  have Hv38 : Ev w [.box b [.slice au (List.length lu) cu, .bool fc, .slice ad (List.length ld) cd, .bool bc, .slice ah (List.length lh) ch, .slice ap (List.length lp) cp, .slice aq (List.length lq) cq, .bool fc, .bool fe, .slice ar (List.length lr) cr, .slice av (List.length lv) cv, .bool bc, .bool be] 66, .vec au cu 1 (bys lu) 5] wo23 [.vec aoq20 coq20 1 (bys (List.take (clampN n (List.length lu)) lu)) 5, .box b [.slice au (List.length lu) cu, .bool fc, .slice ad (List.length ld) cd, .bool bc, .slice ah (List.length lh) ch, .slice ap (List.length lp) cp, .slice aq (List.length lq) cq, .bool fc, .bool fe, .slice ar (List.length lr) cr, .slice av (List.length lv) cv, .bool bc, .bool be] 66, .vec (cutAt au cu (clampN n (List.length lu)) 1) (cu - (clampN n (List.length lu))) 1 (bys (List.drop (clampN n (List.length lu)) lu)) 5] := by
    have h := Ev.cut (k := 2) (n := List.length lu) (sz := 1) Hv25 rfl (bys_len _) (by omega) (clampN n (List.length lu)) (List.length lu) (by omega) (by omega)
    rw [bys_cutw (l := lu) (lo := clampN n (List.length lu)) (n := List.length lu) (by simp)] at h
    exact h
  have el39 : (List.length lu) - (clampN n (List.length lu)) = List.length (List.drop (clampN n (List.length lu)) lu) := by first | (simp; done) | (simp; omega)
  rw [el39] at En37
  refine d_pures [(0, .pointer (some ⟨b, 0, none⟩)), (1, .int .i64 ((clampN n (List.length lu) : Nat) : Int)), (4, .slice none 0 0), (5, .slice aoq20 (List.length (List.take (clampN n (List.length lu)) lu)) coq20), (27, .slice (cutAt au cu (clampN n (List.length lu)) 1) (List.length (List.drop (clampN n (List.length lu)) lu)) (cu - (clampN n (List.length lu)))), (29, .pointer (some ⟨b, 0, none⟩))] [.pointer (some ⟨b, 0, none⟩), .pointer (some ⟨b, 0, none⟩)] 9 En37 (by kernel_rfl) (by kernel_rfl) rfl ?_
  intro ac40 En41
  refine from_op (by kernel_rfl) ?_
  refine op_storebox2 (d := none) (t := 22) (b := b) (off := 0) (k := 1) (v := .slice (cutAt au cu (clampN n (List.length lu)) 1) (List.length (List.drop (clampN n (List.length lu)) lu)) (cu - (clampN n (List.length lu)))) En41 (by kernel_rfl) Hv38 rfl rfl (by kernel_rfl) rfl rfl (L' := [.vec aoq20 coq20 1 (bys (List.take (clampN n (List.length lu)) lu)) 5, .box b [.slice (cutAt au cu (clampN n (List.length lu)) 1) (List.length (List.drop (clampN n (List.length lu)) lu)) (cu - (clampN n (List.length lu))), .bool fc, .slice ad (List.length ld) cd, .bool bc, .slice ah (List.length lh) ch, .slice ap (List.length lp) cp, .slice aq (List.length lq) cq, .bool fc, .bool fe, .slice ar (List.length lr) cr, .slice av (List.length lv) cv, .bool bc, .bool be] 66, .vec (cutAt au cu (clampN n (List.length lu)) 1) (cu - (clampN n (List.length lu))) 1 (bys (List.drop (clampN n (List.length lu)) lu)) 5]) rfl ?_
  intro ac42 wo43  En44 Hv45
  refine from_end (by kernel_rfl) ?_
  refine then_normal ?_
  refine wp_seq ?_
  refine region_from ?_  -- region 4
  refine d_pures [(0, .pointer (some ⟨b, 0, none⟩)), (1, .int .i64 ((clampN n (List.length lu) : Nat) : Int)), (4, .slice aoq20 (List.length (List.take (clampN n (List.length lu)) lu)) coq20)] [.slice aoq20 (List.length (List.take (clampN n (List.length lu)) lu)) coq20, .slice aoq20 (List.length (List.take (clampN n (List.length lu)) lu)) coq20] 2 En44 (by kernel_rfl) (by kernel_rfl) rfl ?_
  intro ac46 En47
  refine from_end (by kernel_rfl) ?_
  refine then_normal ?_
  refine wp_ret ?_
  refine d_ret1 (t := 4) (v := .slice aoq20 (List.length (List.take (clampN n (List.length lu)) lu)) coq20) En47 (by kernel_rfl) (by kernel_rfl) ?_
  exact ⟨cutAt au cu (clampN n (List.length lu)) 1, cu - (clampN n (List.length lu)), aoq20, coq20, rfl, Hv45.pick [1, 2, 0] (by kernel_rfl) (by decide)⟩

theorem done_u (w : World) (b : Nat) (au ad ah ap aq ar av : Option Addr) (cu cd ch cp cq cr cv : Nat) (lu ld lh lp lq lr lv : List UInt8) (fc fe bc be : Bool) (hH : Heap w [.box b [.slice au (List.length lu) cu, .bool fc, .slice ad (List.length ld) cd, .bool bc, .slice ah (List.length lh) ch, .slice ap (List.length lp) cp, .slice aq (List.length lq) cq, .bool fc, .bool fe, .slice ar (List.length lr) cr, .slice av (List.length lv) cv, .bool bc, .bool be] 66]) : Calls Try.prog 38 #[.pointer (some ⟨b, 0, none⟩)] w fun e w' => e = .returned (.bool (decide (List.length lu = 0) && fc)) ∧ Ev w [.box b [.slice au (List.length lu) cu, .bool fc, .slice ad (List.length ld) cd, .bool bc, .slice ah (List.length lh) ch, .slice ap (List.length lp) cp, .slice aq (List.length lq) cq, .bool fc, .bool fe, .slice ar (List.length lr) cr, .slice av (List.length lv) cv, .bool bc, .bool be] 66] w' [.box b [.slice au (List.length lu) cu, .bool fc, .slice ad (List.length ld) cd, .bool bc, .slice ah (List.length lh) ch, .slice ap (List.length lp) cp, .slice aq (List.length lq) cq, .bool fc, .bool fe, .slice ar (List.length lr) cr, .slice av (List.length lv) cv, .bool bc, .bool be] 66] := by
  refine d_start [(0, .pointer (some ⟨b, 0, none⟩))] 15 Go.Proofs.Try.func38 Go.Proofs.Try.ntmps38 rfl (by kernel_rfl) (by kernel_rfl) ?_
  intro act0 En0
  have Hv0 : Ev w [.box b [.slice au (List.length lu) cu, .bool fc, .slice ad (List.length ld) cd, .bool bc, .slice ah (List.length lh) ch, .slice ap (List.length lp) cp, .slice aq (List.length lq) cq, .bool fc, .bool fe, .slice ar (List.length lr) cr, .slice av (List.length lv) cv, .bool bc, .bool be] 66] w [.box b [.slice au (List.length lu) cu, .bool fc, .slice ad (List.length ld) cd, .bool bc, .slice ah (List.length lh) ch, .slice ap (List.length lp) cp, .slice aq (List.length lq) cq, .bool fc, .bool fe, .slice ar (List.length lr) cr, .slice av (List.length lv) cv, .bool bc, .bool be] 66] := Ev.refl (hH)
  refine wp_seq ?_
  refine region_from ?_  -- region 0
  refine d_pures [(0, .pointer (some ⟨b, 0, none⟩)), (2, .bool false)] [.bool false] 1 En0 (by kernel_rfl) (by kernel_rfl) rfl ?_
  intro ac1 En2
  refine from_end (by kernel_rfl) ?_
  refine then_normal ?_
  refine wp_seq ?_
  refine region_from ?_  -- region 1
  refine d_pures [(0, .pointer (some ⟨b, 0, none⟩)), (2, .bool false), (5, .pointer (some ⟨b, 0, none⟩))] [.pointer (some ⟨b, 0, none⟩), .pointer (some ⟨b, 0, none⟩), .pointer (some ⟨b, 0, none⟩)] 3 En2 (by kernel_rfl) (by kernel_rfl) rfl ?_
  intro ac3 En4
  refine from_op (by kernel_rfl) ?_
  refine op_loadbox (d := some 6) (t := 22) (b := b) (off := 0) (k := 0) (v := .slice au (List.length lu) cu) En4 (by kernel_rfl) Hv0 rfl rfl (by kernel_rfl) ?_
  intro ac5 En6
  refine d_pures [(0, .pointer (some ⟨b, 0, none⟩)), (2, .bool false), (9, .bool (((List.length lu : Nat) : Int) == (0 : Int)))] [.int .i64 ((List.length lu : Nat) : Int), .bool (((List.length lu : Nat) : Int) == (0 : Int)), .bool (((List.length lu : Nat) : Int) == (0 : Int))] 7 En6 (by kernel_rfl) (by kernel_rfl) rfl ?_
  intro ac7 En8
  rcases Bool.eq_false_or_eq_true (((List.length lu : Nat) : Int) == (0 : Int)) with hb9 | hb9
  · rw [hb9] at En8
    have hp10 : ((List.length lu : Nat) : Int) = (0 : Int) := eq_of_beq hb9
    refine d_pures [(2, .bool false), (9, .bool true), (12, .pointer (some ⟨b, 1, none⟩))] [.pointer (some ⟨b, 0, none⟩), .pointer (some ⟨b, 0, none⟩), .pointer (some ⟨b, 1, none⟩)] 10 En8 (by kernel_rfl) (by kernel_rfl) rfl ?_
    intro ac11 En12
    refine from_op (by kernel_rfl) ?_
    refine op_loadbox (d := some 13) (t := 4) (b := b) (off := 1) (k := 0) (v := .bool fc) En12 (by kernel_rfl) Hv0 rfl rfl (by kernel_rfl) ?_
    intro ac13 En14
    refine d_pures [(2, .bool fc)] [.bool fc, .bool fc] 13 En14 (by kernel_rfl) (by kernel_rfl) rfl ?_
    intro ac15 En16
    refine from_end (by kernel_rfl) ?_
    refine then_normal ?_
    refine wp_ret ?_
    refine d_ret1 (t := 2) (v := .bool fc) En16 (by kernel_rfl) (by kernel_rfl) ?_
    try simp at hp10
    have e : (fc) = (decide (List.length lu = 0) && fc) := by simp [hp10]
    exact ⟨by rw [← e], Hv0.pick [0] (by kernel_rfl) (by decide)⟩
  · rw [hb9] at En8
    have hp17 : ¬ (((List.length lu : Nat) : Int) = (0 : Int)) := ne_of_beq_false hb9
    refine d_pures [(2, .bool false)] [undef, undef, undef, undef, .bool false, .bool false] 13 En8 (by kernel_rfl) (by kernel_rfl) rfl ?_
    intro ac18 En19
    refine from_end (by kernel_rfl) ?_
    refine then_normal ?_
    refine wp_ret ?_
    refine d_ret1 (t := 2) (v := .bool false) En19 (by kernel_rfl) (by kernel_rfl) ?_
    try simp at hp17
    have e : (false) = (decide (List.length lu = 0) && fc) := by simp [hp17]
    exact ⟨by rw [← e], Hv0.pick [0] (by kernel_rfl) (by decide)⟩

theorem take_d (w : World) (b : Nat) (au ad ah ap aq ar av : Option Addr) (cu cd ch cp cq cr cv : Nat) (lu ld lh lp lq lr lv : List UInt8) (fc fe bc be : Bool) (n : Int) (hH : Heap w [.box b [.slice au (List.length lu) cu, .bool fc, .slice ad (List.length ld) cd, .bool bc, .slice ah (List.length lh) ch, .slice ap (List.length lp) cp, .slice aq (List.length lq) cq, .bool fc, .bool fe, .slice ar (List.length lr) cr, .slice av (List.length lv) cv, .bool bc, .bool be] 66, .vec ad cd 1 (bys ld) 5]) (hS : List.length ld ≤ 140737488351232) : Calls Try.prog 37 #[.pointer (some ⟨b, 2, none⟩), .int .i64 n] w fun e w' => ∃ a0 c0 ao co, e = .returned (.slice ao (List.length (List.take (clampN n (List.length ld)) ld)) co) ∧ Ev w [.box b [.slice au (List.length lu) cu, .bool fc, .slice ad (List.length ld) cd, .bool bc, .slice ah (List.length lh) ch, .slice ap (List.length lp) cp, .slice aq (List.length lq) cq, .bool fc, .bool fe, .slice ar (List.length lr) cr, .slice av (List.length lv) cv, .bool bc, .bool be] 66, .vec ad cd 1 (bys ld) 5] w' [.box b [.slice au (List.length lu) cu, .bool fc, .slice a0 (List.length (List.drop (clampN n (List.length ld)) ld)) c0, .bool bc, .slice ah (List.length lh) ch, .slice ap (List.length lp) cp, .slice aq (List.length lq) cq, .bool fc, .bool fe, .slice ar (List.length lr) cr, .slice av (List.length lv) cv, .bool bc, .bool be] 66, .vec a0 c0 1 (bys (List.drop (clampN n (List.length ld)) ld)) 5, .vec ao co 1 (bys (List.take (clampN n (List.length ld)) ld)) 5] := by
  have hcl := clampN_le n (List.length ld)
  refine d_start [(0, .pointer (some ⟨b, 2, none⟩)), (1, .int .i64 n)] 31 Go.Proofs.Try.func37 Go.Proofs.Try.ntmps37 rfl (by kernel_rfl) (by kernel_rfl) ?_
  intro act0 En0
  have Hv0 : Ev w [.box b [.slice au (List.length lu) cu, .bool fc, .slice ad (List.length ld) cd, .bool bc, .slice ah (List.length lh) ch, .slice ap (List.length lp) cp, .slice aq (List.length lq) cq, .bool fc, .bool fe, .slice ar (List.length lr) cr, .slice av (List.length lv) cv, .bool bc, .bool be] 66, .vec ad cd 1 (bys ld) 5] w [.box b [.slice au (List.length lu) cu, .bool fc, .slice ad (List.length ld) cd, .bool bc, .slice ah (List.length lh) ch, .slice ap (List.length lp) cp, .slice aq (List.length lq) cq, .bool fc, .bool fe, .slice ar (List.length lr) cr, .slice av (List.length lv) cv, .bool bc, .bool be] 66, .vec ad cd 1 (bys ld) 5] := Ev.refl (hH)
  refine wp_seq ?_
  refine region_from ?_  -- region 0
  refine d_pures [(0, .pointer (some ⟨b, 2, none⟩)), (1, .int .i64 n), (4, .slice none 0 0)] [.slice none 0 0] 1 En0 (by kernel_rfl) (by kernel_rfl) rfl ?_
  intro ac1 En2
  refine from_end (by kernel_rfl) ?_
  refine then_normal ?_
  refine wp_seq ?_
  refine region_from ?_  -- region 1
  refine d_pures [(0, .pointer (some ⟨b, 2, none⟩)), (1, .int .i64 n), (4, .slice none 0 0), (6, .int .i64 n), (9, .pointer (some ⟨b, 2, none⟩))] [.int .i64 n, .pointer (some ⟨b, 2, none⟩), .pointer (some ⟨b, 2, none⟩), .pointer (some ⟨b, 2, none⟩)] 4 En2 (by kernel_rfl) (by kernel_rfl) rfl ?_
  intro ac3 En4
  refine from_op (by kernel_rfl) ?_
  refine op_loadbox (d := some 10) (t := 22) (b := b) (off := 2) (k := 0) (v := .slice ad (List.length ld) cd) En4 (by kernel_rfl) Hv0 rfl rfl (by kernel_rfl) ?_
  intro ac5 En6
  refine d_pures [(0, .pointer (some ⟨b, 2, none⟩)), (1, .int .i64 n), (4, .slice none 0 0), (13, .int .i64 (if (0 : Int) < if ((List.length ld : Nat) : Int) < n then ((List.length ld : Nat) : Int) else n then if ((List.length ld : Nat) : Int) < n then ((List.length ld : Nat) : Int) else n else (0 : Int)))] [.int .i64 ((List.length ld : Nat) : Int), .int .i64 (if ((List.length ld : Nat) : Int) < n then ((List.length ld : Nat) : Int) else n), .int .i64 (if (0 : Int) < if ((List.length ld : Nat) : Int) < n then ((List.length ld : Nat) : Int) else n then if ((List.length ld : Nat) : Int) < n then ((List.length ld : Nat) : Int) else n else (0 : Int))] 8 En6 (by kernel_rfl) (by kernel_rfl) rfl ?_
  intro ac7 En8
  rw [show (if (0 : Int) < if ((List.length ld : Nat) : Int) < n then ((List.length ld : Nat) : Int) else n then if ((List.length ld : Nat) : Int) < n then ((List.length ld : Nat) : Int) else n else (0 : Int)) = ((clampN n (List.length ld) : Nat) : Int) from clamp_eq _ _] at En8
  refine d_pures [(0, .pointer (some ⟨b, 2, none⟩)), (1, .int .i64 ((clampN n (List.length ld) : Nat) : Int)), (4, .slice none 0 0)] [.int .i64 ((clampN n (List.length ld) : Nat) : Int)] 9 En8 (by kernel_rfl) (by kernel_rfl) rfl ?_
  intro ac9 En10
  refine from_end (by kernel_rfl) ?_
  refine then_normal ?_
  refine wp_seq ?_
  refine region_from ?_  -- region 2
  refine d_pures [(0, .pointer (some ⟨b, 2, none⟩)), (1, .int .i64 ((clampN n (List.length ld) : Nat) : Int)), (4, .slice none 0 0), (16, .pointer (some ⟨b, 2, none⟩))] [.pointer (some ⟨b, 2, none⟩), .pointer (some ⟨b, 2, none⟩), .pointer (some ⟨b, 2, none⟩)] 3 En10 (by kernel_rfl) (by kernel_rfl) rfl ?_
  intro ac11 En12
  refine from_op (by kernel_rfl) ?_
  refine op_loadbox (d := some 17) (t := 22) (b := b) (off := 2) (k := 0) (v := .slice ad (List.length ld) cd) En12 (by kernel_rfl) Hv0 rfl rfl (by kernel_rfl) ?_
  intro ac13 En14
  refine d_pures [(0, .pointer (some ⟨b, 2, none⟩)), (1, .int .i64 ((clampN n (List.length ld) : Nat) : Int)), (4, .slice none 0 0), (17, .slice ad (List.length ld) cd), (18, .int .i64 ((clampN n (List.length ld) : Nat) : Int))] [.int .i64 ((clampN n (List.length ld) : Nat) : Int)] 5 En14 (by kernel_rfl) (by kernel_rfl) rfl ?_
  intro ac15 En16
  refine from_op (by kernel_rfl) ?_
  have hcap17 := bys_vcap Hv0.heap (k := 1) rfl
  refine op_slice0 (d := some 19) (t := 22) (e := 5) (sz := 1) (len := List.length ld) (cap := cd) (hi := clampN n (List.length ld)) (ao := ad) (lov := none) (hiv := (some (.int .i64 ((clampN n (List.length ld) : Nat) : Int)))) En16 (by kernel_rfl) (by kernel_rfl) (by kernel_rfl) (by omega) (.inl ⟨rfl, rfl⟩) (.inr ⟨.i64, rfl⟩) ?_
  intro ac18 En19
  refine from_op (by kernel_rfl) ?_
  have hM21 : Heap w [] := Hv0.heap.pick [] (by kernel_rfl) (by decide)
  refine op_call (d := some 20) (f := 35) (args := #[.slice ad (clampN n (List.length ld)) cd]) En19 (by kernel_rfl) ((clone_go _ ad (clampN n (List.length ld)) cd (List.take (clampN n (List.length ld)) ld) (by first | rfl | (simp; done) | (simp; omega) | omega) ((bys_in Hv0.heap (k := 1) rfl [] (by kernel_rfl) rfl (by first | omega | (simp; done) | (simp; omega))).take (clampN n (List.length ld)))).mono ?_)
  rintro _ wo23 ⟨aoq20, coq20, rfl, he26⟩
  refine ⟨_, rfl, ?_⟩
  intro ac22 En24
  have Hv25 : Ev w [.box b [.slice au (List.length lu) cu, .bool fc, .slice ad (List.length ld) cd, .bool bc, .slice ah (List.length lh) ch, .slice ap (List.length lp) cp, .slice aq (List.length lq) cq, .bool fc, .bool fe, .slice ar (List.length lr) cr, .slice av (List.length lv) cv, .bool bc, .bool be] 66, .vec ad cd 1 (bys ld) 5] wo23 [.vec aoq20 coq20 1 (bys (List.take (clampN n (List.length ld)) ld)) 5, .box b [.slice au (List.length lu) cu, .bool fc, .slice ad (List.length ld) cd, .bool bc, .slice ah (List.length lh) ch, .slice ap (List.length lp) cp, .slice aq (List.length lq) cq, .bool fc, .bool fe, .slice ar (List.length lr) cr, .slice av (List.length lv) cv, .bool bc, .bool be] 66, .vec ad cd 1 (bys ld) 5] := Hv0.trans (Ev.call (R := [.box b [.slice au (List.length lu) cu, .bool fc, .slice ad (List.length ld) cd, .bool bc, .slice ah (List.length lh) ch, .slice ap (List.length lp) cp, .slice aq (List.length lq) cq, .bool fc, .bool fe, .slice ar (List.length lr) cr, .slice av (List.length lv) cv, .bool bc, .bool be] 66, .vec ad cd 1 (bys ld) 5]) Hv0.heap [0, 1] (by kernel_rfl) (by decide) he26)
  clear hM21 he26
  refine d_pures [(0, .pointer (some ⟨b, 2, none⟩)), (1, .int .i64 ((clampN n (List.length ld) : Nat) : Int)), (4, .slice none 0 0), (5, .slice aoq20 (List.length (List.take (clampN n (List.length ld)) ld)) coq20)] [.slice aoq20 (List.length (List.take (clampN n (List.length ld)) ld)) coq20] 8 En24 (by kernel_rfl) (by kernel_rfl) rfl ?_
  intro ac27 En28
  refine from_end (by kernel_rfl) ?_
  refine then_normal ?_
  refine wp_seq ?_
  refine region_from ?_  -- region 3
  refine d_pures [(0, .pointer (some ⟨b, 2, none⟩)), (1, .int .i64 ((clampN n (List.length ld) : Nat) : Int)), (4, .slice none 0 0), (5, .slice aoq20 (List.length (List.take (clampN n (List.length ld)) ld)) coq20), (21, .pointer (some ⟨b, 2, none⟩)), (24, .pointer (some ⟨b, 2, none⟩))] [.pointer (some ⟨b, 2, none⟩), .pointer (some ⟨b, 2, none⟩), .pointer (some ⟨b, 2, none⟩), .pointer (some ⟨b, 2, none⟩)] 4 En28 (by kernel_rfl) (by kernel_rfl) rfl ?_
  intro ac29 En30
  refine from_op (by kernel_rfl) ?_
  refine op_loadbox (d := some 25) (t := 22) (b := b) (off := 2) (k := 1) (v := .slice ad (List.length ld) cd) En30 (by kernel_rfl) Hv25 rfl rfl (by kernel_rfl) ?_
  intro ac31 En32
  refine d_pures [(0, .pointer (some ⟨b, 2, none⟩)), (1, .int .i64 ((clampN n (List.length ld) : Nat) : Int)), (4, .slice none 0 0), (5, .slice aoq20 (List.length (List.take (clampN n (List.length ld)) ld)) coq20), (21, .pointer (some ⟨b, 2, none⟩)), (25, .slice ad (List.length ld) cd), (26, .int .i64 ((clampN n (List.length ld) : Nat) : Int))] [.int .i64 ((clampN n (List.length ld) : Nat) : Int)] 6 En32 (by kernel_rfl) (by kernel_rfl) rfl ?_
  intro ac33 En34
  refine from_op (by kernel_rfl) ?_
  have hcap35 := bys_vcap Hv25.heap (k := 2) rfl
  refine op_slice (d := some 27) (t := 22) (e := 5) (sz := 1) (len := List.length ld) (cap := cd) (lo := clampN n (List.length ld)) (hi := List.length ld) (ao := ad) (lov := (some (.int .i64 ((clampN n (List.length ld) : Nat) : Int)))) (hiv := none) En34 (by kernel_rfl) (by kernel_rfl) (by kernel_rfl) (by omega) (by omega) (.inr ⟨.i64, rfl⟩) (.inl ⟨rfl, rfl⟩) ?_
  intro ac36 En37
  have Hv38 : Ev w [.box b [.slice au (List.length lu) cu, .bool fc, .slice ad (List.length ld) cd, .bool bc, .slice ah (List.length lh) ch, .slice ap (List.length lp) cp, .slice aq (List.length lq) cq, .bool fc, .bool fe, .slice ar (List.length lr) cr, .slice av (List.length lv) cv, .bool bc, .bool be] 66, .vec ad cd 1 (bys ld) 5] wo23 [.vec aoq20 coq20 1 (bys (List.take (clampN n (List.length ld)) ld)) 5, .box b [.slice au (List.length lu) cu, .bool fc, .slice ad (List.length ld) cd, .bool bc, .slice ah (List.length lh) ch, .slice ap (List.length lp) cp, .slice aq (List.length lq) cq, .bool fc, .bool fe, .slice ar (List.length lr) cr, .slice av (List.length lv) cv, .bool bc, .bool be] 66, .vec (cutAt ad cd (clampN n (List.length ld)) 1) (cd - (clampN n (List.length ld))) 1 (bys (List.drop (clampN n (List.length ld)) ld)) 5] := by
    have h := Ev.cut (k := 2) (n := List.length ld) (sz := 1) Hv25 rfl (bys_len _) (by omega) (clampN n (List.length ld)) (List.length ld) (by omega) (by omega)
    rw [bys_cutw (l := ld) (lo := clampN n (List.length ld)) (n := List.length ld) (by simp)] at h
    exact h
  have el39 : (List.length ld) - (clampN n (List.length ld)) = List.length (List.drop (clampN n (List.length ld)) ld) := by first | (simp; done) | (simp; omega)
  rw [el39] at En37
  refine d_pures [(0, .pointer (some ⟨b, 2, none⟩)), (1, .int .i64 ((clampN n (List.length ld) : Nat) : Int)), (4, .slice none 0 0), (5, .slice aoq20 (List.length (List.take (clampN n (List.length ld)) ld)) coq20), (27, .slice (cutAt ad cd (clampN n (List.length ld)) 1) (List.length (List.drop (clampN n (List.length ld)) ld)) (cd - (clampN n (List.length ld)))), (29, .pointer (some ⟨b, 2, none⟩))] [.pointer (some ⟨b, 2, none⟩), .pointer (some ⟨b, 2, none⟩)] 9 En37 (by kernel_rfl) (by kernel_rfl) rfl ?_
  intro ac40 En41
  refine from_op (by kernel_rfl) ?_
  refine op_storebox2 (d := none) (t := 22) (b := b) (off := 2) (k := 1) (v := .slice (cutAt ad cd (clampN n (List.length ld)) 1) (List.length (List.drop (clampN n (List.length ld)) ld)) (cd - (clampN n (List.length ld)))) En41 (by kernel_rfl) Hv38 rfl rfl (by kernel_rfl) rfl rfl (L' := [.vec aoq20 coq20 1 (bys (List.take (clampN n (List.length ld)) ld)) 5, .box b [.slice au (List.length lu) cu, .bool fc, .slice (cutAt ad cd (clampN n (List.length ld)) 1) (List.length (List.drop (clampN n (List.length ld)) ld)) (cd - (clampN n (List.length ld))), .bool bc, .slice ah (List.length lh) ch, .slice ap (List.length lp) cp, .slice aq (List.length lq) cq, .bool fc, .bool fe, .slice ar (List.length lr) cr, .slice av (List.length lv) cv, .bool bc, .bool be] 66, .vec (cutAt ad cd (clampN n (List.length ld)) 1) (cd - (clampN n (List.length ld))) 1 (bys (List.drop (clampN n (List.length ld)) ld)) 5]) rfl ?_
  intro ac42 wo43  En44 Hv45
  refine from_end (by kernel_rfl) ?_
  refine then_normal ?_
  refine wp_seq ?_
  refine region_from ?_  -- region 4
  refine d_pures [(0, .pointer (some ⟨b, 2, none⟩)), (1, .int .i64 ((clampN n (List.length ld) : Nat) : Int)), (4, .slice aoq20 (List.length (List.take (clampN n (List.length ld)) ld)) coq20)] [.slice aoq20 (List.length (List.take (clampN n (List.length ld)) ld)) coq20, .slice aoq20 (List.length (List.take (clampN n (List.length ld)) ld)) coq20] 2 En44 (by kernel_rfl) (by kernel_rfl) rfl ?_
  intro ac46 En47
  refine from_end (by kernel_rfl) ?_
  refine then_normal ?_
  refine wp_ret ?_
  refine d_ret1 (t := 4) (v := .slice aoq20 (List.length (List.take (clampN n (List.length ld)) ld)) coq20) En47 (by kernel_rfl) (by kernel_rfl) ?_
  exact ⟨cutAt ad cd (clampN n (List.length ld)) 1, cd - (clampN n (List.length ld)), aoq20, coq20, rfl, Hv45.pick [1, 2, 0] (by kernel_rfl) (by decide)⟩

theorem done_d (w : World) (b : Nat) (au ad ah ap aq ar av : Option Addr) (cu cd ch cp cq cr cv : Nat) (lu ld lh lp lq lr lv : List UInt8) (fc fe bc be : Bool) (hH : Heap w [.box b [.slice au (List.length lu) cu, .bool fc, .slice ad (List.length ld) cd, .bool bc, .slice ah (List.length lh) ch, .slice ap (List.length lp) cp, .slice aq (List.length lq) cq, .bool fc, .bool fe, .slice ar (List.length lr) cr, .slice av (List.length lv) cv, .bool bc, .bool be] 66]) : Calls Try.prog 38 #[.pointer (some ⟨b, 2, none⟩)] w fun e w' => e = .returned (.bool (decide (List.length ld = 0) && bc)) ∧ Ev w [.box b [.slice au (List.length lu) cu, .bool fc, .slice ad (List.length ld) cd, .bool bc, .slice ah (List.length lh) ch, .slice ap (List.length lp) cp, .slice aq (List.length lq) cq, .bool fc, .bool fe, .slice ar (List.length lr) cr, .slice av (List.length lv) cv, .bool bc, .bool be] 66] w' [.box b [.slice au (List.length lu) cu, .bool fc, .slice ad (List.length ld) cd, .bool bc, .slice ah (List.length lh) ch, .slice ap (List.length lp) cp, .slice aq (List.length lq) cq, .bool fc, .bool fe, .slice ar (List.length lr) cr, .slice av (List.length lv) cv, .bool bc, .bool be] 66] := by
  refine d_start [(0, .pointer (some ⟨b, 2, none⟩))] 15 Go.Proofs.Try.func38 Go.Proofs.Try.ntmps38 rfl (by kernel_rfl) (by kernel_rfl) ?_
  intro act0 En0
  have Hv0 : Ev w [.box b [.slice au (List.length lu) cu, .bool fc, .slice ad (List.length ld) cd, .bool bc, .slice ah (List.length lh) ch, .slice ap (List.length lp) cp, .slice aq (List.length lq) cq, .bool fc, .bool fe, .slice ar (List.length lr) cr, .slice av (List.length lv) cv, .bool bc, .bool be] 66] w [.box b [.slice au (List.length lu) cu, .bool fc, .slice ad (List.length ld) cd, .bool bc, .slice ah (List.length lh) ch, .slice ap (List.length lp) cp, .slice aq (List.length lq) cq, .bool fc, .bool fe, .slice ar (List.length lr) cr, .slice av (List.length lv) cv, .bool bc, .bool be] 66] := Ev.refl (hH)
  refine wp_seq ?_
  refine region_from ?_  -- region 0
  refine d_pures [(0, .pointer (some ⟨b, 2, none⟩)), (2, .bool false)] [.bool false] 1 En0 (by kernel_rfl) (by kernel_rfl) rfl ?_
  intro ac1 En2
  refine from_end (by kernel_rfl) ?_
  refine then_normal ?_
  refine wp_seq ?_
  refine region_from ?_  -- region 1
  refine d_pures [(0, .pointer (some ⟨b, 2, none⟩)), (2, .bool false), (5, .pointer (some ⟨b, 2, none⟩))] [.pointer (some ⟨b, 2, none⟩), .pointer (some ⟨b, 2, none⟩), .pointer (some ⟨b, 2, none⟩)] 3 En2 (by kernel_rfl) (by kernel_rfl) rfl ?_
  intro ac3 En4
  refine from_op (by kernel_rfl) ?_
  refine op_loadbox (d := some 6) (t := 22) (b := b) (off := 2) (k := 0) (v := .slice ad (List.length ld) cd) En4 (by kernel_rfl) Hv0 rfl rfl (by kernel_rfl) ?_
  intro ac5 En6
  refine d_pures [(0, .pointer (some ⟨b, 2, none⟩)), (2, .bool false), (9, .bool (((List.length ld : Nat) : Int) == (0 : Int)))] [.int .i64 ((List.length ld : Nat) : Int), .bool (((List.length ld : Nat) : Int) == (0 : Int)), .bool (((List.length ld : Nat) : Int) == (0 : Int))] 7 En6 (by kernel_rfl) (by kernel_rfl) rfl ?_
  intro ac7 En8
  rcases Bool.eq_false_or_eq_true (((List.length ld : Nat) : Int) == (0 : Int)) with hb9 | hb9
  · rw [hb9] at En8
    have hp10 : ((List.length ld : Nat) : Int) = (0 : Int) := eq_of_beq hb9
    refine d_pures [(2, .bool false), (9, .bool true), (12, .pointer (some ⟨b, 3, none⟩))] [.pointer (some ⟨b, 2, none⟩), .pointer (some ⟨b, 2, none⟩), .pointer (some ⟨b, 3, none⟩)] 10 En8 (by kernel_rfl) (by kernel_rfl) rfl ?_
    intro ac11 En12
    refine from_op (by kernel_rfl) ?_
    refine op_loadbox (d := some 13) (t := 4) (b := b) (off := 3) (k := 0) (v := .bool bc) En12 (by kernel_rfl) Hv0 rfl rfl (by kernel_rfl) ?_
    intro ac13 En14
    refine d_pures [(2, .bool bc)] [.bool bc, .bool bc] 13 En14 (by kernel_rfl) (by kernel_rfl) rfl ?_
    intro ac15 En16
    refine from_end (by kernel_rfl) ?_
    refine then_normal ?_
    refine wp_ret ?_
    refine d_ret1 (t := 2) (v := .bool bc) En16 (by kernel_rfl) (by kernel_rfl) ?_
    try simp at hp10
    have e : (bc) = (decide (List.length ld = 0) && bc) := by simp [hp10]
    exact ⟨by rw [← e], Hv0.pick [0] (by kernel_rfl) (by decide)⟩
  · rw [hb9] at En8
    have hp17 : ¬ (((List.length ld : Nat) : Int) = (0 : Int)) := ne_of_beq_false hb9
    refine d_pures [(2, .bool false)] [undef, undef, undef, undef, .bool false, .bool false] 13 En8 (by kernel_rfl) (by kernel_rfl) rfl ?_
    intro ac18 En19
    refine from_end (by kernel_rfl) ?_
    refine then_normal ?_
    refine wp_ret ?_
    refine d_ret1 (t := 2) (v := .bool false) En19 (by kernel_rfl) (by kernel_rfl) ?_
    try simp at hp17
    have e : (false) = (decide (List.length ld = 0) && bc) := by simp [hp17]
    exact ⟨by rw [← e], Hv0.pick [0] (by kernel_rfl) (by decide)⟩

theorem xread1 (w : World) (b : Nat) (au ad ah ap aq ar av : Option Addr) (cu cd ch cp cq cr cv : Nat) (lu ld lh lp lq lr lv : List UInt8) (fc fe bc be : Bool) (n : Int) (hH : Heap w [.box b [.slice au (List.length lu) cu, .bool fc, .slice ad (List.length ld) cd, .bool bc, .slice ah (List.length lh) ch, .slice ap (List.length lp) cp, .slice aq (List.length lq) cq, .bool fc, .bool fe, .slice ar (List.length lr) cr, .slice av (List.length lv) cv, .bool bc, .bool be] 66, .vec au cu 1 (bys lu) 5, .vec ad cd 1 (bys ld) 5, .vec ah ch 1 (bys lh) 5, .vec ap cp 1 (bys lp) 5, .vec aq cq 1 (bys lq) 5, .vec ar cr 1 (bys lr) 5, .vec av cv 1 (bys lv) 5]) (hS : List.length lu + List.length ld + List.length lh + List.length lp + List.length lq + List.length lr + List.length lv ≤ 140737488351232) : Calls Try.prog 21 #[.pointer (some ⟨b, 0, none⟩), .int .i64 1, .int .i64 n] w fun e w' => ∃ au0 ad0 ah0 ap0 aq0 ar0 av0, ∃ cu0 cd0 ch0 cp0 cq0 cr0 cv0, ∃ (lu0 : List UInt8) (ld0 : List UInt8) (lh0 : List UInt8) (lp0 : List UInt8) (lq0 : List UInt8) (lr0 : List UInt8) (lv0 : List UInt8), ∃ (fc0 : Bool) (fe0 : Bool) (bc0 : Bool) (be0 : Bool), ∃ ao co lo, e = .returned (.slice ao (List.length lo) co) ∧ Ev w [.box b [.slice au (List.length lu) cu, .bool fc, .slice ad (List.length ld) cd, .bool bc, .slice ah (List.length lh) ch, .slice ap (List.length lp) cp, .slice aq (List.length lq) cq, .bool fc, .bool fe, .slice ar (List.length lr) cr, .slice av (List.length lv) cv, .bool bc, .bool be] 66, .vec au cu 1 (bys lu) 5, .vec ad cd 1 (bys ld) 5, .vec ah ch 1 (bys lh) 5, .vec ap cp 1 (bys lp) 5, .vec aq cq 1 (bys lq) 5, .vec ar cr 1 (bys lr) 5, .vec av cv 1 (bys lv) 5] w' [.box b [.slice au0 (List.length lu0) cu0, .bool fc0, .slice ad0 (List.length ld0) cd0, .bool bc0, .slice ah0 (List.length lh0) ch0, .slice ap0 (List.length lp0) cp0, .slice aq0 (List.length lq0) cq0, .bool fc0, .bool fe0, .slice ar0 (List.length lr0) cr0, .slice av0 (List.length lv0) cv0, .bool bc0, .bool be0] 66, .vec au0 cu0 1 (bys lu0) 5, .vec ad0 cd0 1 (bys ld0) 5, .vec ah0 ch0 1 (bys lh0) 5, .vec ap0 cp0 1 (bys lp0) 5, .vec aq0 cq0 1 (bys lq0) 5, .vec ar0 cr0 1 (bys lr0) 5, .vec av0 cv0 1 (bys lv0) 5, .vec ao co 1 (bys lo) 5] ∧ (⟨lu0, ld0, lh0, lp0, lq0, fc0, fe0, lr0, lv0, bc0, be0⟩ : Rel) = Rel.read (⟨lu, ld, lh, lp, lq, fc, fe, lr, lv, bc, be⟩ : Rel) 1 n ∧ lo = Rel.out (⟨lu, ld, lh, lp, lq, fc, fe, lr, lv, bc, be⟩ : Rel) 1 n := by
  have hcu := clampN_le n (List.length lu)
  have hcd := clampN_le n (List.length ld)
  have hmu : (List.take (clampN n (List.length lu)) lu).length = clampN n (List.length lu) := by rw [List.length_take]; omega
  have hmd : (List.take (clampN n (List.length ld)) ld).length = clampN n (List.length ld) := by rw [List.length_take]; omega
  refine d_start [(0, .pointer (some ⟨b, 0, none⟩)), (1, .int .i64 1), (2, .int .i64 n)] 44 Go.Proofs.Try.func21 Go.Proofs.Try.ntmps21 rfl (by kernel_rfl) (by kernel_rfl) ?_
  intro act0 En0
  have Hv0 : Ev w [.box b [.slice au (List.length lu) cu, .bool fc, .slice ad (List.length ld) cd, .bool bc, .slice ah (List.length lh) ch, .slice ap (List.length lp) cp, .slice aq (List.length lq) cq, .bool fc, .bool fe, .slice ar (List.length lr) cr, .slice av (List.length lv) cv, .bool bc, .bool be] 66, .vec au cu 1 (bys lu) 5, .vec ad cd 1 (bys ld) 5, .vec ah ch 1 (bys lh) 5, .vec ap cp 1 (bys lp) 5, .vec aq cq 1 (bys lq) 5, .vec ar cr 1 (bys lr) 5, .vec av cv 1 (bys lv) 5] w [.box b [.slice au (List.length lu) cu, .bool fc, .slice ad (List.length ld) cd, .bool bc, .slice ah (List.length lh) ch, .slice ap (List.length lp) cp, .slice aq (List.length lq) cq, .bool fc, .bool fe, .slice ar (List.length lr) cr, .slice av (List.length lv) cv, .bool bc, .bool be] 66, .vec au cu 1 (bys lu) 5, .vec ad cd 1 (bys ld) 5, .vec ah ch 1 (bys lh) 5, .vec ap cp 1 (bys lp) 5, .vec aq cq 1 (bys lq) 5, .vec ar cr 1 (bys lr) 5, .vec av cv 1 (bys lv) 5] := Ev.refl (hH)
  refine wp_seq ?_
  refine region_from ?_  -- region 0
  refine d_pures [(0, .pointer (some ⟨b, 0, none⟩)), (1, .int .i64 1), (2, .int .i64 n), (6, .slice none 0 0)] [.slice none 0 0] 1 En0 (by kernel_rfl) (by kernel_rfl) rfl ?_
  intro ac1 En2
  refine from_end (by kernel_rfl) ?_
  refine then_normal ?_
  refine wp_seq ?_
  refine region_from ?_  -- region 1
  refine d_pures [(2, .int .i64 n), (6, .slice none 0 0), (12, .pointer (some ⟨b, 0, none⟩)), (13, .int .i64 1)] [.pointer (some ⟨b, 0, none⟩), .int .i64 1] 2 En2 (by kernel_rfl) (by kernel_rfl) rfl ?_
  intro ac3 En4
  refine from_op (by kernel_rfl) ?_
  have hM5 : Heap w [] := Hv0.heap.pick [] (by kernel_rfl) (by decide)
  refine op_call (d := some 14) (f := 36) (args := #[.pointer (some ⟨b, 0, none⟩), .int .i64 1]) En4 (by kernel_rfl) ((end1 _ b).mono ?_)
  rintro _ wo7 ⟨rfl, he10⟩
  refine ⟨_, rfl, ?_⟩
  intro ac6 En8
  have Hv9 : Ev w [.box b [.slice au (List.length lu) cu, .bool fc, .slice ad (List.length ld) cd, .bool bc, .slice ah (List.length lh) ch, .slice ap (List.length lp) cp, .slice aq (List.length lq) cq, .bool fc, .bool fe, .slice ar (List.length lr) cr, .slice av (List.length lv) cv, .bool bc, .bool be] 66, .vec au cu 1 (bys lu) 5, .vec ad cd 1 (bys ld) 5, .vec ah ch 1 (bys lh) 5, .vec ap cp 1 (bys lp) 5, .vec aq cq 1 (bys lq) 5, .vec ar cr 1 (bys lr) 5, .vec av cv 1 (bys lv) 5] wo7 [.box b [.slice au (List.length lu) cu, .bool fc, .slice ad (List.length ld) cd, .bool bc, .slice ah (List.length lh) ch, .slice ap (List.length lp) cp, .slice aq (List.length lq) cq, .bool fc, .bool fe, .slice ar (List.length lr) cr, .slice av (List.length lv) cv, .bool bc, .bool be] 66, .vec au cu 1 (bys lu) 5, .vec ad cd 1 (bys ld) 5, .vec ah ch 1 (bys lh) 5, .vec ap cp 1 (bys lp) 5, .vec aq cq 1 (bys lq) 5, .vec ar cr 1 (bys lr) 5, .vec av cv 1 (bys lv) 5] := Hv0.trans (Ev.call (R := [.box b [.slice au (List.length lu) cu, .bool fc, .slice ad (List.length ld) cd, .bool bc, .slice ah (List.length lh) ch, .slice ap (List.length lp) cp, .slice aq (List.length lq) cq, .bool fc, .bool fe, .slice ar (List.length lr) cr, .slice av (List.length lv) cv, .bool bc, .bool be] 66, .vec au cu 1 (bys lu) 5, .vec ad cd 1 (bys ld) 5, .vec ah ch 1 (bys lh) 5, .vec ap cp 1 (bys lp) 5, .vec aq cq 1 (bys lq) 5, .vec ar cr 1 (bys lr) 5, .vec av cv 1 (bys lv) 5]) Hv0.heap [0, 1, 2, 3, 4, 5, 6, 7] (by kernel_rfl) (by decide) he10)
  clear hM5 he10
  refine d_pures [(2, .int .i64 n), (6, .slice none 0 0), (7, .pointer (some ⟨b, 5, none⟩)), (9, .pointer (some ⟨b, 2, none⟩))] [.tuple #[.pointer (some ⟨b, 5, none⟩), .pointer (some ⟨b, 0, none⟩), .pointer (some ⟨b, 2, none⟩)], .pointer (some ⟨b, 5, none⟩), .pointer (some ⟨b, 0, none⟩), .pointer (some ⟨b, 2, none⟩), .pointer (some ⟨b, 5, none⟩), .pointer (some ⟨b, 0, none⟩), .pointer (some ⟨b, 2, none⟩)] 10 En8 (by kernel_rfl) (by kernel_rfl) rfl ?_
  intro ac11 En12
  refine from_end (by kernel_rfl) ?_
  refine then_normal ?_
  refine wp_seq ?_
  refine wp_seq ?_
  refine region_from ?_  -- region 2
  refine d_pures [(2, .int .i64 n), (6, .slice none 0 0), (7, .pointer (some ⟨b, 5, none⟩)), (9, .pointer (some ⟨b, 2, none⟩)), (19, .bool false)] [.pointer (some ⟨b, 5, none⟩), .bool false] 2 En12 (by kernel_rfl) (by kernel_rfl) rfl ?_
  intro ac13 En14
  refine from_end (by kernel_rfl) ?_
  refine then_normal ?_
  refine cond_false En14 (t := false) (by kernel_rfl) rfl ?_
  refine wp_skip ?_
  refine then_normal ?_
  refine wp_seq ?_
  refine region_from ?_  -- region 4
  refine d_pures [(6, .slice none 0 0), (7, .pointer (some ⟨b, 5, none⟩)), (9, .pointer (some ⟨b, 2, none⟩)), (20, .pointer (some ⟨b, 2, none⟩)), (21, .int .i64 n)] [.pointer (some ⟨b, 2, none⟩), .int .i64 n] 2 En14 (by kernel_rfl) (by kernel_rfl) rfl ?_
  intro ac15 En16
  refine from_op (by kernel_rfl) ?_
  have hM18 : Heap wo7 [.box b [.slice au (List.length lu) cu, .bool fc, .slice ad (List.length ld) cd, .bool bc, .slice ah (List.length lh) ch, .slice ap (List.length lp) cp, .slice aq (List.length lq) cq, .bool fc, .bool fe, .slice ar (List.length lr) cr, .slice av (List.length lv) cv, .bool bc, .bool be] 66, .vec ad cd 1 (bys ld) 5] := Hv9.heap.pick [0, 2] (by kernel_rfl) (by decide)
  refine op_call (d := some 22) (f := 37) (args := #[.pointer (some ⟨b, 2, none⟩), .int .i64 n]) En16 (by kernel_rfl) ((take_d _ b au ad ah ap aq ar av cu cd ch cp cq cr cv lu ld lh lp lq lr lv fc fe bc be n hM18 (by omega)).mono ?_)
  rintro _ wo20 ⟨azq17, czq17, ayq17, cyq17, rfl, he23⟩
  refine ⟨_, rfl, ?_⟩
  intro ac19 En21
  have Hv22 : Ev w [.box b [.slice au (List.length lu) cu, .bool fc, .slice ad (List.length ld) cd, .bool bc, .slice ah (List.length lh) ch, .slice ap (List.length lp) cp, .slice aq (List.length lq) cq, .bool fc, .bool fe, .slice ar (List.length lr) cr, .slice av (List.length lv) cv, .bool bc, .bool be] 66, .vec au cu 1 (bys lu) 5, .vec ad cd 1 (bys ld) 5, .vec ah ch 1 (bys lh) 5, .vec ap cp 1 (bys lp) 5, .vec aq cq 1 (bys lq) 5, .vec ar cr 1 (bys lr) 5, .vec av cv 1 (bys lv) 5] wo20 [.box b [.slice au (List.length lu) cu, .bool fc, .slice azq17 (List.length (List.drop (clampN n (List.length ld)) ld)) czq17, .bool bc, .slice ah (List.length lh) ch, .slice ap (List.length lp) cp, .slice aq (List.length lq) cq, .bool fc, .bool fe, .slice ar (List.length lr) cr, .slice av (List.length lv) cv, .bool bc, .bool be] 66, .vec azq17 czq17 1 (bys (List.drop (clampN n (List.length ld)) ld)) 5, .vec ayq17 cyq17 1 (bys (List.take (clampN n (List.length ld)) ld)) 5, .vec au cu 1 (bys lu) 5, .vec ah ch 1 (bys lh) 5, .vec ap cp 1 (bys lp) 5, .vec aq cq 1 (bys lq) 5, .vec ar cr 1 (bys lr) 5, .vec av cv 1 (bys lv) 5] := Hv9.trans (Ev.call (R := [.vec au cu 1 (bys lu) 5, .vec ah ch 1 (bys lh) 5, .vec ap cp 1 (bys lp) 5, .vec aq cq 1 (bys lq) 5, .vec ar cr 1 (bys lr) 5, .vec av cv 1 (bys lv) 5]) Hv9.heap [0, 2, 1, 3, 4, 5, 6, 7] (by kernel_rfl) (by decide) he23)
  clear hM18 he23
  refine d_pures [(6, .slice none 0 0), (7, .pointer (some ⟨b, 5, none⟩)), (9, .pointer (some ⟨b, 2, none⟩)), (10, .slice ayq17 (List.length (List.take (clampN n (List.length ld)) ld)) cyq17)] [.slice ayq17 (List.length (List.take (clampN n (List.length ld)) ld)) cyq17] 4 En21 (by kernel_rfl) (by kernel_rfl) rfl ?_
  intro ac24 En25
  refine from_end (by kernel_rfl) ?_
  refine then_normal ?_
  refine wp_seq ?_
  refine region_from ?_  -- region 5
  refine d_pures [(6, .slice none 0 0), (7, .pointer (some ⟨b, 5, none⟩)), (9, .pointer (some ⟨b, 2, none⟩)), (10, .slice ayq17 (List.length (List.take (clampN n (List.length ld)) ld)) cyq17), (23, .pointer (some ⟨b, 5, none⟩)), (26, .pointer (some ⟨b, 6, none⟩))] [.pointer (some ⟨b, 5, none⟩), .pointer (some ⟨b, 5, none⟩), .pointer (some ⟨b, 5, none⟩), .pointer (some ⟨b, 6, none⟩)] 4 En25 (by kernel_rfl) (by kernel_rfl) rfl ?_
  intro ac26 En27
  refine from_op (by kernel_rfl) ?_
  refine op_loadbox (d := some 27) (t := 22) (b := b) (off := 6) (k := 0) (v := .slice aq (List.length lq) cq) En27 (by kernel_rfl) Hv22 rfl rfl (by kernel_rfl) ?_
  intro ac28 En29
  refine d_pures [(6, .slice none 0 0), (7, .pointer (some ⟨b, 5, none⟩)), (9, .pointer (some ⟨b, 2, none⟩)), (10, .slice ayq17 (List.length (List.take (clampN n (List.length ld)) ld)) cyq17), (23, .pointer (some ⟨b, 5, none⟩)), (27, .slice aq (List.length lq) cq), (28, .slice ayq17 (List.length (List.take (clampN n (List.length ld)) ld)) cyq17)] [.slice ayq17 (List.length (List.take (clampN n (List.length ld)) ld)) cyq17] 6 En29 (by kernel_rfl) (by kernel_rfl) rfl ?_
  intro ac30 En31
  refine from_op (by kernel_rfl) ?_
  refine op_append (d := some 29) (t := 22) (tx := 22) (ty := 22) (k := 6) (p := List.length lq) (m := List.length (List.take (clampN n (List.length ld)) ld)) (x := .slice ayq17 (List.length (List.take (clampN n (List.length ld)) ld)) cyq17) (bytes := 1) En31 (by kernel_rfl) Hv22 rfl (bys_len _) (Reads.src (size := 1) (tx := 22) (e' := 5) (by kernel_rfl) (Hv22.heap.reads (k := 2) rfl) (bys_len _) (bys_vnz Hv22.heap (k := 2) rfl) (bys_one _)) (by kernel_rfl) (z := .int .u8 0) (by kernel_rfl) rfl (by decide) (by omega) (by unfold maxLen; omega) ?_
  intro ac36 wo37 ao32 cp33 En38 Hv39 _ _
  rw [← bys_append] at Hv39
  have ehz34 : (List.length lq) + (List.length (List.take (clampN n (List.length ld)) ld)) = List.length (lq ++ (List.take (clampN n (List.length ld)) ld)) := (by first | (simp; done) | (simp; omega) | omega)
  rw [ehz34] at En38
  refine d_pures [(6, .slice none 0 0), (7, .pointer (some ⟨b, 5, none⟩)), (9, .pointer (some ⟨b, 2, none⟩)), (10, .slice ayq17 (List.length (List.take (clampN n (List.length ld)) ld)) cyq17), (29, .slice ao32 (List.length (lq ++ (List.take (clampN n (List.length ld)) ld))) cp33), (31, .pointer (some ⟨b, 6, none⟩))] [.pointer (some ⟨b, 5, none⟩), .pointer (some ⟨b, 6, none⟩)] 9 En38 (by kernel_rfl) (by kernel_rfl) rfl ?_
  intro ac40 En41
  refine from_op (by kernel_rfl) ?_
  refine op_storebox2 (d := none) (t := 22) (b := b) (off := 6) (k := 0) (v := .slice ao32 (List.length (lq ++ (List.take (clampN n (List.length ld)) ld))) cp33) En41 (by kernel_rfl) Hv39 rfl rfl (by kernel_rfl) rfl rfl (L' := [.box b [.slice au (List.length lu) cu, .bool fc, .slice azq17 (List.length (List.drop (clampN n (List.length ld)) ld)) czq17, .bool bc, .slice ah (List.length lh) ch, .slice ap (List.length lp) cp, .slice ao32 (List.length (lq ++ (List.take (clampN n (List.length ld)) ld))) cp33, .bool fc, .bool fe, .slice ar (List.length lr) cr, .slice av (List.length lv) cv, .bool bc, .bool be] 66, .vec azq17 czq17 1 (bys (List.drop (clampN n (List.length ld)) ld)) 5, .vec ayq17 cyq17 1 (bys (List.take (clampN n (List.length ld)) ld)) 5, .vec au cu 1 (bys lu) 5, .vec ah ch 1 (bys lh) 5, .vec ap cp 1 (bys lp) 5, .vec ao32 cp33 1 (bys (lq ++ (List.take (clampN n (List.length ld)) ld))) 5, .vec ar cr 1 (bys lr) 5, .vec av cv 1 (bys lv) 5]) rfl ?_
  intro ac42 wo43  En44 Hv45
  refine from_end (by kernel_rfl) ?_
  refine then_normal ?_
  refine wp_seq ?_
  refine region_from ?_  -- region 6
  refine d_pures [(6, .slice none 0 0), (7, .pointer (some ⟨b, 5, none⟩)), (9, .pointer (some ⟨b, 2, none⟩)), (10, .slice ayq17 (List.length (List.take (clampN n (List.length ld)) ld)) cyq17), (32, .pointer (some ⟨b, 5, none⟩)), (35, .pointer (some ⟨b, 8, none⟩))] [.pointer (some ⟨b, 5, none⟩), .pointer (some ⟨b, 5, none⟩), .pointer (some ⟨b, 5, none⟩), .pointer (some ⟨b, 8, none⟩)] 4 En44 (by kernel_rfl) (by kernel_rfl) rfl ?_
  intro ac46 En47
  refine from_op (by kernel_rfl) ?_
  refine op_loadbox (d := some 36) (t := 4) (b := b) (off := 8) (k := 0) (v := .bool fe) En47 (by kernel_rfl) Hv45 rfl rfl (by kernel_rfl) ?_
  intro ac48 En49
  refine d_pures [(6, .slice none 0 0), (7, .pointer (some ⟨b, 5, none⟩)), (9, .pointer (some ⟨b, 2, none⟩)), (10, .slice ayq17 (List.length (List.take (clampN n (List.length ld)) ld)) cyq17), (32, .pointer (some ⟨b, 5, none⟩)), (37, .bool fe)] [.bool fe] 6 En49 (by kernel_rfl) (by kernel_rfl) rfl ?_
  intro ac50 En51
  rcases Bool.eq_false_or_eq_true (fe) with hb52 | hb52
  · rw [hb52] at En51
    have hp53 : fe = true := hb52
    refine d_pures [(6, .slice none 0 0), (7, .pointer (some ⟨b, 5, none⟩)), (9, .pointer (some ⟨b, 2, none⟩)), (10, .slice ayq17 (List.length (List.take (clampN n (List.length ld)) ld)) cyq17), (40, .bool true), (42, .pointer (some ⟨b, 8, none⟩))] [undef, undef, .bool true, .pointer (some ⟨b, 5, none⟩), .pointer (some ⟨b, 8, none⟩)] 11 En51 (by kernel_rfl) (by kernel_rfl) rfl ?_
    intro ac54 En55
    refine from_op (by kernel_rfl) ?_
    refine op_storebox2 (d := none) (t := 4) (b := b) (off := 8) (k := 0) (v := .bool true) En55 (by kernel_rfl) Hv45 rfl rfl (by kernel_rfl) rfl rfl (L' := [.box b [.slice au (List.length lu) cu, .bool fc, .slice azq17 (List.length (List.drop (clampN n (List.length ld)) ld)) czq17, .bool bc, .slice ah (List.length lh) ch, .slice ap (List.length lp) cp, .slice ao32 (List.length (lq ++ (List.take (clampN n (List.length ld)) ld))) cp33, .bool fc, .bool true, .slice ar (List.length lr) cr, .slice av (List.length lv) cv, .bool bc, .bool be] 66, .vec azq17 czq17 1 (bys (List.drop (clampN n (List.length ld)) ld)) 5, .vec ayq17 cyq17 1 (bys (List.take (clampN n (List.length ld)) ld)) 5, .vec au cu 1 (bys lu) 5, .vec ah ch 1 (bys lh) 5, .vec ap cp 1 (bys lp) 5, .vec ao32 cp33 1 (bys (lq ++ (List.take (clampN n (List.length ld)) ld))) 5, .vec ar cr 1 (bys lr) 5, .vec av cv 1 (bys lv) 5]) rfl ?_
    intro ac56 wo57  En58 Hv59
    refine from_end (by kernel_rfl) ?_
    refine then_normal ?_
    refine wp_seq ?_
    refine region_from ?_  -- region 7
    refine d_pures [(6, .slice ayq17 (List.length (List.take (clampN n (List.length ld)) ld)) cyq17), (7, .pointer (some ⟨b, 5, none⟩)), (9, .pointer (some ⟨b, 2, none⟩)), (10, .slice ayq17 (List.length (List.take (clampN n (List.length ld)) ld)) cyq17)] [.slice ayq17 (List.length (List.take (clampN n (List.length ld)) ld)) cyq17, .slice ayq17 (List.length (List.take (clampN n (List.length ld)) ld)) cyq17] 2 En58 (by kernel_rfl) (by kernel_rfl) rfl ?_
    intro ac60 En61
    refine from_end (by kernel_rfl) ?_
    refine then_normal ?_
    refine wp_ret ?_
    refine d_ret1 (t := 6) (v := .slice ayq17 (List.length (List.take (clampN n (List.length ld)) ld)) cyq17) En61 (by kernel_rfl) (by kernel_rfl) ?_
    try simp at hp53
    exact ⟨au, azq17, ah, ap, ao32, ar, av, cu, czq17, ch, cp, cp33, cr, cv, lu, (List.drop (clampN n (List.length ld)) ld), lh, lp, (lq ++ (List.take (clampN n (List.length ld)) ld)), lr, lv, fc, true, bc, be, ayq17, cyq17, (List.take (clampN n (List.length ld)) ld), rfl, Hv59.pick [0, 3, 1, 4, 5, 6, 7, 8, 2] (by kernel_rfl) (by decide), by simp [Rel.read, hp53], by simp [Rel.out]⟩
  · rw [hb52] at En51
    have hp62 : ¬ (fe = true) := Bool.eq_false_iff.1 hb52
    refine d_pures [(6, .slice none 0 0), (7, .pointer (some ⟨b, 5, none⟩)), (9, .pointer (some ⟨b, 2, none⟩)), (10, .slice ayq17 (List.length (List.take (clampN n (List.length ld)) ld)) cyq17), (32, .pointer (some ⟨b, 5, none⟩)), (37, .bool false), (38, .pointer (some ⟨b, 2, none⟩))] [.pointer (some ⟨b, 2, none⟩)] 7 En51 (by kernel_rfl) (by kernel_rfl) rfl ?_
    intro ac63 En64
    refine from_op (by kernel_rfl) ?_
    have hM65 : Heap wo43 [.box b [.slice au (List.length lu) cu, .bool fc, .slice azq17 (List.length (List.drop (clampN n (List.length ld)) ld)) czq17, .bool bc, .slice ah (List.length lh) ch, .slice ap (List.length lp) cp, .slice ao32 (List.length (lq ++ (List.take (clampN n (List.length ld)) ld))) cp33, .bool fc, .bool fe, .slice ar (List.length lr) cr, .slice av (List.length lv) cv, .bool bc, .bool be] 66] := Hv45.heap.pick [0] (by kernel_rfl) (by decide)
    refine op_call (d := some 39) (f := 38) (args := #[.pointer (some ⟨b, 2, none⟩)]) En64 (by kernel_rfl) ((done_d _ b au azq17 ah ap ao32 ar av cu czq17 ch cp cp33 cr cv lu (List.drop (clampN n (List.length ld)) ld) lh lp (lq ++ (List.take (clampN n (List.length ld)) ld)) lr lv fc fe bc be hM65).mono ?_)
    rintro _ wo67 ⟨rfl, he70⟩
    refine ⟨_, rfl, ?_⟩
    intro ac66 En68
    have Hv69 : Ev w [.box b [.slice au (List.length lu) cu, .bool fc, .slice ad (List.length ld) cd, .bool bc, .slice ah (List.length lh) ch, .slice ap (List.length lp) cp, .slice aq (List.length lq) cq, .bool fc, .bool fe, .slice ar (List.length lr) cr, .slice av (List.length lv) cv, .bool bc, .bool be] 66, .vec au cu 1 (bys lu) 5, .vec ad cd 1 (bys ld) 5, .vec ah ch 1 (bys lh) 5, .vec ap cp 1 (bys lp) 5, .vec aq cq 1 (bys lq) 5, .vec ar cr 1 (bys lr) 5, .vec av cv 1 (bys lv) 5] wo67 [.box b [.slice au (List.length lu) cu, .bool fc, .slice azq17 (List.length (List.drop (clampN n (List.length ld)) ld)) czq17, .bool bc, .slice ah (List.length lh) ch, .slice ap (List.length lp) cp, .slice ao32 (List.length (lq ++ (List.take (clampN n (List.length ld)) ld))) cp33, .bool fc, .bool fe, .slice ar (List.length lr) cr, .slice av (List.length lv) cv, .bool bc, .bool be] 66, .vec azq17 czq17 1 (bys (List.drop (clampN n (List.length ld)) ld)) 5, .vec ayq17 cyq17 1 (bys (List.take (clampN n (List.length ld)) ld)) 5, .vec au cu 1 (bys lu) 5, .vec ah ch 1 (bys lh) 5, .vec ap cp 1 (bys lp) 5, .vec ao32 cp33 1 (bys (lq ++ (List.take (clampN n (List.length ld)) ld))) 5, .vec ar cr 1 (bys lr) 5, .vec av cv 1 (bys lv) 5] := Hv45.trans (Ev.call (R := [.vec azq17 czq17 1 (bys (List.drop (clampN n (List.length ld)) ld)) 5, .vec ayq17 cyq17 1 (bys (List.take (clampN n (List.length ld)) ld)) 5, .vec au cu 1 (bys lu) 5, .vec ah ch 1 (bys lh) 5, .vec ap cp 1 (bys lp) 5, .vec ao32 cp33 1 (bys (lq ++ (List.take (clampN n (List.length ld)) ld))) 5, .vec ar cr 1 (bys lr) 5, .vec av cv 1 (bys lv) 5]) Hv45.heap [0, 1, 2, 3, 4, 5, 6, 7, 8] (by kernel_rfl) (by decide) he70)
    clear hM65 he70
    refine d_pures [(6, .slice none 0 0), (7, .pointer (some ⟨b, 5, none⟩)), (9, .pointer (some ⟨b, 2, none⟩)), (10, .slice ayq17 (List.length (List.take (clampN n (List.length ld)) ld)) cyq17), (40, .bool (decide (List.length (List.drop (clampN n (List.length ld)) ld) = 0) && bc)), (42, .pointer (some ⟨b, 8, none⟩))] [.bool (decide (List.length (List.drop (clampN n (List.length ld)) ld) = 0) && bc), .pointer (some ⟨b, 5, none⟩), .pointer (some ⟨b, 8, none⟩)] 11 En68 (by kernel_rfl) (by kernel_rfl) rfl ?_
    intro ac71 En72
    refine from_op (by kernel_rfl) ?_
    refine op_storebox2 (d := none) (t := 4) (b := b) (off := 8) (k := 0) (v := .bool (decide (List.length (List.drop (clampN n (List.length ld)) ld) = 0) && bc)) En72 (by kernel_rfl) Hv69 rfl rfl (by kernel_rfl) rfl rfl (L' := [.box b [.slice au (List.length lu) cu, .bool fc, .slice azq17 (List.length (List.drop (clampN n (List.length ld)) ld)) czq17, .bool bc, .slice ah (List.length lh) ch, .slice ap (List.length lp) cp, .slice ao32 (List.length (lq ++ (List.take (clampN n (List.length ld)) ld))) cp33, .bool fc, .bool (decide (List.length (List.drop (clampN n (List.length ld)) ld) = 0) && bc), .slice ar (List.length lr) cr, .slice av (List.length lv) cv, .bool bc, .bool be] 66, .vec azq17 czq17 1 (bys (List.drop (clampN n (List.length ld)) ld)) 5, .vec ayq17 cyq17 1 (bys (List.take (clampN n (List.length ld)) ld)) 5, .vec au cu 1 (bys lu) 5, .vec ah ch 1 (bys lh) 5, .vec ap cp 1 (bys lp) 5, .vec ao32 cp33 1 (bys (lq ++ (List.take (clampN n (List.length ld)) ld))) 5, .vec ar cr 1 (bys lr) 5, .vec av cv 1 (bys lv) 5]) rfl ?_
    intro ac73 wo74  En75 Hv76
    refine from_end (by kernel_rfl) ?_
    refine then_normal ?_
    refine wp_seq ?_
    refine region_from ?_  -- region 7
    refine d_pures [(6, .slice ayq17 (List.length (List.take (clampN n (List.length ld)) ld)) cyq17), (7, .pointer (some ⟨b, 5, none⟩)), (9, .pointer (some ⟨b, 2, none⟩)), (10, .slice ayq17 (List.length (List.take (clampN n (List.length ld)) ld)) cyq17)] [.slice ayq17 (List.length (List.take (clampN n (List.length ld)) ld)) cyq17, .slice ayq17 (List.length (List.take (clampN n (List.length ld)) ld)) cyq17] 2 En75 (by kernel_rfl) (by kernel_rfl) rfl ?_
    intro ac77 En78
    refine from_end (by kernel_rfl) ?_
    refine then_normal ?_
    refine wp_ret ?_
    refine d_ret1 (t := 6) (v := .slice ayq17 (List.length (List.take (clampN n (List.length ld)) ld)) cyq17) En78 (by kernel_rfl) (by kernel_rfl) ?_
    try simp at hp62
    exact ⟨au, azq17, ah, ap, ao32, ar, av, cu, czq17, ch, cp, cp33, cr, cv, lu, (List.drop (clampN n (List.length ld)) ld), lh, lp, (lq ++ (List.take (clampN n (List.length ld)) ld)), lr, lv, fc, (decide (List.length (List.drop (clampN n (List.length ld)) ld) = 0) && bc), bc, be, ayq17, cyq17, (List.take (clampN n (List.length ld)) ld), rfl, Hv76.pick [0, 3, 1, 4, 5, 6, 7, 8, 2] (by kernel_rfl) (by decide), by simp [Rel.read, hp62], by simp [Rel.out]⟩

theorem xread2 (w : World) (b : Nat) (au ad ah ap aq ar av : Option Addr) (cu cd ch cp cq cr cv : Nat) (lu ld lh lp lq lr lv : List UInt8) (fc fe bc be : Bool) (n : Int) (hH : Heap w [.box b [.slice au (List.length lu) cu, .bool fc, .slice ad (List.length ld) cd, .bool bc, .slice ah (List.length lh) ch, .slice ap (List.length lp) cp, .slice aq (List.length lq) cq, .bool fc, .bool fe, .slice ar (List.length lr) cr, .slice av (List.length lv) cv, .bool bc, .bool be] 66, .vec au cu 1 (bys lu) 5, .vec ad cd 1 (bys ld) 5, .vec ah ch 1 (bys lh) 5, .vec ap cp 1 (bys lp) 5, .vec aq cq 1 (bys lq) 5, .vec ar cr 1 (bys lr) 5, .vec av cv 1 (bys lv) 5]) (hS : List.length lu + List.length ld + List.length lh + List.length lp + List.length lq + List.length lr + List.length lv ≤ 140737488351232) : Calls Try.prog 21 #[.pointer (some ⟨b, 0, none⟩), .int .i64 2, .int .i64 n] w fun e w' => ∃ au0 ad0 ah0 ap0 aq0 ar0 av0, ∃ cu0 cd0 ch0 cp0 cq0 cr0 cv0, ∃ (lu0 : List UInt8) (ld0 : List UInt8) (lh0 : List UInt8) (lp0 : List UInt8) (lq0 : List UInt8) (lr0 : List UInt8) (lv0 : List UInt8), ∃ (fc0 : Bool) (fe0 : Bool) (bc0 : Bool) (be0 : Bool), ∃ ao co lo, e = .returned (.slice ao (List.length lo) co) ∧ Ev w [.box b [.slice au (List.length lu) cu, .bool fc, .slice ad (List.length ld) cd, .bool bc, .slice ah (List.length lh) ch, .slice ap (List.length lp) cp, .slice aq (List.length lq) cq, .bool fc, .bool fe, .slice ar (List.length lr) cr, .slice av (List.length lv) cv, .bool bc, .bool be] 66, .vec au cu 1 (bys lu) 5, .vec ad cd 1 (bys ld) 5, .vec ah ch 1 (bys lh) 5, .vec ap cp 1 (bys lp) 5, .vec aq cq 1 (bys lq) 5, .vec ar cr 1 (bys lr) 5, .vec av cv 1 (bys lv) 5] w' [.box b [.slice au0 (List.length lu0) cu0, .bool fc0, .slice ad0 (List.length ld0) cd0, .bool bc0, .slice ah0 (List.length lh0) ch0, .slice ap0 (List.length lp0) cp0, .slice aq0 (List.length lq0) cq0, .bool fc0, .bool fe0, .slice ar0 (List.length lr0) cr0, .slice av0 (List.length lv0) cv0, .bool bc0, .bool be0] 66, .vec au0 cu0 1 (bys lu0) 5, .vec ad0 cd0 1 (bys ld0) 5, .vec ah0 ch0 1 (bys lh0) 5, .vec ap0 cp0 1 (bys lp0) 5, .vec aq0 cq0 1 (bys lq0) 5, .vec ar0 cr0 1 (bys lr0) 5, .vec av0 cv0 1 (bys lv0) 5, .vec ao co 1 (bys lo) 5] ∧ (⟨lu0, ld0, lh0, lp0, lq0, fc0, fe0, lr0, lv0, bc0, be0⟩ : Rel) = Rel.read (⟨lu, ld, lh, lp, lq, fc, fe, lr, lv, bc, be⟩ : Rel) 2 n ∧ lo = Rel.out (⟨lu, ld, lh, lp, lq, fc, fe, lr, lv, bc, be⟩ : Rel) 2 n := by
  have hcu := clampN_le n (List.length lu)
  have hcd := clampN_le n (List.length ld)
  have hmu : (List.take (clampN n (List.length lu)) lu).length = clampN n (List.length lu) := by rw [List.length_take]; omega
  have hmd : (List.take (clampN n (List.length ld)) ld).length = clampN n (List.length ld) := by rw [List.length_take]; omega
  refine d_start [(0, .pointer (some ⟨b, 0, none⟩)), (1, .int .i64 2), (2, .int .i64 n)] 44 Go.Proofs.Try.func21 Go.Proofs.Try.ntmps21 rfl (by kernel_rfl) (by kernel_rfl) ?_
  intro act0 En0
  have Hv0 : Ev w [.box b [.slice au (List.length lu) cu, .bool fc, .slice ad (List.length ld) cd, .bool bc, .slice ah (List.length lh) ch, .slice ap (List.length lp) cp, .slice aq (List.length lq) cq, .bool fc, .bool fe, .slice ar (List.length lr) cr, .slice av (List.length lv) cv, .bool bc, .bool be] 66, .vec au cu 1 (bys lu) 5, .vec ad cd 1 (bys ld) 5, .vec ah ch 1 (bys lh) 5, .vec ap cp 1 (bys lp) 5, .vec aq cq 1 (bys lq) 5, .vec ar cr 1 (bys lr) 5, .vec av cv 1 (bys lv) 5] w [.box b [.slice au (List.length lu) cu, .bool fc, .slice ad (List.length ld) cd, .bool bc, .slice ah (List.length lh) ch, .slice ap (List.length lp) cp, .slice aq (List.length lq) cq, .bool fc, .bool fe, .slice ar (List.length lr) cr, .slice av (List.length lv) cv, .bool bc, .bool be] 66, .vec au cu 1 (bys lu) 5, .vec ad cd 1 (bys ld) 5, .vec ah ch 1 (bys lh) 5, .vec ap cp 1 (bys lp) 5, .vec aq cq 1 (bys lq) 5, .vec ar cr 1 (bys lr) 5, .vec av cv 1 (bys lv) 5] := Ev.refl (hH)
  refine wp_seq ?_
  refine region_from ?_  -- region 0
  refine d_pures [(0, .pointer (some ⟨b, 0, none⟩)), (1, .int .i64 2), (2, .int .i64 n), (6, .slice none 0 0)] [.slice none 0 0] 1 En0 (by kernel_rfl) (by kernel_rfl) rfl ?_
  intro ac1 En2
  refine from_end (by kernel_rfl) ?_
  refine then_normal ?_
  refine wp_seq ?_
  refine region_from ?_  -- region 1
  refine d_pures [(2, .int .i64 n), (6, .slice none 0 0), (12, .pointer (some ⟨b, 0, none⟩)), (13, .int .i64 2)] [.pointer (some ⟨b, 0, none⟩), .int .i64 2] 2 En2 (by kernel_rfl) (by kernel_rfl) rfl ?_
  intro ac3 En4
  refine from_op (by kernel_rfl) ?_
  have hM5 : Heap w [] := Hv0.heap.pick [] (by kernel_rfl) (by decide)
  refine op_call (d := some 14) (f := 36) (args := #[.pointer (some ⟨b, 0, none⟩), .int .i64 2]) En4 (by kernel_rfl) ((end2 _ b).mono ?_)
  rintro _ wo7 ⟨rfl, he10⟩
  refine ⟨_, rfl, ?_⟩
  intro ac6 En8
  have Hv9 : Ev w [.box b [.slice au (List.length lu) cu, .bool fc, .slice ad (List.length ld) cd, .bool bc, .slice ah (List.length lh) ch, .slice ap (List.length lp) cp, .slice aq (List.length lq) cq, .bool fc, .bool fe, .slice ar (List.length lr) cr, .slice av (List.length lv) cv, .bool bc, .bool be] 66, .vec au cu 1 (bys lu) 5, .vec ad cd 1 (bys ld) 5, .vec ah ch 1 (bys lh) 5, .vec ap cp 1 (bys lp) 5, .vec aq cq 1 (bys lq) 5, .vec ar cr 1 (bys lr) 5, .vec av cv 1 (bys lv) 5] wo7 [.box b [.slice au (List.length lu) cu, .bool fc, .slice ad (List.length ld) cd, .bool bc, .slice ah (List.length lh) ch, .slice ap (List.length lp) cp, .slice aq (List.length lq) cq, .bool fc, .bool fe, .slice ar (List.length lr) cr, .slice av (List.length lv) cv, .bool bc, .bool be] 66, .vec au cu 1 (bys lu) 5, .vec ad cd 1 (bys ld) 5, .vec ah ch 1 (bys lh) 5, .vec ap cp 1 (bys lp) 5, .vec aq cq 1 (bys lq) 5, .vec ar cr 1 (bys lr) 5, .vec av cv 1 (bys lv) 5] := Hv0.trans (Ev.call (R := [.box b [.slice au (List.length lu) cu, .bool fc, .slice ad (List.length ld) cd, .bool bc, .slice ah (List.length lh) ch, .slice ap (List.length lp) cp, .slice aq (List.length lq) cq, .bool fc, .bool fe, .slice ar (List.length lr) cr, .slice av (List.length lv) cv, .bool bc, .bool be] 66, .vec au cu 1 (bys lu) 5, .vec ad cd 1 (bys ld) 5, .vec ah ch 1 (bys lh) 5, .vec ap cp 1 (bys lp) 5, .vec aq cq 1 (bys lq) 5, .vec ar cr 1 (bys lr) 5, .vec av cv 1 (bys lv) 5]) Hv0.heap [0, 1, 2, 3, 4, 5, 6, 7] (by kernel_rfl) (by decide) he10)
  clear hM5 he10
  refine d_pures [(2, .int .i64 n), (6, .slice none 0 0), (7, .pointer (some ⟨b, 9, none⟩)), (9, .pointer (some ⟨b, 0, none⟩))] [.tuple #[.pointer (some ⟨b, 9, none⟩), .pointer (some ⟨b, 2, none⟩), .pointer (some ⟨b, 0, none⟩)], .pointer (some ⟨b, 9, none⟩), .pointer (some ⟨b, 2, none⟩), .pointer (some ⟨b, 0, none⟩), .pointer (some ⟨b, 9, none⟩), .pointer (some ⟨b, 2, none⟩), .pointer (some ⟨b, 0, none⟩)] 10 En8 (by kernel_rfl) (by kernel_rfl) rfl ?_
  intro ac11 En12
  refine from_end (by kernel_rfl) ?_
  refine then_normal ?_
  refine wp_seq ?_
  refine wp_seq ?_
  refine region_from ?_  -- region 2
  refine d_pures [(2, .int .i64 n), (6, .slice none 0 0), (7, .pointer (some ⟨b, 9, none⟩)), (9, .pointer (some ⟨b, 0, none⟩)), (19, .bool false)] [.pointer (some ⟨b, 9, none⟩), .bool false] 2 En12 (by kernel_rfl) (by kernel_rfl) rfl ?_
  intro ac13 En14
  refine from_end (by kernel_rfl) ?_
  refine then_normal ?_
  refine cond_false En14 (t := false) (by kernel_rfl) rfl ?_
  refine wp_skip ?_
  refine then_normal ?_
  refine wp_seq ?_
  refine region_from ?_  -- region 4
  refine d_pures [(6, .slice none 0 0), (7, .pointer (some ⟨b, 9, none⟩)), (9, .pointer (some ⟨b, 0, none⟩)), (20, .pointer (some ⟨b, 0, none⟩)), (21, .int .i64 n)] [.pointer (some ⟨b, 0, none⟩), .int .i64 n] 2 En14 (by kernel_rfl) (by kernel_rfl) rfl ?_
  intro ac15 En16
  refine from_op (by kernel_rfl) ?_
  have hM18 : Heap wo7 [.box b [.slice au (List.length lu) cu, .bool fc, .slice ad (List.length ld) cd, .bool bc, .slice ah (List.length lh) ch, .slice ap (List.length lp) cp, .slice aq (List.length lq) cq, .bool fc, .bool fe, .slice ar (List.length lr) cr, .slice av (List.length lv) cv, .bool bc, .bool be] 66, .vec au cu 1 (bys lu) 5] := Hv9.heap.pick [0, 1] (by kernel_rfl) (by decide)
  refine op_call (d := some 22) (f := 37) (args := #[.pointer (some ⟨b, 0, none⟩), .int .i64 n]) En16 (by kernel_rfl) ((take_u _ b au ad ah ap aq ar av cu cd ch cp cq cr cv lu ld lh lp lq lr lv fc fe bc be n hM18 (by omega)).mono ?_)
  rintro _ wo20 ⟨azq17, czq17, ayq17, cyq17, rfl, he23⟩
  refine ⟨_, rfl, ?_⟩
  intro ac19 En21
  have Hv22 : Ev w [.box b [.slice au (List.length lu) cu, .bool fc, .slice ad (List.length ld) cd, .bool bc, .slice ah (List.length lh) ch, .slice ap (List.length lp) cp, .slice aq (List.length lq) cq, .bool fc, .bool fe, .slice ar (List.length lr) cr, .slice av (List.length lv) cv, .bool bc, .bool be] 66, .vec au cu 1 (bys lu) 5, .vec ad cd 1 (bys ld) 5, .vec ah ch 1 (bys lh) 5, .vec ap cp 1 (bys lp) 5, .vec aq cq 1 (bys lq) 5, .vec ar cr 1 (bys lr) 5, .vec av cv 1 (bys lv) 5] wo20 [.box b [.slice azq17 (List.length (List.drop (clampN n (List.length lu)) lu)) czq17, .bool fc, .slice ad (List.length ld) cd, .bool bc, .slice ah (List.length lh) ch, .slice ap (List.length lp) cp, .slice aq (List.length lq) cq, .bool fc, .bool fe, .slice ar (List.length lr) cr, .slice av (List.length lv) cv, .bool bc, .bool be] 66, .vec azq17 czq17 1 (bys (List.drop (clampN n (List.length lu)) lu)) 5, .vec ayq17 cyq17 1 (bys (List.take (clampN n (List.length lu)) lu)) 5, .vec ad cd 1 (bys ld) 5, .vec ah ch 1 (bys lh) 5, .vec ap cp 1 (bys lp) 5, .vec aq cq 1 (bys lq) 5, .vec ar cr 1 (bys lr) 5, .vec av cv 1 (bys lv) 5] := Hv9.trans (Ev.call (R := [.vec ad cd 1 (bys ld) 5, .vec ah ch 1 (bys lh) 5, .vec ap cp 1 (bys lp) 5, .vec aq cq 1 (bys lq) 5, .vec ar cr 1 (bys lr) 5, .vec av cv 1 (bys lv) 5]) Hv9.heap [0, 1, 2, 3, 4, 5, 6, 7] (by kernel_rfl) (by decide) he23)
  clear hM18 he23
  refine d_pures [(6, .slice none 0 0), (7, .pointer (some ⟨b, 9, none⟩)), (9, .pointer (some ⟨b, 0, none⟩)), (10, .slice ayq17 (List.length (List.take (clampN n (List.length lu)) lu)) cyq17)] [.slice ayq17 (List.length (List.take (clampN n (List.length lu)) lu)) cyq17] 4 En21 (by kernel_rfl) (by kernel_rfl) rfl ?_
  intro ac24 En25
  refine from_end (by kernel_rfl) ?_
  refine then_normal ?_
  refine wp_seq ?_
  refine region_from ?_  -- region 5
  refine d_pures [(6, .slice none 0 0), (7, .pointer (some ⟨b, 9, none⟩)), (9, .pointer (some ⟨b, 0, none⟩)), (10, .slice ayq17 (List.length (List.take (clampN n (List.length lu)) lu)) cyq17), (23, .pointer (some ⟨b, 9, none⟩)), (26, .pointer (some ⟨b, 10, none⟩))] [.pointer (some ⟨b, 9, none⟩), .pointer (some ⟨b, 9, none⟩), .pointer (some ⟨b, 9, none⟩), .pointer (some ⟨b, 10, none⟩)] 4 En25 (by kernel_rfl) (by kernel_rfl) rfl ?_
  intro ac26 En27
  refine from_op (by kernel_rfl) ?_
  refine op_loadbox (d := some 27) (t := 22) (b := b) (off := 10) (k := 0) (v := .slice av (List.length lv) cv) En27 (by kernel_rfl) Hv22 rfl rfl (by kernel_rfl) ?_
  intro ac28 En29
  refine d_pures [(6, .slice none 0 0), (7, .pointer (some ⟨b, 9, none⟩)), (9, .pointer (some ⟨b, 0, none⟩)), (10, .slice ayq17 (List.length (List.take (clampN n (List.length lu)) lu)) cyq17), (23, .pointer (some ⟨b, 9, none⟩)), (27, .slice av (List.length lv) cv), (28, .slice ayq17 (List.length (List.take (clampN n (List.length lu)) lu)) cyq17)] [.slice ayq17 (List.length (List.take (clampN n (List.length lu)) lu)) cyq17] 6 En29 (by kernel_rfl) (by kernel_rfl) rfl ?_
  intro ac30 En31
  refine from_op (by kernel_rfl) ?_
  refine op_append (d := some 29) (t := 22) (tx := 22) (ty := 22) (k := 8) (p := List.length lv) (m := List.length (List.take (clampN n (List.length lu)) lu)) (x := .slice ayq17 (List.length (List.take (clampN n (List.length lu)) lu)) cyq17) (bytes := 1) En31 (by kernel_rfl) Hv22 rfl (bys_len _) (Reads.src (size := 1) (tx := 22) (e' := 5) (by kernel_rfl) (Hv22.heap.reads (k := 2) rfl) (bys_len _) (bys_vnz Hv22.heap (k := 2) rfl) (bys_one _)) (by kernel_rfl) (z := .int .u8 0) (by kernel_rfl) rfl (by decide) (by omega) (by unfold maxLen; omega) ?_
  intro ac36 wo37 ao32 cp33 En38 Hv39 _ _
  rw [← bys_append] at Hv39
  have ehz34 : (List.length lv) + (List.length (List.take (clampN n (List.length lu)) lu)) = List.length (lv ++ (List.take (clampN n (List.length lu)) lu)) := (by first | (simp; done) | (simp; omega) | omega)
  rw [ehz34] at En38
  refine d_pures [(6, .slice none 0 0), (7, .pointer (some ⟨b, 9, none⟩)), (9, .pointer (some ⟨b, 0, none⟩)), (10, .slice ayq17 (List.length (List.take (clampN n (List.length lu)) lu)) cyq17), (29, .slice ao32 (List.length (lv ++ (List.take (clampN n (List.length lu)) lu))) cp33), (31, .pointer (some ⟨b, 10, none⟩))] [.pointer (some ⟨b, 9, none⟩), .pointer (some ⟨b, 10, none⟩)] 9 En38 (by kernel_rfl) (by kernel_rfl) rfl ?_
  intro ac40 En41
  refine from_op (by kernel_rfl) ?_
  refine op_storebox2 (d := none) (t := 22) (b := b) (off := 10) (k := 0) (v := .slice ao32 (List.length (lv ++ (List.take (clampN n (List.length lu)) lu))) cp33) En41 (by kernel_rfl) Hv39 rfl rfl (by kernel_rfl) rfl rfl (L' := [.box b [.slice azq17 (List.length (List.drop (clampN n (List.length lu)) lu)) czq17, .bool fc, .slice ad (List.length ld) cd, .bool bc, .slice ah (List.length lh) ch, .slice ap (List.length lp) cp, .slice aq (List.length lq) cq, .bool fc, .bool fe, .slice ar (List.length lr) cr, .slice ao32 (List.length (lv ++ (List.take (clampN n (List.length lu)) lu))) cp33, .bool bc, .bool be] 66, .vec azq17 czq17 1 (bys (List.drop (clampN n (List.length lu)) lu)) 5, .vec ayq17 cyq17 1 (bys (List.take (clampN n (List.length lu)) lu)) 5, .vec ad cd 1 (bys ld) 5, .vec ah ch 1 (bys lh) 5, .vec ap cp 1 (bys lp) 5, .vec aq cq 1 (bys lq) 5, .vec ar cr 1 (bys lr) 5, .vec ao32 cp33 1 (bys (lv ++ (List.take (clampN n (List.length lu)) lu))) 5]) rfl ?_
  intro ac42 wo43  En44 Hv45
  refine from_end (by kernel_rfl) ?_
  refine then_normal ?_
  refine wp_seq ?_
  refine region_from ?_  -- region 6
  refine d_pures [(6, .slice none 0 0), (7, .pointer (some ⟨b, 9, none⟩)), (9, .pointer (some ⟨b, 0, none⟩)), (10, .slice ayq17 (List.length (List.take (clampN n (List.length lu)) lu)) cyq17), (32, .pointer (some ⟨b, 9, none⟩)), (35, .pointer (some ⟨b, 12, none⟩))] [.pointer (some ⟨b, 9, none⟩), .pointer (some ⟨b, 9, none⟩), .pointer (some ⟨b, 9, none⟩), .pointer (some ⟨b, 12, none⟩)] 4 En44 (by kernel_rfl) (by kernel_rfl) rfl ?_
  intro ac46 En47
  refine from_op (by kernel_rfl) ?_
  refine op_loadbox (d := some 36) (t := 4) (b := b) (off := 12) (k := 0) (v := .bool be) En47 (by kernel_rfl) Hv45 rfl rfl (by kernel_rfl) ?_
  intro ac48 En49
  refine d_pures [(6, .slice none 0 0), (7, .pointer (some ⟨b, 9, none⟩)), (9, .pointer (some ⟨b, 0, none⟩)), (10, .slice ayq17 (List.length (List.take (clampN n (List.length lu)) lu)) cyq17), (32, .pointer (some ⟨b, 9, none⟩)), (37, .bool be)] [.bool be] 6 En49 (by kernel_rfl) (by kernel_rfl) rfl ?_
  intro ac50 En51
  rcases Bool.eq_false_or_eq_true (be) with hb52 | hb52
  · rw [hb52] at En51
    have hp53 : be = true := hb52
    refine d_pures [(6, .slice none 0 0), (7, .pointer (some ⟨b, 9, none⟩)), (9, .pointer (some ⟨b, 0, none⟩)), (10, .slice ayq17 (List.length (List.take (clampN n (List.length lu)) lu)) cyq17), (40, .bool true), (42, .pointer (some ⟨b, 12, none⟩))] [undef, undef, .bool true, .pointer (some ⟨b, 9, none⟩), .pointer (some ⟨b, 12, none⟩)] 11 En51 (by kernel_rfl) (by kernel_rfl) rfl ?_
    intro ac54 En55
    refine from_op (by kernel_rfl) ?_
    refine op_storebox2 (d := none) (t := 4) (b := b) (off := 12) (k := 0) (v := .bool true) En55 (by kernel_rfl) Hv45 rfl rfl (by kernel_rfl) rfl rfl (L' := [.box b [.slice azq17 (List.length (List.drop (clampN n (List.length lu)) lu)) czq17, .bool fc, .slice ad (List.length ld) cd, .bool bc, .slice ah (List.length lh) ch, .slice ap (List.length lp) cp, .slice aq (List.length lq) cq, .bool fc, .bool fe, .slice ar (List.length lr) cr, .slice ao32 (List.length (lv ++ (List.take (clampN n (List.length lu)) lu))) cp33, .bool bc, .bool true] 66, .vec azq17 czq17 1 (bys (List.drop (clampN n (List.length lu)) lu)) 5, .vec ayq17 cyq17 1 (bys (List.take (clampN n (List.length lu)) lu)) 5, .vec ad cd 1 (bys ld) 5, .vec ah ch 1 (bys lh) 5, .vec ap cp 1 (bys lp) 5, .vec aq cq 1 (bys lq) 5, .vec ar cr 1 (bys lr) 5, .vec ao32 cp33 1 (bys (lv ++ (List.take (clampN n (List.length lu)) lu))) 5]) rfl ?_
    intro ac56 wo57  En58 Hv59
    refine from_end (by kernel_rfl) ?_
    refine then_normal ?_
    refine wp_seq ?_
    refine region_from ?_  -- region 7
    refine d_pures [(6, .slice ayq17 (List.length (List.take (clampN n (List.length lu)) lu)) cyq17), (7, .pointer (some ⟨b, 9, none⟩)), (9, .pointer (some ⟨b, 0, none⟩)), (10, .slice ayq17 (List.length (List.take (clampN n (List.length lu)) lu)) cyq17)] [.slice ayq17 (List.length (List.take (clampN n (List.length lu)) lu)) cyq17, .slice ayq17 (List.length (List.take (clampN n (List.length lu)) lu)) cyq17] 2 En58 (by kernel_rfl) (by kernel_rfl) rfl ?_
    intro ac60 En61
    refine from_end (by kernel_rfl) ?_
    refine then_normal ?_
    refine wp_ret ?_
    refine d_ret1 (t := 6) (v := .slice ayq17 (List.length (List.take (clampN n (List.length lu)) lu)) cyq17) En61 (by kernel_rfl) (by kernel_rfl) ?_
    try simp at hp53
    exact ⟨azq17, ad, ah, ap, aq, ar, ao32, czq17, cd, ch, cp, cq, cr, cp33, (List.drop (clampN n (List.length lu)) lu), ld, lh, lp, lq, lr, (lv ++ (List.take (clampN n (List.length lu)) lu)), fc, fe, bc, true, ayq17, cyq17, (List.take (clampN n (List.length lu)) lu), rfl, Hv59.pick [0, 1, 3, 4, 5, 6, 7, 8, 2] (by kernel_rfl) (by decide), by simp [Rel.read, hp53], by simp [Rel.out]⟩
  · rw [hb52] at En51
    have hp62 : ¬ (be = true) := Bool.eq_false_iff.1 hb52
    refine d_pures [(6, .slice none 0 0), (7, .pointer (some ⟨b, 9, none⟩)), (9, .pointer (some ⟨b, 0, none⟩)), (10, .slice ayq17 (List.length (List.take (clampN n (List.length lu)) lu)) cyq17), (32, .pointer (some ⟨b, 9, none⟩)), (37, .bool false), (38, .pointer (some ⟨b, 0, none⟩))] [.pointer (some ⟨b, 0, none⟩)] 7 En51 (by kernel_rfl) (by kernel_rfl) rfl ?_
    intro ac63 En64
    refine from_op (by kernel_rfl) ?_
    have hM65 : Heap wo43 [.box b [.slice azq17 (List.length (List.drop (clampN n (List.length lu)) lu)) czq17, .bool fc, .slice ad (List.length ld) cd, .bool bc, .slice ah (List.length lh) ch, .slice ap (List.length lp) cp, .slice aq (List.length lq) cq, .bool fc, .bool fe, .slice ar (List.length lr) cr, .slice ao32 (List.length (lv ++ (List.take (clampN n (List.length lu)) lu))) cp33, .bool bc, .bool be] 66] := Hv45.heap.pick [0] (by kernel_rfl) (by decide)
    refine op_call (d := some 39) (f := 38) (args := #[.pointer (some ⟨b, 0, none⟩)]) En64 (by kernel_rfl) ((done_u _ b azq17 ad ah ap aq ar ao32 czq17 cd ch cp cq cr cp33 (List.drop (clampN n (List.length lu)) lu) ld lh lp lq lr (lv ++ (List.take (clampN n (List.length lu)) lu)) fc fe bc be hM65).mono ?_)
    rintro _ wo67 ⟨rfl, he70⟩
    refine ⟨_, rfl, ?_⟩
    intro ac66 En68
    have Hv69 : Ev w [.box b [.slice au (List.length lu) cu, .bool fc, .slice ad (List.length ld) cd, .bool bc, .slice ah (List.length lh) ch, .slice ap (List.length lp) cp, .slice aq (List.length lq) cq, .bool fc, .bool fe, .slice ar (List.length lr) cr, .slice av (List.length lv) cv, .bool bc, .bool be] 66, .vec au cu 1 (bys lu) 5, .vec ad cd 1 (bys ld) 5, .vec ah ch 1 (bys lh) 5, .vec ap cp 1 (bys lp) 5, .vec aq cq 1 (bys lq) 5, .vec ar cr 1 (bys lr) 5, .vec av cv 1 (bys lv) 5] wo67 [.box b [.slice azq17 (List.length (List.drop (clampN n (List.length lu)) lu)) czq17, .bool fc, .slice ad (List.length ld) cd, .bool bc, .slice ah (List.length lh) ch, .slice ap (List.length lp) cp, .slice aq (List.length lq) cq, .bool fc, .bool fe, .slice ar (List.length lr) cr, .slice ao32 (List.length (lv ++ (List.take (clampN n (List.length lu)) lu))) cp33, .bool bc, .bool be] 66, .vec azq17 czq17 1 (bys (List.drop (clampN n (List.length lu)) lu)) 5, .vec ayq17 cyq17 1 (bys (List.take (clampN n (List.length lu)) lu)) 5, .vec ad cd 1 (bys ld) 5, .vec ah ch 1 (bys lh) 5, .vec ap cp 1 (bys lp) 5, .vec aq cq 1 (bys lq) 5, .vec ar cr 1 (bys lr) 5, .vec ao32 cp33 1 (bys (lv ++ (List.take (clampN n (List.length lu)) lu))) 5] := Hv45.trans (Ev.call (R := [.vec azq17 czq17 1 (bys (List.drop (clampN n (List.length lu)) lu)) 5, .vec ayq17 cyq17 1 (bys (List.take (clampN n (List.length lu)) lu)) 5, .vec ad cd 1 (bys ld) 5, .vec ah ch 1 (bys lh) 5, .vec ap cp 1 (bys lp) 5, .vec aq cq 1 (bys lq) 5, .vec ar cr 1 (bys lr) 5, .vec ao32 cp33 1 (bys (lv ++ (List.take (clampN n (List.length lu)) lu))) 5]) Hv45.heap [0, 1, 2, 3, 4, 5, 6, 7, 8] (by kernel_rfl) (by decide) he70)
    clear hM65 he70
    refine d_pures [(6, .slice none 0 0), (7, .pointer (some ⟨b, 9, none⟩)), (9, .pointer (some ⟨b, 0, none⟩)), (10, .slice ayq17 (List.length (List.take (clampN n (List.length lu)) lu)) cyq17), (40, .bool (decide (List.length (List.drop (clampN n (List.length lu)) lu) = 0) && fc)), (42, .pointer (some ⟨b, 12, none⟩))] [.bool (decide (List.length (List.drop (clampN n (List.length lu)) lu) = 0) && fc), .pointer (some ⟨b, 9, none⟩), .pointer (some ⟨b, 12, none⟩)] 11 En68 (by kernel_rfl) (by kernel_rfl) rfl ?_
    intro ac71 En72
    refine from_op (by kernel_rfl) ?_
    refine op_storebox2 (d := none) (t := 4) (b := b) (off := 12) (k := 0) (v := .bool (decide (List.length (List.drop (clampN n (List.length lu)) lu) = 0) && fc)) En72 (by kernel_rfl) Hv69 rfl rfl (by kernel_rfl) rfl rfl (L' := [.box b [.slice azq17 (List.length (List.drop (clampN n (List.length lu)) lu)) czq17, .bool fc, .slice ad (List.length ld) cd, .bool bc, .slice ah (List.length lh) ch, .slice ap (List.length lp) cp, .slice aq (List.length lq) cq, .bool fc, .bool fe, .slice ar (List.length lr) cr, .slice ao32 (List.length (lv ++ (List.take (clampN n (List.length lu)) lu))) cp33, .bool bc, .bool (decide (List.length (List.drop (clampN n (List.length lu)) lu) = 0) && fc)] 66, .vec azq17 czq17 1 (bys (List.drop (clampN n (List.length lu)) lu)) 5, .vec ayq17 cyq17 1 (bys (List.take (clampN n (List.length lu)) lu)) 5, .vec ad cd 1 (bys ld) 5, .vec ah ch 1 (bys lh) 5, .vec ap cp 1 (bys lp) 5, .vec aq cq 1 (bys lq) 5, .vec ar cr 1 (bys lr) 5, .vec ao32 cp33 1 (bys (lv ++ (List.take (clampN n (List.length lu)) lu))) 5]) rfl ?_
    intro ac73 wo74  En75 Hv76
    refine from_end (by kernel_rfl) ?_
    refine then_normal ?_
    refine wp_seq ?_
    refine region_from ?_  -- region 7
    refine d_pures [(6, .slice ayq17 (List.length (List.take (clampN n (List.length lu)) lu)) cyq17), (7, .pointer (some ⟨b, 9, none⟩)), (9, .pointer (some ⟨b, 0, none⟩)), (10, .slice ayq17 (List.length (List.take (clampN n (List.length lu)) lu)) cyq17)] [.slice ayq17 (List.length (List.take (clampN n (List.length lu)) lu)) cyq17, .slice ayq17 (List.length (List.take (clampN n (List.length lu)) lu)) cyq17] 2 En75 (by kernel_rfl) (by kernel_rfl) rfl ?_
    intro ac77 En78
    refine from_end (by kernel_rfl) ?_
    refine then_normal ?_
    refine wp_ret ?_
    refine d_ret1 (t := 6) (v := .slice ayq17 (List.length (List.take (clampN n (List.length lu)) lu)) cyq17) En78 (by kernel_rfl) (by kernel_rfl) ?_
    try simp at hp62
    exact ⟨azq17, ad, ah, ap, aq, ar, ao32, czq17, cd, ch, cp, cq, cr, cp33, (List.drop (clampN n (List.length lu)) lu), ld, lh, lp, lq, lr, (lv ++ (List.take (clampN n (List.length lu)) lu)), fc, fe, bc, (decide (List.length (List.drop (clampN n (List.length lu)) lu) = 0) && fc), ayq17, cyq17, (List.take (clampN n (List.length lu)) lu), rfl, Hv76.pick [0, 1, 3, 4, 5, 6, 7, 8, 2] (by kernel_rfl) (by decide), by simp [Rel.read, hp62], by simp [Rel.out]⟩

theorem xreadx (w : World) (b : Nat) (au ad ah ap aq ar av : Option Addr) (cu cd ch cp cq cr cv : Nat) (lu ld lh lp lq lr lv : List UInt8) (fc fe bc be : Bool) (n : Int) (sd : Int) (h1 : ¬ sd = 1) (h2 : ¬ sd = 2) (hH : Heap w [.box b [.slice au (List.length lu) cu, .bool fc, .slice ad (List.length ld) cd, .bool bc, .slice ah (List.length lh) ch, .slice ap (List.length lp) cp, .slice aq (List.length lq) cq, .bool fc, .bool fe, .slice ar (List.length lr) cr, .slice av (List.length lv) cv, .bool bc, .bool be] 66, .vec au cu 1 (bys lu) 5, .vec ad cd 1 (bys ld) 5, .vec ah ch 1 (bys lh) 5, .vec ap cp 1 (bys lp) 5, .vec aq cq 1 (bys lq) 5, .vec ar cr 1 (bys lr) 5, .vec av cv 1 (bys lv) 5]) (hS : List.length lu + List.length ld + List.length lh + List.length lp + List.length lq + List.length lr + List.length lv ≤ 140737488351232) : Calls Try.prog 21 #[.pointer (some ⟨b, 0, none⟩), .int .i64 sd, .int .i64 n] w fun e w' => ∃ au0 ad0 ah0 ap0 aq0 ar0 av0, ∃ cu0 cd0 ch0 cp0 cq0 cr0 cv0, ∃ (lu0 : List UInt8) (ld0 : List UInt8) (lh0 : List UInt8) (lp0 : List UInt8) (lq0 : List UInt8) (lr0 : List UInt8) (lv0 : List UInt8), ∃ (fc0 : Bool) (fe0 : Bool) (bc0 : Bool) (be0 : Bool), ∃ ao co lo, e = .returned (.slice ao (List.length lo) co) ∧ Ev w [.box b [.slice au (List.length lu) cu, .bool fc, .slice ad (List.length ld) cd, .bool bc, .slice ah (List.length lh) ch, .slice ap (List.length lp) cp, .slice aq (List.length lq) cq, .bool fc, .bool fe, .slice ar (List.length lr) cr, .slice av (List.length lv) cv, .bool bc, .bool be] 66, .vec au cu 1 (bys lu) 5, .vec ad cd 1 (bys ld) 5, .vec ah ch 1 (bys lh) 5, .vec ap cp 1 (bys lp) 5, .vec aq cq 1 (bys lq) 5, .vec ar cr 1 (bys lr) 5, .vec av cv 1 (bys lv) 5] w' [.box b [.slice au0 (List.length lu0) cu0, .bool fc0, .slice ad0 (List.length ld0) cd0, .bool bc0, .slice ah0 (List.length lh0) ch0, .slice ap0 (List.length lp0) cp0, .slice aq0 (List.length lq0) cq0, .bool fc0, .bool fe0, .slice ar0 (List.length lr0) cr0, .slice av0 (List.length lv0) cv0, .bool bc0, .bool be0] 66, .vec au0 cu0 1 (bys lu0) 5, .vec ad0 cd0 1 (bys ld0) 5, .vec ah0 ch0 1 (bys lh0) 5, .vec ap0 cp0 1 (bys lp0) 5, .vec aq0 cq0 1 (bys lq0) 5, .vec ar0 cr0 1 (bys lr0) 5, .vec av0 cv0 1 (bys lv0) 5, .vec ao co 1 (bys lo) 5] ∧ (⟨lu0, ld0, lh0, lp0, lq0, fc0, fe0, lr0, lv0, bc0, be0⟩ : Rel) = Rel.read (⟨lu, ld, lh, lp, lq, fc, fe, lr, lv, bc, be⟩ : Rel) sd n ∧ lo = Rel.out (⟨lu, ld, lh, lp, lq, fc, fe, lr, lv, bc, be⟩ : Rel) sd n := by
  have hcu := clampN_le n (List.length lu)
  have hcd := clampN_le n (List.length ld)
  have hmu : (List.take (clampN n (List.length lu)) lu).length = clampN n (List.length lu) := by rw [List.length_take]; omega
  have hmd : (List.take (clampN n (List.length ld)) ld).length = clampN n (List.length ld) := by rw [List.length_take]; omega
  refine d_start [(0, .pointer (some ⟨b, 0, none⟩)), (1, .int .i64 sd), (2, .int .i64 n)] 44 Go.Proofs.Try.func21 Go.Proofs.Try.ntmps21 rfl (by kernel_rfl) (by kernel_rfl) ?_
  intro act0 En0
  have Hv0 : Ev w [.box b [.slice au (List.length lu) cu, .bool fc, .slice ad (List.length ld) cd, .bool bc, .slice ah (List.length lh) ch, .slice ap (List.length lp) cp, .slice aq (List.length lq) cq, .bool fc, .bool fe, .slice ar (List.length lr) cr, .slice av (List.length lv) cv, .bool bc, .bool be] 66, .vec au cu 1 (bys lu) 5, .vec ad cd 1 (bys ld) 5, .vec ah ch 1 (bys lh) 5, .vec ap cp 1 (bys lp) 5, .vec aq cq 1 (bys lq) 5, .vec ar cr 1 (bys lr) 5, .vec av cv 1 (bys lv) 5] w [.box b [.slice au (List.length lu) cu, .bool fc, .slice ad (List.length ld) cd, .bool bc, .slice ah (List.length lh) ch, .slice ap (List.length lp) cp, .slice aq (List.length lq) cq, .bool fc, .bool fe, .slice ar (List.length lr) cr, .slice av (List.length lv) cv, .bool bc, .bool be] 66, .vec au cu 1 (bys lu) 5, .vec ad cd 1 (bys ld) 5, .vec ah ch 1 (bys lh) 5, .vec ap cp 1 (bys lp) 5, .vec aq cq 1 (bys lq) 5, .vec ar cr 1 (bys lr) 5, .vec av cv 1 (bys lv) 5] := Ev.refl (hH)
  refine wp_seq ?_
  refine region_from ?_  -- region 0
  refine d_pures [(0, .pointer (some ⟨b, 0, none⟩)), (1, .int .i64 sd), (2, .int .i64 n), (6, .slice none 0 0)] [.slice none 0 0] 1 En0 (by kernel_rfl) (by kernel_rfl) rfl ?_
  intro ac1 En2
  refine from_end (by kernel_rfl) ?_
  refine then_normal ?_
  refine wp_seq ?_
  refine region_from ?_  -- region 1
  refine d_pures [(2, .int .i64 n), (6, .slice none 0 0), (12, .pointer (some ⟨b, 0, none⟩)), (13, .int .i64 sd)] [.pointer (some ⟨b, 0, none⟩), .int .i64 sd] 2 En2 (by kernel_rfl) (by kernel_rfl) rfl ?_
  intro ac3 En4
  refine from_op (by kernel_rfl) ?_
  have hM5 : Heap w [] := Hv0.heap.pick [] (by kernel_rfl) (by decide)
  refine op_call (d := some 14) (f := 36) (args := #[.pointer (some ⟨b, 0, none⟩), .int .i64 sd]) En4 (by kernel_rfl) ((endx _ b sd h1 h2).mono ?_)
  rintro _ wo7 ⟨rfl, he10⟩
  refine ⟨_, rfl, ?_⟩
  intro ac6 En8
  have Hv9 : Ev w [.box b [.slice au (List.length lu) cu, .bool fc, .slice ad (List.length ld) cd, .bool bc, .slice ah (List.length lh) ch, .slice ap (List.length lp) cp, .slice aq (List.length lq) cq, .bool fc, .bool fe, .slice ar (List.length lr) cr, .slice av (List.length lv) cv, .bool bc, .bool be] 66, .vec au cu 1 (bys lu) 5, .vec ad cd 1 (bys ld) 5, .vec ah ch 1 (bys lh) 5, .vec ap cp 1 (bys lp) 5, .vec aq cq 1 (bys lq) 5, .vec ar cr 1 (bys lr) 5, .vec av cv 1 (bys lv) 5] wo7 [.box b [.slice au (List.length lu) cu, .bool fc, .slice ad (List.length ld) cd, .bool bc, .slice ah (List.length lh) ch, .slice ap (List.length lp) cp, .slice aq (List.length lq) cq, .bool fc, .bool fe, .slice ar (List.length lr) cr, .slice av (List.length lv) cv, .bool bc, .bool be] 66, .vec au cu 1 (bys lu) 5, .vec ad cd 1 (bys ld) 5, .vec ah ch 1 (bys lh) 5, .vec ap cp 1 (bys lp) 5, .vec aq cq 1 (bys lq) 5, .vec ar cr 1 (bys lr) 5, .vec av cv 1 (bys lv) 5] := Hv0.trans (Ev.call (R := [.box b [.slice au (List.length lu) cu, .bool fc, .slice ad (List.length ld) cd, .bool bc, .slice ah (List.length lh) ch, .slice ap (List.length lp) cp, .slice aq (List.length lq) cq, .bool fc, .bool fe, .slice ar (List.length lr) cr, .slice av (List.length lv) cv, .bool bc, .bool be] 66, .vec au cu 1 (bys lu) 5, .vec ad cd 1 (bys ld) 5, .vec ah ch 1 (bys lh) 5, .vec ap cp 1 (bys lp) 5, .vec aq cq 1 (bys lq) 5, .vec ar cr 1 (bys lr) 5, .vec av cv 1 (bys lv) 5]) Hv0.heap [0, 1, 2, 3, 4, 5, 6, 7] (by kernel_rfl) (by decide) he10)
  clear hM5 he10
  refine d_pures [(2, .int .i64 n), (6, .slice none 0 0), (7, .pointer none), (9, .pointer none)] [.tuple #[.pointer none, .pointer none, .pointer none], .pointer none, .pointer none, .pointer none, .pointer none, .pointer none, .pointer none] 10 En8 (by kernel_rfl) (by kernel_rfl) rfl ?_
  intro ac11 En12
  refine from_end (by kernel_rfl) ?_
  refine then_normal ?_
  refine wp_seq ?_
  refine wp_seq ?_
  refine region_from ?_  -- region 2
  refine d_pures [(2, .int .i64 n), (6, .slice none 0 0), (7, .pointer none), (9, .pointer none), (19, .bool true)] [.pointer none, .bool true] 2 En12 (by kernel_rfl) (by kernel_rfl) rfl ?_
  intro ac13 En14
  refine from_end (by kernel_rfl) ?_
  refine then_normal ?_
  refine cond_true En14 (t := true) (by kernel_rfl) rfl ?_
  refine wp_seq ?_
  refine region_from ?_  -- region 3
  refine d_pures [(2, .int .i64 n), (6, .slice none 0 0), (7, .pointer none), (9, .pointer none)] [.slice none 0 0] 1 En14 (by kernel_rfl) (by kernel_rfl) rfl ?_
  intro ac15 En16
  refine from_end (by kernel_rfl) ?_
  refine then_normal ?_
  refine wp_ret ?_
  refine then_ret ?_
  refine d_ret1 (t := 6) (v := .slice none 0 0) En16 (by kernel_rfl) (by kernel_rfl) ?_
  have Hv17 := Ev.nil (sz := 1) (T := 5) Hv9
  exact ⟨au, ad, ah, ap, aq, ar, av, cu, cd, ch, cp, cq, cr, cv, lu, ld, lh, lp, lq, lr, lv, fc, fe, bc, be, none, 0, [], rfl, Hv17.pick [0, 1, 2, 3, 4, 5, 6, 7, 8] (by kernel_rfl) (by decide), by simp [Rel.read, h1, h2], by simp [Rel.out, h1, h2]⟩

theorem xread (w : World) (b : Nat) (au ad ah ap aq ar av : Option Addr) (cu cd ch cp cq cr cv : Nat) (lu ld lh lp lq lr lv : List UInt8) (fc fe bc be : Bool) (n : Int) (sd : Int) (hH : Heap w [.box b [.slice au (List.length lu) cu, .bool fc, .slice ad (List.length ld) cd, .bool bc, .slice ah (List.length lh) ch, .slice ap (List.length lp) cp, .slice aq (List.length lq) cq, .bool fc, .bool fe, .slice ar (List.length lr) cr, .slice av (List.length lv) cv, .bool bc, .bool be] 66, .vec au cu 1 (bys lu) 5, .vec ad cd 1 (bys ld) 5, .vec ah ch 1 (bys lh) 5, .vec ap cp 1 (bys lp) 5, .vec aq cq 1 (bys lq) 5, .vec ar cr 1 (bys lr) 5, .vec av cv 1 (bys lv) 5]) (hS : List.length lu + List.length ld + List.length lh + List.length lp + List.length lq + List.length lr + List.length lv ≤ 140737488351232) : Calls Try.prog 21 #[.pointer (some ⟨b, 0, none⟩), .int .i64 sd, .int .i64 n] w fun e w' => ∃ au0 ad0 ah0 ap0 aq0 ar0 av0, ∃ cu0 cd0 ch0 cp0 cq0 cr0 cv0, ∃ (lu0 : List UInt8) (ld0 : List UInt8) (lh0 : List UInt8) (lp0 : List UInt8) (lq0 : List UInt8) (lr0 : List UInt8) (lv0 : List UInt8), ∃ (fc0 : Bool) (fe0 : Bool) (bc0 : Bool) (be0 : Bool), ∃ ao co lo, e = .returned (.slice ao (List.length lo) co) ∧ Ev w [.box b [.slice au (List.length lu) cu, .bool fc, .slice ad (List.length ld) cd, .bool bc, .slice ah (List.length lh) ch, .slice ap (List.length lp) cp, .slice aq (List.length lq) cq, .bool fc, .bool fe, .slice ar (List.length lr) cr, .slice av (List.length lv) cv, .bool bc, .bool be] 66, .vec au cu 1 (bys lu) 5, .vec ad cd 1 (bys ld) 5, .vec ah ch 1 (bys lh) 5, .vec ap cp 1 (bys lp) 5, .vec aq cq 1 (bys lq) 5, .vec ar cr 1 (bys lr) 5, .vec av cv 1 (bys lv) 5] w' [.box b [.slice au0 (List.length lu0) cu0, .bool fc0, .slice ad0 (List.length ld0) cd0, .bool bc0, .slice ah0 (List.length lh0) ch0, .slice ap0 (List.length lp0) cp0, .slice aq0 (List.length lq0) cq0, .bool fc0, .bool fe0, .slice ar0 (List.length lr0) cr0, .slice av0 (List.length lv0) cv0, .bool bc0, .bool be0] 66, .vec au0 cu0 1 (bys lu0) 5, .vec ad0 cd0 1 (bys ld0) 5, .vec ah0 ch0 1 (bys lh0) 5, .vec ap0 cp0 1 (bys lp0) 5, .vec aq0 cq0 1 (bys lq0) 5, .vec ar0 cr0 1 (bys lr0) 5, .vec av0 cv0 1 (bys lv0) 5, .vec ao co 1 (bys lo) 5] ∧ (⟨lu0, ld0, lh0, lp0, lq0, fc0, fe0, lr0, lv0, bc0, be0⟩ : Rel) = Rel.read (⟨lu, ld, lh, lp, lq, fc, fe, lr, lv, bc, be⟩ : Rel) sd n ∧ lo = Rel.out (⟨lu, ld, lh, lp, lq, fc, fe, lr, lv, bc, be⟩ : Rel) sd n := by
  by_cases h1 : sd = 1
  · subst h1; exact xread1 w b au ad ah ap aq ar av cu cd ch cp cq cr cv lu ld lh lp lq lr lv fc fe bc be n hH hS
  · by_cases h2 : sd = 2
    · subst h2; exact xread2 w b au ad ah ap aq ar av cu cd ch cp cq cr cv lu ld lh lp lq lr lv fc fe bc be n hH hS
    · exact xreadx w b au ad ah ap aq ar av cu cd ch cp cq cr cv lu ld lh lp lq lr lv fc fe bc be n sd h1 h2 hH hS
end Go.Proofs.Ytjecaljhipfbfaa
