/- Ideal relays: the reads of the reference. -/
import Derived.Test.YtjecaljhipfbfaaJ8
namespace Go.Proofs.Ytjecaljhipfbfaa
open Go.Dbr
set_option maxRecDepth 100000
set_option maxHeartbeats 2000000
set_option linter.unusedVariables false
set_option linter.unusedSimpArgs false

theorem yread1 (w : World) (b : Nat) (au ad ah ap aq ar av : Option Addr) (cu cd ch cp cq cr cv : Nat) (lu ld lh lp lq lr lv : List UInt8) (fc fe bc be : Bool) (n : Int) (hH : Heap w [.box b [.slice au (List.length lu) cu, .slice ad (List.length ld) cd, .slice ah (List.length lh) ch, .slice ap (List.length lp) cp, .slice aq (List.length lq) cq, .bool fc, .bool fe, .slice ar (List.length lr) cr, .slice av (List.length lv) cv, .bool bc, .bool be] 53, .vec au cu 1 (bys lu) 5, .vec ad cd 1 (bys ld) 5, .vec ah ch 1 (bys lh) 5, .vec ap cp 1 (bys lp) 5, .vec aq cq 1 (bys lq) 5, .vec ar cr 1 (bys lr) 5, .vec av cv 1 (bys lv) 5]) (hS : List.length lu + List.length ld + List.length lh + List.length lp + List.length lq + List.length lr + List.length lv ≤ 140737488351232) : Calls Try.prog 22 #[.pointer (some ⟨b, 0, none⟩), .int .i64 1, .int .i64 n] w fun e w' => ∃ au0 ad0 ah0 ap0 aq0 ar0 av0, ∃ cu0 cd0 ch0 cp0 cq0 cr0 cv0, ∃ (lu0 : List UInt8) (ld0 : List UInt8) (lh0 : List UInt8) (lp0 : List UInt8) (lq0 : List UInt8) (lr0 : List UInt8) (lv0 : List UInt8), ∃ (fc0 : Bool) (fe0 : Bool) (bc0 : Bool) (be0 : Bool), ∃ ao co lo, e = .returned (.slice ao (List.length lo) co) ∧ Ev w [.box b [.slice au (List.length lu) cu, .slice ad (List.length ld) cd, .slice ah (List.length lh) ch, .slice ap (List.length lp) cp, .slice aq (List.length lq) cq, .bool fc, .bool fe, .slice ar (List.length lr) cr, .slice av (List.length lv) cv, .bool bc, .bool be] 53, .vec au cu 1 (bys lu) 5, .vec ad cd 1 (bys ld) 5, .vec ah ch 1 (bys lh) 5, .vec ap cp 1 (bys lp) 5, .vec aq cq 1 (bys lq) 5, .vec ar cr 1 (bys lr) 5, .vec av cv 1 (bys lv) 5] w' [.box b [.slice au0 (List.length lu0) cu0, .slice ad0 (List.length ld0) cd0, .slice ah0 (List.length lh0) ch0, .slice ap0 (List.length lp0) cp0, .slice aq0 (List.length lq0) cq0, .bool fc0, .bool fe0, .slice ar0 (List.length lr0) cr0, .slice av0 (List.length lv0) cv0, .bool bc0, .bool be0] 53, .vec au0 cu0 1 (bys lu0) 5, .vec ad0 cd0 1 (bys ld0) 5, .vec ah0 ch0 1 (bys lh0) 5, .vec ap0 cp0 1 (bys lp0) 5, .vec aq0 cq0 1 (bys lq0) 5, .vec ar0 cr0 1 (bys lr0) 5, .vec av0 cv0 1 (bys lv0) 5, .vec ao co 1 (bys lo) 5] ∧ (⟨lu0, ld0, lh0, lp0, lq0, fc0, fe0, lr0, lv0, bc0, be0⟩ : Rel) = Rel.read (⟨lu, ld, lh, lp, lq, fc, fe, lr, lv, bc, be⟩ : Rel) 1 n ∧ lo = Rel.out (⟨lu, ld, lh, lp, lq, fc, fe, lr, lv, bc, be⟩ : Rel) 1 n := by
  have hcu := clampN_le n (List.length lu)
  have hcd := clampN_le n (List.length ld)
  have hmu : (List.take (clampN n (List.length lu)) lu).length = clampN n (List.length lu) := by rw [List.length_take]; omega
  have hmd : (List.take (clampN n (List.length ld)) ld).length = clampN n (List.length ld) := by rw [List.length_take]; omega
  refine d_start [(0, .pointer (some ⟨b, 0, none⟩)), (1, .int .i64 1), (2, .int .i64 n)] 118 Go.Proofs.Try.func22 Go.Proofs.Try.ntmps22 rfl (by kernel_rfl) (by kernel_rfl) ?_
  intro act0 En0
  have Hv0 : Ev w [.box b [.slice au (List.length lu) cu, .slice ad (List.length ld) cd, .slice ah (List.length lh) ch, .slice ap (List.length lp) cp, .slice aq (List.length lq) cq, .bool fc, .bool fe, .slice ar (List.length lr) cr, .slice av (List.length lv) cv, .bool bc, .bool be] 53, .vec au cu 1 (bys lu) 5, .vec ad cd 1 (bys ld) 5, .vec ah ch 1 (bys lh) 5, .vec ap cp 1 (bys lp) 5, .vec aq cq 1 (bys lq) 5, .vec ar cr 1 (bys lr) 5, .vec av cv 1 (bys lv) 5] w [.box b [.slice au (List.length lu) cu, .slice ad (List.length ld) cd, .slice ah (List.length lh) ch, .slice ap (List.length lp) cp, .slice aq (List.length lq) cq, .bool fc, .bool fe, .slice ar (List.length lr) cr, .slice av (List.length lv) cv, .bool bc, .bool be] 53, .vec au cu 1 (bys lu) 5, .vec ad cd 1 (bys ld) 5, .vec ah ch 1 (bys lh) 5, .vec ap cp 1 (bys lp) 5, .vec aq cq 1 (bys lq) 5, .vec ar cr 1 (bys lr) 5, .vec av cv 1 (bys lv) 5] := Ev.refl (hH)
  refine wp_seq ?_
  refine region_from ?_  -- region 0
  refine d_pures [(0, .pointer (some ⟨b, 0, none⟩)), (1, .int .i64 1), (2, .int .i64 n), (6, .slice none 0 0)] [.slice none 0 0] 1 En0 (by kernel_rfl) (by kernel_rfl) rfl ?_
  intro ac1 En2
  refine from_end (by kernel_rfl) ?_
  refine then_normal ?_
  refine wp_seq ?_
  refine region_from ?_  -- region 1
  refine d_pures [(0, .pointer (some ⟨b, 0, none⟩)), (1, .int .i64 1), (2, .int .i64 n), (6, .slice none 0 0), (7, .slice none 0 0)] [.slice none 0 0] 1 En2 (by kernel_rfl) (by kernel_rfl) rfl ?_
  intro ac3 En4
  refine from_end (by kernel_rfl) ?_
  refine then_normal ?_
  refine wp_seq ?_
  refine wp_seq ?_
  refine region_from ?_  -- region 2
  refine d_pures [(0, .pointer (some ⟨b, 0, none⟩)), (2, .int .i64 n), (6, .slice none 0 0), (7, .slice none 0 0), (8, .int .i64 1)] [.int .i64 1] 1 En4 (by kernel_rfl) (by kernel_rfl) rfl ?_
  intro ac5 En6
  refine from_end (by kernel_rfl) ?_
  refine then_normal ?_
  refine wp_block ?_
  refine wp_seq ?_
  refine region_from ?_  -- region 3
  refine d_pures [(0, .pointer (some ⟨b, 0, none⟩)), (2, .int .i64 n), (6, .slice none 0 0), (7, .slice none 0 0), (8, .int .i64 1), (9, .bool true)] [.bool true, .bool true] 2 En6 (by kernel_rfl) (by kernel_rfl) rfl ?_
  intro ac7 En8
  refine from_end (by kernel_rfl) ?_
  refine then_normal ?_
  refine cond_true En8 (t := true) (by kernel_rfl) rfl ?_
  refine wp_seq ?_
  refine region_from ?_  -- region 4
  refine d_pures [(0, .pointer (some ⟨b, 0, none⟩)), (2, .int .i64 n), (6, .slice none 0 0), (7, .slice none 0 0), (8, .int .i64 1), (12, .pointer (some ⟨b, 0, none⟩)), (15, .pointer (some ⟨b, 1, none⟩))] [.pointer (some ⟨b, 0, none⟩), .pointer (some ⟨b, 0, none⟩), .pointer (some ⟨b, 0, none⟩), .pointer (some ⟨b, 1, none⟩)] 4 En8 (by kernel_rfl) (by kernel_rfl) rfl ?_
  intro ac9 En10
  refine from_op (by kernel_rfl) ?_
  refine op_loadbox (d := some 16) (t := 22) (b := b) (off := 1) (k := 0) (v := .slice ad (List.length ld) cd) En10 (by kernel_rfl) Hv0 rfl rfl (by kernel_rfl) ?_
  intro ac11 En12
  refine d_pures [(0, .pointer (some ⟨b, 0, none⟩)), (2, .int .i64 n), (6, .slice none 0 0), (7, .slice none 0 0), (8, .int .i64 1), (12, .pointer (some ⟨b, 0, none⟩)), (16, .slice ad (List.length ld) cd), (17, .int .i64 n)] [.int .i64 n] 6 En12 (by kernel_rfl) (by kernel_rfl) rfl ?_
  intro ac13 En14
  refine from_op (by kernel_rfl) ?_
  have hM16 : Heap w [] := Hv0.heap.pick [] (by kernel_rfl) (by decide)
  refine op_call (d := some 18) (f := 39) (args := #[.slice ad (List.length ld) cd, .int .i64 n]) En14 (by kernel_rfl) ((take_ref _ ad (List.length ld) cd ld (by first | rfl | (simp; done) | (simp; omega) | omega) (bys_in Hv0.heap (k := 2) rfl [] (by kernel_rfl) rfl (by first | omega | (simp; done) | (simp; omega))) n).mono ?_)
  rintro _ wo18 ⟨azq15, czq15, ayq15, cyq15, rfl, he21⟩
  refine ⟨_, rfl, ?_⟩
  intro ac17 En19
  have Hv20 : Ev w [.box b [.slice au (List.length lu) cu, .slice ad (List.length ld) cd, .slice ah (List.length lh) ch, .slice ap (List.length lp) cp, .slice aq (List.length lq) cq, .bool fc, .bool fe, .slice ar (List.length lr) cr, .slice av (List.length lv) cv, .bool bc, .bool be] 53, .vec au cu 1 (bys lu) 5, .vec ad cd 1 (bys ld) 5, .vec ah ch 1 (bys lh) 5, .vec ap cp 1 (bys lp) 5, .vec aq cq 1 (bys lq) 5, .vec ar cr 1 (bys lr) 5, .vec av cv 1 (bys lv) 5] wo18 [.vec azq15 czq15 1 (bys (List.take (clampN n (List.length ld)) ld)) 5, .vec ayq15 cyq15 1 (bys (List.drop (clampN n (List.length ld)) ld)) 5, .box b [.slice au (List.length lu) cu, .slice ad (List.length ld) cd, .slice ah (List.length lh) ch, .slice ap (List.length lp) cp, .slice aq (List.length lq) cq, .bool fc, .bool fe, .slice ar (List.length lr) cr, .slice av (List.length lv) cv, .bool bc, .bool be] 53, .vec au cu 1 (bys lu) 5, .vec ad cd 1 (bys ld) 5, .vec ah ch 1 (bys lh) 5, .vec ap cp 1 (bys lp) 5, .vec aq cq 1 (bys lq) 5, .vec ar cr 1 (bys lr) 5, .vec av cv 1 (bys lv) 5] := Hv0.trans (Ev.call (R := [.box b [.slice au (List.length lu) cu, .slice ad (List.length ld) cd, .slice ah (List.length lh) ch, .slice ap (List.length lp) cp, .slice aq (List.length lq) cq, .bool fc, .bool fe, .slice ar (List.length lr) cr, .slice av (List.length lv) cv, .bool bc, .bool be] 53, .vec au cu 1 (bys lu) 5, .vec ad cd 1 (bys ld) 5, .vec ah ch 1 (bys lh) 5, .vec ap cp 1 (bys lp) 5, .vec aq cq 1 (bys lq) 5, .vec ar cr 1 (bys lr) 5, .vec av cv 1 (bys lv) 5]) Hv0.heap [0, 1, 2, 3, 4, 5, 6, 7] (by kernel_rfl) (by decide) he21)
  clear hM16 he21
  refine d_pures [(0, .pointer (some ⟨b, 0, none⟩)), (2, .int .i64 n), (6, .slice none 0 0), (7, .slice azq15 (List.length (List.take (clampN n (List.length ld)) ld)) czq15), (8, .int .i64 1), (20, .slice ayq15 (List.length (List.drop (clampN n (List.length ld)) ld)) cyq15), (22, .pointer (some ⟨b, 1, none⟩))] [.tuple #[.slice azq15 (List.length (List.take (clampN n (List.length ld)) ld)) czq15, .slice ayq15 (List.length (List.drop (clampN n (List.length ld)) ld)) cyq15], .slice azq15 (List.length (List.take (clampN n (List.length ld)) ld)) czq15, .slice ayq15 (List.length (List.drop (clampN n (List.length ld)) ld)) cyq15, .slice azq15 (List.length (List.take (clampN n (List.length ld)) ld)) czq15, .pointer (some ⟨b, 0, none⟩), .pointer (some ⟨b, 1, none⟩)] 13 En19 (by kernel_rfl) (by kernel_rfl) rfl ?_
  intro ac22 En23
  refine from_op (by kernel_rfl) ?_
  refine op_storebox2 (d := none) (t := 22) (b := b) (off := 1) (k := 2) (v := .slice ayq15 (List.length (List.drop (clampN n (List.length ld)) ld)) cyq15) En23 (by kernel_rfl) Hv20 rfl rfl (by kernel_rfl) rfl rfl (L' := [.vec azq15 czq15 1 (bys (List.take (clampN n (List.length ld)) ld)) 5, .vec ayq15 cyq15 1 (bys (List.drop (clampN n (List.length ld)) ld)) 5, .box b [.slice au (List.length lu) cu, .slice ayq15 (List.length (List.drop (clampN n (List.length ld)) ld)) cyq15, .slice ah (List.length lh) ch, .slice ap (List.length lp) cp, .slice aq (List.length lq) cq, .bool fc, .bool fe, .slice ar (List.length lr) cr, .slice av (List.length lv) cv, .bool bc, .bool be] 53, .vec au cu 1 (bys lu) 5, .vec ad cd 1 (bys ld) 5, .vec ah ch 1 (bys lh) 5, .vec ap cp 1 (bys lp) 5, .vec aq cq 1 (bys lq) 5, .vec ar cr 1 (bys lr) 5, .vec av cv 1 (bys lv) 5]) rfl ?_
  intro ac24 wo25  En26 Hv27
  refine from_end (by kernel_rfl) ?_
  refine then_normal ?_
  refine wp_seq ?_
  refine region_from ?_  -- region 5
  refine d_pures [(0, .pointer (some ⟨b, 0, none⟩)), (2, .int .i64 n), (6, .slice none 0 0), (7, .slice azq15 (List.length (List.take (clampN n (List.length ld)) ld)) czq15), (8, .int .i64 1), (23, .pointer (some ⟨b, 0, none⟩)), (28, .pointer (some ⟨b, 4, none⟩))] [.pointer (some ⟨b, 0, none⟩), .pointer (some ⟨b, 0, none⟩), .pointer (some ⟨b, 0, none⟩), .pointer (some ⟨b, 2, none⟩), .pointer (some ⟨b, 3, none⟩), .pointer (some ⟨b, 4, none⟩)] 6 En26 (by kernel_rfl) (by kernel_rfl) rfl ?_
  intro ac28 En29
  refine from_op (by kernel_rfl) ?_
  refine op_loadbox (d := some 29) (t := 22) (b := b) (off := 4) (k := 2) (v := .slice aq (List.length lq) cq) En29 (by kernel_rfl) Hv27 rfl rfl (by kernel_rfl) ?_
  intro ac30 En31
  refine d_pures [(0, .pointer (some ⟨b, 0, none⟩)), (2, .int .i64 n), (6, .slice none 0 0), (7, .slice azq15 (List.length (List.take (clampN n (List.length ld)) ld)) czq15), (8, .int .i64 1), (23, .pointer (some ⟨b, 0, none⟩)), (29, .slice aq (List.length lq) cq), (30, .slice azq15 (List.length (List.take (clampN n (List.length ld)) ld)) czq15)] [.slice azq15 (List.length (List.take (clampN n (List.length ld)) ld)) czq15] 8 En31 (by kernel_rfl) (by kernel_rfl) rfl ?_
  intro ac32 En33
  refine from_op (by kernel_rfl) ?_
  refine op_append (d := some 31) (t := 22) (tx := 22) (ty := 22) (k := 7) (p := List.length lq) (m := List.length (List.take (clampN n (List.length ld)) ld)) (x := .slice azq15 (List.length (List.take (clampN n (List.length ld)) ld)) czq15) (bytes := 1) En33 (by kernel_rfl) Hv27 rfl (bys_len _) (Reads.src (size := 1) (tx := 22) (e' := 5) (by kernel_rfl) (Hv27.heap.reads (k := 0) rfl) (bys_len _) (bys_vnz Hv27.heap (k := 0) rfl) (bys_one _)) (by kernel_rfl) (z := .int .u8 0) (by kernel_rfl) rfl (by decide) (by omega) (by unfold maxLen; omega) ?_
  intro ac38 wo39 ao34 cp35 En40 Hv41 _ _
  rw [← bys_append] at Hv41
  have ehz36 : (List.length lq) + (List.length (List.take (clampN n (List.length ld)) ld)) = List.length (lq ++ (List.take (clampN n (List.length ld)) ld)) := (by first | (simp; done) | (simp; omega) | omega)
  rw [ehz36] at En40
  refine d_pures [(0, .pointer (some ⟨b, 0, none⟩)), (2, .int .i64 n), (6, .slice none 0 0), (7, .slice azq15 (List.length (List.take (clampN n (List.length ld)) ld)) czq15), (8, .int .i64 1), (31, .slice ao34 (List.length (lq ++ (List.take (clampN n (List.length ld)) ld))) cp35), (35, .pointer (some ⟨b, 4, none⟩))] [.pointer (some ⟨b, 0, none⟩), .pointer (some ⟨b, 2, none⟩), .pointer (some ⟨b, 3, none⟩), .pointer (some ⟨b, 4, none⟩)] 13 En40 (by kernel_rfl) (by kernel_rfl) rfl ?_
  intro ac42 En43
  refine from_op (by kernel_rfl) ?_
  refine op_storebox2 (d := none) (t := 22) (b := b) (off := 4) (k := 2) (v := .slice ao34 (List.length (lq ++ (List.take (clampN n (List.length ld)) ld))) cp35) En43 (by kernel_rfl) Hv41 rfl rfl (by kernel_rfl) rfl rfl (L' := [.vec azq15 czq15 1 (bys (List.take (clampN n (List.length ld)) ld)) 5, .vec ayq15 cyq15 1 (bys (List.drop (clampN n (List.length ld)) ld)) 5, .box b [.slice au (List.length lu) cu, .slice ayq15 (List.length (List.drop (clampN n (List.length ld)) ld)) cyq15, .slice ah (List.length lh) ch, .slice ap (List.length lp) cp, .slice ao34 (List.length (lq ++ (List.take (clampN n (List.length ld)) ld))) cp35, .bool fc, .bool fe, .slice ar (List.length lr) cr, .slice av (List.length lv) cv, .bool bc, .bool be] 53, .vec au cu 1 (bys lu) 5, .vec ad cd 1 (bys ld) 5, .vec ah ch 1 (bys lh) 5, .vec ap cp 1 (bys lp) 5, .vec ao34 cp35 1 (bys (lq ++ (List.take (clampN n (List.length ld)) ld))) 5, .vec ar cr 1 (bys lr) 5, .vec av cv 1 (bys lv) 5]) rfl ?_
  intro ac44 wo45  En46 Hv47
  refine from_end (by kernel_rfl) ?_
  refine then_normal ?_
  refine region_from ?_  -- region 6
  refine d_pures [(0, .pointer (some ⟨b, 0, none⟩)), (2, .int .i64 n), (6, .slice none 0 0), (7, .slice azq15 (List.length (List.take (clampN n (List.length ld)) ld)) czq15), (8, .int .i64 1), (36, .pointer (some ⟨b, 0, none⟩)), (41, .pointer (some ⟨b, 6, none⟩))] [.pointer (some ⟨b, 0, none⟩), .pointer (some ⟨b, 0, none⟩), .pointer (some ⟨b, 0, none⟩), .pointer (some ⟨b, 2, none⟩), .pointer (some ⟨b, 3, none⟩), .pointer (some ⟨b, 6, none⟩)] 6 En46 (by kernel_rfl) (by kernel_rfl) rfl ?_
  intro ac48 En49
  refine from_op (by kernel_rfl) ?_
  refine op_loadbox (d := some 42) (t := 4) (b := b) (off := 6) (k := 2) (v := .bool fe) En49 (by kernel_rfl) Hv47 rfl rfl (by kernel_rfl) ?_
  intro ac50 En51
  refine d_pures [(0, .pointer (some ⟨b, 0, none⟩)), (2, .int .i64 n), (6, .slice none 0 0), (7, .slice azq15 (List.length (List.take (clampN n (List.length ld)) ld)) czq15), (8, .int .i64 1), (36, .pointer (some ⟨b, 0, none⟩)), (43, .bool fe)] [.bool fe] 8 En51 (by kernel_rfl) (by kernel_rfl) rfl ?_
  intro ac52 En53
  rcases Bool.eq_false_or_eq_true (fe) with hb54 | hb54
  · rw [hb54] at En53
    have hp55 : fe = true := hb54
    refine d_pures [(0, .pointer (some ⟨b, 0, none⟩)), (2, .int .i64 n), (6, .slice none 0 0), (7, .slice azq15 (List.length (List.take (clampN n (List.length ld)) ld)) czq15), (8, .int .i64 1), (58, .bool true), (62, .pointer (some ⟨b, 6, none⟩))] [undef, undef, undef, undef, undef, undef, undef, undef, undef, undef, undef, undef, undef, undef, .bool true, .pointer (some ⟨b, 0, none⟩), .pointer (some ⟨b, 2, none⟩), .pointer (some ⟨b, 3, none⟩), .pointer (some ⟨b, 6, none⟩)] 27 En53 (by kernel_rfl) (by kernel_rfl) rfl ?_
    intro ac56 En57
    refine from_op (by kernel_rfl) ?_
    refine op_storebox2 (d := none) (t := 4) (b := b) (off := 6) (k := 2) (v := .bool true) En57 (by kernel_rfl) Hv47 rfl rfl (by kernel_rfl) rfl rfl (L' := [.vec azq15 czq15 1 (bys (List.take (clampN n (List.length ld)) ld)) 5, .vec ayq15 cyq15 1 (bys (List.drop (clampN n (List.length ld)) ld)) 5, .box b [.slice au (List.length lu) cu, .slice ayq15 (List.length (List.drop (clampN n (List.length ld)) ld)) cyq15, .slice ah (List.length lh) ch, .slice ap (List.length lp) cp, .slice ao34 (List.length (lq ++ (List.take (clampN n (List.length ld)) ld))) cp35, .bool fc, .bool true, .slice ar (List.length lr) cr, .slice av (List.length lv) cv, .bool bc, .bool be] 53, .vec au cu 1 (bys lu) 5, .vec ad cd 1 (bys ld) 5, .vec ah ch 1 (bys lh) 5, .vec ap cp 1 (bys lp) 5, .vec ao34 cp35 1 (bys (lq ++ (List.take (clampN n (List.length ld)) ld))) 5, .vec ar cr 1 (bys lr) 5, .vec av cv 1 (bys lv) 5]) rfl ?_
    intro ac58 wo59  En60 Hv61
    refine from_end (by kernel_rfl) ?_
    refine block_normal ?_
    refine then_normal ?_
    refine wp_seq ?_
    refine region_from ?_  -- region 11
    refine d_pures [(0, .pointer (some ⟨b, 0, none⟩)), (2, .int .i64 n), (6, .slice azq15 (List.length (List.take (clampN n (List.length ld)) ld)) czq15), (7, .slice azq15 (List.length (List.take (clampN n (List.length ld)) ld)) czq15), (8, .int .i64 1)] [.slice azq15 (List.length (List.take (clampN n (List.length ld)) ld)) czq15, .slice azq15 (List.length (List.take (clampN n (List.length ld)) ld)) czq15] 2 En60 (by kernel_rfl) (by kernel_rfl) rfl ?_
    intro ac62 En63
    refine from_end (by kernel_rfl) ?_
    refine then_normal ?_
    refine wp_ret ?_
    refine d_ret1 (t := 6) (v := .slice azq15 (List.length (List.take (clampN n (List.length ld)) ld)) czq15) En63 (by kernel_rfl) (by kernel_rfl) ?_
    try simp at hp55
    exact ⟨au, ayq15, ah, ap, ao34, ar, av, cu, cyq15, ch, cp, cp35, cr, cv, lu, (List.drop (clampN n (List.length ld)) ld), lh, lp, (lq ++ (List.take (clampN n (List.length ld)) ld)), lr, lv, fc, true, bc, be, azq15, czq15, (List.take (clampN n (List.length ld)) ld), rfl, Hv61.pick [2, 3, 1, 5, 6, 7, 8, 9, 0] (by kernel_rfl) (by decide), by simp [Rel.read, hp55], by simp [Rel.out]⟩
  · rw [hb54] at En53
    have hp64 : ¬ (fe = true) := Bool.eq_false_iff.1 hb54
    refine d_pures [(0, .pointer (some ⟨b, 0, none⟩)), (2, .int .i64 n), (6, .slice none 0 0), (7, .slice azq15 (List.length (List.take (clampN n (List.length ld)) ld)) czq15), (8, .int .i64 1), (36, .pointer (some ⟨b, 0, none⟩)), (43, .bool false), (46, .pointer (some ⟨b, 1, none⟩))] [.pointer (some ⟨b, 0, none⟩), .pointer (some ⟨b, 0, none⟩), .pointer (some ⟨b, 1, none⟩)] 11 En53 (by kernel_rfl) (by kernel_rfl) rfl ?_
    intro ac65 En66
    refine from_op (by kernel_rfl) ?_
    refine op_loadbox (d := some 47) (t := 22) (b := b) (off := 1) (k := 2) (v := .slice ayq15 (List.length (List.drop (clampN n (List.length ld)) ld)) cyq15) En66 (by kernel_rfl) Hv47 rfl rfl (by kernel_rfl) ?_
    intro ac67 En68
    refine d_pures [(0, .pointer (some ⟨b, 0, none⟩)), (2, .int .i64 n), (6, .slice none 0 0), (7, .slice azq15 (List.length (List.take (clampN n (List.length ld)) ld)) czq15), (8, .int .i64 1), (36, .pointer (some ⟨b, 0, none⟩)), (43, .bool false), (50, .bool (((List.length (List.drop (clampN n (List.length ld)) ld) : Nat) : Int) == (0 : Int)))] [.int .i64 ((List.length (List.drop (clampN n (List.length ld)) ld) : Nat) : Int), .bool (((List.length (List.drop (clampN n (List.length ld)) ld) : Nat) : Int) == (0 : Int)), .bool (((List.length (List.drop (clampN n (List.length ld)) ld) : Nat) : Int) == (0 : Int))] 15 En68 (by kernel_rfl) (by kernel_rfl) rfl ?_
    intro ac69 En70
    rcases Bool.eq_false_or_eq_true (((List.length (List.drop (clampN n (List.length ld)) ld) : Nat) : Int) == (0 : Int)) with hb71 | hb71
    · rw [hb71] at En70
      have hp72 : ((List.length (List.drop (clampN n (List.length ld)) ld) : Nat) : Int) = (0 : Int) := eq_of_beq hb71
      refine d_pures [(0, .pointer (some ⟨b, 0, none⟩)), (2, .int .i64 n), (6, .slice none 0 0), (7, .slice azq15 (List.length (List.take (clampN n (List.length ld)) ld)) czq15), (8, .int .i64 1), (36, .pointer (some ⟨b, 0, none⟩)), (43, .bool false), (50, .bool true), (55, .pointer (some ⟨b, 9, none⟩))] [.pointer (some ⟨b, 0, none⟩), .pointer (some ⟨b, 0, none⟩), .pointer (some ⟨b, 2, none⟩), .pointer (some ⟨b, 7, none⟩), .pointer (some ⟨b, 9, none⟩)] 20 En70 (by kernel_rfl) (by kernel_rfl) rfl ?_
      intro ac73 En74
      refine from_op (by kernel_rfl) ?_
      refine op_loadbox (d := some 56) (t := 4) (b := b) (off := 9) (k := 2) (v := .bool bc) En74 (by kernel_rfl) Hv47 rfl rfl (by kernel_rfl) ?_
      intro ac75 En76
      refine d_pures [(0, .pointer (some ⟨b, 0, none⟩)), (2, .int .i64 n), (6, .slice none 0 0), (7, .slice azq15 (List.length (List.take (clampN n (List.length ld)) ld)) czq15), (8, .int .i64 1), (58, .bool bc), (62, .pointer (some ⟨b, 6, none⟩))] [.bool bc, .bool bc, .pointer (some ⟨b, 0, none⟩), .pointer (some ⟨b, 2, none⟩), .pointer (some ⟨b, 3, none⟩), .pointer (some ⟨b, 6, none⟩)] 27 En76 (by kernel_rfl) (by kernel_rfl) rfl ?_
      intro ac77 En78
      refine from_op (by kernel_rfl) ?_
      refine op_storebox2 (d := none) (t := 4) (b := b) (off := 6) (k := 2) (v := .bool bc) En78 (by kernel_rfl) Hv47 rfl rfl (by kernel_rfl) rfl rfl (L' := [.vec azq15 czq15 1 (bys (List.take (clampN n (List.length ld)) ld)) 5, .vec ayq15 cyq15 1 (bys (List.drop (clampN n (List.length ld)) ld)) 5, .box b [.slice au (List.length lu) cu, .slice ayq15 (List.length (List.drop (clampN n (List.length ld)) ld)) cyq15, .slice ah (List.length lh) ch, .slice ap (List.length lp) cp, .slice ao34 (List.length (lq ++ (List.take (clampN n (List.length ld)) ld))) cp35, .bool fc, .bool bc, .slice ar (List.length lr) cr, .slice av (List.length lv) cv, .bool bc, .bool be] 53, .vec au cu 1 (bys lu) 5, .vec ad cd 1 (bys ld) 5, .vec ah ch 1 (bys lh) 5, .vec ap cp 1 (bys lp) 5, .vec ao34 cp35 1 (bys (lq ++ (List.take (clampN n (List.length ld)) ld))) 5, .vec ar cr 1 (bys lr) 5, .vec av cv 1 (bys lv) 5]) rfl ?_
      intro ac79 wo80  En81 Hv82
      refine from_end (by kernel_rfl) ?_
      refine block_normal ?_
      refine then_normal ?_
      refine wp_seq ?_
      refine region_from ?_  -- region 11
      refine d_pures [(0, .pointer (some ⟨b, 0, none⟩)), (2, .int .i64 n), (6, .slice azq15 (List.length (List.take (clampN n (List.length ld)) ld)) czq15), (7, .slice azq15 (List.length (List.take (clampN n (List.length ld)) ld)) czq15), (8, .int .i64 1)] [.slice azq15 (List.length (List.take (clampN n (List.length ld)) ld)) czq15, .slice azq15 (List.length (List.take (clampN n (List.length ld)) ld)) czq15] 2 En81 (by kernel_rfl) (by kernel_rfl) rfl ?_
      intro ac83 En84
      refine from_end (by kernel_rfl) ?_
      refine then_normal ?_
      refine wp_ret ?_
      refine d_ret1 (t := 6) (v := .slice azq15 (List.length (List.take (clampN n (List.length ld)) ld)) czq15) En84 (by kernel_rfl) (by kernel_rfl) ?_
      try simp at hp64
      try simp at hp72
      exact ⟨au, ayq15, ah, ap, ao34, ar, av, cu, cyq15, ch, cp, cp35, cr, cv, lu, (List.drop (clampN n (List.length ld)) ld), lh, lp, (lq ++ (List.take (clampN n (List.length ld)) ld)), lr, lv, fc, bc, bc, be, azq15, czq15, (List.take (clampN n (List.length ld)) ld), rfl, Hv82.pick [2, 3, 1, 5, 6, 7, 8, 9, 0] (by kernel_rfl) (by decide), by simp [Rel.read, hp64, hp72], by simp [Rel.out]⟩
    · rw [hb71] at En70
      have hp85 : ¬ (((List.length (List.drop (clampN n (List.length ld)) ld) : Nat) : Int) = (0 : Int)) := ne_of_beq_false hb71
      refine d_pures [(0, .pointer (some ⟨b, 0, none⟩)), (2, .int .i64 n), (6, .slice none 0 0), (7, .slice azq15 (List.length (List.take (clampN n (List.length ld)) ld)) czq15), (8, .int .i64 1), (58, .bool false), (62, .pointer (some ⟨b, 6, none⟩))] [undef, undef, undef, undef, undef, undef, .bool false, .bool false, .pointer (some ⟨b, 0, none⟩), .pointer (some ⟨b, 2, none⟩), .pointer (some ⟨b, 3, none⟩), .pointer (some ⟨b, 6, none⟩)] 27 En70 (by kernel_rfl) (by kernel_rfl) rfl ?_
      intro ac86 En87
      refine from_op (by kernel_rfl) ?_
      refine op_storebox2 (d := none) (t := 4) (b := b) (off := 6) (k := 2) (v := .bool false) En87 (by kernel_rfl) Hv47 rfl rfl (by kernel_rfl) rfl rfl (L' := [.vec azq15 czq15 1 (bys (List.take (clampN n (List.length ld)) ld)) 5, .vec ayq15 cyq15 1 (bys (List.drop (clampN n (List.length ld)) ld)) 5, .box b [.slice au (List.length lu) cu, .slice ayq15 (List.length (List.drop (clampN n (List.length ld)) ld)) cyq15, .slice ah (List.length lh) ch, .slice ap (List.length lp) cp, .slice ao34 (List.length (lq ++ (List.take (clampN n (List.length ld)) ld))) cp35, .bool fc, .bool false, .slice ar (List.length lr) cr, .slice av (List.length lv) cv, .bool bc, .bool be] 53, .vec au cu 1 (bys lu) 5, .vec ad cd 1 (bys ld) 5, .vec ah ch 1 (bys lh) 5, .vec ap cp 1 (bys lp) 5, .vec ao34 cp35 1 (bys (lq ++ (List.take (clampN n (List.length ld)) ld))) 5, .vec ar cr 1 (bys lr) 5, .vec av cv 1 (bys lv) 5]) rfl ?_
      intro ac88 wo89  En90 Hv91
      refine from_end (by kernel_rfl) ?_
      refine block_normal ?_
      refine then_normal ?_
      refine wp_seq ?_
      refine region_from ?_  -- region 11
      refine d_pures [(0, .pointer (some ⟨b, 0, none⟩)), (2, .int .i64 n), (6, .slice azq15 (List.length (List.take (clampN n (List.length ld)) ld)) czq15), (7, .slice azq15 (List.length (List.take (clampN n (List.length ld)) ld)) czq15), (8, .int .i64 1)] [.slice azq15 (List.length (List.take (clampN n (List.length ld)) ld)) czq15, .slice azq15 (List.length (List.take (clampN n (List.length ld)) ld)) czq15] 2 En90 (by kernel_rfl) (by kernel_rfl) rfl ?_
      intro ac92 En93
      refine from_end (by kernel_rfl) ?_
      refine then_normal ?_
      refine wp_ret ?_
      refine d_ret1 (t := 6) (v := .slice azq15 (List.length (List.take (clampN n (List.length ld)) ld)) czq15) En93 (by kernel_rfl) (by kernel_rfl) ?_
      try simp at hp64
      try simp at hp85
      exact ⟨au, ayq15, ah, ap, ao34, ar, av, cu, cyq15, ch, cp, cp35, cr, cv, lu, (List.drop (clampN n (List.length ld)) ld), lh, lp, (lq ++ (List.take (clampN n (List.length ld)) ld)), lr, lv, fc, false, bc, be, azq15, czq15, (List.take (clampN n (List.length ld)) ld), rfl, Hv91.pick [2, 3, 1, 5, 6, 7, 8, 9, 0] (by kernel_rfl) (by decide), by simp [Rel.read, hp64, hp85], by simp [Rel.out]⟩

theorem yread2 (w : World) (b : Nat) (au ad ah ap aq ar av : Option Addr) (cu cd ch cp cq cr cv : Nat) (lu ld lh lp lq lr lv : List UInt8) (fc fe bc be : Bool) (n : Int) (hH : Heap w [.box b [.slice au (List.length lu) cu, .slice ad (List.length ld) cd, .slice ah (List.length lh) ch, .slice ap (List.length lp) cp, .slice aq (List.length lq) cq, .bool fc, .bool fe, .slice ar (List.length lr) cr, .slice av (List.length lv) cv, .bool bc, .bool be] 53, .vec au cu 1 (bys lu) 5, .vec ad cd 1 (bys ld) 5, .vec ah ch 1 (bys lh) 5, .vec ap cp 1 (bys lp) 5, .vec aq cq 1 (bys lq) 5, .vec ar cr 1 (bys lr) 5, .vec av cv 1 (bys lv) 5]) (hS : List.length lu + List.length ld + List.length lh + List.length lp + List.length lq + List.length lr + List.length lv ≤ 140737488351232) : Calls Try.prog 22 #[.pointer (some ⟨b, 0, none⟩), .int .i64 2, .int .i64 n] w fun e w' => ∃ au0 ad0 ah0 ap0 aq0 ar0 av0, ∃ cu0 cd0 ch0 cp0 cq0 cr0 cv0, ∃ (lu0 : List UInt8) (ld0 : List UInt8) (lh0 : List UInt8) (lp0 : List UInt8) (lq0 : List UInt8) (lr0 : List UInt8) (lv0 : List UInt8), ∃ (fc0 : Bool) (fe0 : Bool) (bc0 : Bool) (be0 : Bool), ∃ ao co lo, e = .returned (.slice ao (List.length lo) co) ∧ Ev w [.box b [.slice au (List.length lu) cu, .slice ad (List.length ld) cd, .slice ah (List.length lh) ch, .slice ap (List.length lp) cp, .slice aq (List.length lq) cq, .bool fc, .bool fe, .slice ar (List.length lr) cr, .slice av (List.length lv) cv, .bool bc, .bool be] 53, .vec au cu 1 (bys lu) 5, .vec ad cd 1 (bys ld) 5, .vec ah ch 1 (bys lh) 5, .vec ap cp 1 (bys lp) 5, .vec aq cq 1 (bys lq) 5, .vec ar cr 1 (bys lr) 5, .vec av cv 1 (bys lv) 5] w' [.box b [.slice au0 (List.length lu0) cu0, .slice ad0 (List.length ld0) cd0, .slice ah0 (List.length lh0) ch0, .slice ap0 (List.length lp0) cp0, .slice aq0 (List.length lq0) cq0, .bool fc0, .bool fe0, .slice ar0 (List.length lr0) cr0, .slice av0 (List.length lv0) cv0, .bool bc0, .bool be0] 53, .vec au0 cu0 1 (bys lu0) 5, .vec ad0 cd0 1 (bys ld0) 5, .vec ah0 ch0 1 (bys lh0) 5, .vec ap0 cp0 1 (bys lp0) 5, .vec aq0 cq0 1 (bys lq0) 5, .vec ar0 cr0 1 (bys lr0) 5, .vec av0 cv0 1 (bys lv0) 5, .vec ao co 1 (bys lo) 5] ∧ (⟨lu0, ld0, lh0, lp0, lq0, fc0, fe0, lr0, lv0, bc0, be0⟩ : Rel) = Rel.read (⟨lu, ld, lh, lp, lq, fc, fe, lr, lv, bc, be⟩ : Rel) 2 n ∧ lo = Rel.out (⟨lu, ld, lh, lp, lq, fc, fe, lr, lv, bc, be⟩ : Rel) 2 n := by
  have hcu := clampN_le n (List.length lu)
  have hcd := clampN_le n (List.length ld)
  have hmu : (List.take (clampN n (List.length lu)) lu).length = clampN n (List.length lu) := by rw [List.length_take]; omega
  have hmd : (List.take (clampN n (List.length ld)) ld).length = clampN n (List.length ld) := by rw [List.length_take]; omega
  refine d_start [(0, .pointer (some ⟨b, 0, none⟩)), (1, .int .i64 2), (2, .int .i64 n)] 118 Go.Proofs.Try.func22 Go.Proofs.Try.ntmps22 rfl (by kernel_rfl) (by kernel_rfl) ?_
  intro act0 En0
  have Hv0 : Ev w [.box b [.slice au (List.length lu) cu, .slice ad (List.length ld) cd, .slice ah (List.length lh) ch, .slice ap (List.length lp) cp, .slice aq (List.length lq) cq, .bool fc, .bool fe, .slice ar (List.length lr) cr, .slice av (List.length lv) cv, .bool bc, .bool be] 53, .vec au cu 1 (bys lu) 5, .vec ad cd 1 (bys ld) 5, .vec ah ch 1 (bys lh) 5, .vec ap cp 1 (bys lp) 5, .vec aq cq 1 (bys lq) 5, .vec ar cr 1 (bys lr) 5, .vec av cv 1 (bys lv) 5] w [.box b [.slice au (List.length lu) cu, .slice ad (List.length ld) cd, .slice ah (List.length lh) ch, .slice ap (List.length lp) cp, .slice aq (List.length lq) cq, .bool fc, .bool fe, .slice ar (List.length lr) cr, .slice av (List.length lv) cv, .bool bc, .bool be] 53, .vec au cu 1 (bys lu) 5, .vec ad cd 1 (bys ld) 5, .vec ah ch 1 (bys lh) 5, .vec ap cp 1 (bys lp) 5, .vec aq cq 1 (bys lq) 5, .vec ar cr 1 (bys lr) 5, .vec av cv 1 (bys lv) 5] := Ev.refl (hH)
  refine wp_seq ?_
  refine region_from ?_  -- region 0
  refine d_pures [(0, .pointer (some ⟨b, 0, none⟩)), (1, .int .i64 2), (2, .int .i64 n), (6, .slice none 0 0)] [.slice none 0 0] 1 En0 (by kernel_rfl) (by kernel_rfl) rfl ?_
  intro ac1 En2
  refine from_end (by kernel_rfl) ?_
  refine then_normal ?_
  refine wp_seq ?_
  refine region_from ?_  -- region 1
  refine d_pures [(0, .pointer (some ⟨b, 0, none⟩)), (1, .int .i64 2), (2, .int .i64 n), (6, .slice none 0 0), (7, .slice none 0 0)] [.slice none 0 0] 1 En2 (by kernel_rfl) (by kernel_rfl) rfl ?_
  intro ac3 En4
  refine from_end (by kernel_rfl) ?_
  refine then_normal ?_
  refine wp_seq ?_
  refine wp_seq ?_
  refine region_from ?_  -- region 2
  refine d_pures [(0, .pointer (some ⟨b, 0, none⟩)), (2, .int .i64 n), (6, .slice none 0 0), (7, .slice none 0 0), (8, .int .i64 2)] [.int .i64 2] 1 En4 (by kernel_rfl) (by kernel_rfl) rfl ?_
  intro ac5 En6
  refine from_end (by kernel_rfl) ?_
  refine then_normal ?_
  refine wp_block ?_
  refine wp_seq ?_
  refine region_from ?_  -- region 3
  refine d_pures [(0, .pointer (some ⟨b, 0, none⟩)), (2, .int .i64 n), (6, .slice none 0 0), (7, .slice none 0 0), (8, .int .i64 2), (9, .bool false)] [.bool false, .bool false] 2 En6 (by kernel_rfl) (by kernel_rfl) rfl ?_
  intro ac7 En8
  refine from_end (by kernel_rfl) ?_
  refine then_normal ?_
  refine cond_false En8 (t := false) (by kernel_rfl) rfl ?_
  refine wp_seq ?_
  refine region_from ?_  -- region 7
  refine d_pures [(0, .pointer (some ⟨b, 0, none⟩)), (2, .int .i64 n), (6, .slice none 0 0), (7, .slice none 0 0), (8, .int .i64 2), (63, .bool true)] [.bool true, .bool true] 2 En8 (by kernel_rfl) (by kernel_rfl) rfl ?_
  intro ac9 En10
  refine from_end (by kernel_rfl) ?_
  refine then_normal ?_
  refine cond_true En10 (t := true) (by kernel_rfl) rfl ?_
  refine wp_seq ?_
  refine region_from ?_  -- region 8
  refine d_pures [(0, .pointer (some ⟨b, 0, none⟩)), (2, .int .i64 n), (6, .slice none 0 0), (7, .slice none 0 0), (8, .int .i64 2), (66, .pointer (some ⟨b, 0, none⟩)), (69, .pointer (some ⟨b, 0, none⟩))] [.pointer (some ⟨b, 0, none⟩), .pointer (some ⟨b, 0, none⟩), .pointer (some ⟨b, 0, none⟩), .pointer (some ⟨b, 0, none⟩)] 4 En10 (by kernel_rfl) (by kernel_rfl) rfl ?_
  intro ac11 En12
  refine from_op (by kernel_rfl) ?_
  refine op_loadbox (d := some 70) (t := 22) (b := b) (off := 0) (k := 0) (v := .slice au (List.length lu) cu) En12 (by kernel_rfl) Hv0 rfl rfl (by kernel_rfl) ?_
  intro ac13 En14
  refine d_pures [(0, .pointer (some ⟨b, 0, none⟩)), (2, .int .i64 n), (6, .slice none 0 0), (7, .slice none 0 0), (8, .int .i64 2), (66, .pointer (some ⟨b, 0, none⟩)), (70, .slice au (List.length lu) cu), (71, .int .i64 n)] [.int .i64 n] 6 En14 (by kernel_rfl) (by kernel_rfl) rfl ?_
  intro ac15 En16
  refine from_op (by kernel_rfl) ?_
  have hM18 : Heap w [] := Hv0.heap.pick [] (by kernel_rfl) (by decide)
  refine op_call (d := some 72) (f := 39) (args := #[.slice au (List.length lu) cu, .int .i64 n]) En16 (by kernel_rfl) ((take_ref _ au (List.length lu) cu lu (by first | rfl | (simp; done) | (simp; omega) | omega) (bys_in Hv0.heap (k := 1) rfl [] (by kernel_rfl) rfl (by first | omega | (simp; done) | (simp; omega))) n).mono ?_)
  rintro _ wo20 ⟨azq17, czq17, ayq17, cyq17, rfl, he23⟩
  refine ⟨_, rfl, ?_⟩
  intro ac19 En21
  have Hv22 : Ev w [.box b [.slice au (List.length lu) cu, .slice ad (List.length ld) cd, .slice ah (List.length lh) ch, .slice ap (List.length lp) cp, .slice aq (List.length lq) cq, .bool fc, .bool fe, .slice ar (List.length lr) cr, .slice av (List.length lv) cv, .bool bc, .bool be] 53, .vec au cu 1 (bys lu) 5, .vec ad cd 1 (bys ld) 5, .vec ah ch 1 (bys lh) 5, .vec ap cp 1 (bys lp) 5, .vec aq cq 1 (bys lq) 5, .vec ar cr 1 (bys lr) 5, .vec av cv 1 (bys lv) 5] wo20 [.vec azq17 czq17 1 (bys (List.take (clampN n (List.length lu)) lu)) 5, .vec ayq17 cyq17 1 (bys (List.drop (clampN n (List.length lu)) lu)) 5, .box b [.slice au (List.length lu) cu, .slice ad (List.length ld) cd, .slice ah (List.length lh) ch, .slice ap (List.length lp) cp, .slice aq (List.length lq) cq, .bool fc, .bool fe, .slice ar (List.length lr) cr, .slice av (List.length lv) cv, .bool bc, .bool be] 53, .vec au cu 1 (bys lu) 5, .vec ad cd 1 (bys ld) 5, .vec ah ch 1 (bys lh) 5, .vec ap cp 1 (bys lp) 5, .vec aq cq 1 (bys lq) 5, .vec ar cr 1 (bys lr) 5, .vec av cv 1 (bys lv) 5] := Hv0.trans (Ev.call (R := [.box b [.slice au (List.length lu) cu, .slice ad (List.length ld) cd, .slice ah (List.length lh) ch, .slice ap (List.length lp) cp, .slice aq (List.length lq) cq, .bool fc, .bool fe, .slice ar (List.length lr) cr, .slice av (List.length lv) cv, .bool bc, .bool be] 53, .vec au cu 1 (bys lu) 5, .vec ad cd 1 (bys ld) 5, .vec ah ch 1 (bys lh) 5, .vec ap cp 1 (bys lp) 5, .vec aq cq 1 (bys lq) 5, .vec ar cr 1 (bys lr) 5, .vec av cv 1 (bys lv) 5]) Hv0.heap [0, 1, 2, 3, 4, 5, 6, 7] (by kernel_rfl) (by decide) he23)
  clear hM18 he23
  refine d_pures [(0, .pointer (some ⟨b, 0, none⟩)), (2, .int .i64 n), (6, .slice none 0 0), (7, .slice azq17 (List.length (List.take (clampN n (List.length lu)) lu)) czq17), (8, .int .i64 2), (74, .slice ayq17 (List.length (List.drop (clampN n (List.length lu)) lu)) cyq17), (76, .pointer (some ⟨b, 0, none⟩))] [.tuple #[.slice azq17 (List.length (List.take (clampN n (List.length lu)) lu)) czq17, .slice ayq17 (List.length (List.drop (clampN n (List.length lu)) lu)) cyq17], .slice azq17 (List.length (List.take (clampN n (List.length lu)) lu)) czq17, .slice ayq17 (List.length (List.drop (clampN n (List.length lu)) lu)) cyq17, .slice azq17 (List.length (List.take (clampN n (List.length lu)) lu)) czq17, .pointer (some ⟨b, 0, none⟩), .pointer (some ⟨b, 0, none⟩)] 13 En21 (by kernel_rfl) (by kernel_rfl) rfl ?_
  intro ac24 En25
  refine from_op (by kernel_rfl) ?_
  refine op_storebox2 (d := none) (t := 22) (b := b) (off := 0) (k := 2) (v := .slice ayq17 (List.length (List.drop (clampN n (List.length lu)) lu)) cyq17) En25 (by kernel_rfl) Hv22 rfl rfl (by kernel_rfl) rfl rfl (L' := [.vec azq17 czq17 1 (bys (List.take (clampN n (List.length lu)) lu)) 5, .vec ayq17 cyq17 1 (bys (List.drop (clampN n (List.length lu)) lu)) 5, .box b [.slice ayq17 (List.length (List.drop (clampN n (List.length lu)) lu)) cyq17, .slice ad (List.length ld) cd, .slice ah (List.length lh) ch, .slice ap (List.length lp) cp, .slice aq (List.length lq) cq, .bool fc, .bool fe, .slice ar (List.length lr) cr, .slice av (List.length lv) cv, .bool bc, .bool be] 53, .vec au cu 1 (bys lu) 5, .vec ad cd 1 (bys ld) 5, .vec ah ch 1 (bys lh) 5, .vec ap cp 1 (bys lp) 5, .vec aq cq 1 (bys lq) 5, .vec ar cr 1 (bys lr) 5, .vec av cv 1 (bys lv) 5]) rfl ?_
  intro ac26 wo27  En28 Hv29
  refine from_end (by kernel_rfl) ?_
  refine then_normal ?_
  refine wp_seq ?_
  refine region_from ?_  -- region 9
  refine d_pures [(0, .pointer (some ⟨b, 0, none⟩)), (2, .int .i64 n), (6, .slice none 0 0), (7, .slice azq17 (List.length (List.take (clampN n (List.length lu)) lu)) czq17), (8, .int .i64 2), (77, .pointer (some ⟨b, 0, none⟩)), (82, .pointer (some ⟨b, 8, none⟩))] [.pointer (some ⟨b, 0, none⟩), .pointer (some ⟨b, 0, none⟩), .pointer (some ⟨b, 0, none⟩), .pointer (some ⟨b, 2, none⟩), .pointer (some ⟨b, 7, none⟩), .pointer (some ⟨b, 8, none⟩)] 6 En28 (by kernel_rfl) (by kernel_rfl) rfl ?_
  intro ac30 En31
  refine from_op (by kernel_rfl) ?_
  refine op_loadbox (d := some 83) (t := 22) (b := b) (off := 8) (k := 2) (v := .slice av (List.length lv) cv) En31 (by kernel_rfl) Hv29 rfl rfl (by kernel_rfl) ?_
  intro ac32 En33
  refine d_pures [(0, .pointer (some ⟨b, 0, none⟩)), (2, .int .i64 n), (6, .slice none 0 0), (7, .slice azq17 (List.length (List.take (clampN n (List.length lu)) lu)) czq17), (8, .int .i64 2), (77, .pointer (some ⟨b, 0, none⟩)), (83, .slice av (List.length lv) cv), (84, .slice azq17 (List.length (List.take (clampN n (List.length lu)) lu)) czq17)] [.slice azq17 (List.length (List.take (clampN n (List.length lu)) lu)) czq17] 8 En33 (by kernel_rfl) (by kernel_rfl) rfl ?_
  intro ac34 En35
  refine from_op (by kernel_rfl) ?_
  refine op_append (d := some 85) (t := 22) (tx := 22) (ty := 22) (k := 9) (p := List.length lv) (m := List.length (List.take (clampN n (List.length lu)) lu)) (x := .slice azq17 (List.length (List.take (clampN n (List.length lu)) lu)) czq17) (bytes := 1) En35 (by kernel_rfl) Hv29 rfl (bys_len _) (Reads.src (size := 1) (tx := 22) (e' := 5) (by kernel_rfl) (Hv29.heap.reads (k := 0) rfl) (bys_len _) (bys_vnz Hv29.heap (k := 0) rfl) (bys_one _)) (by kernel_rfl) (z := .int .u8 0) (by kernel_rfl) rfl (by decide) (by omega) (by unfold maxLen; omega) ?_
  intro ac40 wo41 ao36 cp37 En42 Hv43 _ _
  rw [← bys_append] at Hv43
  have ehz38 : (List.length lv) + (List.length (List.take (clampN n (List.length lu)) lu)) = List.length (lv ++ (List.take (clampN n (List.length lu)) lu)) := (by first | (simp; done) | (simp; omega) | omega)
  rw [ehz38] at En42
  refine d_pures [(0, .pointer (some ⟨b, 0, none⟩)), (2, .int .i64 n), (6, .slice none 0 0), (7, .slice azq17 (List.length (List.take (clampN n (List.length lu)) lu)) czq17), (8, .int .i64 2), (85, .slice ao36 (List.length (lv ++ (List.take (clampN n (List.length lu)) lu))) cp37), (89, .pointer (some ⟨b, 8, none⟩))] [.pointer (some ⟨b, 0, none⟩), .pointer (some ⟨b, 2, none⟩), .pointer (some ⟨b, 7, none⟩), .pointer (some ⟨b, 8, none⟩)] 13 En42 (by kernel_rfl) (by kernel_rfl) rfl ?_
  intro ac44 En45
  refine from_op (by kernel_rfl) ?_
  refine op_storebox2 (d := none) (t := 22) (b := b) (off := 8) (k := 2) (v := .slice ao36 (List.length (lv ++ (List.take (clampN n (List.length lu)) lu))) cp37) En45 (by kernel_rfl) Hv43 rfl rfl (by kernel_rfl) rfl rfl (L' := [.vec azq17 czq17 1 (bys (List.take (clampN n (List.length lu)) lu)) 5, .vec ayq17 cyq17 1 (bys (List.drop (clampN n (List.length lu)) lu)) 5, .box b [.slice ayq17 (List.length (List.drop (clampN n (List.length lu)) lu)) cyq17, .slice ad (List.length ld) cd, .slice ah (List.length lh) ch, .slice ap (List.length lp) cp, .slice aq (List.length lq) cq, .bool fc, .bool fe, .slice ar (List.length lr) cr, .slice ao36 (List.length (lv ++ (List.take (clampN n (List.length lu)) lu))) cp37, .bool bc, .bool be] 53, .vec au cu 1 (bys lu) 5, .vec ad cd 1 (bys ld) 5, .vec ah ch 1 (bys lh) 5, .vec ap cp 1 (bys lp) 5, .vec aq cq 1 (bys lq) 5, .vec ar cr 1 (bys lr) 5, .vec ao36 cp37 1 (bys (lv ++ (List.take (clampN n (List.length lu)) lu))) 5]) rfl ?_
  intro ac46 wo47  En48 Hv49
  refine from_end (by kernel_rfl) ?_
  refine then_normal ?_
  refine region_from ?_  -- region 10
  refine d_pures [(0, .pointer (some ⟨b, 0, none⟩)), (2, .int .i64 n), (6, .slice none 0 0), (7, .slice azq17 (List.length (List.take (clampN n (List.length lu)) lu)) czq17), (8, .int .i64 2), (90, .pointer (some ⟨b, 0, none⟩)), (95, .pointer (some ⟨b, 10, none⟩))] [.pointer (some ⟨b, 0, none⟩), .pointer (some ⟨b, 0, none⟩), .pointer (some ⟨b, 0, none⟩), .pointer (some ⟨b, 2, none⟩), .pointer (some ⟨b, 7, none⟩), .pointer (some ⟨b, 10, none⟩)] 6 En48 (by kernel_rfl) (by kernel_rfl) rfl ?_
  intro ac50 En51
  refine from_op (by kernel_rfl) ?_
  refine op_loadbox (d := some 96) (t := 4) (b := b) (off := 10) (k := 2) (v := .bool be) En51 (by kernel_rfl) Hv49 rfl rfl (by kernel_rfl) ?_
  intro ac52 En53
  refine d_pures [(0, .pointer (some ⟨b, 0, none⟩)), (2, .int .i64 n), (6, .slice none 0 0), (7, .slice azq17 (List.length (List.take (clampN n (List.length lu)) lu)) czq17), (8, .int .i64 2), (90, .pointer (some ⟨b, 0, none⟩)), (97, .bool be)] [.bool be] 8 En53 (by kernel_rfl) (by kernel_rfl) rfl ?_
  intro ac54 En55
  rcases Bool.eq_false_or_eq_true (be) with hb56 | hb56
  · rw [hb56] at En55
    have hp57 : be = true := hb56
    refine d_pures [(0, .pointer (some ⟨b, 0, none⟩)), (2, .int .i64 n), (6, .slice none 0 0), (7, .slice azq17 (List.length (List.take (clampN n (List.length lu)) lu)) czq17), (8, .int .i64 2), (112, .bool true), (116, .pointer (some ⟨b, 10, none⟩))] [undef, undef, undef, undef, undef, undef, undef, undef, undef, undef, undef, undef, undef, undef, .bool true, .pointer (some ⟨b, 0, none⟩), .pointer (some ⟨b, 2, none⟩), .pointer (some ⟨b, 7, none⟩), .pointer (some ⟨b, 10, none⟩)] 27 En55 (by kernel_rfl) (by kernel_rfl) rfl ?_
    intro ac58 En59
    refine from_op (by kernel_rfl) ?_
    refine op_storebox2 (d := none) (t := 4) (b := b) (off := 10) (k := 2) (v := .bool true) En59 (by kernel_rfl) Hv49 rfl rfl (by kernel_rfl) rfl rfl (L' := [.vec azq17 czq17 1 (bys (List.take (clampN n (List.length lu)) lu)) 5, .vec ayq17 cyq17 1 (bys (List.drop (clampN n (List.length lu)) lu)) 5, .box b [.slice ayq17 (List.length (List.drop (clampN n (List.length lu)) lu)) cyq17, .slice ad (List.length ld) cd, .slice ah (List.length lh) ch, .slice ap (List.length lp) cp, .slice aq (List.length lq) cq, .bool fc, .bool fe, .slice ar (List.length lr) cr, .slice ao36 (List.length (lv ++ (List.take (clampN n (List.length lu)) lu))) cp37, .bool bc, .bool true] 53, .vec au cu 1 (bys lu) 5, .vec ad cd 1 (bys ld) 5, .vec ah ch 1 (bys lh) 5, .vec ap cp 1 (bys lp) 5, .vec aq cq 1 (bys lq) 5, .vec ar cr 1 (bys lr) 5, .vec ao36 cp37 1 (bys (lv ++ (List.take (clampN n (List.length lu)) lu))) 5]) rfl ?_
    intro ac60 wo61  En62 Hv63
    refine from_end (by kernel_rfl) ?_
    refine block_normal ?_
    refine then_normal ?_
    refine wp_seq ?_
    refine region_from ?_  -- region 11
    refine d_pures [(0, .pointer (some ⟨b, 0, none⟩)), (2, .int .i64 n), (6, .slice azq17 (List.length (List.take (clampN n (List.length lu)) lu)) czq17), (7, .slice azq17 (List.length (List.take (clampN n (List.length lu)) lu)) czq17), (8, .int .i64 2)] [.slice azq17 (List.length (List.take (clampN n (List.length lu)) lu)) czq17, .slice azq17 (List.length (List.take (clampN n (List.length lu)) lu)) czq17] 2 En62 (by kernel_rfl) (by kernel_rfl) rfl ?_
    intro ac64 En65
    refine from_end (by kernel_rfl) ?_
    refine then_normal ?_
    refine wp_ret ?_
    refine d_ret1 (t := 6) (v := .slice azq17 (List.length (List.take (clampN n (List.length lu)) lu)) czq17) En65 (by kernel_rfl) (by kernel_rfl) ?_
    try simp at hp57
    exact ⟨ayq17, ad, ah, ap, aq, ar, ao36, cyq17, cd, ch, cp, cq, cr, cp37, (List.drop (clampN n (List.length lu)) lu), ld, lh, lp, lq, lr, (lv ++ (List.take (clampN n (List.length lu)) lu)), fc, fe, bc, true, azq17, czq17, (List.take (clampN n (List.length lu)) lu), rfl, Hv63.pick [2, 1, 4, 5, 6, 7, 8, 9, 0] (by kernel_rfl) (by decide), by simp [Rel.read, hp57], by simp [Rel.out]⟩
  · rw [hb56] at En55
    have hp66 : ¬ (be = true) := Bool.eq_false_iff.1 hb56
    refine d_pures [(0, .pointer (some ⟨b, 0, none⟩)), (2, .int .i64 n), (6, .slice none 0 0), (7, .slice azq17 (List.length (List.take (clampN n (List.length lu)) lu)) czq17), (8, .int .i64 2), (90, .pointer (some ⟨b, 0, none⟩)), (97, .bool false), (100, .pointer (some ⟨b, 0, none⟩))] [.pointer (some ⟨b, 0, none⟩), .pointer (some ⟨b, 0, none⟩), .pointer (some ⟨b, 0, none⟩)] 11 En55 (by kernel_rfl) (by kernel_rfl) rfl ?_
    intro ac67 En68
    refine from_op (by kernel_rfl) ?_
    refine op_loadbox (d := some 101) (t := 22) (b := b) (off := 0) (k := 2) (v := .slice ayq17 (List.length (List.drop (clampN n (List.length lu)) lu)) cyq17) En68 (by kernel_rfl) Hv49 rfl rfl (by kernel_rfl) ?_
    intro ac69 En70
    refine d_pures [(0, .pointer (some ⟨b, 0, none⟩)), (2, .int .i64 n), (6, .slice none 0 0), (7, .slice azq17 (List.length (List.take (clampN n (List.length lu)) lu)) czq17), (8, .int .i64 2), (90, .pointer (some ⟨b, 0, none⟩)), (97, .bool false), (104, .bool (((List.length (List.drop (clampN n (List.length lu)) lu) : Nat) : Int) == (0 : Int)))] [.int .i64 ((List.length (List.drop (clampN n (List.length lu)) lu) : Nat) : Int), .bool (((List.length (List.drop (clampN n (List.length lu)) lu) : Nat) : Int) == (0 : Int)), .bool (((List.length (List.drop (clampN n (List.length lu)) lu) : Nat) : Int) == (0 : Int))] 15 En70 (by kernel_rfl) (by kernel_rfl) rfl ?_
    intro ac71 En72
    rcases Bool.eq_false_or_eq_true (((List.length (List.drop (clampN n (List.length lu)) lu) : Nat) : Int) == (0 : Int)) with hb73 | hb73
    · rw [hb73] at En72
      have hp74 : ((List.length (List.drop (clampN n (List.length lu)) lu) : Nat) : Int) = (0 : Int) := eq_of_beq hb73
      refine d_pures [(0, .pointer (some ⟨b, 0, none⟩)), (2, .int .i64 n), (6, .slice none 0 0), (7, .slice azq17 (List.length (List.take (clampN n (List.length lu)) lu)) czq17), (8, .int .i64 2), (90, .pointer (some ⟨b, 0, none⟩)), (97, .bool false), (104, .bool true), (109, .pointer (some ⟨b, 5, none⟩))] [.pointer (some ⟨b, 0, none⟩), .pointer (some ⟨b, 0, none⟩), .pointer (some ⟨b, 2, none⟩), .pointer (some ⟨b, 3, none⟩), .pointer (some ⟨b, 5, none⟩)] 20 En72 (by kernel_rfl) (by kernel_rfl) rfl ?_
      intro ac75 En76
      refine from_op (by kernel_rfl) ?_
      refine op_loadbox (d := some 110) (t := 4) (b := b) (off := 5) (k := 2) (v := .bool fc) En76 (by kernel_rfl) Hv49 rfl rfl (by kernel_rfl) ?_
      intro ac77 En78
      refine d_pures [(0, .pointer (some ⟨b, 0, none⟩)), (2, .int .i64 n), (6, .slice none 0 0), (7, .slice azq17 (List.length (List.take (clampN n (List.length lu)) lu)) czq17), (8, .int .i64 2), (112, .bool fc), (116, .pointer (some ⟨b, 10, none⟩))] [.bool fc, .bool fc, .pointer (some ⟨b, 0, none⟩), .pointer (some ⟨b, 2, none⟩), .pointer (some ⟨b, 7, none⟩), .pointer (some ⟨b, 10, none⟩)] 27 En78 (by kernel_rfl) (by kernel_rfl) rfl ?_
      intro ac79 En80
      refine from_op (by kernel_rfl) ?_
      refine op_storebox2 (d := none) (t := 4) (b := b) (off := 10) (k := 2) (v := .bool fc) En80 (by kernel_rfl) Hv49 rfl rfl (by kernel_rfl) rfl rfl (L' := [.vec azq17 czq17 1 (bys (List.take (clampN n (List.length lu)) lu)) 5, .vec ayq17 cyq17 1 (bys (List.drop (clampN n (List.length lu)) lu)) 5, .box b [.slice ayq17 (List.length (List.drop (clampN n (List.length lu)) lu)) cyq17, .slice ad (List.length ld) cd, .slice ah (List.length lh) ch, .slice ap (List.length lp) cp, .slice aq (List.length lq) cq, .bool fc, .bool fe, .slice ar (List.length lr) cr, .slice ao36 (List.length (lv ++ (List.take (clampN n (List.length lu)) lu))) cp37, .bool bc, .bool fc] 53, .vec au cu 1 (bys lu) 5, .vec ad cd 1 (bys ld) 5, .vec ah ch 1 (bys lh) 5, .vec ap cp 1 (bys lp) 5, .vec aq cq 1 (bys lq) 5, .vec ar cr 1 (bys lr) 5, .vec ao36 cp37 1 (bys (lv ++ (List.take (clampN n (List.length lu)) lu))) 5]) rfl ?_
      intro ac81 wo82  En83 Hv84
      refine from_end (by kernel_rfl) ?_
      refine block_normal ?_
      refine then_normal ?_
      refine wp_seq ?_
      refine region_from ?_  -- region 11
      refine d_pures [(0, .pointer (some ⟨b, 0, none⟩)), (2, .int .i64 n), (6, .slice azq17 (List.length (List.take (clampN n (List.length lu)) lu)) czq17), (7, .slice azq17 (List.length (List.take (clampN n (List.length lu)) lu)) czq17), (8, .int .i64 2)] [.slice azq17 (List.length (List.take (clampN n (List.length lu)) lu)) czq17, .slice azq17 (List.length (List.take (clampN n (List.length lu)) lu)) czq17] 2 En83 (by kernel_rfl) (by kernel_rfl) rfl ?_
      intro ac85 En86
      refine from_end (by kernel_rfl) ?_
      refine then_normal ?_
      refine wp_ret ?_
      refine d_ret1 (t := 6) (v := .slice azq17 (List.length (List.take (clampN n (List.length lu)) lu)) czq17) En86 (by kernel_rfl) (by kernel_rfl) ?_
      try simp at hp66
      try simp at hp74
      exact ⟨ayq17, ad, ah, ap, aq, ar, ao36, cyq17, cd, ch, cp, cq, cr, cp37, (List.drop (clampN n (List.length lu)) lu), ld, lh, lp, lq, lr, (lv ++ (List.take (clampN n (List.length lu)) lu)), fc, fe, bc, fc, azq17, czq17, (List.take (clampN n (List.length lu)) lu), rfl, Hv84.pick [2, 1, 4, 5, 6, 7, 8, 9, 0] (by kernel_rfl) (by decide), by simp [Rel.read, hp66, hp74], by simp [Rel.out]⟩
    · rw [hb73] at En72
      have hp87 : ¬ (((List.length (List.drop (clampN n (List.length lu)) lu) : Nat) : Int) = (0 : Int)) := ne_of_beq_false hb73
      refine d_pures [(0, .pointer (some ⟨b, 0, none⟩)), (2, .int .i64 n), (6, .slice none 0 0), (7, .slice azq17 (List.length (List.take (clampN n (List.length lu)) lu)) czq17), (8, .int .i64 2), (112, .bool false), (116, .pointer (some ⟨b, 10, none⟩))] [undef, undef, undef, undef, undef, undef, .bool false, .bool false, .pointer (some ⟨b, 0, none⟩), .pointer (some ⟨b, 2, none⟩), .pointer (some ⟨b, 7, none⟩), .pointer (some ⟨b, 10, none⟩)] 27 En72 (by kernel_rfl) (by kernel_rfl) rfl ?_
      intro ac88 En89
      refine from_op (by kernel_rfl) ?_
      refine op_storebox2 (d := none) (t := 4) (b := b) (off := 10) (k := 2) (v := .bool false) En89 (by kernel_rfl) Hv49 rfl rfl (by kernel_rfl) rfl rfl (L' := [.vec azq17 czq17 1 (bys (List.take (clampN n (List.length lu)) lu)) 5, .vec ayq17 cyq17 1 (bys (List.drop (clampN n (List.length lu)) lu)) 5, .box b [.slice ayq17 (List.length (List.drop (clampN n (List.length lu)) lu)) cyq17, .slice ad (List.length ld) cd, .slice ah (List.length lh) ch, .slice ap (List.length lp) cp, .slice aq (List.length lq) cq, .bool fc, .bool fe, .slice ar (List.length lr) cr, .slice ao36 (List.length (lv ++ (List.take (clampN n (List.length lu)) lu))) cp37, .bool bc, .bool false] 53, .vec au cu 1 (bys lu) 5, .vec ad cd 1 (bys ld) 5, .vec ah ch 1 (bys lh) 5, .vec ap cp 1 (bys lp) 5, .vec aq cq 1 (bys lq) 5, .vec ar cr 1 (bys lr) 5, .vec ao36 cp37 1 (bys (lv ++ (List.take (clampN n (List.length lu)) lu))) 5]) rfl ?_
      intro ac90 wo91  En92 Hv93
      refine from_end (by kernel_rfl) ?_
      refine block_normal ?_
      refine then_normal ?_
      refine wp_seq ?_
      refine region_from ?_  -- region 11
      refine d_pures [(0, .pointer (some ⟨b, 0, none⟩)), (2, .int .i64 n), (6, .slice azq17 (List.length (List.take (clampN n (List.length lu)) lu)) czq17), (7, .slice azq17 (List.length (List.take (clampN n (List.length lu)) lu)) czq17), (8, .int .i64 2)] [.slice azq17 (List.length (List.take (clampN n (List.length lu)) lu)) czq17, .slice azq17 (List.length (List.take (clampN n (List.length lu)) lu)) czq17] 2 En92 (by kernel_rfl) (by kernel_rfl) rfl ?_
      intro ac94 En95
      refine from_end (by kernel_rfl) ?_
      refine then_normal ?_
      refine wp_ret ?_
      refine d_ret1 (t := 6) (v := .slice azq17 (List.length (List.take (clampN n (List.length lu)) lu)) czq17) En95 (by kernel_rfl) (by kernel_rfl) ?_
      try simp at hp66
      try simp at hp87
      exact ⟨ayq17, ad, ah, ap, aq, ar, ao36, cyq17, cd, ch, cp, cq, cr, cp37, (List.drop (clampN n (List.length lu)) lu), ld, lh, lp, lq, lr, (lv ++ (List.take (clampN n (List.length lu)) lu)), fc, fe, bc, false, azq17, czq17, (List.take (clampN n (List.length lu)) lu), rfl, Hv93.pick [2, 1, 4, 5, 6, 7, 8, 9, 0] (by kernel_rfl) (by decide), by simp [Rel.read, hp66, hp87], by simp [Rel.out]⟩

theorem yreadx (w : World) (b : Nat) (au ad ah ap aq ar av : Option Addr) (cu cd ch cp cq cr cv : Nat) (lu ld lh lp lq lr lv : List UInt8) (fc fe bc be : Bool) (n : Int) (sd : Int) (h1 : ¬ sd = 1) (h2 : ¬ sd = 2) (hH : Heap w [.box b [.slice au (List.length lu) cu, .slice ad (List.length ld) cd, .slice ah (List.length lh) ch, .slice ap (List.length lp) cp, .slice aq (List.length lq) cq, .bool fc, .bool fe, .slice ar (List.length lr) cr, .slice av (List.length lv) cv, .bool bc, .bool be] 53, .vec au cu 1 (bys lu) 5, .vec ad cd 1 (bys ld) 5, .vec ah ch 1 (bys lh) 5, .vec ap cp 1 (bys lp) 5, .vec aq cq 1 (bys lq) 5, .vec ar cr 1 (bys lr) 5, .vec av cv 1 (bys lv) 5]) (hS : List.length lu + List.length ld + List.length lh + List.length lp + List.length lq + List.length lr + List.length lv ≤ 140737488351232) : Calls Try.prog 22 #[.pointer (some ⟨b, 0, none⟩), .int .i64 sd, .int .i64 n] w fun e w' => ∃ au0 ad0 ah0 ap0 aq0 ar0 av0, ∃ cu0 cd0 ch0 cp0 cq0 cr0 cv0, ∃ (lu0 : List UInt8) (ld0 : List UInt8) (lh0 : List UInt8) (lp0 : List UInt8) (lq0 : List UInt8) (lr0 : List UInt8) (lv0 : List UInt8), ∃ (fc0 : Bool) (fe0 : Bool) (bc0 : Bool) (be0 : Bool), ∃ ao co lo, e = .returned (.slice ao (List.length lo) co) ∧ Ev w [.box b [.slice au (List.length lu) cu, .slice ad (List.length ld) cd, .slice ah (List.length lh) ch, .slice ap (List.length lp) cp, .slice aq (List.length lq) cq, .bool fc, .bool fe, .slice ar (List.length lr) cr, .slice av (List.length lv) cv, .bool bc, .bool be] 53, .vec au cu 1 (bys lu) 5, .vec ad cd 1 (bys ld) 5, .vec ah ch 1 (bys lh) 5, .vec ap cp 1 (bys lp) 5, .vec aq cq 1 (bys lq) 5, .vec ar cr 1 (bys lr) 5, .vec av cv 1 (bys lv) 5] w' [.box b [.slice au0 (List.length lu0) cu0, .slice ad0 (List.length ld0) cd0, .slice ah0 (List.length lh0) ch0, .slice ap0 (List.length lp0) cp0, .slice aq0 (List.length lq0) cq0, .bool fc0, .bool fe0, .slice ar0 (List.length lr0) cr0, .slice av0 (List.length lv0) cv0, .bool bc0, .bool be0] 53, .vec au0 cu0 1 (bys lu0) 5, .vec ad0 cd0 1 (bys ld0) 5, .vec ah0 ch0 1 (bys lh0) 5, .vec ap0 cp0 1 (bys lp0) 5, .vec aq0 cq0 1 (bys lq0) 5, .vec ar0 cr0 1 (bys lr0) 5, .vec av0 cv0 1 (bys lv0) 5, .vec ao co 1 (bys lo) 5] ∧ (⟨lu0, ld0, lh0, lp0, lq0, fc0, fe0, lr0, lv0, bc0, be0⟩ : Rel) = Rel.read (⟨lu, ld, lh, lp, lq, fc, fe, lr, lv, bc, be⟩ : Rel) sd n ∧ lo = Rel.out (⟨lu, ld, lh, lp, lq, fc, fe, lr, lv, bc, be⟩ : Rel) sd n := by
  have hcu := clampN_le n (List.length lu)
  have hcd := clampN_le n (List.length ld)
  have hmu : (List.take (clampN n (List.length lu)) lu).length = clampN n (List.length lu) := by rw [List.length_take]; omega
  have hmd : (List.take (clampN n (List.length ld)) ld).length = clampN n (List.length ld) := by rw [List.length_take]; omega
  refine d_start [(0, .pointer (some ⟨b, 0, none⟩)), (1, .int .i64 sd), (2, .int .i64 n)] 118 Go.Proofs.Try.func22 Go.Proofs.Try.ntmps22 rfl (by kernel_rfl) (by kernel_rfl) ?_
  intro act0 En0
  have Hv0 : Ev w [.box b [.slice au (List.length lu) cu, .slice ad (List.length ld) cd, .slice ah (List.length lh) ch, .slice ap (List.length lp) cp, .slice aq (List.length lq) cq, .bool fc, .bool fe, .slice ar (List.length lr) cr, .slice av (List.length lv) cv, .bool bc, .bool be] 53, .vec au cu 1 (bys lu) 5, .vec ad cd 1 (bys ld) 5, .vec ah ch 1 (bys lh) 5, .vec ap cp 1 (bys lp) 5, .vec aq cq 1 (bys lq) 5, .vec ar cr 1 (bys lr) 5, .vec av cv 1 (bys lv) 5] w [.box b [.slice au (List.length lu) cu, .slice ad (List.length ld) cd, .slice ah (List.length lh) ch, .slice ap (List.length lp) cp, .slice aq (List.length lq) cq, .bool fc, .bool fe, .slice ar (List.length lr) cr, .slice av (List.length lv) cv, .bool bc, .bool be] 53, .vec au cu 1 (bys lu) 5, .vec ad cd 1 (bys ld) 5, .vec ah ch 1 (bys lh) 5, .vec ap cp 1 (bys lp) 5, .vec aq cq 1 (bys lq) 5, .vec ar cr 1 (bys lr) 5, .vec av cv 1 (bys lv) 5] := Ev.refl (hH)
  refine wp_seq ?_
  refine region_from ?_  -- region 0
  refine d_pures [(0, .pointer (some ⟨b, 0, none⟩)), (1, .int .i64 sd), (2, .int .i64 n), (6, .slice none 0 0)] [.slice none 0 0] 1 En0 (by kernel_rfl) (by kernel_rfl) rfl ?_
  intro ac1 En2
  refine from_end (by kernel_rfl) ?_
  refine then_normal ?_
  refine wp_seq ?_
  refine region_from ?_  -- region 1
  refine d_pures [(0, .pointer (some ⟨b, 0, none⟩)), (1, .int .i64 sd), (2, .int .i64 n), (6, .slice none 0 0), (7, .slice none 0 0)] [.slice none 0 0] 1 En2 (by kernel_rfl) (by kernel_rfl) rfl ?_
  intro ac3 En4
  refine from_end (by kernel_rfl) ?_
  refine then_normal ?_
  refine wp_seq ?_
  refine wp_seq ?_
  refine region_from ?_  -- region 2
  refine d_pures [(0, .pointer (some ⟨b, 0, none⟩)), (2, .int .i64 n), (6, .slice none 0 0), (7, .slice none 0 0), (8, .int .i64 sd)] [.int .i64 sd] 1 En4 (by kernel_rfl) (by kernel_rfl) rfl ?_
  intro ac5 En6
  refine from_end (by kernel_rfl) ?_
  refine then_normal ?_
  refine wp_block ?_
  refine wp_seq ?_
  refine region_from ?_  -- region 3
  refine d_pures [(0, .pointer (some ⟨b, 0, none⟩)), (2, .int .i64 n), (6, .slice none 0 0), (7, .slice none 0 0), (8, .int .i64 sd), (10, .bool (sd == (1 : Int)))] [.bool (sd == (1 : Int))] 1 En6 (by kernel_rfl) (by kernel_rfl) rfl ?_
  intro ac7 En8
  rw [show (sd == (1 : Int)) = false from (by simp only [beq_eq_false_iff_ne, ne_eq]; assumption)] at En8
  refine d_pures [(0, .pointer (some ⟨b, 0, none⟩)), (2, .int .i64 n), (6, .slice none 0 0), (7, .slice none 0 0), (8, .int .i64 sd), (9, .bool false)] [.bool false] 2 En8 (by kernel_rfl) (by kernel_rfl) rfl ?_
  intro ac9 En10
  refine from_end (by kernel_rfl) ?_
  refine then_normal ?_
  refine cond_false En10 (t := false) (by kernel_rfl) rfl ?_
  refine wp_seq ?_
  refine region_from ?_  -- region 7
  refine d_pures [(0, .pointer (some ⟨b, 0, none⟩)), (2, .int .i64 n), (6, .slice none 0 0), (7, .slice none 0 0), (8, .int .i64 sd), (64, .bool (sd == (2 : Int)))] [.bool (sd == (2 : Int))] 1 En10 (by kernel_rfl) (by kernel_rfl) rfl ?_
  intro ac11 En12
  rw [show (sd == (2 : Int)) = false from (by simp only [beq_eq_false_iff_ne, ne_eq]; assumption)] at En12
  refine d_pures [(0, .pointer (some ⟨b, 0, none⟩)), (2, .int .i64 n), (6, .slice none 0 0), (7, .slice none 0 0), (8, .int .i64 sd), (63, .bool false)] [.bool false] 2 En12 (by kernel_rfl) (by kernel_rfl) rfl ?_
  intro ac13 En14
  refine from_end (by kernel_rfl) ?_
  refine then_normal ?_
  refine cond_false En14 (t := false) (by kernel_rfl) rfl ?_
  refine wp_skip ?_
  refine block_normal ?_
  refine then_normal ?_
  refine wp_seq ?_
  refine region_from ?_  -- region 11
  refine d_pures [(0, .pointer (some ⟨b, 0, none⟩)), (2, .int .i64 n), (6, .slice none 0 0), (7, .slice none 0 0), (8, .int .i64 sd)] [.slice none 0 0, .slice none 0 0] 2 En14 (by kernel_rfl) (by kernel_rfl) rfl ?_
  intro ac15 En16
  refine from_end (by kernel_rfl) ?_
  refine then_normal ?_
  refine wp_ret ?_
  refine d_ret1 (t := 6) (v := .slice none 0 0) En16 (by kernel_rfl) (by kernel_rfl) ?_
  have Hv17 := Ev.nil (sz := 1) (T := 5) Hv0
  exact ⟨au, ad, ah, ap, aq, ar, av, cu, cd, ch, cp, cq, cr, cv, lu, ld, lh, lp, lq, lr, lv, fc, fe, bc, be, none, 0, [], rfl, Hv17.pick [0, 1, 2, 3, 4, 5, 6, 7, 8] (by kernel_rfl) (by decide), by simp [Rel.read, h1, h2], by simp [Rel.out, h1, h2]⟩

theorem yread (w : World) (b : Nat) (au ad ah ap aq ar av : Option Addr) (cu cd ch cp cq cr cv : Nat) (lu ld lh lp lq lr lv : List UInt8) (fc fe bc be : Bool) (n : Int) (sd : Int) (hH : Heap w [.box b [.slice au (List.length lu) cu, .slice ad (List.length ld) cd, .slice ah (List.length lh) ch, .slice ap (List.length lp) cp, .slice aq (List.length lq) cq, .bool fc, .bool fe, .slice ar (List.length lr) cr, .slice av (List.length lv) cv, .bool bc, .bool be] 53, .vec au cu 1 (bys lu) 5, .vec ad cd 1 (bys ld) 5, .vec ah ch 1 (bys lh) 5, .vec ap cp 1 (bys lp) 5, .vec aq cq 1 (bys lq) 5, .vec ar cr 1 (bys lr) 5, .vec av cv 1 (bys lv) 5]) (hS : List.length lu + List.length ld + List.length lh + List.length lp + List.length lq + List.length lr + List.length lv ≤ 140737488351232) : Calls Try.prog 22 #[.pointer (some ⟨b, 0, none⟩), .int .i64 sd, .int .i64 n] w fun e w' => ∃ au0 ad0 ah0 ap0 aq0 ar0 av0, ∃ cu0 cd0 ch0 cp0 cq0 cr0 cv0, ∃ (lu0 : List UInt8) (ld0 : List UInt8) (lh0 : List UInt8) (lp0 : List UInt8) (lq0 : List UInt8) (lr0 : List UInt8) (lv0 : List UInt8), ∃ (fc0 : Bool) (fe0 : Bool) (bc0 : Bool) (be0 : Bool), ∃ ao co lo, e = .returned (.slice ao (List.length lo) co) ∧ Ev w [.box b [.slice au (List.length lu) cu, .slice ad (List.length ld) cd, .slice ah (List.length lh) ch, .slice ap (List.length lp) cp, .slice aq (List.length lq) cq, .bool fc, .bool fe, .slice ar (List.length lr) cr, .slice av (List.length lv) cv, .bool bc, .bool be] 53, .vec au cu 1 (bys lu) 5, .vec ad cd 1 (bys ld) 5, .vec ah ch 1 (bys lh) 5, .vec ap cp 1 (bys lp) 5, .vec aq cq 1 (bys lq) 5, .vec ar cr 1 (bys lr) 5, .vec av cv 1 (bys lv) 5] w' [.box b [.slice au0 (List.length lu0) cu0, .slice ad0 (List.length ld0) cd0, .slice ah0 (List.length lh0) ch0, .slice ap0 (List.length lp0) cp0, .slice aq0 (List.length lq0) cq0, .bool fc0, .bool fe0, .slice ar0 (List.length lr0) cr0, .slice av0 (List.length lv0) cv0, .bool bc0, .bool be0] 53, .vec au0 cu0 1 (bys lu0) 5, .vec ad0 cd0 1 (bys ld0) 5, .vec ah0 ch0 1 (bys lh0) 5, .vec ap0 cp0 1 (bys lp0) 5, .vec aq0 cq0 1 (bys lq0) 5, .vec ar0 cr0 1 (bys lr0) 5, .vec av0 cv0 1 (bys lv0) 5, .vec ao co 1 (bys lo) 5] ∧ (⟨lu0, ld0, lh0, lp0, lq0, fc0, fe0, lr0, lv0, bc0, be0⟩ : Rel) = Rel.read (⟨lu, ld, lh, lp, lq, fc, fe, lr, lv, bc, be⟩ : Rel) sd n ∧ lo = Rel.out (⟨lu, ld, lh, lp, lq, fc, fe, lr, lv, bc, be⟩ : Rel) sd n := by
  by_cases h1 : sd = 1
  · subst h1; exact yread1 w b au ad ah ap aq ar av cu cd ch cp cq cr cv lu ld lh lp lq lr lv fc fe bc be n hH hS
  · by_cases h2 : sd = 2
    · subst h2; exact yread2 w b au ad ah ap aq ar av cu cd ch cp cq cr cv lu ld lh lp lq lr lv fc fe bc be n hH hS
    · exact yreadx w b au ad ah ap aq ar av cu cd ch cp cq cr cv lu ld lh lp lq lr lv fc fe bc be n sd h1 h2 hH hS
end Go.Proofs.Ytjecaljhipfbfaa
