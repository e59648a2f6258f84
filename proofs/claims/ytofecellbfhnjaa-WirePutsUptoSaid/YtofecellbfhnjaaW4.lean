/- Layer 17: lists of numbers are read. -/
import Derived.Test.YtofecellbfhnjaaW3
namespace Go.Proofs.Ytofecellbfhnjaa
open Go.Dbr
set_option maxRecDepth 100000
set_option maxHeartbeats 2000000
set_option linter.unusedVariables false
set_option linter.unusedSimpArgs false

def manyM {α : Type} (one : Bs → Bool → Bool → α × PS) (n x : Nat) (l : Bs) (s o : Bool) : List α × PS :=
  ((mn one (lsO n x 16777215 l s, lsS n x 16777215 l s, false)).1, lsR n x 16777215 l s, lsS n x 16777215 l s || (mn one (lsO n x 16777215 l s, lsS n x 16777215 l s, false)).2.2.1, o || (mn one (lsO n x 16777215 l s, lsS n x 16777215 l s, false)).2.2.2)
def gotA {α : Type} (q : α × PS) : Int := endV q.2.2.1 q.2.1.length q.2.2.2
def gotV {α : Type} (z : α) (q : α × PS) : α := if gotA q = 0 then q.1 else z
theorem gotV_0 {α : Type} {z : α} {q : α × PS} (h : gotA q = 0) : gotV z q = q.1 := by rw [gotV, if_pos h]
theorem gotV_n {α : Type} {z : α} {q : α × PS} {k : Int} (h : gotA q = k) (hk : k ≠ 0) : gotV z q = z := by rw [gotV, if_neg (by rw [h]; exact hk)]
theorem lsO_32 {n x y : Nat} (hn : n ≤ 4) (l : Bs) (s : Bool) : (lsO n x y l s).length + 1 ≤ 4294967296 := Nat.succ_le_of_lt (Nat.lt_of_le_of_lt (tkO_len _ _ _) (nbV_4 hn l s))
theorem ldO_32 {n x y : Nat} (hn : n ≤ 4) (l : Bs) (s : Bool) : (ldO n x y l s).length + 1 ≤ 4294967296 := Nat.succ_le_of_lt (Nat.lt_of_le_of_lt (tkO_len _ _ _) (nbV_4 hn l s))

theorem getlist1 (w : World) (br : Nat) (a : Option Addr) (c : Nat) (l : List UInt8) (s o : Bool) (i : InB w [.box br [.slice a (List.length l) c, .bool s, .bool o] 120] a c l) (hH : Heap w [.box br [.slice a (List.length l) c, .bool s, .bool o] 120]) : Calls Try.prog 146 #[pt br] w fun e w' => ∃ ta tc oa oc xs, e = .returned (.slice oa (List.length xs) oc) ∧ Ev w [.box br [.slice a (List.length l) c, .bool s, .bool o] 120] w' [.box br [.slice ta (List.length ((manyM u16M 2 2 l s o).2.1)) tc, .bool ((manyM u16M 2 2 l s o).2.2.1), .bool ((manyM u16M 2 2 l s o).2.2.2)] 120, .vec oa oc 1 (List.flatMap fU16 xs) 37] ∧ Sub a c l ta tc (manyM u16M 2 2 l s o).2.1 ∧ List.map (fun y : RU16 => y) xs = (manyM u16M 2 2 l s o).1 ∧ List.length xs ≤ 4294967296 := by
 refine d_0 [(0, pt br)] 5 Go.Proofs.Try.func146 Go.Proofs.Try.ntmps146 (hH) fun act0 En0 Hv0 => ?_
 refine d_s [0,2] [] En0 fun ac1 En2 => ?_
 refine wp_seq ?_
 refine region_from ?_
 refine d_k [2,3] [] 1 En2 fun ac3 En4 => ?_
 refine f_o ?_
 refine c_l [0] (M := [.box br [.slice a (List.length l) c, .bool s, .bool o] 120]) En4 Hv0 (fun hM14 => many_u16 _ br 2 (by omega) 2 (by omega) a c l s o ((i.ev Hv0).pick [0] (by kernel_rfl)) hM14) ?_
 rintro _ wo15 ⟨ta5, tc6, oa7, oc8, xs9, rfl, he16, hs10, hmn11, hct12⟩
 refine ⟨_, _, [.box br [.slice ta5 (List.length (lsR 2 2 16777215 l s)) tc6, .bool (lsS 2 2 16777215 l s || (mn u16M ((lsO 2 2 16777215 l s, lsS 2 2 16777215 l s, false) : PS)).2.2.1), .bool (o || (mn u16M ((lsO 2 2 16777215 l s, lsS 2 2 16777215 l s, false) : PS)).2.2.2)] 120, .vec oa7 oc8 1 (List.flatMap fU16 xs9) 37], rfl, he16, by kernel_rfl, fun ac18 En19 Hv20 => ?_⟩
 refine d_e [2] [] En19 fun ac21 En22 => ?_
 refine then_normal ?_
 refine wp_ret ?_
 refine d_ret1 (t := 2) (v := .slice oa7 (List.length xs9) oc8) En22 (by kernel_rfl) (by kernel_rfl) ?_
 exact ⟨ta5, tc6, oa7, oc8, xs9, rfl, Hv20.pk [0, 1], hs10, hmn11, (Nat.le_trans hct12 (lsO_32 (by decide) _ _))⟩

theorem got_getlist (w : World) (a : Option Addr) (c : Nat) (l : Bs) (i : InB w [] a c l) : Calls Try.prog 145 #[.slice a (List.length l) c, .func (.func 146) #[] #[]] w fun e w' => ∃ oa oc xs, e = .returned (.tuple #[.slice oa (List.length xs) oc, .int .i64 (gotA (manyM u16M 2 2 l false false))]) ∧ Ev w [] w' [.vec oa oc 1 (List.flatMap fU16 xs) 37] ∧ List.map (fun y : RU16 => y) xs = gotV [] (manyM u16M 2 2 l false false) ∧ List.length xs ≤ 4294967296 := by
 refine d_0 [(0, .slice a (List.length l) c), (1, .func (.func 146) #[] #[])] 36 Go.Proofs.Try.func145 Go.Proofs.Try.ntmps145 (Heap.nil _) fun act0 En0 Hv0 => ?_
 refine d_s [0,1,4,5] [] En0 fun ac1 En2 => ?_
 refine d_s [0,1,4,5,6] [] En2 fun ac3 En4 => ?_
 refine wp_seq ?_
 refine region_from ?_
 refine d_k [1,4,5,6,10] [] 2 En4 fun ac5 En6 => ?_
 refine f_o ?_
 refine m_m 120 [.slice a (List.length l) c, .bool false, .bool false] En6 Hv0 fun ac8 wo9 bk7 En10 Hv11 => ?_
 refine d_e [1,4,5,6,7] [] En10 fun ac12 En13 => ?_
 refine then_normal ?_
 refine wp_seq ?_
 refine region_from ?_
 refine d_k [4,5,6,7,12,13] [] 2 En13 fun ac14 En15 => ?_
 refine f_o ?_
 refine c_l [0] (M := [.box bk7 [.slice a (List.length l) c, .bool false, .bool false] 120]) En15 Hv11 (fun hM24 => getlist1 _ bk7 a c l false false ((i.ev Hv11).pick [0] (by kernel_rfl)) hM24) ?_
 rintro _ wo25 ⟨ta16, tc17, oa20, oc21, xs22, rfl, he26, hs18, hpu19, hf23⟩
 refine ⟨_, _, [.box bk7 [.slice ta16 (List.length ((manyM u16M 2 2 l false false).2.1)) tc17, .bool ((manyM u16M 2 2 l false false).2.2.1), .bool ((manyM u16M 2 2 l false false).2.2.2)] 120, .vec oa20 oc21 1 (List.flatMap fU16 xs22) 37], rfl, he26, by kernel_rfl, fun ac28 En29 Hv30 => ?_⟩
 refine d_e [4,5,6,7,8] [] En29 fun ac31 En32 => ?_
 refine then_normal ?_
 refine wp_seq ?_
 refine wp_block ?_
 refine wp_seq ?_
 refine region_from ?_
 refine d_k [4,5,6,7,8,18] [] 3 En32 fun ac33 En34 => ?_
 refine f_o ?_
 refine m_l 0 En34 Hv30 fun ac35 En36 => ?_
 refine d_k [4,5,6,7,8,20] [] 5 En36 fun ac37 En38 => ?_
 rcases Bool.eq_false_or_eq_true ((manyM u16M 2 2 l false false).2.2.1) with hb39 | hb39
 ·
  have En40 := En38.fx (t := 20) (congrArg Value.bool hb39)
  have hp41 : (manyM u16M 2 2 l false false).2.2.1 = true := hb39
  refine d_e [4,5,6,7,8,15] [] En40 fun ac42 En43 => ?_
  refine then_normal ?_
  refine c_t En43 ?_
  refine d_s [4,5,6,7,8] [] En43 fun ac44 En45 => ?_
  refine wp_ret ?_
  refine block_ret ?_
  refine then_ret ?_
  refine d_ret2 (t := 4) (u := 5) (v := .slice none 0 0) (x := .int .i64 50) En45 (by kernel_rfl) (by kernel_rfl) (by kernel_rfl) ?_
  have eA : gotA (manyM u16M 2 2 l false false) = 50 := Eq.symm (by first | exact end_1 (by assumption) | exact end_2 (by omega) | exact end_3 (by assumption) (by omega) (by assumption))
  rw [gotV_n eA (by decide), eA]
  have Hv46 : Ev w [] wo25 [.box bk7 [.slice ta16 (List.length ((manyM u16M 2 2 l false false).2.1)) tc17, .bool ((manyM u16M 2 2 l false false).2.2.1), .bool ((manyM u16M 2 2 l false false).2.2.2)] 120, .vec oa20 oc21 1 (List.flatMap fU16 xs22) 37, .vec none 0 1 (List.flatMap fU16 []) 37] := Ev.nil (sz := 1) (T := 37) Hv30
  exact ⟨none, 0, [], rfl, Hv46.pk [2], rfl, (Nat.zero_le _)⟩
 ·
  have En47 := En38.fx (t := 20) (congrArg Value.bool hb39)
  have hp48 : ¬ ((manyM u16M 2 2 l false false).2.2.1 = true) := Bool.eq_false_iff.1 hb39
  refine d_k [4,5,6,7,8,20,23] [] 8 En47 fun ac49 En50 => ?_
  refine f_o ?_
  refine m_l 0 En50 Hv30 fun ac51 En52 => ?_
  refine d_e [4,5,6,7,8,15] [] En52 fun ac53 En54 => ?_
  refine then_normal ?_
  refine c_d (((List.length ((manyM u16M 2 2 l false false).2.1) : Nat) : Int) > (0 : Int)) En54 (fun hc55 => ?_) (fun hc55 => ?_)
  ·
   refine d_s [4,5,6,7,8] [] En54 fun ac56 En57 => ?_
   refine wp_ret ?_
   refine block_ret ?_
   refine then_ret ?_
   refine d_ret2 (t := 4) (u := 5) (v := .slice none 0 0) (x := .int .i64 50) En57 (by kernel_rfl) (by kernel_rfl) (by kernel_rfl) ?_
   have eA : gotA (manyM u16M 2 2 l false false) = 50 := Eq.symm (by first | exact end_1 (by assumption) | exact end_2 (by omega) | exact end_3 (by assumption) (by omega) (by assumption))
   rw [gotV_n eA (by decide), eA]
   have Hv58 : Ev w [] wo25 [.box bk7 [.slice ta16 (List.length ((manyM u16M 2 2 l false false).2.1)) tc17, .bool ((manyM u16M 2 2 l false false).2.2.1), .bool ((manyM u16M 2 2 l false false).2.2.2)] 120, .vec oa20 oc21 1 (List.flatMap fU16 xs22) 37, .vec none 0 1 (List.flatMap fU16 []) 37] := Ev.nil (sz := 1) (T := 37) Hv30
   exact ⟨none, 0, [], rfl, Hv58.pk [2], rfl, (Nat.zero_le _)⟩
  ·
   refine wp_seq ?_
   refine region_from ?_
   refine d_k [4,5,6,7,8,32] [] 3 En54 fun ac59 En60 => ?_
   refine f_o ?_
   refine m_l 0 En60 Hv30 fun ac61 En62 => ?_
   refine d_e [4,5,6,7,8,29] [] En62 fun ac63 En64 => ?_
   refine then_normal ?_
   refine cond_at En64 (t := (manyM u16M 2 2 l false false).2.2.2) (by kernel_rfl) (fun hc65 => ?_) (fun hc65 => ?_)
   ·
    replace hc65 : (manyM u16M 2 2 l false false).2.2.2 = true := hc65
    refine d_s [4,5,6,7,8] [] En64 fun ac66 En67 => ?_
    refine wp_ret ?_
    refine block_ret ?_
    refine then_ret ?_
    refine d_ret2 (t := 4) (u := 5) (v := .slice none 0 0) (x := .int .i64 47) En67 (by kernel_rfl) (by kernel_rfl) (by kernel_rfl) ?_
    have eA : gotA (manyM u16M 2 2 l false false) = 47 := Eq.symm (by first | exact end_1 (by assumption) | exact end_2 (by omega) | exact end_3 (by assumption) (by omega) (by assumption))
    rw [gotV_n eA (by decide), eA]
    have Hv68 : Ev w [] wo25 [.box bk7 [.slice ta16 (List.length ((manyM u16M 2 2 l false false).2.1)) tc17, .bool ((manyM u16M 2 2 l false false).2.2.1), .bool ((manyM u16M 2 2 l false false).2.2.2)] 120, .vec oa20 oc21 1 (List.flatMap fU16 xs22) 37, .vec none 0 1 (List.flatMap fU16 []) 37] := Ev.nil (sz := 1) (T := 37) Hv30
    exact ⟨none, 0, [], rfl, Hv68.pk [2], rfl, (Nat.zero_le _)⟩
   ·
    replace hc65 : ¬ ((manyM u16M 2 2 l false false).2.2.2 = true) := Bool.eq_false_iff.1 hc65
    refine wp_skip ?_
    refine block_normal ?_
    refine then_normal ?_
    refine d_s [4,5,6,7] [] En64 fun ac69 En70 => ?_
    refine wp_ret ?_
    refine d_ret2 (t := 4) (u := 5) (v := .slice oa20 (List.length xs22) oc21) (x := .int .i64 0) En70 (by kernel_rfl) (by kernel_rfl) (by kernel_rfl) ?_
    have eA : gotA (manyM u16M 2 2 l false false) = 0 := (end_4 (by assumption) (by omega) (by assumption)).symm
    rw [gotV_0 eA, eA]
    exact ⟨oa20, oc21, xs22, rfl, Hv30.pk [1], hpu19, hf23⟩

theorem getlist_go (w : World) (aq : Option Addr) (nq cq : Nat) (lq : List UInt8) (eq : nq = List.length lq) (iq : InB w [] aq cq lq) : Calls Try.prog 43 #[.slice aq nq cq] w fun e w' => ∃ oa oc xs, e = .returned (.tuple #[.slice oa (List.length xs) oc, .int .i64 (gotA (manyM u16M 2 2 lq false false))]) ∧ Ev w [] w' [.vec oa oc 1 (List.flatMap fU16 xs) 37] ∧ List.map (fun y : RU16 => y) xs = gotV [] (manyM u16M 2 2 lq false false) ∧ List.length xs ≤ 4294967296 := by
 subst eq
 refine d_0 [(0, .slice aq (List.length lq) cq)] 8 Go.Proofs.Try.func43 Go.Proofs.Try.ntmps43 (Heap.nil _) fun act0 En0 Hv0 => ?_
 refine d_s [0,2,3] [] En0 fun ac1 En2 => ?_
 refine wp_seq ?_
 refine region_from ?_
 refine d_k [2,3,4] [] 1 En2 fun ac3 En4 => ?_
 refine f_o ?_
 refine c_0 En4 Hv0 (got_getlist _ aq cq lq ((iq.ev Hv0).pick [] (by kernel_rfl))) ?_
 rintro _ wo11 ⟨oa5, oc6, xs7, rfl, he12, hpu8, hf9⟩
 refine ⟨_, _, _, rfl, he12, rfl, fun ac14 En15 Hv16 => ?_⟩
 refine d_e [2,3] [] En15 fun ac17 En18 => ?_
 refine then_normal ?_
 refine wp_ret ?_
 refine d_ret2 (t := 2) (u := 3) (v := .slice oa5 (List.length xs7) oc6) (x := .int .i64 (gotA (manyM u16M 2 2 lq false false))) En18 (by kernel_rfl) (by kernel_rfl) (by kernel_rfl) ?_
 exact ⟨oa5, oc6, xs7, rfl, Hv16.pk [0], hpu8, hf9⟩

theorem getversions1 (w : World) (br : Nat) (a : Option Addr) (c : Nat) (l : List UInt8) (s o : Bool) (i : InB w [.box br [.slice a (List.length l) c, .bool s, .bool o] 120] a c l) (hH : Heap w [.box br [.slice a (List.length l) c, .bool s, .bool o] 120]) : Calls Try.prog 150 #[pt br] w fun e w' => ∃ ta tc oa oc xs, e = .returned (.slice oa (List.length xs) oc) ∧ Ev w [.box br [.slice a (List.length l) c, .bool s, .bool o] 120] w' [.box br [.slice ta (List.length ((manyM u16M 1 2 l s o).2.1)) tc, .bool ((manyM u16M 1 2 l s o).2.2.1), .bool ((manyM u16M 1 2 l s o).2.2.2)] 120, .vec oa oc 1 (List.flatMap fU16 xs) 37] ∧ Sub a c l ta tc (manyM u16M 1 2 l s o).2.1 ∧ List.map (fun y : RU16 => y) xs = (manyM u16M 1 2 l s o).1 ∧ List.length xs ≤ 4294967296 := by
 refine d_0 [(0, pt br)] 5 Go.Proofs.Try.func150 Go.Proofs.Try.ntmps150 (hH) fun act0 En0 Hv0 => ?_
 refine d_s [0,2] [] En0 fun ac1 En2 => ?_
 refine wp_seq ?_
 refine region_from ?_
 refine d_k [2,3] [] 1 En2 fun ac3 En4 => ?_
 refine f_o ?_
 refine c_l [0] (M := [.box br [.slice a (List.length l) c, .bool s, .bool o] 120]) En4 Hv0 (fun hM14 => many_u16 _ br 1 (by omega) 2 (by omega) a c l s o ((i.ev Hv0).pick [0] (by kernel_rfl)) hM14) ?_
 rintro _ wo15 ⟨ta5, tc6, oa7, oc8, xs9, rfl, he16, hs10, hmn11, hct12⟩
 refine ⟨_, _, [.box br [.slice ta5 (List.length (lsR 1 2 16777215 l s)) tc6, .bool (lsS 1 2 16777215 l s || (mn u16M ((lsO 1 2 16777215 l s, lsS 1 2 16777215 l s, false) : PS)).2.2.1), .bool (o || (mn u16M ((lsO 1 2 16777215 l s, lsS 1 2 16777215 l s, false) : PS)).2.2.2)] 120, .vec oa7 oc8 1 (List.flatMap fU16 xs9) 37], rfl, he16, by kernel_rfl, fun ac18 En19 Hv20 => ?_⟩
 refine d_e [2] [] En19 fun ac21 En22 => ?_
 refine then_normal ?_
 refine wp_ret ?_
 refine d_ret1 (t := 2) (v := .slice oa7 (List.length xs9) oc8) En22 (by kernel_rfl) (by kernel_rfl) ?_
 exact ⟨ta5, tc6, oa7, oc8, xs9, rfl, Hv20.pk [0, 1], hs10, hmn11, (Nat.le_trans hct12 (lsO_32 (by decide) _ _))⟩

theorem got_getversions (w : World) (a : Option Addr) (c : Nat) (l : Bs) (i : InB w [] a c l) : Calls Try.prog 145 #[.slice a (List.length l) c, .func (.func 150) #[] #[]] w fun e w' => ∃ oa oc xs, e = .returned (.tuple #[.slice oa (List.length xs) oc, .int .i64 (gotA (manyM u16M 1 2 l false false))]) ∧ Ev w [] w' [.vec oa oc 1 (List.flatMap fU16 xs) 37] ∧ List.map (fun y : RU16 => y) xs = gotV [] (manyM u16M 1 2 l false false) ∧ List.length xs ≤ 4294967296 := by
 refine d_0 [(0, .slice a (List.length l) c), (1, .func (.func 150) #[] #[])] 36 Go.Proofs.Try.func145 Go.Proofs.Try.ntmps145 (Heap.nil _) fun act0 En0 Hv0 => ?_
 refine d_s [0,1,4,5] [] En0 fun ac1 En2 => ?_
 refine d_s [0,1,4,5,6] [] En2 fun ac3 En4 => ?_
 refine wp_seq ?_
 refine region_from ?_
 refine d_k [1,4,5,6,10] [] 2 En4 fun ac5 En6 => ?_
 refine f_o ?_
 refine m_m 120 [.slice a (List.length l) c, .bool false, .bool false] En6 Hv0 fun ac8 wo9 bk7 En10 Hv11 => ?_
 refine d_e [1,4,5,6,7] [] En10 fun ac12 En13 => ?_
 refine then_normal ?_
 refine wp_seq ?_
 refine region_from ?_
 refine d_k [4,5,6,7,12,13] [] 2 En13 fun ac14 En15 => ?_
 refine f_o ?_
 refine c_l [0] (M := [.box bk7 [.slice a (List.length l) c, .bool false, .bool false] 120]) En15 Hv11 (fun hM24 => getversions1 _ bk7 a c l false false ((i.ev Hv11).pick [0] (by kernel_rfl)) hM24) ?_
 rintro _ wo25 ⟨ta16, tc17, oa20, oc21, xs22, rfl, he26, hs18, hpu19, hf23⟩
 refine ⟨_, _, [.box bk7 [.slice ta16 (List.length ((manyM u16M 1 2 l false false).2.1)) tc17, .bool ((manyM u16M 1 2 l false false).2.2.1), .bool ((manyM u16M 1 2 l false false).2.2.2)] 120, .vec oa20 oc21 1 (List.flatMap fU16 xs22) 37], rfl, he26, by kernel_rfl, fun ac28 En29 Hv30 => ?_⟩
 refine d_e [4,5,6,7,8] [] En29 fun ac31 En32 => ?_
 refine then_normal ?_
 refine wp_seq ?_
 refine wp_block ?_
 refine wp_seq ?_
 refine region_from ?_
 refine d_k [4,5,6,7,8,18] [] 3 En32 fun ac33 En34 => ?_
 refine f_o ?_
 refine m_l 0 En34 Hv30 fun ac35 En36 => ?_
 refine d_k [4,5,6,7,8,20] [] 5 En36 fun ac37 En38 => ?_
 rcases Bool.eq_false_or_eq_true ((manyM u16M 1 2 l false false).2.2.1) with hb39 | hb39
 ·
  have En40 := En38.fx (t := 20) (congrArg Value.bool hb39)
  have hp41 : (manyM u16M 1 2 l false false).2.2.1 = true := hb39
  refine d_e [4,5,6,7,8,15] [] En40 fun ac42 En43 => ?_
  refine then_normal ?_
  refine c_t En43 ?_
  refine d_s [4,5,6,7,8] [] En43 fun ac44 En45 => ?_
  refine wp_ret ?_
  refine block_ret ?_
  refine then_ret ?_
  refine d_ret2 (t := 4) (u := 5) (v := .slice none 0 0) (x := .int .i64 50) En45 (by kernel_rfl) (by kernel_rfl) (by kernel_rfl) ?_
  have eA : gotA (manyM u16M 1 2 l false false) = 50 := Eq.symm (by first | exact end_1 (by assumption) | exact end_2 (by omega) | exact end_3 (by assumption) (by omega) (by assumption))
  rw [gotV_n eA (by decide), eA]
  have Hv46 : Ev w [] wo25 [.box bk7 [.slice ta16 (List.length ((manyM u16M 1 2 l false false).2.1)) tc17, .bool ((manyM u16M 1 2 l false false).2.2.1), .bool ((manyM u16M 1 2 l false false).2.2.2)] 120, .vec oa20 oc21 1 (List.flatMap fU16 xs22) 37, .vec none 0 1 (List.flatMap fU16 []) 37] := Ev.nil (sz := 1) (T := 37) Hv30
  exact ⟨none, 0, [], rfl, Hv46.pk [2], rfl, (Nat.zero_le _)⟩
 ·
  have En47 := En38.fx (t := 20) (congrArg Value.bool hb39)
  have hp48 : ¬ ((manyM u16M 1 2 l false false).2.2.1 = true) := Bool.eq_false_iff.1 hb39
  refine d_k [4,5,6,7,8,20,23] [] 8 En47 fun ac49 En50 => ?_
  refine f_o ?_
  refine m_l 0 En50 Hv30 fun ac51 En52 => ?_
  refine d_e [4,5,6,7,8,15] [] En52 fun ac53 En54 => ?_
  refine then_normal ?_
  refine c_d (((List.length ((manyM u16M 1 2 l false false).2.1) : Nat) : Int) > (0 : Int)) En54 (fun hc55 => ?_) (fun hc55 => ?_)
  ·
   refine d_s [4,5,6,7,8] [] En54 fun ac56 En57 => ?_
   refine wp_ret ?_
   refine block_ret ?_
   refine then_ret ?_
   refine d_ret2 (t := 4) (u := 5) (v := .slice none 0 0) (x := .int .i64 50) En57 (by kernel_rfl) (by kernel_rfl) (by kernel_rfl) ?_
   have eA : gotA (manyM u16M 1 2 l false false) = 50 := Eq.symm (by first | exact end_1 (by assumption) | exact end_2 (by omega) | exact end_3 (by assumption) (by omega) (by assumption))
   rw [gotV_n eA (by decide), eA]
   have Hv58 : Ev w [] wo25 [.box bk7 [.slice ta16 (List.length ((manyM u16M 1 2 l false false).2.1)) tc17, .bool ((manyM u16M 1 2 l false false).2.2.1), .bool ((manyM u16M 1 2 l false false).2.2.2)] 120, .vec oa20 oc21 1 (List.flatMap fU16 xs22) 37, .vec none 0 1 (List.flatMap fU16 []) 37] := Ev.nil (sz := 1) (T := 37) Hv30
   exact ⟨none, 0, [], rfl, Hv58.pk [2], rfl, (Nat.zero_le _)⟩
  ·
   refine wp_seq ?_
   refine region_from ?_
   refine d_k [4,5,6,7,8,32] [] 3 En54 fun ac59 En60 => ?_
   refine f_o ?_
   refine m_l 0 En60 Hv30 fun ac61 En62 => ?_
   refine d_e [4,5,6,7,8,29] [] En62 fun ac63 En64 => ?_
   refine then_normal ?_
   refine cond_at En64 (t := (manyM u16M 1 2 l false false).2.2.2) (by kernel_rfl) (fun hc65 => ?_) (fun hc65 => ?_)
   ·
    replace hc65 : (manyM u16M 1 2 l false false).2.2.2 = true := hc65
    refine d_s [4,5,6,7,8] [] En64 fun ac66 En67 => ?_
    refine wp_ret ?_
    refine block_ret ?_
    refine then_ret ?_
    refine d_ret2 (t := 4) (u := 5) (v := .slice none 0 0) (x := .int .i64 47) En67 (by kernel_rfl) (by kernel_rfl) (by kernel_rfl) ?_
    have eA : gotA (manyM u16M 1 2 l false false) = 47 := Eq.symm (by first | exact end_1 (by assumption) | exact end_2 (by omega) | exact end_3 (by assumption) (by omega) (by assumption))
    rw [gotV_n eA (by decide), eA]
    have Hv68 : Ev w [] wo25 [.box bk7 [.slice ta16 (List.length ((manyM u16M 1 2 l false false).2.1)) tc17, .bool ((manyM u16M 1 2 l false false).2.2.1), .bool ((manyM u16M 1 2 l false false).2.2.2)] 120, .vec oa20 oc21 1 (List.flatMap fU16 xs22) 37, .vec none 0 1 (List.flatMap fU16 []) 37] := Ev.nil (sz := 1) (T := 37) Hv30
    exact ⟨none, 0, [], rfl, Hv68.pk [2], rfl, (Nat.zero_le _)⟩
   ·
    replace hc65 : ¬ ((manyM u16M 1 2 l false false).2.2.2 = true) := Bool.eq_false_iff.1 hc65
    refine wp_skip ?_
    refine block_normal ?_
    refine then_normal ?_
    refine d_s [4,5,6,7] [] En64 fun ac69 En70 => ?_
    refine wp_ret ?_
    refine d_ret2 (t := 4) (u := 5) (v := .slice oa20 (List.length xs22) oc21) (x := .int .i64 0) En70 (by kernel_rfl) (by kernel_rfl) (by kernel_rfl) ?_
    have eA : gotA (manyM u16M 1 2 l false false) = 0 := (end_4 (by assumption) (by omega) (by assumption)).symm
    rw [gotV_0 eA, eA]
    exact ⟨oa20, oc21, xs22, rfl, Hv30.pk [1], hpu19, hf23⟩

theorem getversions_go (w : World) (aq : Option Addr) (nq cq : Nat) (lq : List UInt8) (eq : nq = List.length lq) (iq : InB w [] aq cq lq) : Calls Try.prog 46 #[.slice aq nq cq] w fun e w' => ∃ oa oc xs, e = .returned (.tuple #[.slice oa (List.length xs) oc, .int .i64 (gotA (manyM u16M 1 2 lq false false))]) ∧ Ev w [] w' [.vec oa oc 1 (List.flatMap fU16 xs) 37] ∧ List.map (fun y : RU16 => y) xs = gotV [] (manyM u16M 1 2 lq false false) ∧ List.length xs ≤ 4294967296 := by
 subst eq
 refine d_0 [(0, .slice aq (List.length lq) cq)] 8 Go.Proofs.Try.func46 Go.Proofs.Try.ntmps46 (Heap.nil _) fun act0 En0 Hv0 => ?_
 refine d_s [0,2,3] [] En0 fun ac1 En2 => ?_
 refine wp_seq ?_
 refine region_from ?_
 refine d_k [2,3,4] [] 1 En2 fun ac3 En4 => ?_
 refine f_o ?_
 refine c_0 En4 Hv0 (got_getversions _ aq cq lq ((iq.ev Hv0).pick [] (by kernel_rfl))) ?_
 rintro _ wo11 ⟨oa5, oc6, xs7, rfl, he12, hpu8, hf9⟩
 refine ⟨_, _, _, rfl, he12, rfl, fun ac14 En15 Hv16 => ?_⟩
 refine d_e [2,3] [] En15 fun ac17 En18 => ?_
 refine then_normal ?_
 refine wp_ret ?_
 refine d_ret2 (t := 2) (u := 3) (v := .slice oa5 (List.length xs7) oc6) (x := .int .i64 (gotA (manyM u16M 1 2 lq false false))) En18 (by kernel_rfl) (by kernel_rfl) (by kernel_rfl) ?_
 exact ⟨oa5, oc6, xs7, rfl, Hv16.pk [0], hpu8, hf9⟩

end Go.Proofs.Ytofecellbfhnjaa
