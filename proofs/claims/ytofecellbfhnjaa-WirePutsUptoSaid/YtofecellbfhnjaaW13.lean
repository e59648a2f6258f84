/- Layer 17: bytes, numbers, a host's name are read, by both. -/
import Derived.Test.YtofecellbfhnjaaW11
namespace Go.Proofs.Ytofecellbfhnjaa
open Go.Dbr
set_option maxRecDepth 100000
set_option maxHeartbeats 2000000
set_option linter.unusedVariables false
set_option linter.unusedSimpArgs false

theorem bytes1_go (w : World) (br : Nat) (a : Option Addr) (c : Nat) (l : List UInt8) (s o : Bool) (i : InB w [.box br [.slice a (List.length l) c, .bool s, .bool o] 120] a c l) (hH : Heap w [.box br [.slice a (List.length l) c, .bool s, .bool o] 120]) : Calls Try.prog 155 #[pt br] w fun e w' => ∃ ta tc oa oc bl, e = .returned (.slice oa (List.length bl) oc) ∧ Ev w [.box br [.slice a (List.length l) c, .bool s, .bool o] 120] w' [.box br [.slice ta (List.length ((listM 1 1 255 l s o).2.1)) tc, .bool ((listM 1 1 255 l s o).2.2.1), .bool ((listM 1 1 255 l s o).2.2.2)] 120, .vec oa oc 1 (bys bl) 5] ∧ Sub a c l ta tc (listM 1 1 255 l s o).2.1 ∧ bl = (listM 1 1 255 l s o).1 := by
 refine d_0 [(0, pt br)] 5 Go.Proofs.Try.func155 Go.Proofs.Try.ntmps155 (hH) fun act0 En0 Hv0 => ?_
 refine d_s [0,2] [] En0 fun ac1 En2 => ?_
 refine wp_seq ?_
 refine region_from ?_
 refine d_k [2,3] [] 1 En2 fun ac3 En4 => ?_
 refine f_o ?_
 refine c_l [0] (M := [.box br [.slice a (List.length l) c, .bool s, .bool o] 120]) En4 Hv0 (fun hM10 => list_go _ br 1 (by omega) 1 255 (by omega) (by omega) a c l s o ((i.ev Hv0).pick [0] (by kernel_rfl)) hM10) ?_
 rintro _ wo11 ⟨ao5, cp6, ta7, tc8, rfl, he12, hs9⟩
 refine ⟨_, _, [.box br [.slice ta7 (List.length (lsR 1 1 255 l s)) tc8, .bool (lsS 1 1 255 l s), .bool o] 120, .vec ao5 cp6 1 (bys (lsO 1 1 255 l s)) 5], rfl, he12, by kernel_rfl, fun ac14 En15 Hv16 => ?_⟩
 refine d_e [2] [] En15 fun ac17 En18 => ?_
 refine then_normal ?_
 refine wp_ret ?_
 refine d_ret1 (t := 2) (v := .slice ao5 (List.length (lsO 1 1 255 l s)) cp6) En18 (by kernel_rfl) (by kernel_rfl) ?_
 exact ⟨ta7, tc8, ao5, cp6, (lsO 1 1 255 l s), rfl, Hv16.pk [0, 1], hs9, rfl⟩

theorem bytes2_go (w : World) (br : Nat) (a : Option Addr) (c : Nat) (l : List UInt8) (s o : Bool) (i : InB w [.box br [.slice a (List.length l) c, .bool s, .bool o] 120] a c l) (hH : Heap w [.box br [.slice a (List.length l) c, .bool s, .bool o] 120]) : Calls Try.prog 138 #[pt br] w fun e w' => ∃ ta tc oa oc bl, e = .returned (.slice oa (List.length bl) oc) ∧ Ev w [.box br [.slice a (List.length l) c, .bool s, .bool o] 120] w' [.box br [.slice ta (List.length ((listM 2 1 65535 l s o).2.1)) tc, .bool ((listM 2 1 65535 l s o).2.2.1), .bool ((listM 2 1 65535 l s o).2.2.2)] 120, .vec oa oc 1 (bys bl) 5] ∧ Sub a c l ta tc (listM 2 1 65535 l s o).2.1 ∧ bl = (listM 2 1 65535 l s o).1 := by
 refine d_0 [(0, pt br)] 5 Go.Proofs.Try.func138 Go.Proofs.Try.ntmps138 (hH) fun act0 En0 Hv0 => ?_
 refine d_s [0,2] [] En0 fun ac1 En2 => ?_
 refine wp_seq ?_
 refine region_from ?_
 refine d_k [2,3] [] 1 En2 fun ac3 En4 => ?_
 refine f_o ?_
 refine c_l [0] (M := [.box br [.slice a (List.length l) c, .bool s, .bool o] 120]) En4 Hv0 (fun hM10 => list_go _ br 2 (by omega) 1 65535 (by omega) (by omega) a c l s o ((i.ev Hv0).pick [0] (by kernel_rfl)) hM10) ?_
 rintro _ wo11 ⟨ao5, cp6, ta7, tc8, rfl, he12, hs9⟩
 refine ⟨_, _, [.box br [.slice ta7 (List.length (lsR 2 1 65535 l s)) tc8, .bool (lsS 2 1 65535 l s), .bool o] 120, .vec ao5 cp6 1 (bys (lsO 2 1 65535 l s)) 5], rfl, he12, by kernel_rfl, fun ac14 En15 Hv16 => ?_⟩
 refine d_e [2] [] En15 fun ac17 En18 => ?_
 refine then_normal ?_
 refine wp_ret ?_
 refine d_ret1 (t := 2) (v := .slice ao5 (List.length (lsO 2 1 65535 l s)) cp6) En18 (by kernel_rfl) (by kernel_rfl) ?_
 exact ⟨ta7, tc8, ao5, cp6, (lsO 2 1 65535 l s), rfl, Hv16.pk [0, 1], hs9, rfl⟩

theorem bytes3_go (w : World) (br : Nat) (a : Option Addr) (c : Nat) (l : List UInt8) (s o : Bool) (i : InB w [.box br [.slice a (List.length l) c, .bool s, .bool o] 120] a c l) (hH : Heap w [.box br [.slice a (List.length l) c, .bool s, .bool o] 120]) : Calls Try.prog 171 #[pt br] w fun e w' => ∃ ta tc oa oc bl, e = .returned (.slice oa (List.length bl) oc) ∧ Ev w [.box br [.slice a (List.length l) c, .bool s, .bool o] 120] w' [.box br [.slice ta (List.length ((listM 3 1 16777215 l s o).2.1)) tc, .bool ((listM 3 1 16777215 l s o).2.2.1), .bool ((listM 3 1 16777215 l s o).2.2.2)] 120, .vec oa oc 1 (bys bl) 5] ∧ Sub a c l ta tc (listM 3 1 16777215 l s o).2.1 ∧ bl = (listM 3 1 16777215 l s o).1 := by
 refine d_0 [(0, pt br)] 5 Go.Proofs.Try.func171 Go.Proofs.Try.ntmps171 (hH) fun act0 En0 Hv0 => ?_
 refine d_s [0,2] [] En0 fun ac1 En2 => ?_
 refine wp_seq ?_
 refine region_from ?_
 refine d_k [2,3] [] 1 En2 fun ac3 En4 => ?_
 refine f_o ?_
 refine c_l [0] (M := [.box br [.slice a (List.length l) c, .bool s, .bool o] 120]) En4 Hv0 (fun hM10 => list_go _ br 3 (by omega) 1 16777215 (by omega) (by omega) a c l s o ((i.ev Hv0).pick [0] (by kernel_rfl)) hM10) ?_
 rintro _ wo11 ⟨ao5, cp6, ta7, tc8, rfl, he12, hs9⟩
 refine ⟨_, _, [.box br [.slice ta7 (List.length (lsR 3 1 16777215 l s)) tc8, .bool (lsS 3 1 16777215 l s), .bool o] 120, .vec ao5 cp6 1 (bys (lsO 3 1 16777215 l s)) 5], rfl, he12, by kernel_rfl, fun ac14 En15 Hv16 => ?_⟩
 refine d_e [2] [] En15 fun ac17 En18 => ?_
 refine then_normal ?_
 refine wp_ret ?_
 refine d_ret1 (t := 2) (v := .slice ao5 (List.length (lsO 3 1 16777215 l s)) cp6) En18 (by kernel_rfl) (by kernel_rfl) ?_
 exact ⟨ta7, tc8, ao5, cp6, (lsO 3 1 16777215 l s), rfl, Hv16.pk [0, 1], hs9, rfl⟩

theorem got_getmodes (w : World) (a : Option Addr) (c : Nat) (l : Bs) (i : InB w [] a c l) : Calls Try.prog 156 #[.slice a (List.length l) c, .func (.func 155) #[] #[]] w fun e w' => ∃ oa oc bl, e = .returned (.tuple #[.slice oa (List.length bl) oc, .int .i64 (gotA (listM 1 1 255 l false false))]) ∧ Ev w [] w' [.vec oa oc 1 (bys bl) 5] ∧ bl = gotV [] (listM 1 1 255 l false false) := by
 refine d_0 [(0, .slice a (List.length l) c), (1, .func (.func 155) #[] #[])] 36 Go.Proofs.Try.func156 Go.Proofs.Try.ntmps156 (Heap.nil _) fun act0 En0 Hv0 => ?_
 refine d_s [0,1,4,5] [] En0 fun ac1 En2 => ?_
 refine d_s [0,1,4,5,6] [] En2 fun ac3 En4 => ?_
 refine wp_seq ?_
 refine region_from ?_
 refine d_k [1,4,5,6,10] [] 2 En4 fun ac5 En6 => ?_
 refine f_o ?_
 refine m_m 120 [.slice a (List.length l) c, .bool false, .bool false] En6 Hv0 fun ac8 wo9 bk7 En10 Hv11 => ?_
 refine d_e [1,4,5,6,7] [] En10 fun ac12 En13 => ?_
 refine then_normal ?_
 refine wp_seq ?_
 refine region_from ?_
 refine d_k [4,5,6,7,12,13] [] 2 En13 fun ac14 En15 => ?_
 refine f_o ?_
 refine c_l [0] (M := [.box bk7 [.slice a (List.length l) c, .bool false, .bool false] 120]) En15 Hv11 (fun hM23 => bytes1_go _ bk7 a c l false false ((i.ev Hv11).pick [0] (by kernel_rfl)) hM23) ?_
 rintro _ wo24 ⟨ta16, tc17, oa20, oc21, bl22, rfl, he25, hs18, hpu19⟩
 refine ⟨_, _, [.box bk7 [.slice ta16 (List.length ((listM 1 1 255 l false false).2.1)) tc17, .bool ((listM 1 1 255 l false false).2.2.1), .bool ((listM 1 1 255 l false false).2.2.2)] 120, .vec oa20 oc21 1 (bys bl22) 5], rfl, he25, by kernel_rfl, fun ac27 En28 Hv29 => ?_⟩
 refine d_e [4,5,6,7,8] [] En28 fun ac30 En31 => ?_
 refine then_normal ?_
 refine wp_seq ?_
 refine wp_block ?_
 refine wp_seq ?_
 refine region_from ?_
 refine d_k [4,5,6,7,8,18] [] 3 En31 fun ac32 En33 => ?_
 refine f_o ?_
 refine m_l 0 En33 Hv29 fun ac34 En35 => ?_
 refine d_k [4,5,6,7,8,20] [] 5 En35 fun ac36 En37 => ?_
 rcases Bool.eq_false_or_eq_true ((listM 1 1 255 l false false).2.2.1) with hb38 | hb38
 ·
  have En39 := En37.fx (t := 20) (congrArg Value.bool hb38)
  have hp40 : (listM 1 1 255 l false false).2.2.1 = true := hb38
  refine d_e [4,5,6,7,8,15] [] En39 fun ac41 En42 => ?_
  refine then_normal ?_
  refine c_t En42 ?_
  refine d_s [4,5,6,7,8] [] En42 fun ac43 En44 => ?_
  refine wp_ret ?_
  refine block_ret ?_
  refine then_ret ?_
  refine d_ret2 (t := 4) (u := 5) (v := .slice none 0 0) (x := .int .i64 50) En44 (by kernel_rfl) (by kernel_rfl) (by kernel_rfl) ?_
  have eA : gotA (listM 1 1 255 l false false) = 50 := Eq.symm (by first | exact end_1 (by assumption) | exact end_2 (by omega) | exact end_3 (by assumption) (by omega) (by assumption))
  rw [gotV_n eA (by decide), eA]
  have Hv45 : Ev w [] wo24 [.box bk7 [.slice ta16 (List.length ((listM 1 1 255 l false false).2.1)) tc17, .bool ((listM 1 1 255 l false false).2.2.1), .bool ((listM 1 1 255 l false false).2.2.2)] 120, .vec oa20 oc21 1 (bys bl22) 5, .vec none 0 1 (bys []) 5] := Ev.nil (sz := 1) (T := 5) Hv29
  exact ⟨none, 0, [], rfl, Hv45.pk [2], rfl⟩
 ·
  have En46 := En37.fx (t := 20) (congrArg Value.bool hb38)
  have hp47 : ¬ ((listM 1 1 255 l false false).2.2.1 = true) := Bool.eq_false_iff.1 hb38
  refine d_k [4,5,6,7,8,20,23] [] 8 En46 fun ac48 En49 => ?_
  refine f_o ?_
  refine m_l 0 En49 Hv29 fun ac50 En51 => ?_
  refine d_e [4,5,6,7,8,15] [] En51 fun ac52 En53 => ?_
  refine then_normal ?_
  refine c_d (((List.length ((listM 1 1 255 l false false).2.1) : Nat) : Int) > (0 : Int)) En53 (fun hc54 => ?_) (fun hc54 => ?_)
  ·
   refine d_s [4,5,6,7,8] [] En53 fun ac55 En56 => ?_
   refine wp_ret ?_
   refine block_ret ?_
   refine then_ret ?_
   refine d_ret2 (t := 4) (u := 5) (v := .slice none 0 0) (x := .int .i64 50) En56 (by kernel_rfl) (by kernel_rfl) (by kernel_rfl) ?_
   have eA : gotA (listM 1 1 255 l false false) = 50 := Eq.symm (by first | exact end_1 (by assumption) | exact end_2 (by omega) | exact end_3 (by assumption) (by omega) (by assumption))
   rw [gotV_n eA (by decide), eA]
   have Hv57 : Ev w [] wo24 [.box bk7 [.slice ta16 (List.length ((listM 1 1 255 l false false).2.1)) tc17, .bool ((listM 1 1 255 l false false).2.2.1), .bool ((listM 1 1 255 l false false).2.2.2)] 120, .vec oa20 oc21 1 (bys bl22) 5, .vec none 0 1 (bys []) 5] := Ev.nil (sz := 1) (T := 5) Hv29
   exact ⟨none, 0, [], rfl, Hv57.pk [2], rfl⟩
  ·
   refine wp_seq ?_
   refine region_from ?_
   refine d_k [4,5,6,7,8,32] [] 3 En53 fun ac58 En59 => ?_
   refine f_o ?_
   refine m_l 0 En59 Hv29 fun ac60 En61 => ?_
   refine d_e [4,5,6,7,8,29] [] En61 fun ac62 En63 => ?_
   refine then_normal ?_
   refine cond_at En63 (t := (listM 1 1 255 l false false).2.2.2) (by kernel_rfl) (fun hc64 => ?_) (fun hc64 => ?_)
   ·
    replace hc64 : (listM 1 1 255 l false false).2.2.2 = true := hc64
    refine d_s [4,5,6,7,8] [] En63 fun ac65 En66 => ?_
    refine wp_ret ?_
    refine block_ret ?_
    refine then_ret ?_
    refine d_ret2 (t := 4) (u := 5) (v := .slice none 0 0) (x := .int .i64 47) En66 (by kernel_rfl) (by kernel_rfl) (by kernel_rfl) ?_
    have eA : gotA (listM 1 1 255 l false false) = 47 := Eq.symm (by first | exact end_1 (by assumption) | exact end_2 (by omega) | exact end_3 (by assumption) (by omega) (by assumption))
    rw [gotV_n eA (by decide), eA]
    have Hv67 : Ev w [] wo24 [.box bk7 [.slice ta16 (List.length ((listM 1 1 255 l false false).2.1)) tc17, .bool ((listM 1 1 255 l false false).2.2.1), .bool ((listM 1 1 255 l false false).2.2.2)] 120, .vec oa20 oc21 1 (bys bl22) 5, .vec none 0 1 (bys []) 5] := Ev.nil (sz := 1) (T := 5) Hv29
    exact ⟨none, 0, [], rfl, Hv67.pk [2], rfl⟩
   ·
    replace hc64 : ¬ ((listM 1 1 255 l false false).2.2.2 = true) := Bool.eq_false_iff.1 hc64
    refine wp_skip ?_
    refine block_normal ?_
    refine then_normal ?_
    refine d_s [4,5,6,7] [] En63 fun ac68 En69 => ?_
    refine wp_ret ?_
    refine d_ret2 (t := 4) (u := 5) (v := .slice oa20 (List.length bl22) oc21) (x := .int .i64 0) En69 (by kernel_rfl) (by kernel_rfl) (by kernel_rfl) ?_
    have eA : gotA (listM 1 1 255 l false false) = 0 := (end_4 (by assumption) (by omega) (by assumption)).symm
    rw [gotV_0 eA, eA]
    exact ⟨oa20, oc21, bl22, rfl, Hv29.pk [1], hpu19⟩

theorem getmodes_go (w : World) (aq : Option Addr) (nq cq : Nat) (lq : List UInt8) (eq : nq = List.length lq) (iq : InB w [] aq cq lq) : Calls Try.prog 51 #[.slice aq nq cq] w fun e w' => ∃ oa oc bl, e = .returned (.tuple #[.slice oa (List.length bl) oc, .int .i64 (gotA (listM 1 1 255 lq false false))]) ∧ Ev w [] w' [.vec oa oc 1 (bys bl) 5] ∧ bl = gotV [] (listM 1 1 255 lq false false) := by
 subst eq
 refine d_0 [(0, .slice aq (List.length lq) cq)] 8 Go.Proofs.Try.func51 Go.Proofs.Try.ntmps51 (Heap.nil _) fun act0 En0 Hv0 => ?_
 refine d_s [0,2,3] [] En0 fun ac1 En2 => ?_
 refine wp_seq ?_
 refine region_from ?_
 refine d_k [2,3,4] [] 1 En2 fun ac3 En4 => ?_
 refine f_o ?_
 refine c_0 En4 Hv0 (got_getmodes _ aq cq lq ((iq.ev Hv0).pick [] (by kernel_rfl))) ?_
 rintro _ wo10 ⟨oa5, oc6, bl7, rfl, he11, hpu8⟩
 refine ⟨_, _, _, rfl, he11, rfl, fun ac13 En14 Hv15 => ?_⟩
 refine d_e [2,3] [] En14 fun ac16 En17 => ?_
 refine then_normal ?_
 refine wp_ret ?_
 refine d_ret2 (t := 2) (u := 3) (v := .slice oa5 (List.length bl7) oc6) (x := .int .i64 (gotA (listM 1 1 255 lq false false))) En17 (by kernel_rfl) (by kernel_rfl) (by kernel_rfl) ?_
 exact ⟨oa5, oc6, bl7, rfl, Hv15.pk [0], hpu8⟩

theorem got_getcookie (w : World) (a : Option Addr) (c : Nat) (l : Bs) (i : InB w [] a c l) : Calls Try.prog 156 #[.slice a (List.length l) c, .func (.func 138) #[] #[]] w fun e w' => ∃ oa oc bl, e = .returned (.tuple #[.slice oa (List.length bl) oc, .int .i64 (gotA (listM 2 1 65535 l false false))]) ∧ Ev w [] w' [.vec oa oc 1 (bys bl) 5] ∧ bl = gotV [] (listM 2 1 65535 l false false) := by
 refine d_0 [(0, .slice a (List.length l) c), (1, .func (.func 138) #[] #[])] 36 Go.Proofs.Try.func156 Go.Proofs.Try.ntmps156 (Heap.nil _) fun act0 En0 Hv0 => ?_
 refine d_s [0,1,4,5] [] En0 fun ac1 En2 => ?_
 refine d_s [0,1,4,5,6] [] En2 fun ac3 En4 => ?_
 refine wp_seq ?_
 refine region_from ?_
 refine d_k [1,4,5,6,10] [] 2 En4 fun ac5 En6 => ?_
 refine f_o ?_
 refine m_m 120 [.slice a (List.length l) c, .bool false, .bool false] En6 Hv0 fun ac8 wo9 bk7 En10 Hv11 => ?_
 refine d_e [1,4,5,6,7] [] En10 fun ac12 En13 => ?_
 refine then_normal ?_
 refine wp_seq ?_
 refine region_from ?_
 refine d_k [4,5,6,7,12,13] [] 2 En13 fun ac14 En15 => ?_
 refine f_o ?_
 refine c_l [0] (M := [.box bk7 [.slice a (List.length l) c, .bool false, .bool false] 120]) En15 Hv11 (fun hM23 => bytes2_go _ bk7 a c l false false ((i.ev Hv11).pick [0] (by kernel_rfl)) hM23) ?_
 rintro _ wo24 ⟨ta16, tc17, oa20, oc21, bl22, rfl, he25, hs18, hpu19⟩
 refine ⟨_, _, [.box bk7 [.slice ta16 (List.length ((listM 2 1 65535 l false false).2.1)) tc17, .bool ((listM 2 1 65535 l false false).2.2.1), .bool ((listM 2 1 65535 l false false).2.2.2)] 120, .vec oa20 oc21 1 (bys bl22) 5], rfl, he25, by kernel_rfl, fun ac27 En28 Hv29 => ?_⟩
 refine d_e [4,5,6,7,8] [] En28 fun ac30 En31 => ?_
 refine then_normal ?_
 refine wp_seq ?_
 refine wp_block ?_
 refine wp_seq ?_
 refine region_from ?_
 refine d_k [4,5,6,7,8,18] [] 3 En31 fun ac32 En33 => ?_
 refine f_o ?_
 refine m_l 0 En33 Hv29 fun ac34 En35 => ?_
 refine d_k [4,5,6,7,8,20] [] 5 En35 fun ac36 En37 => ?_
 rcases Bool.eq_false_or_eq_true ((listM 2 1 65535 l false false).2.2.1) with hb38 | hb38
 ·
  have En39 := En37.fx (t := 20) (congrArg Value.bool hb38)
  have hp40 : (listM 2 1 65535 l false false).2.2.1 = true := hb38
  refine d_e [4,5,6,7,8,15] [] En39 fun ac41 En42 => ?_
  refine then_normal ?_
  refine c_t En42 ?_
  refine d_s [4,5,6,7,8] [] En42 fun ac43 En44 => ?_
  refine wp_ret ?_
  refine block_ret ?_
  refine then_ret ?_
  refine d_ret2 (t := 4) (u := 5) (v := .slice none 0 0) (x := .int .i64 50) En44 (by kernel_rfl) (by kernel_rfl) (by kernel_rfl) ?_
  have eA : gotA (listM 2 1 65535 l false false) = 50 := Eq.symm (by first | exact end_1 (by assumption) | exact end_2 (by omega) | exact end_3 (by assumption) (by omega) (by assumption))
  rw [gotV_n eA (by decide), eA]
  have Hv45 : Ev w [] wo24 [.box bk7 [.slice ta16 (List.length ((listM 2 1 65535 l false false).2.1)) tc17, .bool ((listM 2 1 65535 l false false).2.2.1), .bool ((listM 2 1 65535 l false false).2.2.2)] 120, .vec oa20 oc21 1 (bys bl22) 5, .vec none 0 1 (bys []) 5] := Ev.nil (sz := 1) (T := 5) Hv29
  exact ⟨none, 0, [], rfl, Hv45.pk [2], rfl⟩
 ·
  have En46 := En37.fx (t := 20) (congrArg Value.bool hb38)
  have hp47 : ¬ ((listM 2 1 65535 l false false).2.2.1 = true) := Bool.eq_false_iff.1 hb38
  refine d_k [4,5,6,7,8,20,23] [] 8 En46 fun ac48 En49 => ?_
  refine f_o ?_
  refine m_l 0 En49 Hv29 fun ac50 En51 => ?_
  refine d_e [4,5,6,7,8,15] [] En51 fun ac52 En53 => ?_
  refine then_normal ?_
  refine c_d (((List.length ((listM 2 1 65535 l false false).2.1) : Nat) : Int) > (0 : Int)) En53 (fun hc54 => ?_) (fun hc54 => ?_)
  ·
   refine d_s [4,5,6,7,8] [] En53 fun ac55 En56 => ?_
   refine wp_ret ?_
   refine block_ret ?_
   refine then_ret ?_
   refine d_ret2 (t := 4) (u := 5) (v := .slice none 0 0) (x := .int .i64 50) En56 (by kernel_rfl) (by kernel_rfl) (by kernel_rfl) ?_
   have eA : gotA (listM 2 1 65535 l false false) = 50 := Eq.symm (by first | exact end_1 (by assumption) | exact end_2 (by omega) | exact end_3 (by assumption) (by omega) (by assumption))
   rw [gotV_n eA (by decide), eA]
   have Hv57 : Ev w [] wo24 [.box bk7 [.slice ta16 (List.length ((listM 2 1 65535 l false false).2.1)) tc17, .bool ((listM 2 1 65535 l false false).2.2.1), .bool ((listM 2 1 65535 l false false).2.2.2)] 120, .vec oa20 oc21 1 (bys bl22) 5, .vec none 0 1 (bys []) 5] := Ev.nil (sz := 1) (T := 5) Hv29
   exact ⟨none, 0, [], rfl, Hv57.pk [2], rfl⟩
  ·
   refine wp_seq ?_
   refine region_from ?_
   refine d_k [4,5,6,7,8,32] [] 3 En53 fun ac58 En59 => ?_
   refine f_o ?_
   refine m_l 0 En59 Hv29 fun ac60 En61 => ?_
   refine d_e [4,5,6,7,8,29] [] En61 fun ac62 En63 => ?_
   refine then_normal ?_
   refine cond_at En63 (t := (listM 2 1 65535 l false false).2.2.2) (by kernel_rfl) (fun hc64 => ?_) (fun hc64 => ?_)
   ·
    replace hc64 : (listM 2 1 65535 l false false).2.2.2 = true := hc64
    refine d_s [4,5,6,7,8] [] En63 fun ac65 En66 => ?_
    refine wp_ret ?_
    refine block_ret ?_
    refine then_ret ?_
    refine d_ret2 (t := 4) (u := 5) (v := .slice none 0 0) (x := .int .i64 47) En66 (by kernel_rfl) (by kernel_rfl) (by kernel_rfl) ?_
    have eA : gotA (listM 2 1 65535 l false false) = 47 := Eq.symm (by first | exact end_1 (by assumption) | exact end_2 (by omega) | exact end_3 (by assumption) (by omega) (by assumption))
    rw [gotV_n eA (by decide), eA]
    have Hv67 : Ev w [] wo24 [.box bk7 [.slice ta16 (List.length ((listM 2 1 65535 l false false).2.1)) tc17, .bool ((listM 2 1 65535 l false false).2.2.1), .bool ((listM 2 1 65535 l false false).2.2.2)] 120, .vec oa20 oc21 1 (bys bl22) 5, .vec none 0 1 (bys []) 5] := Ev.nil (sz := 1) (T := 5) Hv29
    exact ⟨none, 0, [], rfl, Hv67.pk [2], rfl⟩
   ·
    replace hc64 : ¬ ((listM 2 1 65535 l false false).2.2.2 = true) := Bool.eq_false_iff.1 hc64
    refine wp_skip ?_
    refine block_normal ?_
    refine then_normal ?_
    refine d_s [4,5,6,7] [] En63 fun ac68 En69 => ?_
    refine wp_ret ?_
    refine d_ret2 (t := 4) (u := 5) (v := .slice oa20 (List.length bl22) oc21) (x := .int .i64 0) En69 (by kernel_rfl) (by kernel_rfl) (by kernel_rfl) ?_
    have eA : gotA (listM 2 1 65535 l false false) = 0 := (end_4 (by assumption) (by omega) (by assumption)).symm
    rw [gotV_0 eA, eA]
    exact ⟨oa20, oc21, bl22, rfl, Hv29.pk [1], hpu19⟩

theorem getcookie_go (w : World) (aq : Option Addr) (nq cq : Nat) (lq : List UInt8) (eq : nq = List.length lq) (iq : InB w [] aq cq lq) : Calls Try.prog 63 #[.slice aq nq cq] w fun e w' => ∃ oa oc bl, e = .returned (.tuple #[.slice oa (List.length bl) oc, .int .i64 (gotA (listM 2 1 65535 lq false false))]) ∧ Ev w [] w' [.vec oa oc 1 (bys bl) 5] ∧ bl = gotV [] (listM 2 1 65535 lq false false) := by
 subst eq
 refine d_0 [(0, .slice aq (List.length lq) cq)] 8 Go.Proofs.Try.func63 Go.Proofs.Try.ntmps63 (Heap.nil _) fun act0 En0 Hv0 => ?_
 refine d_s [0,2,3] [] En0 fun ac1 En2 => ?_
 refine wp_seq ?_
 refine region_from ?_
 refine d_k [2,3,4] [] 1 En2 fun ac3 En4 => ?_
 refine f_o ?_
 refine c_0 En4 Hv0 (got_getcookie _ aq cq lq ((iq.ev Hv0).pick [] (by kernel_rfl))) ?_
 rintro _ wo10 ⟨oa5, oc6, bl7, rfl, he11, hpu8⟩
 refine ⟨_, _, _, rfl, he11, rfl, fun ac13 En14 Hv15 => ?_⟩
 refine d_e [2,3] [] En14 fun ac16 En17 => ?_
 refine then_normal ?_
 refine wp_ret ?_
 refine d_ret2 (t := 2) (u := 3) (v := .slice oa5 (List.length bl7) oc6) (x := .int .i64 (gotA (listM 2 1 65535 lq false false))) En17 (by kernel_rfl) (by kernel_rfl) (by kernel_rfl) ?_
 exact ⟨oa5, oc6, bl7, rfl, Hv15.pk [0], hpu8⟩

def stM (l : Bs) (s o : Bool) : Bs × PS := (lsO 3 1 16777215 (tkR 1 l s) (tkS 1 l s), lsR 3 1 16777215 (tkR 1 l s) (tkS 1 l s), lsS 3 1 16777215 (tkR 1 l s) (tkS 1 l s), ((nbV 1 l s : Nat) : Int) != (1 : Int))
def nmO (l : Bs) (s : Bool) : Bs := tkR 1 (lsO 2 0 65535 l s) (lsS 2 0 65535 l s)
def nmT (l : Bs) (s : Bool) : Bool := tkS 1 (lsO 2 0 65535 l s) (lsS 2 0 65535 l s)
def nmM (l : Bs) (s o : Bool) : Bs × PS := (lsO 2 1 65535 (nmO l s) (nmT l s), lsR 2 0 65535 l s, (lsS 2 0 65535 l s || lsS 2 1 65535 (nmO l s) (nmT l s)) || decide (0 < (lsR 2 1 65535 (nmO l s) (nmT l s)).length), ((nbV 1 (lsO 2 0 65535 l s) (lsS 2 0 65535 l s) : Nat) : Int) != (0 : Int))
theorem or3_1 {a b c : Bool} (h : a = true) : ((a || b) || c) = true := by subst h; rfl
theorem or3_2 {a b c : Bool} (h : b = true) : ((a || b) || c) = true := by subst h; rw [Bool.or_true]; rfl
theorem or3_3 {a b : Bool} {n : Nat} (h : a = false) (h2 : b = false) : ((a || b) || decide (0 < n)) = decide (((n : Nat) : Int) > 0) := by
  subst h h2
  exact decide_eq_decide.2 (by omega)

theorem getstatus1 (w : World) (br : Nat) (a : Option Addr) (c : Nat) (l : List UInt8) (s o : Bool) (i : InB w [.box br [.slice a (List.length l) c, .bool s, .bool o] 120] a c l) (hH : Heap w [.box br [.slice a (List.length l) c, .bool s, .bool o] 120]) : Calls Try.prog 170 #[pt br] w fun e w' => ∃ ta tc oa oc bl, e = .returned (.slice oa (List.length bl) oc) ∧ Ev w [.box br [.slice a (List.length l) c, .bool s, .bool o] 120] w' [.box br [.slice ta (List.length ((stM l s o).2.1)) tc, .bool ((stM l s o).2.2.1), .bool ((stM l s o).2.2.2)] 120, .vec oa oc 1 (bys bl) 5] ∧ Sub a c l ta tc (stM l s o).2.1 ∧ bl = (stM l s o).1 := by
 refine d_0 [(0, pt br)] 11 Go.Proofs.Try.func170 Go.Proofs.Try.ntmps170 (hH) fun act0 En0 Hv0 => ?_
 refine d_s [0,2] [] En0 fun ac1 En2 => ?_
 refine wp_seq ?_
 refine region_from ?_
 refine d_k [0,2,3,4] [] 2 En2 fun ac3 En4 => ?_
 refine f_o ?_
 refine c_l [0] (M := [.box br [.slice a (List.length l) c, .bool s, .bool o] 120]) En4 Hv0 (fun hM8 => number_go _ br 1 (by omega) a c l s o ((i.ev Hv0).pick [0] (by kernel_rfl)) hM8) ?_
 rintro _ wo9 ⟨ta5, tc6, rfl, he10, hs7⟩
 refine ⟨_, _, [.box br [.slice ta5 (List.length (tkR 1 l s)) tc6, .bool (tkS 1 l s), .bool o] 120], rfl, he10, by kernel_rfl, fun ac12 En13 Hv14 => ?_⟩
 refine d_k [0,2,6,8] [] 6 En13 fun ac15 En16 => ?_
 refine f_o ?_
 refine m_s 0 [.box br [.slice ta5 (List.length (tkR 1 l s)) tc6, .bool (tkS 1 l s), .bool (((nbV 1 l s : Nat) : Int) != (1 : Int))] 120] En16 Hv14 fun ac17 wo18 En19 Hv20 => ?_
 refine f_e ?_
 refine then_normal ?_
 refine wp_seq ?_
 refine region_from ?_
 refine d_k [0,2,9] [] 1 En19 fun ac21 En22 => ?_
 refine f_o ?_
 refine c_l [0] (M := [.box br [.slice ta5 (List.length (tkR 1 l s)) tc6, .bool (tkS 1 l s), .bool (((nbV 1 l s : Nat) : Int) != (1 : Int))] 120]) En22 Hv20 (fun hM30 => bytes3_go _ br ta5 tc6 (tkR 1 l s) (tkS 1 l s) (((nbV 1 l s : Nat) : Int) != (1 : Int)) (hs7 _ _ ((i.ev Hv20).pick [0] (by kernel_rfl))) hM30) ?_
 rintro _ wo31 ⟨ta23, tc24, oa27, oc28, bl29, rfl, he32, hs25, hpu26⟩
 refine ⟨_, _, [.box br [.slice ta23 (List.length ((listM 3 1 16777215 (tkR 1 l s) (tkS 1 l s) (((nbV 1 l s : Nat) : Int) != (1 : Int))).2.1)) tc24, .bool ((listM 3 1 16777215 (tkR 1 l s) (tkS 1 l s) (((nbV 1 l s : Nat) : Int) != (1 : Int))).2.2.1), .bool ((listM 3 1 16777215 (tkR 1 l s) (tkS 1 l s) (((nbV 1 l s : Nat) : Int) != (1 : Int))).2.2.2)] 120, .vec oa27 oc28 1 (bys bl29) 5], rfl, he32, by kernel_rfl, fun ac34 En35 Hv36 => ?_⟩
 refine d_e [0,2] [] En35 fun ac37 En38 => ?_
 refine then_normal ?_
 refine wp_ret ?_
 refine d_ret1 (t := 2) (v := .slice oa27 (List.length bl29) oc28) En38 (by kernel_rfl) (by kernel_rfl) ?_
 exact ⟨ta23, tc24, oa27, oc28, bl29, rfl, Hv36.pk [0, 1], (hs7.trans hs25), hpu26⟩

theorem got_getstatus (w : World) (a : Option Addr) (c : Nat) (l : Bs) (i : InB w [] a c l) : Calls Try.prog 156 #[.slice a (List.length l) c, .func (.func 170) #[] #[]] w fun e w' => ∃ oa oc bl, e = .returned (.tuple #[.slice oa (List.length bl) oc, .int .i64 (gotA (stM l false false))]) ∧ Ev w [] w' [.vec oa oc 1 (bys bl) 5] ∧ bl = gotV [] (stM l false false) := by
 refine d_0 [(0, .slice a (List.length l) c), (1, .func (.func 170) #[] #[])] 36 Go.Proofs.Try.func156 Go.Proofs.Try.ntmps156 (Heap.nil _) fun act0 En0 Hv0 => ?_
 refine d_s [0,1,4,5] [] En0 fun ac1 En2 => ?_
 refine d_s [0,1,4,5,6] [] En2 fun ac3 En4 => ?_
 refine wp_seq ?_
 refine region_from ?_
 refine d_k [1,4,5,6,10] [] 2 En4 fun ac5 En6 => ?_
 refine f_o ?_
 refine m_m 120 [.slice a (List.length l) c, .bool false, .bool false] En6 Hv0 fun ac8 wo9 bk7 En10 Hv11 => ?_
 refine d_e [1,4,5,6,7] [] En10 fun ac12 En13 => ?_
 refine then_normal ?_
 refine wp_seq ?_
 refine region_from ?_
 refine d_k [4,5,6,7,12,13] [] 2 En13 fun ac14 En15 => ?_
 refine f_o ?_
 refine c_l [0] (M := [.box bk7 [.slice a (List.length l) c, .bool false, .bool false] 120]) En15 Hv11 (fun hM23 => getstatus1 _ bk7 a c l false false ((i.ev Hv11).pick [0] (by kernel_rfl)) hM23) ?_
 rintro _ wo24 ⟨ta16, tc17, oa20, oc21, bl22, rfl, he25, hs18, hpu19⟩
 refine ⟨_, _, [.box bk7 [.slice ta16 (List.length ((stM l false false).2.1)) tc17, .bool ((stM l false false).2.2.1), .bool ((stM l false false).2.2.2)] 120, .vec oa20 oc21 1 (bys bl22) 5], rfl, he25, by kernel_rfl, fun ac27 En28 Hv29 => ?_⟩
 refine d_e [4,5,6,7,8] [] En28 fun ac30 En31 => ?_
 refine then_normal ?_
 refine wp_seq ?_
 refine wp_block ?_
 refine wp_seq ?_
 refine region_from ?_
 refine d_k [4,5,6,7,8,18] [] 3 En31 fun ac32 En33 => ?_
 refine f_o ?_
 refine m_l 0 En33 Hv29 fun ac34 En35 => ?_
 refine d_k [4,5,6,7,8,20] [] 5 En35 fun ac36 En37 => ?_
 rcases Bool.eq_false_or_eq_true ((stM l false false).2.2.1) with hb38 | hb38
 ·
  have En39 := En37.fx (t := 20) (congrArg Value.bool hb38)
  have hp40 : (stM l false false).2.2.1 = true := hb38
  refine d_e [4,5,6,7,8,15] [] En39 fun ac41 En42 => ?_
  refine then_normal ?_
  refine c_t En42 ?_
  refine d_s [4,5,6,7,8] [] En42 fun ac43 En44 => ?_
  refine wp_ret ?_
  refine block_ret ?_
  refine then_ret ?_
  refine d_ret2 (t := 4) (u := 5) (v := .slice none 0 0) (x := .int .i64 50) En44 (by kernel_rfl) (by kernel_rfl) (by kernel_rfl) ?_
  have eA : gotA (stM l false false) = 50 := Eq.symm (by first | exact end_1 (by assumption) | exact end_2 (by omega) | exact end_3 (by assumption) (by omega) (by assumption))
  rw [gotV_n eA (by decide), eA]
  have Hv45 : Ev w [] wo24 [.box bk7 [.slice ta16 (List.length ((stM l false false).2.1)) tc17, .bool ((stM l false false).2.2.1), .bool ((stM l false false).2.2.2)] 120, .vec oa20 oc21 1 (bys bl22) 5, .vec none 0 1 (bys []) 5] := Ev.nil (sz := 1) (T := 5) Hv29
  exact ⟨none, 0, [], rfl, Hv45.pk [2], rfl⟩
 ·
  have En46 := En37.fx (t := 20) (congrArg Value.bool hb38)
  have hp47 : ¬ ((stM l false false).2.2.1 = true) := Bool.eq_false_iff.1 hb38
  refine d_k [4,5,6,7,8,20,23] [] 8 En46 fun ac48 En49 => ?_
  refine f_o ?_
  refine m_l 0 En49 Hv29 fun ac50 En51 => ?_
  refine d_e [4,5,6,7,8,15] [] En51 fun ac52 En53 => ?_
  refine then_normal ?_
  refine c_d (((List.length ((stM l false false).2.1) : Nat) : Int) > (0 : Int)) En53 (fun hc54 => ?_) (fun hc54 => ?_)
  ·
   refine d_s [4,5,6,7,8] [] En53 fun ac55 En56 => ?_
   refine wp_ret ?_
   refine block_ret ?_
   refine then_ret ?_
   refine d_ret2 (t := 4) (u := 5) (v := .slice none 0 0) (x := .int .i64 50) En56 (by kernel_rfl) (by kernel_rfl) (by kernel_rfl) ?_
   have eA : gotA (stM l false false) = 50 := Eq.symm (by first | exact end_1 (by assumption) | exact end_2 (by omega) | exact end_3 (by assumption) (by omega) (by assumption))
   rw [gotV_n eA (by decide), eA]
   have Hv57 : Ev w [] wo24 [.box bk7 [.slice ta16 (List.length ((stM l false false).2.1)) tc17, .bool ((stM l false false).2.2.1), .bool ((stM l false false).2.2.2)] 120, .vec oa20 oc21 1 (bys bl22) 5, .vec none 0 1 (bys []) 5] := Ev.nil (sz := 1) (T := 5) Hv29
   exact ⟨none, 0, [], rfl, Hv57.pk [2], rfl⟩
  ·
   refine wp_seq ?_
   refine region_from ?_
   refine d_k [4,5,6,7,8,32] [] 3 En53 fun ac58 En59 => ?_
   refine f_o ?_
   refine m_l 0 En59 Hv29 fun ac60 En61 => ?_
   refine d_e [4,5,6,7,8,29] [] En61 fun ac62 En63 => ?_
   refine then_normal ?_
   refine cond_at En63 (t := (stM l false false).2.2.2) (by kernel_rfl) (fun hc64 => ?_) (fun hc64 => ?_)
   ·
    replace hc64 : (stM l false false).2.2.2 = true := hc64
    refine d_s [4,5,6,7,8] [] En63 fun ac65 En66 => ?_
    refine wp_ret ?_
    refine block_ret ?_
    refine then_ret ?_
    refine d_ret2 (t := 4) (u := 5) (v := .slice none 0 0) (x := .int .i64 47) En66 (by kernel_rfl) (by kernel_rfl) (by kernel_rfl) ?_
    have eA : gotA (stM l false false) = 47 := Eq.symm (by first | exact end_1 (by assumption) | exact end_2 (by omega) | exact end_3 (by assumption) (by omega) (by assumption))
    rw [gotV_n eA (by decide), eA]
    have Hv67 : Ev w [] wo24 [.box bk7 [.slice ta16 (List.length ((stM l false false).2.1)) tc17, .bool ((stM l false false).2.2.1), .bool ((stM l false false).2.2.2)] 120, .vec oa20 oc21 1 (bys bl22) 5, .vec none 0 1 (bys []) 5] := Ev.nil (sz := 1) (T := 5) Hv29
    exact ⟨none, 0, [], rfl, Hv67.pk [2], rfl⟩
   ·
    replace hc64 : ¬ ((stM l false false).2.2.2 = true) := Bool.eq_false_iff.1 hc64
    refine wp_skip ?_
    refine block_normal ?_
    refine then_normal ?_
    refine d_s [4,5,6,7] [] En63 fun ac68 En69 => ?_
    refine wp_ret ?_
    refine d_ret2 (t := 4) (u := 5) (v := .slice oa20 (List.length bl22) oc21) (x := .int .i64 0) En69 (by kernel_rfl) (by kernel_rfl) (by kernel_rfl) ?_
    have eA : gotA (stM l false false) = 0 := (end_4 (by assumption) (by omega) (by assumption)).symm
    rw [gotV_0 eA, eA]
    exact ⟨oa20, oc21, bl22, rfl, Hv29.pk [1], hpu19⟩

theorem getstatus_go (w : World) (aq : Option Addr) (nq cq : Nat) (lq : List UInt8) (eq : nq = List.length lq) (iq : InB w [] aq cq lq) : Calls Try.prog 65 #[.slice aq nq cq] w fun e w' => ∃ oa oc bl, e = .returned (.tuple #[.slice oa (List.length bl) oc, .int .i64 (gotA (stM lq false false))]) ∧ Ev w [] w' [.vec oa oc 1 (bys bl) 5] ∧ bl = gotV [] (stM lq false false) := by
 subst eq
 refine d_0 [(0, .slice aq (List.length lq) cq)] 8 Go.Proofs.Try.func65 Go.Proofs.Try.ntmps65 (Heap.nil _) fun act0 En0 Hv0 => ?_
 refine d_s [0,2,3] [] En0 fun ac1 En2 => ?_
 refine wp_seq ?_
 refine region_from ?_
 refine d_k [2,3,4] [] 1 En2 fun ac3 En4 => ?_
 refine f_o ?_
 refine c_0 En4 Hv0 (got_getstatus _ aq cq lq ((iq.ev Hv0).pick [] (by kernel_rfl))) ?_
 rintro _ wo10 ⟨oa5, oc6, bl7, rfl, he11, hpu8⟩
 refine ⟨_, _, _, rfl, he11, rfl, fun ac13 En14 Hv15 => ?_⟩
 refine d_e [2,3] [] En14 fun ac16 En17 => ?_
 refine then_normal ?_
 refine wp_ret ?_
 refine d_ret2 (t := 2) (u := 3) (v := .slice oa5 (List.length bl7) oc6) (x := .int .i64 (gotA (stM lq false false))) En17 (by kernel_rfl) (by kernel_rfl) (by kernel_rfl) ?_
 exact ⟨oa5, oc6, bl7, rfl, Hv15.pk [0], hpu8⟩

theorem got_getnumber (w : World) (a : Option Addr) (c : Nat) (l : Bs) (i : InB w [] a c l) : Calls Try.prog 163 #[.slice a (List.length l) c, .func (.func 148) #[] #[]] w fun e w' => ∃ xv, e = .returned (.tuple #[uv16 xv, .int .i64 (gotA (u16M l false false))]) ∧ Ev w [] w' [] ∧ xv = gotV 0 (u16M l false false) := by
 refine d_0 [(0, .slice a (List.length l) c), (1, .func (.func 148) #[] #[])] 36 Go.Proofs.Try.func163 Go.Proofs.Try.ntmps163 (Heap.nil _) fun act0 En0 Hv0 => ?_
 refine d_s [0,1,4,5] [] En0 fun ac1 En2 => ?_
 refine d_s [0,1,4,5,6] [] En2 fun ac3 En4 => ?_
 refine wp_seq ?_
 refine region_from ?_
 refine d_k [1,4,5,6,10] [] 2 En4 fun ac5 En6 => ?_
 refine f_o ?_
 refine m_m 120 [.slice a (List.length l) c, .bool false, .bool false] En6 Hv0 fun ac8 wo9 bk7 En10 Hv11 => ?_
 refine d_e [1,4,5,6,7] [] En10 fun ac12 En13 => ?_
 refine then_normal ?_
 refine wp_seq ?_
 refine region_from ?_
 refine d_k [4,5,6,7,12,13] [] 2 En13 fun ac14 En15 => ?_
 refine f_o ?_
 refine c_l [0] (M := [.box bk7 [.slice a (List.length l) c, .bool false, .bool false] 120]) En15 Hv11 (fun hM19 => u16_go _ bk7 a c l false false ((i.ev Hv11).pick [0] (by kernel_rfl)) hM19) ?_
 rintro _ wo20 ⟨ta16, tc17, rfl, he21, hs18⟩
 refine ⟨_, _, [.box bk7 [.slice ta16 (List.length (tkR 2 l false)) tc17, .bool (tkS 2 l false), .bool false] 120], rfl, he21, by kernel_rfl, fun ac23 En24 Hv25 => ?_⟩
 refine d_e [4,5,6,7,8] [] En24 fun ac26 En27 => ?_
 refine then_normal ?_
 refine wp_seq ?_
 refine wp_block ?_
 refine wp_seq ?_
 refine region_from ?_
 refine d_k [4,5,6,7,8,18] [] 3 En27 fun ac28 En29 => ?_
 refine f_o ?_
 refine m_l 0 En29 Hv25 fun ac30 En31 => ?_
 refine d_k [4,5,6,7,8,20] [] 5 En31 fun ac32 En33 => ?_
 rcases Bool.eq_false_or_eq_true (tkS 2 l false) with hb34 | hb34
 ·
  have En35 := En33.fx (t := 20) (congrArg Value.bool hb34)
  have hp36 : tkS 2 l false = true := hb34
  refine d_e [4,5,6,7,8,15] [] En35 fun ac37 En38 => ?_
  refine then_normal ?_
  refine c_t En38 ?_
  refine d_s [4,5,6,7,8] [] En38 fun ac39 En40 => ?_
  refine wp_ret ?_
  refine block_ret ?_
  refine then_ret ?_
  refine d_ret2 (t := 4) (u := 5) (v := .int .u16 0) (x := .int .i64 50) En40 (by kernel_rfl) (by kernel_rfl) (by kernel_rfl) ?_
  have eA : gotA (u16M l false false) = 50 := show endV (tkS 2 l false) (List.length (tkR 2 l false)) false = 50 from Eq.symm (by first | exact end_1 (by assumption) | exact end_2 (by omega) | exact end_3 (by assumption) (by omega) (by assumption))
  rw [gotV_n eA (by decide), eA]
  exact ⟨0, rfl, Hv25.pk [], rfl⟩
 ·
  have En41 := En33.fx (t := 20) (congrArg Value.bool hb34)
  have hp42 : ¬ (tkS 2 l false = true) := Bool.eq_false_iff.1 hb34
  refine d_k [4,5,6,7,8,20,23] [] 8 En41 fun ac43 En44 => ?_
  refine f_o ?_
  refine m_l 0 En44 Hv25 fun ac45 En46 => ?_
  refine d_e [4,5,6,7,8,15] [] En46 fun ac47 En48 => ?_
  refine then_normal ?_
  refine c_d (((List.length (tkR 2 l false) : Nat) : Int) > (0 : Int)) En48 (fun hc49 => ?_) (fun hc49 => ?_)
  ·
   refine d_s [4,5,6,7,8] [] En48 fun ac50 En51 => ?_
   refine wp_ret ?_
   refine block_ret ?_
   refine then_ret ?_
   refine d_ret2 (t := 4) (u := 5) (v := .int .u16 0) (x := .int .i64 50) En51 (by kernel_rfl) (by kernel_rfl) (by kernel_rfl) ?_
   have eA : gotA (u16M l false false) = 50 := show endV (tkS 2 l false) (List.length (tkR 2 l false)) false = 50 from Eq.symm (by first | exact end_1 (by assumption) | exact end_2 (by omega) | exact end_3 (by assumption) (by omega) (by assumption))
   rw [gotV_n eA (by decide), eA]
   exact ⟨0, rfl, Hv25.pk [], rfl⟩
  ·
   refine wp_seq ?_
   refine region_from ?_
   refine d_k [4,5,6,7,8,32] [] 3 En48 fun ac52 En53 => ?_
   refine f_o ?_
   refine m_l 0 En53 Hv25 fun ac54 En55 => ?_
   refine d_e [4,5,6,7,8,29] [] En55 fun ac56 En57 => ?_
   refine then_normal ?_
   refine c_f En57 ?_
   refine wp_skip ?_
   refine block_normal ?_
   refine then_normal ?_
   refine d_s [4,5,6,7] [] En57 fun ac58 En59 => ?_
   refine wp_ret ?_
   refine d_ret2 (t := 4) (u := 5) (v := .int .u16 ((UInt16.toNat (UInt16.ofNat (nbV 2 l false)) : Nat) : Int)) (x := .int .i64 0) En59 (by kernel_rfl) (by kernel_rfl) (by kernel_rfl) ?_
   have eA : gotA (u16M l false false) = 0 := show endV (tkS 2 l false) (List.length (tkR 2 l false)) false = 0 from (end_4 (by assumption) (by omega) (by first | assumption | exact Bool.false_ne_true)).symm
   rw [gotV_0 eA, eA]
   exact ⟨(UInt16.ofNat (nbV 2 l false)), rfl, Hv25.pk [], rfl⟩

theorem getnumber_go (w : World) (aq : Option Addr) (nq cq : Nat) (lq : List UInt8) (eq : nq = List.length lq) (iq : InB w [] aq cq lq) : Calls Try.prog 58 #[.slice aq nq cq] w fun e w' => ∃ xv, e = .returned (.tuple #[uv16 xv, .int .i64 (gotA (u16M lq false false))]) ∧ Ev w [] w' [] ∧ xv = gotV 0 (u16M lq false false) := by
 subst eq
 refine d_0 [(0, .slice aq (List.length lq) cq)] 8 Go.Proofs.Try.func58 Go.Proofs.Try.ntmps58 (Heap.nil _) fun act0 En0 Hv0 => ?_
 refine d_s [0,2,3] [] En0 fun ac1 En2 => ?_
 refine wp_seq ?_
 refine region_from ?_
 refine d_k [2,3,4] [] 1 En2 fun ac3 En4 => ?_
 refine f_o ?_
 refine c_0 En4 Hv0 (got_getnumber _ aq cq lq ((iq.ev Hv0).pick [] (by kernel_rfl))) ?_
 rintro _ wo8 ⟨xv5, rfl, he9, hpu6⟩
 refine ⟨_, _, _, rfl, he9, rfl, fun ac11 En12 Hv13 => ?_⟩
 refine d_e [2,3] [] En12 fun ac14 En15 => ?_
 refine then_normal ?_
 refine wp_ret ?_
 refine d_ret2 (t := 2) (u := 3) (v := uv16 xv5) (x := .int .i64 (gotA (u16M lq false false))) En15 (by kernel_rfl) (by kernel_rfl) (by kernel_rfl) ?_
 exact ⟨xv5, rfl, Hv13.pk [], hpu6⟩

theorem getname1 (w : World) (br : Nat) (a : Option Addr) (c : Nat) (l : List UInt8) (s o : Bool) (i : InB w [.box br [.slice a (List.length l) c, .bool s, .bool o] 120] a c l) (hH : Heap w [.box br [.slice a (List.length l) c, .bool s, .bool o] 120]) : Calls Try.prog 136 #[pt br] w fun e w' => ∃ ta tc bl, e = .returned (.string (bstr bl)) ∧ Ev w [.box br [.slice a (List.length l) c, .bool s, .bool o] 120] w' [.box br [.slice ta (List.length ((nmM l s o).2.1)) tc, .bool ((nmM l s o).2.2.1), .bool ((nmM l s o).2.2.2)] 120] ∧ Sub a c l ta tc (nmM l s o).2.1 ∧ bl = (nmM l s o).1 := by
 have hO32 := lsO_32 (n := 2) (x := 0) (y := 65535) (by decide) l s
 have hT32 := tkR_len 1 (lsO 2 0 65535 l s) (lsS 2 0 65535 l s)
 refine d_0 [(0, pt br)] 53 Go.Proofs.Try.func136 Go.Proofs.Try.ntmps136 (hH) fun act0 En0 Hv0 => ?_
 refine d_s [0,2] [] En0 fun ac1 En2 => ?_
 refine wp_seq ?_
 refine region_from ?_
 refine d_k [0,2,6] [] 1 En2 fun ac3 En4 => ?_
 refine f_o ?_
 refine c_l [0] (M := [.box br [.slice a (List.length l) c, .bool s, .bool o] 120]) En4 Hv0 (fun hM10 => list_go _ br 2 (by omega) 0 65535 (by omega) (by omega) a c l s o ((i.ev Hv0).pick [0] (by kernel_rfl)) hM10) ?_
 rintro _ wo11 ⟨ao5, cp6, ta7, tc8, rfl, he12, hs9⟩
 refine ⟨_, _, [.box br [.slice ta7 (List.length (lsR 2 0 65535 l s)) tc8, .bool (lsS 2 0 65535 l s), .bool o] 120, .vec ao5 cp6 1 (bys (lsO 2 0 65535 l s)) 5], rfl, he12, by kernel_rfl, fun ac14 En15 Hv16 => ?_⟩
 refine d_e [0,2,3] [] En15 fun ac17 En18 => ?_
 refine then_normal ?_
 refine wp_seq ?_
 refine region_from ?_
 refine d_k [0,2,8,11] [] 4 En18 fun ac19 En20 => ?_
 refine f_o ?_
 refine m_l 0 En20 Hv16 fun ac21 En22 => ?_
 refine d_k [0,2,13] [] 6 En22 fun ac23 En24 => ?_
 refine f_o ?_
 refine m_m 120 [.slice ao5 (List.length (lsO 2 0 65535 l s)) cp6, .bool (lsS 2 0 65535 l s), .bool false] En24 Hv16 fun ac26 wo27 bk25 En28 Hv29 => ?_
 refine d_e [0,2,4] [] En28 fun ac30 En31 => ?_
 refine then_normal ?_
 refine wp_seq ?_
 refine region_from ?_
 refine d_k [0,2,4,15,16] [] 2 En31 fun ac32 En33 => ?_
 refine f_o ?_
 refine c_l [2] (M := [.box bk25 [.slice ao5 (List.length (lsO 2 0 65535 l s)) cp6, .bool (lsS 2 0 65535 l s), .bool false] 120]) En33 Hv29 (fun hM37 => number_go _ bk25 1 (by omega) ao5 cp6 (lsO 2 0 65535 l s) (lsS 2 0 65535 l s) false (bys_in Hv29.heap (k := 1) rfl [2] (by kernel_rfl) rfl (by first | omega | (simp; done) | (simp; omega))) hM37) ?_
 rintro _ wo38 ⟨ta34, tc35, rfl, he39, hs36⟩
 refine ⟨_, _, [.box bk25 [.slice ta34 (List.length (tkR 1 (lsO 2 0 65535 l s) (lsS 2 0 65535 l s))) tc35, .bool (tkS 1 (lsO 2 0 65535 l s) (lsS 2 0 65535 l s)), .bool false] 120, .box br [.slice ta7 (List.length (lsR 2 0 65535 l s)) tc8, .bool (lsS 2 0 65535 l s), .bool o] 120, .vec ao5 cp6 1 (bys (lsO 2 0 65535 l s)) 5], rfl, he39, by kernel_rfl, fun ac41 En42 Hv43 => ?_⟩
 refine d_k [0,2,4,18,20] [] 6 En42 fun ac44 En45 => ?_
 refine f_o ?_
 refine m_s 0 [.box bk25 [.slice ta34 (List.length (tkR 1 (lsO 2 0 65535 l s) (lsS 2 0 65535 l s))) tc35, .bool (tkS 1 (lsO 2 0 65535 l s) (lsS 2 0 65535 l s)), .bool (((nbV 1 (lsO 2 0 65535 l s) (lsS 2 0 65535 l s) : Nat) : Int) != (0 : Int))] 120, .box br [.slice ta7 (List.length (lsR 2 0 65535 l s)) tc8, .bool (lsS 2 0 65535 l s), .bool o] 120, .vec ao5 cp6 1 (bys (lsO 2 0 65535 l s)) 5] En45 Hv43 fun ac46 wo47 En48 Hv49 => ?_
 refine f_e ?_
 refine then_normal ?_
 refine wp_seq ?_
 refine region_from ?_
 refine d_k [0,2,4,21] [] 1 En48 fun ac50 En51 => ?_
 refine f_o ?_
 refine c_l [0] (M := [.box bk25 [.slice ta34 (List.length (tkR 1 (lsO 2 0 65535 l s) (lsS 2 0 65535 l s))) tc35, .bool (tkS 1 (lsO 2 0 65535 l s) (lsS 2 0 65535 l s)), .bool (((nbV 1 (lsO 2 0 65535 l s) (lsS 2 0 65535 l s) : Nat) : Int) != (0 : Int))] 120]) En51 Hv49 (fun hM59 => bytes2_go _ bk25 ta34 tc35 (tkR 1 (lsO 2 0 65535 l s) (lsS 2 0 65535 l s)) (tkS 1 (lsO 2 0 65535 l s) (lsS 2 0 65535 l s)) (((nbV 1 (lsO 2 0 65535 l s) (lsS 2 0 65535 l s) : Nat) : Int) != (0 : Int)) (hs36 _ _ (bys_in Hv49.heap (k := 2) rfl [0] (by kernel_rfl) rfl (by first | omega | (simp; done) | (simp; omega)))) hM59) ?_
 rintro _ wo60 ⟨ta52, tc53, oa56, oc57, bl58, rfl, he61, hs54, hpu55⟩
 refine ⟨_, _, [.box bk25 [.slice ta52 (List.length ((listM 2 1 65535 (tkR 1 (lsO 2 0 65535 l s) (lsS 2 0 65535 l s)) (tkS 1 (lsO 2 0 65535 l s) (lsS 2 0 65535 l s)) (((nbV 1 (lsO 2 0 65535 l s) (lsS 2 0 65535 l s) : Nat) : Int) != (0 : Int))).2.1)) tc53, .bool ((listM 2 1 65535 (tkR 1 (lsO 2 0 65535 l s) (lsS 2 0 65535 l s)) (tkS 1 (lsO 2 0 65535 l s) (lsS 2 0 65535 l s)) (((nbV 1 (lsO 2 0 65535 l s) (lsS 2 0 65535 l s) : Nat) : Int) != (0 : Int))).2.2.1), .bool ((listM 2 1 65535 (tkR 1 (lsO 2 0 65535 l s) (lsS 2 0 65535 l s)) (tkS 1 (lsO 2 0 65535 l s) (lsS 2 0 65535 l s)) (((nbV 1 (lsO 2 0 65535 l s) (lsS 2 0 65535 l s) : Nat) : Int) != (0 : Int))).2.2.2)] 120, .vec oa56 oc57 1 (bys bl58) 5, .box br [.slice ta7 (List.length (lsR 2 0 65535 l s)) tc8, .bool (lsS 2 0 65535 l s), .bool o] 120, .vec ao5 cp6 1 (bys (lsO 2 0 65535 l s)) 5], rfl, he61, by kernel_rfl, fun ac63 En64 Hv65 => ?_⟩
 refine f_o ?_
 refine op_str (d := some 23) (src := 23) (dst := 9) (e := 5) (ao := oa56) (cap := oc57) (p := List.length bl58) (bs := bl58) En64 (by kernel_rfl) rfl (by kernel_rfl) (by kernel_rfl) (by kernel_rfl) (Hv65.heap.reads (k := 1) rfl) (bys_vnz Hv65.heap (k := 1) rfl) ?_
 intro ac66 En67
 refine d_e [0,2,4,5] [] En67 fun ac68 En69 => ?_
 refine then_normal ?_
 refine wp_seq ?_
 rcases Bool.eq_false_or_eq_true (lsS 2 0 65535 l s) with hb70 | hb70
 ·
  have hb70p : lsS 2 0 65535 l s = true := hb70
  refine r_c (fun ac wo => Env ac 53 [(0, pt br), (2, .string (bstr [])), (4, pt bk25), (5, .string (bstr bl58))] ∧ Ev w [.box br [.slice a (List.length l) c, .bool s, .bool o] 120] wo [.box bk25 [.slice ta52 (List.length ((listM 2 1 65535 (tkR 1 (lsO 2 0 65535 l s) (lsS 2 0 65535 l s)) (tkS 1 (lsO 2 0 65535 l s) (lsS 2 0 65535 l s)) (((nbV 1 (lsO 2 0 65535 l s) (lsS 2 0 65535 l s) : Nat) : Int) != (0 : Int))).2.1)) tc53, .bool ((listM 2 1 65535 (tkR 1 (lsO 2 0 65535 l s) (lsS 2 0 65535 l s)) (tkS 1 (lsO 2 0 65535 l s) (lsS 2 0 65535 l s)) (((nbV 1 (lsO 2 0 65535 l s) (lsS 2 0 65535 l s) : Nat) : Int) != (0 : Int))).2.2.1), .bool ((listM 2 1 65535 (tkR 1 (lsO 2 0 65535 l s) (lsS 2 0 65535 l s)) (tkS 1 (lsO 2 0 65535 l s) (lsS 2 0 65535 l s)) (((nbV 1 (lsO 2 0 65535 l s) (lsS 2 0 65535 l s) : Nat) : Int) != (0 : Int))).2.2.2)] 120, .box br [.slice ta7 (List.length (lsR 2 0 65535 l s)) tc8, .bool true, .bool ((listM 2 1 65535 (tkR 1 (lsO 2 0 65535 l s) (lsS 2 0 65535 l s)) (tkS 1 (lsO 2 0 65535 l s) (lsS 2 0 65535 l s)) (((nbV 1 (lsO 2 0 65535 l s) (lsS 2 0 65535 l s) : Nat) : Int) != (0 : Int))).2.2.2)] 120]) ?_ ?_
  ·
   refine h_s (fun wv => Ev w [.box br [.slice a (List.length l) c, .bool s, .bool o] 120] wv [.box bk25 [.slice ta52 (List.length ((listM 2 1 65535 (tkR 1 (lsO 2 0 65535 l s) (lsS 2 0 65535 l s)) (tkS 1 (lsO 2 0 65535 l s) (lsS 2 0 65535 l s)) (((nbV 1 (lsO 2 0 65535 l s) (lsS 2 0 65535 l s) : Nat) : Int) != (0 : Int))).2.1)) tc53, .bool ((listM 2 1 65535 (tkR 1 (lsO 2 0 65535 l s) (lsS 2 0 65535 l s)) (tkS 1 (lsO 2 0 65535 l s) (lsS 2 0 65535 l s)) (((nbV 1 (lsO 2 0 65535 l s) (lsS 2 0 65535 l s) : Nat) : Int) != (0 : Int))).2.2.1), .bool ((listM 2 1 65535 (tkR 1 (lsO 2 0 65535 l s) (lsS 2 0 65535 l s)) (tkS 1 (lsO 2 0 65535 l s) (lsS 2 0 65535 l s)) (((nbV 1 (lsO 2 0 65535 l s) (lsS 2 0 65535 l s) : Nat) : Int) != (0 : Int))).2.2.2)] 120, .box br [.slice ta7 (List.length (lsR 2 0 65535 l s)) tc8, .bool (lsS 2 0 65535 l s), .bool o] 120]) [26] 30 ?_
   have wo71 := Hv65.trans (Ev.drew Hv65.heap)
   refine q_s [0,1,2,3,4] [] 25 En69 (wo71.pk [0, 2]) fun ac140 En141 => ?_
   refine q_l 1 5 En141 (wo71.pk [0, 2]) fun ac142 En143 => ?_
   refine q_s [6] [] 23 En143 (wo71.pk [0, 2]) fun ac144 En145 => ?_
   have En146 := En145.fx (t := 29) (congrArg Value.bool hb70)
   have En147 := En146.fx (t := 30) (congrArg Value.bool hb70)
   refine q_s [7,8,9,10,11,12,13,14,15,16,17,18,19,20,21,22] [] 7 En147 (wo71.pk [0, 2]) fun ac148 En149 => ?_
   refine q_l 0 23 En149 (wo71.pk [0, 2]) fun ac150 En151 => ?_
   refine q_s [24,25] [] 4 En151 (wo71.pk [0, 2]) fun ac152 En153 => ?_
   refine q_t 26 ?_
   refine m_s 2 [.box bk25 [.slice ta52 (List.length ((listM 2 1 65535 (tkR 1 (lsO 2 0 65535 l s) (lsS 2 0 65535 l s)) (tkS 1 (lsO 2 0 65535 l s) (lsS 2 0 65535 l s)) (((nbV 1 (lsO 2 0 65535 l s) (lsS 2 0 65535 l s) : Nat) : Int) != (0 : Int))).2.1)) tc53, .bool ((listM 2 1 65535 (tkR 1 (lsO 2 0 65535 l s) (lsS 2 0 65535 l s)) (tkS 1 (lsO 2 0 65535 l s) (lsS 2 0 65535 l s)) (((nbV 1 (lsO 2 0 65535 l s) (lsS 2 0 65535 l s) : Nat) : Int) != (0 : Int))).2.2.1), .bool ((listM 2 1 65535 (tkR 1 (lsO 2 0 65535 l s) (lsS 2 0 65535 l s)) (tkS 1 (lsO 2 0 65535 l s) (lsS 2 0 65535 l s)) (((nbV 1 (lsO 2 0 65535 l s) (lsS 2 0 65535 l s) : Nat) : Int) != (0 : Int))).2.2.2)] 120, .vec oa56 oc57 1 (bys bl58) 5, .box br [.slice ta7 (List.length (lsR 2 0 65535 l s)) tc8, .bool true, .bool o] 120, .vec ao5 cp6 1 (bys (lsO 2 0 65535 l s)) 5] En153 wo71 fun ac154 wo155 En156 Hv157 => ?_
   refine ⟨q_y, ?_⟩
   refine q_n [27,28] [] 1 En156 fun ac158 En159 => ?_
   refine q_t 29 ?_
   refine m_s 2 [.box bk25 [.slice ta52 (List.length ((listM 2 1 65535 (tkR 1 (lsO 2 0 65535 l s) (lsS 2 0 65535 l s)) (tkS 1 (lsO 2 0 65535 l s) (lsS 2 0 65535 l s)) (((nbV 1 (lsO 2 0 65535 l s) (lsS 2 0 65535 l s) : Nat) : Int) != (0 : Int))).2.1)) tc53, .bool ((listM 2 1 65535 (tkR 1 (lsO 2 0 65535 l s) (lsS 2 0 65535 l s)) (tkS 1 (lsO 2 0 65535 l s) (lsS 2 0 65535 l s)) (((nbV 1 (lsO 2 0 65535 l s) (lsS 2 0 65535 l s) : Nat) : Int) != (0 : Int))).2.2.1), .bool ((listM 2 1 65535 (tkR 1 (lsO 2 0 65535 l s) (lsS 2 0 65535 l s)) (tkS 1 (lsO 2 0 65535 l s) (lsS 2 0 65535 l s)) (((nbV 1 (lsO 2 0 65535 l s) (lsS 2 0 65535 l s) : Nat) : Int) != (0 : Int))).2.2.2)] 120, .vec oa56 oc57 1 (bys bl58) 5, .box br [.slice ta7 (List.length (lsR 2 0 65535 l s)) tc8, .bool true, .bool ((listM 2 1 65535 (tkR 1 (lsO 2 0 65535 l s) (lsS 2 0 65535 l s)) (tkS 1 (lsO 2 0 65535 l s) (lsS 2 0 65535 l s)) (((nbV 1 (lsO 2 0 65535 l s) (lsS 2 0 65535 l s) : Nat) : Int) != (0 : Int))).2.2.2)] 120, .vec ao5 cp6 1 (bys (lsO 2 0 65535 l s)) 5] En159 Hv157 fun ac160 wo161 En162 Hv163 => ?_
   refine ⟨q_y, ?_⟩
   exact h_e ⟨En162.sb, Hv163.pk [0, 2]⟩
  rintro ac164 wo165 ⟨En166, Hv167⟩
  refine then_normal ?_
  refine d_s [0,2,4] [] En166 fun ac168 En169 => ?_
  refine wp_ret ?_
  refine d_ret1 (t := 2) (v := .string (bstr bl58)) En169 (by kernel_rfl) (by kernel_rfl) ?_
  have e1 : ((lsS 2 0 65535 l s || lsS 2 1 65535 (nmO l s) (nmT l s)) || decide (0 < (lsR 2 1 65535 (nmO l s) (nmT l s)).length)) = true := by first | exact or3_1 (by assumption) | exact or3_2 (by assumption) | exact or3_3 (by assumption) (by assumption)
  have hfin : Ev w [.box br [.slice a (List.length l) c, .bool s, .bool o] 120] wo165 [.box br [.slice ta7 (List.length (lsR 2 0 65535 l s)) tc8, .bool ((lsS 2 0 65535 l s || lsS 2 1 65535 (nmO l s) (nmT l s)) || decide (0 < (lsR 2 1 65535 (nmO l s) (nmT l s)).length)), .bool ((listM 2 1 65535 (tkR 1 (lsO 2 0 65535 l s) (lsS 2 0 65535 l s)) (tkS 1 (lsO 2 0 65535 l s) (lsS 2 0 65535 l s)) (((nbV 1 (lsO 2 0 65535 l s) (lsS 2 0 65535 l s) : Nat) : Int) != (0 : Int))).2.2.2)] 120] := by rw [e1]; exact Hv167.pk [1]
  exact ⟨ta7, tc8, bl58, rfl, hfin, hs9, hpu55⟩
 ·
  have hb70p : ¬ (lsS 2 0 65535 l s = true) := Bool.eq_false_iff.1 hb70
  rcases Bool.eq_false_or_eq_true ((listM 2 1 65535 (tkR 1 (lsO 2 0 65535 l s) (lsS 2 0 65535 l s)) (tkS 1 (lsO 2 0 65535 l s) (lsS 2 0 65535 l s)) (((nbV 1 (lsO 2 0 65535 l s) (lsS 2 0 65535 l s) : Nat) : Int) != (0 : Int))).2.2.1) with hb170 | hb170
  ·
   have hb170p : (listM 2 1 65535 (tkR 1 (lsO 2 0 65535 l s) (lsS 2 0 65535 l s)) (tkS 1 (lsO 2 0 65535 l s) (lsS 2 0 65535 l s)) (((nbV 1 (lsO 2 0 65535 l s) (lsS 2 0 65535 l s) : Nat) : Int) != (0 : Int))).2.2.1 = true := hb170
   refine r_c (fun ac wo => Env ac 53 [(0, pt br), (2, .string (bstr [])), (4, pt bk25), (5, .string (bstr bl58))] ∧ Ev w [.box br [.slice a (List.length l) c, .bool s, .bool o] 120] wo [.box bk25 [.slice ta52 (List.length ((listM 2 1 65535 (tkR 1 (lsO 2 0 65535 l s) (lsS 2 0 65535 l s)) (tkS 1 (lsO 2 0 65535 l s) (lsS 2 0 65535 l s)) (((nbV 1 (lsO 2 0 65535 l s) (lsS 2 0 65535 l s) : Nat) : Int) != (0 : Int))).2.1)) tc53, .bool ((listM 2 1 65535 (tkR 1 (lsO 2 0 65535 l s) (lsS 2 0 65535 l s)) (tkS 1 (lsO 2 0 65535 l s) (lsS 2 0 65535 l s)) (((nbV 1 (lsO 2 0 65535 l s) (lsS 2 0 65535 l s) : Nat) : Int) != (0 : Int))).2.2.1), .bool ((listM 2 1 65535 (tkR 1 (lsO 2 0 65535 l s) (lsS 2 0 65535 l s)) (tkS 1 (lsO 2 0 65535 l s) (lsS 2 0 65535 l s)) (((nbV 1 (lsO 2 0 65535 l s) (lsS 2 0 65535 l s) : Nat) : Int) != (0 : Int))).2.2.2)] 120, .box br [.slice ta7 (List.length (lsR 2 0 65535 l s)) tc8, .bool true, .bool ((listM 2 1 65535 (tkR 1 (lsO 2 0 65535 l s) (lsS 2 0 65535 l s)) (tkS 1 (lsO 2 0 65535 l s) (lsS 2 0 65535 l s)) (((nbV 1 (lsO 2 0 65535 l s) (lsS 2 0 65535 l s) : Nat) : Int) != (0 : Int))).2.2.2)] 120]) ?_ ?_
   ·
    refine h_s (fun wv => Ev w [.box br [.slice a (List.length l) c, .bool s, .bool o] 120] wv [.box bk25 [.slice ta52 (List.length ((listM 2 1 65535 (tkR 1 (lsO 2 0 65535 l s) (lsS 2 0 65535 l s)) (tkS 1 (lsO 2 0 65535 l s) (lsS 2 0 65535 l s)) (((nbV 1 (lsO 2 0 65535 l s) (lsS 2 0 65535 l s) : Nat) : Int) != (0 : Int))).2.1)) tc53, .bool ((listM 2 1 65535 (tkR 1 (lsO 2 0 65535 l s) (lsS 2 0 65535 l s)) (tkS 1 (lsO 2 0 65535 l s) (lsS 2 0 65535 l s)) (((nbV 1 (lsO 2 0 65535 l s) (lsS 2 0 65535 l s) : Nat) : Int) != (0 : Int))).2.2.1), .bool ((listM 2 1 65535 (tkR 1 (lsO 2 0 65535 l s) (lsS 2 0 65535 l s)) (tkS 1 (lsO 2 0 65535 l s) (lsS 2 0 65535 l s)) (((nbV 1 (lsO 2 0 65535 l s) (lsS 2 0 65535 l s) : Nat) : Int) != (0 : Int))).2.2.2)] 120, .box br [.slice ta7 (List.length (lsR 2 0 65535 l s)) tc8, .bool (lsS 2 0 65535 l s), .bool o] 120]) [26] 30 ?_
    have wo171 := Hv65.trans (Ev.drew Hv65.heap)
    refine q_s [0,1,2,3,4] [] 25 En69 (wo171.pk [0, 2]) fun ac288 En289 => ?_
    refine q_l 1 5 En289 (wo171.pk [0, 2]) fun ac290 En291 => ?_
    refine q_s [6] [] 23 En291 (wo171.pk [0, 2]) fun ac292 En293 => ?_
    have En294 := En293.fx (t := 29) (congrArg Value.bool hb70)
    have En295 := En294.fx (t := 30) (congrArg Value.bool hb70)
    refine q_s [7,8,9] [] 20 En295 (wo171.pk [0, 2]) fun ac296 En297 => ?_
    refine q_l 0 10 En297 (wo171.pk [0, 2]) fun ac298 En299 => ?_
    refine q_s [11,12] [] 17 En299 (wo171.pk [0, 2]) fun ac300 En301 => ?_
    have En302 := En301.fx (t := 34) (congrArg Value.bool hb170)
    have En303 := En302.fx (t := 35) (congrArg Value.bool hb170)
    have En304 := En303.fx (t := 36) (congrArg Value.bool hb170)
    refine q_s [13,14,15,16,17,18,19,20,21,22] [] 7 En304 (wo171.pk [0, 2]) fun ac305 En306 => ?_
    refine q_l 0 23 En306 (wo171.pk [0, 2]) fun ac307 En308 => ?_
    refine q_s [24,25] [] 4 En308 (wo171.pk [0, 2]) fun ac309 En310 => ?_
    refine q_t 26 ?_
    refine m_s 2 [.box bk25 [.slice ta52 (List.length ((listM 2 1 65535 (tkR 1 (lsO 2 0 65535 l s) (lsS 2 0 65535 l s)) (tkS 1 (lsO 2 0 65535 l s) (lsS 2 0 65535 l s)) (((nbV 1 (lsO 2 0 65535 l s) (lsS 2 0 65535 l s) : Nat) : Int) != (0 : Int))).2.1)) tc53, .bool ((listM 2 1 65535 (tkR 1 (lsO 2 0 65535 l s) (lsS 2 0 65535 l s)) (tkS 1 (lsO 2 0 65535 l s) (lsS 2 0 65535 l s)) (((nbV 1 (lsO 2 0 65535 l s) (lsS 2 0 65535 l s) : Nat) : Int) != (0 : Int))).2.2.1), .bool ((listM 2 1 65535 (tkR 1 (lsO 2 0 65535 l s) (lsS 2 0 65535 l s)) (tkS 1 (lsO 2 0 65535 l s) (lsS 2 0 65535 l s)) (((nbV 1 (lsO 2 0 65535 l s) (lsS 2 0 65535 l s) : Nat) : Int) != (0 : Int))).2.2.2)] 120, .vec oa56 oc57 1 (bys bl58) 5, .box br [.slice ta7 (List.length (lsR 2 0 65535 l s)) tc8, .bool true, .bool o] 120, .vec ao5 cp6 1 (bys (lsO 2 0 65535 l s)) 5] En310 wo171 fun ac311 wo312 En313 Hv314 => ?_
    refine ⟨q_y, ?_⟩
    refine q_n [27,28] [] 1 En313 fun ac315 En316 => ?_
    refine q_t 29 ?_
    refine m_s 2 [.box bk25 [.slice ta52 (List.length ((listM 2 1 65535 (tkR 1 (lsO 2 0 65535 l s) (lsS 2 0 65535 l s)) (tkS 1 (lsO 2 0 65535 l s) (lsS 2 0 65535 l s)) (((nbV 1 (lsO 2 0 65535 l s) (lsS 2 0 65535 l s) : Nat) : Int) != (0 : Int))).2.1)) tc53, .bool ((listM 2 1 65535 (tkR 1 (lsO 2 0 65535 l s) (lsS 2 0 65535 l s)) (tkS 1 (lsO 2 0 65535 l s) (lsS 2 0 65535 l s)) (((nbV 1 (lsO 2 0 65535 l s) (lsS 2 0 65535 l s) : Nat) : Int) != (0 : Int))).2.2.1), .bool ((listM 2 1 65535 (tkR 1 (lsO 2 0 65535 l s) (lsS 2 0 65535 l s)) (tkS 1 (lsO 2 0 65535 l s) (lsS 2 0 65535 l s)) (((nbV 1 (lsO 2 0 65535 l s) (lsS 2 0 65535 l s) : Nat) : Int) != (0 : Int))).2.2.2)] 120, .vec oa56 oc57 1 (bys bl58) 5, .box br [.slice ta7 (List.length (lsR 2 0 65535 l s)) tc8, .bool true, .bool ((listM 2 1 65535 (tkR 1 (lsO 2 0 65535 l s) (lsS 2 0 65535 l s)) (tkS 1 (lsO 2 0 65535 l s) (lsS 2 0 65535 l s)) (((nbV 1 (lsO 2 0 65535 l s) (lsS 2 0 65535 l s) : Nat) : Int) != (0 : Int))).2.2.2)] 120, .vec ao5 cp6 1 (bys (lsO 2 0 65535 l s)) 5] En316 Hv314 fun ac317 wo318 En319 Hv320 => ?_
    refine ⟨q_y, ?_⟩
    exact h_e ⟨En319.sb, Hv320.pk [0, 2]⟩
   rintro ac321 wo322 ⟨En323, Hv324⟩
   refine then_normal ?_
   refine d_s [0,2,4] [] En323 fun ac325 En326 => ?_
   refine wp_ret ?_
   refine d_ret1 (t := 2) (v := .string (bstr bl58)) En326 (by kernel_rfl) (by kernel_rfl) ?_
   have e1 : ((lsS 2 0 65535 l s || lsS 2 1 65535 (nmO l s) (nmT l s)) || decide (0 < (lsR 2 1 65535 (nmO l s) (nmT l s)).length)) = true := by first | exact or3_1 (by assumption) | exact or3_2 (by assumption) | exact or3_3 (by assumption) (by assumption)
   have hfin : Ev w [.box br [.slice a (List.length l) c, .bool s, .bool o] 120] wo322 [.box br [.slice ta7 (List.length (lsR 2 0 65535 l s)) tc8, .bool ((lsS 2 0 65535 l s || lsS 2 1 65535 (nmO l s) (nmT l s)) || decide (0 < (lsR 2 1 65535 (nmO l s) (nmT l s)).length)), .bool ((listM 2 1 65535 (tkR 1 (lsO 2 0 65535 l s) (lsS 2 0 65535 l s)) (tkS 1 (lsO 2 0 65535 l s) (lsS 2 0 65535 l s)) (((nbV 1 (lsO 2 0 65535 l s) (lsS 2 0 65535 l s) : Nat) : Int) != (0 : Int))).2.2.2)] 120] := by rw [e1]; exact Hv324.pk [1]
   exact ⟨ta7, tc8, bl58, rfl, hfin, hs9, hpu55⟩
  ·
   have hb170p : ¬ ((listM 2 1 65535 (tkR 1 (lsO 2 0 65535 l s) (lsS 2 0 65535 l s)) (tkS 1 (lsO 2 0 65535 l s) (lsS 2 0 65535 l s)) (((nbV 1 (lsO 2 0 65535 l s) (lsS 2 0 65535 l s) : Nat) : Int) != (0 : Int))).2.2.1 = true) := Bool.eq_false_iff.1 hb170
   refine r_c (fun ac wo => Env ac 53 [(0, pt br), (2, .string (bstr [])), (4, pt bk25), (5, .string (bstr bl58))] ∧ Ev w [.box br [.slice a (List.length l) c, .bool s, .bool o] 120] wo [.box bk25 [.slice ta52 (List.length ((listM 2 1 65535 (tkR 1 (lsO 2 0 65535 l s) (lsS 2 0 65535 l s)) (tkS 1 (lsO 2 0 65535 l s) (lsS 2 0 65535 l s)) (((nbV 1 (lsO 2 0 65535 l s) (lsS 2 0 65535 l s) : Nat) : Int) != (0 : Int))).2.1)) tc53, .bool ((listM 2 1 65535 (tkR 1 (lsO 2 0 65535 l s) (lsS 2 0 65535 l s)) (tkS 1 (lsO 2 0 65535 l s) (lsS 2 0 65535 l s)) (((nbV 1 (lsO 2 0 65535 l s) (lsS 2 0 65535 l s) : Nat) : Int) != (0 : Int))).2.2.1), .bool ((listM 2 1 65535 (tkR 1 (lsO 2 0 65535 l s) (lsS 2 0 65535 l s)) (tkS 1 (lsO 2 0 65535 l s) (lsS 2 0 65535 l s)) (((nbV 1 (lsO 2 0 65535 l s) (lsS 2 0 65535 l s) : Nat) : Int) != (0 : Int))).2.2.2)] 120, .box br [.slice ta7 (List.length (lsR 2 0 65535 l s)) tc8, .bool (decide (((List.length ((listM 2 1 65535 (tkR 1 (lsO 2 0 65535 l s) (lsS 2 0 65535 l s)) (tkS 1 (lsO 2 0 65535 l s) (lsS 2 0 65535 l s)) (((nbV 1 (lsO 2 0 65535 l s) (lsS 2 0 65535 l s) : Nat) : Int) != (0 : Int))).2.1) : Nat) : Int) > (0 : Int))), .bool ((listM 2 1 65535 (tkR 1 (lsO 2 0 65535 l s) (lsS 2 0 65535 l s)) (tkS 1 (lsO 2 0 65535 l s) (lsS 2 0 65535 l s)) (((nbV 1 (lsO 2 0 65535 l s) (lsS 2 0 65535 l s) : Nat) : Int) != (0 : Int))).2.2.2)] 120]) ?_ ?_
   ·
    refine h_s (fun wv => Ev w [.box br [.slice a (List.length l) c, .bool s, .bool o] 120] wv [.box bk25 [.slice ta52 (List.length ((listM 2 1 65535 (tkR 1 (lsO 2 0 65535 l s) (lsS 2 0 65535 l s)) (tkS 1 (lsO 2 0 65535 l s) (lsS 2 0 65535 l s)) (((nbV 1 (lsO 2 0 65535 l s) (lsS 2 0 65535 l s) : Nat) : Int) != (0 : Int))).2.1)) tc53, .bool ((listM 2 1 65535 (tkR 1 (lsO 2 0 65535 l s) (lsS 2 0 65535 l s)) (tkS 1 (lsO 2 0 65535 l s) (lsS 2 0 65535 l s)) (((nbV 1 (lsO 2 0 65535 l s) (lsS 2 0 65535 l s) : Nat) : Int) != (0 : Int))).2.2.1), .bool ((listM 2 1 65535 (tkR 1 (lsO 2 0 65535 l s) (lsS 2 0 65535 l s)) (tkS 1 (lsO 2 0 65535 l s) (lsS 2 0 65535 l s)) (((nbV 1 (lsO 2 0 65535 l s) (lsS 2 0 65535 l s) : Nat) : Int) != (0 : Int))).2.2.2)] 120, .box br [.slice ta7 (List.length (lsR 2 0 65535 l s)) tc8, .bool (lsS 2 0 65535 l s), .bool o] 120]) [26] 30 ?_
    have wo327 := Hv65.trans (Ev.drew Hv65.heap)
    refine q_s [0,1,2,3,4] [] 25 En69 (wo327.pk [0, 2]) fun ac476 En477 => ?_
    refine q_l 1 5 En477 (wo327.pk [0, 2]) fun ac478 En479 => ?_
    refine q_s [6] [] 23 En479 (wo327.pk [0, 2]) fun ac480 En481 => ?_
    have En482 := En481.fx (t := 29) (congrArg Value.bool hb70)
    have En483 := En482.fx (t := 30) (congrArg Value.bool hb70)
    refine q_s [7,8,9] [] 20 En483 (wo327.pk [0, 2]) fun ac484 En485 => ?_
    refine q_l 0 10 En485 (wo327.pk [0, 2]) fun ac486 En487 => ?_
    refine q_s [11,12] [] 17 En487 (wo327.pk [0, 2]) fun ac488 En489 => ?_
    have En490 := En489.fx (t := 34) (congrArg Value.bool hb170)
    have En491 := En490.fx (t := 35) (congrArg Value.bool hb170)
    have En492 := En491.fx (t := 36) (congrArg Value.bool hb170)
    refine q_s [13,14,15] [] 14 En492 (wo327.pk [0, 2]) fun ac493 En494 => ?_
    refine q_l 0 16 En494 (wo327.pk [0, 2]) fun ac495 En496 => ?_
    refine q_s [17,18,19,20,21,22] [] 7 En496 (wo327.pk [0, 2]) fun ac497 En498 => ?_
    refine q_l 0 23 En498 (wo327.pk [0, 2]) fun ac499 En500 => ?_
    refine q_s [24,25] [] 4 En500 (wo327.pk [0, 2]) fun ac501 En502 => ?_
    refine q_t 26 ?_
    refine m_s 2 [.box bk25 [.slice ta52 (List.length ((listM 2 1 65535 (tkR 1 (lsO 2 0 65535 l s) (lsS 2 0 65535 l s)) (tkS 1 (lsO 2 0 65535 l s) (lsS 2 0 65535 l s)) (((nbV 1 (lsO 2 0 65535 l s) (lsS 2 0 65535 l s) : Nat) : Int) != (0 : Int))).2.1)) tc53, .bool ((listM 2 1 65535 (tkR 1 (lsO 2 0 65535 l s) (lsS 2 0 65535 l s)) (tkS 1 (lsO 2 0 65535 l s) (lsS 2 0 65535 l s)) (((nbV 1 (lsO 2 0 65535 l s) (lsS 2 0 65535 l s) : Nat) : Int) != (0 : Int))).2.2.1), .bool ((listM 2 1 65535 (tkR 1 (lsO 2 0 65535 l s) (lsS 2 0 65535 l s)) (tkS 1 (lsO 2 0 65535 l s) (lsS 2 0 65535 l s)) (((nbV 1 (lsO 2 0 65535 l s) (lsS 2 0 65535 l s) : Nat) : Int) != (0 : Int))).2.2.2)] 120, .vec oa56 oc57 1 (bys bl58) 5, .box br [.slice ta7 (List.length (lsR 2 0 65535 l s)) tc8, .bool (decide (((List.length ((listM 2 1 65535 (tkR 1 (lsO 2 0 65535 l s) (lsS 2 0 65535 l s)) (tkS 1 (lsO 2 0 65535 l s) (lsS 2 0 65535 l s)) (((nbV 1 (lsO 2 0 65535 l s) (lsS 2 0 65535 l s) : Nat) : Int) != (0 : Int))).2.1) : Nat) : Int) > (0 : Int))), .bool o] 120, .vec ao5 cp6 1 (bys (lsO 2 0 65535 l s)) 5] En502 wo327 fun ac503 wo504 En505 Hv506 => ?_
    refine ⟨q_y, ?_⟩
    refine q_n [27,28] [] 1 En505 fun ac507 En508 => ?_
    refine q_t 29 ?_
    refine m_s 2 [.box bk25 [.slice ta52 (List.length ((listM 2 1 65535 (tkR 1 (lsO 2 0 65535 l s) (lsS 2 0 65535 l s)) (tkS 1 (lsO 2 0 65535 l s) (lsS 2 0 65535 l s)) (((nbV 1 (lsO 2 0 65535 l s) (lsS 2 0 65535 l s) : Nat) : Int) != (0 : Int))).2.1)) tc53, .bool ((listM 2 1 65535 (tkR 1 (lsO 2 0 65535 l s) (lsS 2 0 65535 l s)) (tkS 1 (lsO 2 0 65535 l s) (lsS 2 0 65535 l s)) (((nbV 1 (lsO 2 0 65535 l s) (lsS 2 0 65535 l s) : Nat) : Int) != (0 : Int))).2.2.1), .bool ((listM 2 1 65535 (tkR 1 (lsO 2 0 65535 l s) (lsS 2 0 65535 l s)) (tkS 1 (lsO 2 0 65535 l s) (lsS 2 0 65535 l s)) (((nbV 1 (lsO 2 0 65535 l s) (lsS 2 0 65535 l s) : Nat) : Int) != (0 : Int))).2.2.2)] 120, .vec oa56 oc57 1 (bys bl58) 5, .box br [.slice ta7 (List.length (lsR 2 0 65535 l s)) tc8, .bool (decide (((List.length ((listM 2 1 65535 (tkR 1 (lsO 2 0 65535 l s) (lsS 2 0 65535 l s)) (tkS 1 (lsO 2 0 65535 l s) (lsS 2 0 65535 l s)) (((nbV 1 (lsO 2 0 65535 l s) (lsS 2 0 65535 l s) : Nat) : Int) != (0 : Int))).2.1) : Nat) : Int) > (0 : Int))), .bool ((listM 2 1 65535 (tkR 1 (lsO 2 0 65535 l s) (lsS 2 0 65535 l s)) (tkS 1 (lsO 2 0 65535 l s) (lsS 2 0 65535 l s)) (((nbV 1 (lsO 2 0 65535 l s) (lsS 2 0 65535 l s) : Nat) : Int) != (0 : Int))).2.2.2)] 120, .vec ao5 cp6 1 (bys (lsO 2 0 65535 l s)) 5] En508 Hv506 fun ac509 wo510 En511 Hv512 => ?_
    refine ⟨q_y, ?_⟩
    exact h_e ⟨En511.sb, Hv512.pk [0, 2]⟩
   rintro ac513 wo514 ⟨En515, Hv516⟩
   refine then_normal ?_
   refine d_s [0,2,4] [] En515 fun ac517 En518 => ?_
   refine wp_ret ?_
   refine d_ret1 (t := 2) (v := .string (bstr bl58)) En518 (by kernel_rfl) (by kernel_rfl) ?_
   have e1 : ((lsS 2 0 65535 l s || lsS 2 1 65535 (nmO l s) (nmT l s)) || decide (0 < (lsR 2 1 65535 (nmO l s) (nmT l s)).length)) = decide (((List.length ((listM 2 1 65535 (tkR 1 (lsO 2 0 65535 l s) (lsS 2 0 65535 l s)) (tkS 1 (lsO 2 0 65535 l s) (lsS 2 0 65535 l s)) (((nbV 1 (lsO 2 0 65535 l s) (lsS 2 0 65535 l s) : Nat) : Int) != (0 : Int))).2.1) : Nat) : Int) > (0 : Int)) := by first | exact or3_1 (by assumption) | exact or3_2 (by assumption) | exact or3_3 (by assumption) (by assumption)
   have hfin : Ev w [.box br [.slice a (List.length l) c, .bool s, .bool o] 120] wo514 [.box br [.slice ta7 (List.length (lsR 2 0 65535 l s)) tc8, .bool ((lsS 2 0 65535 l s || lsS 2 1 65535 (nmO l s) (nmT l s)) || decide (0 < (lsR 2 1 65535 (nmO l s) (nmT l s)).length)), .bool ((listM 2 1 65535 (tkR 1 (lsO 2 0 65535 l s) (lsS 2 0 65535 l s)) (tkS 1 (lsO 2 0 65535 l s) (lsS 2 0 65535 l s)) (((nbV 1 (lsO 2 0 65535 l s) (lsS 2 0 65535 l s) : Nat) : Int) != (0 : Int))).2.2.2)] 120] := by rw [e1]; exact Hv516.pk [1]
   exact ⟨ta7, tc8, bl58, rfl, hfin, hs9, hpu55⟩

theorem got_getname (w : World) (a : Option Addr) (c : Nat) (l : Bs) (i : InB w [] a c l) : Calls Try.prog 135 #[.slice a (List.length l) c, .func (.func 136) #[] #[]] w fun e w' => ∃ bl, e = .returned (.tuple #[.string (bstr bl), .int .i64 (gotA (nmM l false false))]) ∧ Ev w [] w' [] ∧ bl = gotV [] (nmM l false false) := by
 refine d_0 [(0, .slice a (List.length l) c), (1, .func (.func 136) #[] #[])] 36 Go.Proofs.Try.func135 Go.Proofs.Try.ntmps135 (Heap.nil _) fun act0 En0 Hv0 => ?_
 refine d_s [0,1,4,5] [] En0 fun ac1 En2 => ?_
 refine d_s [0,1,4,5,6] [] En2 fun ac3 En4 => ?_
 refine wp_seq ?_
 refine region_from ?_
 refine d_k [1,4,5,6,10] [] 2 En4 fun ac5 En6 => ?_
 refine f_o ?_
 refine m_m 120 [.slice a (List.length l) c, .bool false, .bool false] En6 Hv0 fun ac8 wo9 bk7 En10 Hv11 => ?_
 refine d_e [1,4,5,6,7] [] En10 fun ac12 En13 => ?_
 refine then_normal ?_
 refine wp_seq ?_
 refine region_from ?_
 refine d_k [4,5,6,7,12,13] [] 2 En13 fun ac14 En15 => ?_
 refine f_o ?_
 refine c_l [0] (M := [.box bk7 [.slice a (List.length l) c, .bool false, .bool false] 120]) En15 Hv11 (fun hM21 => getname1 _ bk7 a c l false false ((i.ev Hv11).pick [0] (by kernel_rfl)) hM21) ?_
 rintro _ wo22 ⟨ta16, tc17, bl20, rfl, he23, hs18, hpu19⟩
 refine ⟨_, _, [.box bk7 [.slice ta16 (List.length ((nmM l false false).2.1)) tc17, .bool ((nmM l false false).2.2.1), .bool ((nmM l false false).2.2.2)] 120], rfl, he23, by kernel_rfl, fun ac25 En26 Hv27 => ?_⟩
 refine d_e [4,5,6,7,8] [] En26 fun ac28 En29 => ?_
 refine then_normal ?_
 refine wp_seq ?_
 refine wp_block ?_
 refine wp_seq ?_
 refine region_from ?_
 refine d_k [4,5,6,7,8,18] [] 3 En29 fun ac30 En31 => ?_
 refine f_o ?_
 refine m_l 0 En31 Hv27 fun ac32 En33 => ?_
 refine d_k [4,5,6,7,8,20] [] 5 En33 fun ac34 En35 => ?_
 rcases Bool.eq_false_or_eq_true ((nmM l false false).2.2.1) with hb36 | hb36
 ·
  have En37 := En35.fx (t := 20) (congrArg Value.bool hb36)
  have hp38 : (nmM l false false).2.2.1 = true := hb36
  refine d_e [4,5,6,7,8,15] [] En37 fun ac39 En40 => ?_
  refine then_normal ?_
  refine c_t En40 ?_
  refine d_s [4,5,6,7,8] [] En40 fun ac41 En42 => ?_
  refine wp_ret ?_
  refine block_ret ?_
  refine then_ret ?_
  refine d_ret2 (t := 4) (u := 5) (v := .string (bstr [])) (x := .int .i64 50) En42 (by kernel_rfl) (by kernel_rfl) (by kernel_rfl) ?_
  have eA : gotA (nmM l false false) = 50 := Eq.symm (by first | exact end_1 (by assumption) | exact end_2 (by omega) | exact end_3 (by assumption) (by omega) (by assumption))
  rw [gotV_n eA (by decide), eA]
  exact ⟨[], rfl, Hv27.pk [], rfl⟩
 ·
  have En43 := En35.fx (t := 20) (congrArg Value.bool hb36)
  have hp44 : ¬ ((nmM l false false).2.2.1 = true) := Bool.eq_false_iff.1 hb36
  refine d_k [4,5,6,7,8,20,23] [] 8 En43 fun ac45 En46 => ?_
  refine f_o ?_
  refine m_l 0 En46 Hv27 fun ac47 En48 => ?_
  refine d_e [4,5,6,7,8,15] [] En48 fun ac49 En50 => ?_
  refine then_normal ?_
  refine c_d (((List.length ((nmM l false false).2.1) : Nat) : Int) > (0 : Int)) En50 (fun hc51 => ?_) (fun hc51 => ?_)
  ·
   refine d_s [4,5,6,7,8] [] En50 fun ac52 En53 => ?_
   refine wp_ret ?_
   refine block_ret ?_
   refine then_ret ?_
   refine d_ret2 (t := 4) (u := 5) (v := .string (bstr [])) (x := .int .i64 50) En53 (by kernel_rfl) (by kernel_rfl) (by kernel_rfl) ?_
   have eA : gotA (nmM l false false) = 50 := Eq.symm (by first | exact end_1 (by assumption) | exact end_2 (by omega) | exact end_3 (by assumption) (by omega) (by assumption))
   rw [gotV_n eA (by decide), eA]
   exact ⟨[], rfl, Hv27.pk [], rfl⟩
  ·
   refine wp_seq ?_
   refine region_from ?_
   refine d_k [4,5,6,7,8,32] [] 3 En50 fun ac54 En55 => ?_
   refine f_o ?_
   refine m_l 0 En55 Hv27 fun ac56 En57 => ?_
   refine d_e [4,5,6,7,8,29] [] En57 fun ac58 En59 => ?_
   refine then_normal ?_
   refine cond_at En59 (t := (nmM l false false).2.2.2) (by kernel_rfl) (fun hc60 => ?_) (fun hc60 => ?_)
   ·
    replace hc60 : (nmM l false false).2.2.2 = true := hc60
    refine d_s [4,5,6,7,8] [] En59 fun ac61 En62 => ?_
    refine wp_ret ?_
    refine block_ret ?_
    refine then_ret ?_
    refine d_ret2 (t := 4) (u := 5) (v := .string (bstr [])) (x := .int .i64 47) En62 (by kernel_rfl) (by kernel_rfl) (by kernel_rfl) ?_
    have eA : gotA (nmM l false false) = 47 := Eq.symm (by first | exact end_1 (by assumption) | exact end_2 (by omega) | exact end_3 (by assumption) (by omega) (by assumption))
    rw [gotV_n eA (by decide), eA]
    exact ⟨[], rfl, Hv27.pk [], rfl⟩
   ·
    replace hc60 : ¬ ((nmM l false false).2.2.2 = true) := Bool.eq_false_iff.1 hc60
    refine wp_skip ?_
    refine block_normal ?_
    refine then_normal ?_
    refine d_s [4,5,6,7] [] En59 fun ac63 En64 => ?_
    refine wp_ret ?_
    refine d_ret2 (t := 4) (u := 5) (v := .string (bstr bl20)) (x := .int .i64 0) En64 (by kernel_rfl) (by kernel_rfl) (by kernel_rfl) ?_
    have eA : gotA (nmM l false false) = 0 := (end_4 (by assumption) (by omega) (by assumption)).symm
    rw [gotV_0 eA, eA]
    exact ⟨bl20, rfl, Hv27.pk [], hpu19⟩

theorem getname_go (w : World) (aq : Option Addr) (nq cq : Nat) (lq : List UInt8) (eq : nq = List.length lq) (iq : InB w [] aq cq lq) : Calls Try.prog 41 #[.slice aq nq cq] w fun e w' => ∃ bl, e = .returned (.tuple #[.string (bstr bl), .int .i64 (gotA (nmM lq false false))]) ∧ Ev w [] w' [] ∧ bl = gotV [] (nmM lq false false) := by
 subst eq
 refine d_0 [(0, .slice aq (List.length lq) cq)] 8 Go.Proofs.Try.func41 Go.Proofs.Try.ntmps41 (Heap.nil _) fun act0 En0 Hv0 => ?_
 refine d_s [0,2,3] [] En0 fun ac1 En2 => ?_
 refine wp_seq ?_
 refine region_from ?_
 refine d_k [2,3,4] [] 1 En2 fun ac3 En4 => ?_
 refine f_o ?_
 refine c_0 En4 Hv0 (got_getname _ aq cq lq ((iq.ev Hv0).pick [] (by kernel_rfl))) ?_
 rintro _ wo8 ⟨bl5, rfl, he9, hpu6⟩
 refine ⟨_, _, _, rfl, he9, rfl, fun ac11 En12 Hv13 => ?_⟩
 refine d_e [2,3] [] En12 fun ac14 En15 => ?_
 refine then_normal ?_
 refine wp_ret ?_
 refine d_ret2 (t := 2) (u := 3) (v := .string (bstr bl5)) (x := .int .i64 (gotA (nmM lq false false))) En15 (by kernel_rfl) (by kernel_rfl) (by kernel_rfl) ?_
 exact ⟨bl5, rfl, Hv13.pk [], hpu6⟩

end Go.Proofs.Ytofecellbfhnjaa
