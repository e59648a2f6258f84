import Derived.Test.YtofecellbfhnjaaBk7
import Derived.Test.YtofecellbfhnjaaBk6
import Derived.Test.YtofecellbfhnjaaBk4
/- Layer 17: extensions are read by the program. -/


namespace Go.Proofs.Ytofecellbfhnjaa
open Go.Dbr
set_option maxRecDepth 100000
set_option maxHeartbeats 2000000
set_option linter.unusedVariables false
set_option linter.unusedSimpArgs false

def innExt (y : RExt) : List Inn := [(y.2.1.a, y.2.1.c, 1, bys y.2.1.l, 5)]
def extM (l : Bs) (s o : Bool) : EX × PS := ((UInt16.ofNat (nbV 2 l s), lsO 2 0 65535 (tkR 2 l s) (tkS 2 l s)), lsR 2 0 65535 (tkR 2 l s) (tkS 2 l s), lsS 2 0 65535 (tkR 2 l s) (tkS 2 l s), o)
theorem ext_dec : Dec extM := ⟨fun l o h hs => Nat.lt_of_le_of_lt (lsR_len _ _ _ _ _) (tk_lt (by decide) h), fun l o => Nat.le_trans (lsR_len _ _ _ _ _) (tkR_len _ _ _)⟩
def hasE (t : UInt16) (ps : List EX) : Bool := decide (fdN t ps < ps.length)

theorem ext_go (w : World) (br : Nat) (a : Option Addr) (c : Nat) (l : List UInt8) (s o : Bool) (i : InB w [.box br [.slice a (List.length l) c, .bool s, .bool o] 120] a c l) (hH : Heap w [.box br [.slice a (List.length l) c, .bool s, .bool o] 120]) : Calls Try.prog 210 #[pt br] w fun e w' => ∃ ta tc gv oa oc bl, e = .returned (.agg #[uv16 gv, .slice oa (List.length bl) oc]) ∧ Ev w [.box br [.slice a (List.length l) c, .bool s, .bool o] 120] w' [.box br [.slice ta (List.length ((extM l s o).2.1)) tc, .bool ((extM l s o).2.2.1), .bool ((extM l s o).2.2.2)] 120, .vec oa oc 1 (bys bl) 5] ∧ Sub a c l ta tc (extM l s o).2.1 ∧ (gv, bl) = (extM l s o).1 ∧ List.length bl ≤ 4294967296 := by
 refine d_0 [(0, pt br)] 10 Go.Proofs.Try.func210 Go.Proofs.Try.ntmps210 (hH) fun act0 En0 Hv0 => ?_
 refine wp_seq ?_
 refine region_from ?_
 refine f_o ?_
 refine m_z 147 [.int .u16 0, .slice none 0 0] En0 Hv0 fun ac2 wo3 bk1 En4 Hv5 => ?_
 refine f_e ?_
 refine then_normal ?_
 refine wp_seq ?_
 refine region_from ?_
 refine d_k [0,2,4] [] 1 En4 fun ac6 En7 => ?_
 refine f_o ?_
 refine c_l [0] (M := [.box br [.slice a (List.length l) c, .bool s, .bool o] 120]) En7 Hv5 (fun hM11 => u16_go _ br a c l s o ((i.ev Hv5).pick [0] (by kernel_rfl)) hM11) ?_
 rintro _ wo12 ⟨ta8, tc9, rfl, he13, hs10⟩
 refine ⟨_, _, [.box br [.slice ta8 (List.length (tkR 2 l s)) tc9, .bool (tkS 2 l s), .bool o] 120, .box bk1 [.int .u16 0, .slice none 0 0] 147], rfl, he13, by kernel_rfl, fun ac15 En16 Hv17 => ?_⟩
 refine d_e [0,2,3] [] En16 fun ac18 En19 => ?_
 refine then_normal ?_
 refine wp_seq ?_
 refine region_from ?_
 refine d_k [0,2,6,7] [] 2 En19 fun ac20 En21 => ?_
 refine f_o ?_
 refine c_l [0] (M := [.box br [.slice ta8 (List.length (tkR 2 l s)) tc9, .bool (tkS 2 l s), .bool o] 120]) En21 Hv17 (fun hM27 => list_go _ br 2 (by omega) 0 65535 (by omega) (by omega) ta8 tc9 (tkR 2 l s) (tkS 2 l s) o (hs10 _ _ ((i.ev Hv17).pick [0] (by kernel_rfl))) hM27) ?_
 rintro _ wo28 ⟨ao22, cp23, ta24, tc25, rfl, he29, hs26⟩
 refine ⟨_, _, [.box br [.slice ta24 (List.length (lsR 2 0 65535 (tkR 2 l s) (tkS 2 l s))) tc25, .bool (lsS 2 0 65535 (tkR 2 l s) (tkS 2 l s)), .bool o] 120, .vec ao22 cp23 1 (bys (lsO 2 0 65535 (tkR 2 l s) (tkS 2 l s))) 5, .box bk1 [.int .u16 0, .slice none 0 0] 147], rfl, he29, by kernel_rfl, fun ac31 En32 Hv33 => ?_⟩
 refine d_k [0,2,9] [] 4 En32 fun ac34 En35 => ?_
 refine f_o ?_
 refine m_g 2 0 2 [.int .u16 ((UInt16.toNat (UInt16.ofNat (nbV 2 l s)) : Nat) : Int), .slice ao22 (List.length (lsO 2 0 65535 (tkR 2 l s) (tkS 2 l s))) cp23] [.int .u16 ((UInt16.toNat (UInt16.ofNat (nbV 2 l s)) : Nat) : Int), .slice ao22 (List.length (lsO 2 0 65535 (tkR 2 l s) (tkS 2 l s))) cp23] [.box br [.slice ta24 (List.length (lsR 2 0 65535 (tkR 2 l s) (tkS 2 l s))) tc25, .bool (lsS 2 0 65535 (tkR 2 l s) (tkS 2 l s)), .bool o] 120, .vec ao22 cp23 1 (bys (lsO 2 0 65535 (tkR 2 l s) (tkS 2 l s))) 5, .box bk1 [.int .u16 ((UInt16.toNat (UInt16.ofNat (nbV 2 l s)) : Nat) : Int), .slice ao22 (List.length (lsO 2 0 65535 (tkR 2 l s) (tkS 2 l s))) cp23] 147] En35 Hv33 rfl rfl (by simp) (one_all (by kernel_rfl)) rfl rfl fun ac36 wo37 En38 Hv39 => ?_
 refine f_e ?_
 refine then_normal ?_
 refine wp_ret ?_
 refine d_cell1 (v := .agg #[.int .u16 ((UInt16.toNat (UInt16.ofNat (nbV 2 l s)) : Nat) : Int), .slice ao22 (List.length (lsO 2 0 65535 (tkR 2 l s) (tkS 2 l s))) cp23]) (t := 2) (T := 147) (ad := ⟨bk1, 0, none⟩) En38 (by kernel_rfl) (by kernel_rfl) (Ev.cellAgg (t := 147) (k := 2) (off := 0) (m := 2) (xs := [.int .u16 ((UInt16.toNat (UInt16.ofNat (nbV 2 l s)) : Nat) : Int), .slice ao22 (List.length (lsO 2 0 65535 (tkR 2 l s) (tkS 2 l s))) cp23]) Hv39 rfl rfl rfl (by kernel_rfl) (by kernel_rfl)) ?_
 exact ⟨ta24, tc25, (UInt16.ofNat (nbV 2 l s)), ao22, cp23, (lsO 2 0 65535 (tkR 2 l s) (tkS 2 l s)), rfl, Hv39.pk [0, 1], (hs10.trans hs26), rfl, (Nat.le_of_succ_le (lsO_32 (by decide) _ _))⟩

theorem many_ext (w : World) (br : Nat) (n : Nat) (hn : n ≤ 4) (x : Nat) (hx : x ≤ 4294967295) (a : Option Addr) (c : Nat) (l : List UInt8) (s o : Bool) (i : InB w [.box br [.slice a (List.length l) c, .bool s, .bool o] 120] a c l) (hH : Heap w [.box br [.slice a (List.length l) c, .bool s, .bool o] 120]) : Calls Try.prog 209 #[pt br, ni n, ni x, .func (.func 210) #[] #[]] w fun e w' => ∃ ta tc oa oc xs, e = .returned (.slice oa (List.length xs) oc) ∧ Ev w [.box br [.slice a (List.length l) c, .bool s, .bool o] 120] w' [.box br [.slice ta (List.length (lsR n x 16777215 l s)) tc, .bool (lsS n x 16777215 l s || (mn extM ((lsO n x 16777215 l s, lsS n x 16777215 l s, false) : PS)).2.2.1), .bool (o || (mn extM ((lsO n x 16777215 l s, lsS n x 16777215 l s, false) : PS)).2.2.2)] 120, .vec oa oc 2 (List.flatMap fExt xs) 147, .grp (List.flatMap innExt xs)] ∧ Sub a c l ta tc (lsR n x 16777215 l s) ∧ List.map (fun y : RExt => (y.1, y.2.1.l)) xs = (mn extM ((lsO n x 16777215 l s, lsS n x 16777215 l s, false) : PS)).1 ∧ List.length xs ≤ List.length (lsO n x 16777215 l s) + 1 ∧ ∀ y ∈ xs, List.length y.2.1.l ≤ 140737488351232 := by
 refine d_0 [(0, pt br), (1, ni n), (2, ni x), (3, .func (.func 210) #[] #[])] 69 Go.Proofs.Try.func209 Go.Proofs.Try.ntmps209 (hH) fun act0 En0 Hv0 => ?_
 refine d_s [0,1,2,3,8] [] En0 fun ac1 En2 => ?_
 refine wp_seq ?_
 refine region_from ?_
 refine d_k [0,3,8,12,13,14] [] 3 En2 fun ac3 En4 => ?_
 refine f_o ?_
 refine c_l [0] (M := [.box br [.slice a (List.length l) c, .bool s, .bool o] 120]) En4 Hv0 (fun hM10 => list_go _ br n (by omega) x 16777215 (by omega) (by omega) a c l s o ((i.ev Hv0).pick [0] (by kernel_rfl)) hM10) ?_
 rintro _ wo11 ⟨ao5, cp6, ta7, tc8, rfl, he12, hs9⟩
 refine ⟨_, _, [.box br [.slice ta7 (List.length (lsR n x 16777215 l s)) tc8, .bool (lsS n x 16777215 l s), .bool o] 120, .vec ao5 cp6 1 (bys (lsO n x 16777215 l s)) 5], rfl, he12, by kernel_rfl, fun ac14 En15 Hv16 => ?_⟩
 refine d_e [0,3,8,9] [] En15 fun ac17 En18 => ?_
 refine then_normal ?_
 refine wp_seq ?_
 refine region_from ?_
 refine d_k [0,3,8,16,19] [] 4 En18 fun ac19 En20 => ?_
 refine f_o ?_
 refine m_l 0 En20 Hv16 fun ac21 En22 => ?_
 refine d_k [0,3,8,21] [] 6 En22 fun ac23 En24 => ?_
 refine f_o ?_
 refine m_m 120 [.slice ao5 (List.length (lsO n x 16777215 l s)) cp6, .bool (lsS n x 16777215 l s), .bool false] En24 Hv16 fun ac26 wo27 bk25 En28 Hv29 => ?_
 refine d_e [0,3,8,10] [] En28 fun ac30 En31 => ?_
 refine then_normal ?_
 refine d_s [0,3,8,10,11] [] En31 fun ac32 En33 => ?_
 refine wp_seq ?_
 refine region_cut (F := fun ac wo => ∃ (oa : Option Addr) (oc : Nat) (xs : List (RExt)) (ra : Option Addr) (rc : Nat) (rl : Bs) (s1 : Bool) (o1 : Bool), Env ac 69 [(0, pt br), (3, .func (.func 210) #[] #[]), (8, .slice none 0 0), (10, pt bk25), (11, .slice oa (List.length xs) oc)] ∧ Ev w [.box br [.slice a (List.length l) c, .bool s, .bool o] 120] wo [.box br [.slice ta7 (List.length (lsR n x 16777215 l s)) tc8, .bool (lsS n x 16777215 l s), .bool o] 120, .box bk25 [.slice ra (List.length rl) rc, .bool s1, .bool o1] 120, .vec oa oc 2 (List.flatMap fExt xs) 147, .grp (List.flatMap innExt xs)] ∧ (mn extM ((lsO n x 16777215 l s, lsS n x 16777215 l s, false) : PS) = (List.map (fun y : RExt => (y.1, y.2.1.l)) xs, rl, s1, o1)) ∧ (List.length xs ≤ List.length (lsO n x 16777215 l s) + 1) ∧ (∀ y ∈ xs, List.length y.2.1.l ≤ 140737488351232)) ?_ ?_
 ·
  refine wp_block ?_
  have Hv34 : Ev w [.box br [.slice a (List.length l) c, .bool s, .bool o] 120] wo27 [.box br [.slice ta7 (List.length (lsR n x 16777215 l s)) tc8, .bool (lsS n x 16777215 l s), .bool o] 120, .vec ao5 cp6 1 (bys (lsO n x 16777215 l s)) 5, .box bk25 [.slice ao5 (List.length (lsO n x 16777215 l s)) cp6, .bool (lsS n x 16777215 l s), .bool false] 120, .vec none 0 2 (List.flatMap fExt []) 147] := Ev.nil (sz := 2) (T := 147) Hv29
  have Hv35 : Ev w [.box br [.slice a (List.length l) c, .bool s, .bool o] 120] wo27 [.box br [.slice ta7 (List.length (lsR n x 16777215 l s)) tc8, .bool (lsS n x 16777215 l s), .bool o] 120, .vec ao5 cp6 1 (bys (lsO n x 16777215 l s)) 5, .box bk25 [.slice ao5 (List.length (lsO n x 16777215 l s)) cp6, .bool (lsS n x 16777215 l s), .bool false] 120, .vec none 0 2 (List.flatMap fExt []) 147, .grp (List.flatMap innExt [])] := Ev.grp0 Hv34
  have hO32 : List.length (lsO n x 16777215 l s) ≤ 4294967295 := Nat.le_trans (tkO_len _ _ _) (Nat.le_of_lt_succ (nbV_4 hn l s))
  refine loop_m (fun ms36 ac wo => ∃ (oa : Option Addr) (oc : Nat) (xs : List (RExt)) (ra : Option Addr) (rc : Nat) (rl : Bs) (s1 : Bool) (o1 : Bool), ms36 = (bif s1 then 0 else List.length rl + 1 : Nat) ∧ Env ac 69 [(0, pt br), (3, .func (.func 210) #[] #[]), (8, .slice none 0 0), (10, pt bk25), (11, .slice oa (List.length xs) oc)] ∧ Ev w [.box br [.slice a (List.length l) c, .bool s, .bool o] 120] wo [.box bk25 [.slice ra (List.length rl) rc, .bool s1, .bool o1] 120, .box br [.slice ta7 (List.length (lsR n x 16777215 l s)) tc8, .bool (lsS n x 16777215 l s), .bool o] 120, .vec ao5 cp6 1 (bys (lsO n x 16777215 l s)) 5, .vec oa oc 2 (List.flatMap fExt xs) 147, .grp (List.flatMap innExt xs)] ∧ (Sub ao5 cp6 (lsO n x 16777215 l s) ra rc rl) ∧ (mn extM ((lsO n x 16777215 l s, lsS n x 16777215 l s, false) : PS) = (List.map (fun y : RExt => (y.1, y.2.1.l)) xs ++ (mn extM (rl, s1, o1)).1, (mn extM (rl, s1, o1)).2)) ∧ (List.length xs + List.length rl ≤ List.length (lsO n x 16777215 l s) + (bif s1 then 1 else 0)) ∧ (∀ y ∈ xs, List.length y.2.1.l ≤ 140737488351232)) ⟨_, none, 0, [], ao5, cp6, (lsO n x 16777215 l s), (lsS n x 16777215 l s), false, rfl, En33.sb, Hv35.pk [2, 0, 1, 3, 4], Sub.self, rfl, (by rw [List.length_nil, Nat.zero_add]; exact Nat.le_add_right _ _), (fun y hy => by cases hy)⟩ ?_
  rintro mm42 ac38 wo39 ⟨oa, oc, xs, ra, rc, rl, s1, o1, rfl, En40, Hv41, hsu, hmn, hct, hsm⟩
  refine wp_seq ?_
  refine wp_seq ?_
  refine region_from ?_
  refine d_k [0,3,8,10,11,25] [] 3 En40 fun ac43 En44 => ?_
  refine f_o ?_
  refine m_l 0 En44 Hv41 fun ac45 En46 => ?_
  refine d_k [0,3,8,10,11,28] [] 6 En46 fun ac47 En48 => ?_
  rcases Bool.eq_false_or_eq_true (!s1) with hb49 | hb49
  ·
   have En50 := En48.fx (t := 28) (congrArg Value.bool hb49)
   have hp51 : ¬ (s1 = true) := by simpa using hb49
   refine d_k [0,3,8,10,11,28,31] [] 9 En50 fun ac52 En53 => ?_
   refine f_o ?_
   refine m_l 0 En53 Hv41 fun ac54 En55 => ?_
   refine d_e [0,3,8,10,11,35] [] En55 fun ac56 En57 => ?_
   refine then_normal ?_
   refine c_d (((List.length rl : Nat) : Int) > (0 : Int)) En57 (fun hc58 => ?_) (fun hc58 => ?_)
   ·
    refine wp_skip ?_
    refine then_normal ?_
    refine wp_block ?_
    refine region_from ?_
    refine d_k [0,3,8,10,11,36,37,38] [] 3 En57 fun ac59 En60 => ?_
    refine f_o ?_
    refine c_l [0] (M := [.box bk25 [.slice ra (List.length rl) rc, .bool s1, .bool o1] 120]) En60 Hv41 (fun hM70 => ext_go _ bk25 ra rc rl s1 o1 (hsu _ _ (bys_in Hv41.heap (k := 2) rfl [0] (by kernel_rfl) rfl (by first | omega | (simp; done) | (simp; omega)))) hM70) ?_
    rintro _ wo71 ⟨ta61, tc62, gv65, oa66, oc67, bl68, rfl, he72, hs63, hpu64, hf69⟩
    refine ⟨_, _, [.box bk25 [.slice ta61 (List.length ((extM rl s1 o1).2.1)) tc62, .bool ((extM rl s1 o1).2.2.1), .bool ((extM rl s1 o1).2.2.2)] 120, .vec oa66 oc67 1 (bys bl68) 5, .box br [.slice ta7 (List.length (lsR n x 16777215 l s)) tc8, .bool (lsS n x 16777215 l s), .bool o] 120, .vec ao5 cp6 1 (bys (lsO n x 16777215 l s)) 5, .vec oa oc 2 (List.flatMap fExt xs) 147, .grp (List.flatMap innExt xs)], rfl, he72, by kernel_rfl, fun ac74 En75 Hv76 => ?_⟩
    refine f_o ?_
    refine op_lit (d := some 40) (t := 36) (T := 147) (m := 1) (parts := #[(0, .agg #[uv16 gv65, .slice oa66 (List.length bl68) oc67])]) (xs := List.flatMap fExt ([(gv65, ⟨oa66, oc67, bl68⟩, ())] : List (RExt))) (sz := 2) En75 (by kernel_rfl) (by kernel_rfl) rfl (by decide) Hv76 ?_
    intro ac78 wo79 bk77 En80 Hv81
    refine f_o ?_
    refine op_append (d := some 41) (t := 36) (tx := 36) (ty := 36) (k := 4) (p := List.length xs) (m := 1) (x := .slice (some ⟨bk77, 0, none⟩) 1 1) (bytes := 32) En80 (by kernel_rfl) Hv81 rfl (sv_len (f := fExt) (sz := 2) (fun _ => rfl) _) (Reads.src (size := 2) (tx := 36) (e' := 147) (by kernel_rfl) (Hv81.heap.reads (k := 6) rfl) rfl (fun e => by cases e) (flat_one (f := fExt) (fun _ => one_all rfl) _)) (by kernel_rfl) (z := .agg #[.int .u16 0, .slice none 0 0]) (by kernel_rfl) rfl (by decide) (by have hb1 := mn_b1 s1; omega) (by unfold maxLen; have hb1 := mn_b1 s1; omega) ?_
    intro ac86 wo87 ao82 cp83 En88 Hv89 hnz _
    clear hnz
    rw [← List.flatMap_append] at Hv89
    have ehz84 : (List.length xs) + 1 = List.length (xs ++ ([(gv65, ⟨oa66, oc67, bl68⟩, ())] : List (RExt))) := (by first | (simp; done) | (simp; omega) | omega)
    rw [ehz84] at En88
    refine d_e [0,3,8,10,11] [] En88 fun ac90 En91 => ?_
    have Hv92 : Ev w [.box br [.slice a (List.length l) c, .bool s, .bool o] 120] wo87 [.box bk25 [.slice ta61 (List.length ((extM rl s1 o1).2.1)) tc62, .bool ((extM rl s1 o1).2.2.1), .bool ((extM rl s1 o1).2.2.2)] 120, .box br [.slice ta7 (List.length (lsR n x 16777215 l s)) tc8, .bool (lsS n x 16777215 l s), .bool o] 120, .vec ao5 cp6 1 (bys (lsO n x 16777215 l s)) 5, .vec ao82 cp83 2 (List.flatMap fExt (xs ++ ([(gv65, ⟨oa66, oc67, bl68⟩, ())] : List (RExt)))) 147, .vec (some ⟨bk77, 0, none⟩) 1 2 (List.flatMap fExt ([(gv65, ⟨oa66, oc67, bl68⟩, ())] : List (RExt))) 147, .grp (List.flatMap innExt (xs ++ ([(gv65, ⟨oa66, oc67, bl68⟩, ())] : List (RExt))))] := Ev.group (M := [.box bk25 [.slice ta61 (List.length ((extM rl s1 o1).2.1)) tc62, .bool ((extM rl s1 o1).2.2.1), .bool ((extM rl s1 o1).2.2.2)] 120, .box br [.slice ta7 (List.length (lsR n x 16777215 l s)) tc8, .bool (lsS n x 16777215 l s), .bool o] 120, .vec ao5 cp6 1 (bys (lsO n x 16777215 l s)) 5, .vec ao82 cp83 2 (List.flatMap fExt (xs ++ ([(gv65, ⟨oa66, oc67, bl68⟩, ())] : List (RExt)))) 147, .vec (some ⟨bk77, 0, none⟩) 1 2 (List.flatMap fExt ([(gv65, ⟨oa66, oc67, bl68⟩, ())] : List (RExt))) 147]) Hv89 [0,2,3,4,6] [5,1] (by kernel_rfl) (by rw [List.flatMap_append]; rfl) (by decide)
    refine block_normal ?_
    refine then_normal ?_
    have hl0 : 0 < List.length rl := by omega
    refine ⟨_, ⟨ao82, cp83, (xs ++ ([(gv65, ⟨oa66, oc67, bl68⟩, ())] : List (RExt))), ta61, tc62, ((extM rl s1 o1).2.1), ((extM rl s1 o1).2.2.1), ((extM rl s1 o1).2.2.2), rfl, En91.sb, Hv92.pk [0, 1, 2, 3, 5], (hsu.trans hs63), (by rw [hmn, mn_step ext_dec (Bool.eq_false_iff.2 hp51) hl0, ← hpu64, List.map_append, List.append_assoc]; rfl), (mn_ct (Bool.eq_false_iff.2 hp51) hct (dec_lt (o := o1) ext_dec (Bool.eq_false_iff.2 hp51) hl0) (dec_le (o := o1) ext_dec (Bool.eq_false_iff.2 hp51)) hl0), (all_snoc hsm (Nat.le_trans hf69 (by decide)))⟩, ?_⟩
    exact mn_mu (Bool.eq_false_iff.2 hp51) hl0 (dec_lt (o := o1) ext_dec (Bool.eq_false_iff.2 hp51) hl0)
   ·
    refine wp_exit ?_
    refine then_exit ?_
    refine then_exit ?_
    refine block_exit ?_
    exact ⟨rfl, ⟨oa, oc, xs, ra, rc, rl, s1, o1, En57.sb, Hv41.pk [1, 0, 3, 4], (by rw [hmn, mn_end (p := (rl, s1, o1)) (by first | exact .inl (by assumption) | exact .inr (show rl = [] from List.length_eq_zero_iff.1 (by omega))), List.append_nil]), (mn_c1 hct), hsm⟩⟩
  ·
   have En93 := En48.fx (t := 28) (congrArg Value.bool hb49)
   have hp94 : s1 = true := by simpa using hb49
   refine d_e [0,3,8,10,11,35] [] En93 fun ac95 En96 => ?_
   refine then_normal ?_
   refine c_f En96 ?_
   refine wp_exit ?_
   refine then_exit ?_
   refine then_exit ?_
   refine block_exit ?_
   exact ⟨rfl, ⟨oa, oc, xs, ra, rc, rl, s1, o1, En96.sb, Hv41.pk [1, 0, 3, 4], (by rw [hmn, mn_end (p := (rl, s1, o1)) (by first | exact .inl (by assumption) | exact .inr (show rl = [] from List.length_eq_zero_iff.1 (by omega))), List.append_nil]), (mn_c1 hct), hsm⟩⟩
 ·
  rintro ac97 wo98 ⟨oa, oc, xs, ra, rc, rl, s1, o1, En99, Hv100, hmn, hct, hsm⟩
  refine then_normal ?_
  refine wp_seq ?_
  rcases Bool.eq_false_or_eq_true (lsS n x 16777215 l s) with hb101 | hb101
  ·
   have hb101p : lsS n x 16777215 l s = true := hb101
   rcases Bool.eq_false_or_eq_true (o) with hb102 | hb102
   ·
    have hb102p : o = true := hb102
    refine r_c (fun ac wo => Env ac 69 [(0, pt br), (3, .func (.func 210) #[] #[]), (8, .slice none 0 0), (10, pt bk25), (11, .slice oa (List.length xs) oc)] ∧ Ev w [.box br [.slice a (List.length l) c, .bool s, .bool o] 120] wo [.box br [.slice ta7 (List.length (lsR n x 16777215 l s)) tc8, .bool true, .bool true] 120, .box bk25 [.slice ra (List.length rl) rc, .bool s1, .bool o1] 120, .vec oa oc 2 (List.flatMap fExt xs) 147, .grp (List.flatMap innExt xs)]) ?_ ?_
    ·
     refine h_s (fun wv => Ev w [.box br [.slice a (List.length l) c, .bool s, .bool o] 120] wv [.box br [.slice ta7 (List.length (lsR n x 16777215 l s)) tc8, .bool (lsS n x 16777215 l s), .bool o] 120]) [24] 28 ?_
     have wo103 := Hv100.trans (Ev.drew Hv100.heap)
     refine q_s [0,1,2,3,4] [] 23 En99 (wo103.pk [0]) fun ac184 En185 => ?_
     refine q_l 0 5 En185 (wo103.pk [0]) fun ac186 En187 => ?_
     refine q_s [6] [] 21 En187 (wo103.pk [0]) fun ac188 En189 => ?_
     have En190 := En189.fx (t := 47) (congrArg Value.bool hb101)
     have En191 := En190.fx (t := 48) (congrArg Value.bool hb101)
     refine q_s [7,8,9,10,11,12,13,14] [] 13 En191 (wo103.pk [0]) fun ac192 En193 => ?_
     refine q_l 0 15 En193 (wo103.pk [0]) fun ac194 En195 => ?_
     refine q_s [16] [] 11 En195 (wo103.pk [0]) fun ac196 En197 => ?_
     have En198 := En197.fx (t := 57) (congrArg Value.bool hb102)
     have En199 := En198.fx (t := 58) (congrArg Value.bool hb102)
     refine q_s [17,18,19,20,21,22,23] [] 4 En199 (wo103.pk [0]) fun ac200 En201 => ?_
     refine q_t 24 ?_
     refine m_s 0 [.box br [.slice ta7 (List.length (lsR n x 16777215 l s)) tc8, .bool true, .bool o] 120, .box bk25 [.slice ra (List.length rl) rc, .bool s1, .bool o1] 120, .vec oa oc 2 (List.flatMap fExt xs) 147, .grp (List.flatMap innExt xs)] En201 wo103 fun ac202 wo203 En204 Hv205 => ?_
     refine ⟨q_y, ?_⟩
     refine q_n [25,26] [] 1 En204 fun ac206 En207 => ?_
     refine q_t 27 ?_
     refine m_s 0 [.box br [.slice ta7 (List.length (lsR n x 16777215 l s)) tc8, .bool true, .bool true] 120, .box bk25 [.slice ra (List.length rl) rc, .bool s1, .bool o1] 120, .vec oa oc 2 (List.flatMap fExt xs) 147, .grp (List.flatMap innExt xs)] En207 Hv205 fun ac208 wo209 En210 Hv211 => ?_
     refine ⟨q_y, ?_⟩
     exact h_e ⟨En210.sb, Hv211.pk [0, 1, 2, 3]⟩
    rintro ac212 wo213 ⟨En214, Hv215⟩
    refine then_normal ?_
    refine d_s [0,3,8,10,11] [] En214 fun ac216 En217 => ?_
    refine wp_ret ?_
    refine d_ret1 (t := 8) (v := .slice oa (List.length xs) oc) En217 (by kernel_rfl) (by kernel_rfl) ?_
    have e1 : (lsS n x 16777215 l s || s1) = true := by rw [hb101]; rfl
    have e2 : (o || o1) = true := by rw [hb102]; rfl
    have hfin : Ev w [.box br [.slice a (List.length l) c, .bool s, .bool o] 120] wo213 [.box br [.slice ta7 (List.length (lsR n x 16777215 l s)) tc8, .bool (lsS n x 16777215 l s || s1), .bool (o || o1)] 120, .vec oa oc 2 (List.flatMap fExt xs) 147, .grp (List.flatMap innExt xs)] := by rw [e1, e2]; exact Hv215.pk [0, 2, 3]
    exact ⟨ta7, tc8, oa, oc, xs, rfl, by rw [hmn]; exact hfin, hs9, by rw [hmn], hct, hsm⟩
   ·
    have hb102p : ¬ (o = true) := Bool.eq_false_iff.1 hb102
    refine r_c (fun ac wo => Env ac 69 [(0, pt br), (3, .func (.func 210) #[] #[]), (8, .slice none 0 0), (10, pt bk25), (11, .slice oa (List.length xs) oc)] ∧ Ev w [.box br [.slice a (List.length l) c, .bool s, .bool o] 120] wo [.box br [.slice ta7 (List.length (lsR n x 16777215 l s)) tc8, .bool true, .bool o1] 120, .box bk25 [.slice ra (List.length rl) rc, .bool s1, .bool o1] 120, .vec oa oc 2 (List.flatMap fExt xs) 147, .grp (List.flatMap innExt xs)]) ?_ ?_
    ·
     refine h_s (fun wv => Ev w [.box br [.slice a (List.length l) c, .bool s, .bool o] 120] wv [.box br [.slice ta7 (List.length (lsR n x 16777215 l s)) tc8, .bool (lsS n x 16777215 l s), .bool o] 120, .box bk25 [.slice ra (List.length rl) rc, .bool s1, .bool o1] 120]) [24] 28 ?_
     have wo218 := Hv100.trans (Ev.drew Hv100.heap)
     refine q_s [0,1,2,3,4] [] 23 En99 (wo218.pk [0, 1]) fun ac311 En312 => ?_
     refine q_l 0 5 En312 (wo218.pk [0, 1]) fun ac313 En314 => ?_
     refine q_s [6] [] 21 En314 (wo218.pk [0, 1]) fun ac315 En316 => ?_
     have En317 := En316.fx (t := 47) (congrArg Value.bool hb101)
     have En318 := En317.fx (t := 48) (congrArg Value.bool hb101)
     refine q_s [7,8,9,10,11,12,13,14] [] 13 En318 (wo218.pk [0, 1]) fun ac319 En320 => ?_
     refine q_l 0 15 En320 (wo218.pk [0, 1]) fun ac321 En322 => ?_
     refine q_s [16] [] 11 En322 (wo218.pk [0, 1]) fun ac323 En324 => ?_
     have En325 := En324.fx (t := 57) (congrArg Value.bool hb102)
     have En326 := En325.fx (t := 58) (congrArg Value.bool hb102)
     refine q_s [17,18,19] [] 8 En326 (wo218.pk [0, 1]) fun ac327 En328 => ?_
     refine q_l 1 20 En328 (wo218.pk [0, 1]) fun ac329 En330 => ?_
     refine q_s [21,22,23] [] 4 En330 (wo218.pk [0, 1]) fun ac331 En332 => ?_
     refine q_t 24 ?_
     refine m_s 0 [.box br [.slice ta7 (List.length (lsR n x 16777215 l s)) tc8, .bool true, .bool o] 120, .box bk25 [.slice ra (List.length rl) rc, .bool s1, .bool o1] 120, .vec oa oc 2 (List.flatMap fExt xs) 147, .grp (List.flatMap innExt xs)] En332 wo218 fun ac333 wo334 En335 Hv336 => ?_
     refine ⟨q_y, ?_⟩
     refine q_n [25,26] [] 1 En335 fun ac337 En338 => ?_
     refine q_t 27 ?_
     refine m_s 0 [.box br [.slice ta7 (List.length (lsR n x 16777215 l s)) tc8, .bool true, .bool o1] 120, .box bk25 [.slice ra (List.length rl) rc, .bool s1, .bool o1] 120, .vec oa oc 2 (List.flatMap fExt xs) 147, .grp (List.flatMap innExt xs)] En338 Hv336 fun ac339 wo340 En341 Hv342 => ?_
     refine ⟨q_y, ?_⟩
     exact h_e ⟨En341.sb, Hv342.pk [0, 1, 2, 3]⟩
    rintro ac343 wo344 ⟨En345, Hv346⟩
    refine then_normal ?_
    refine d_s [0,3,8,10,11] [] En345 fun ac347 En348 => ?_
    refine wp_ret ?_
    refine d_ret1 (t := 8) (v := .slice oa (List.length xs) oc) En348 (by kernel_rfl) (by kernel_rfl) ?_
    have e1 : (lsS n x 16777215 l s || s1) = true := by rw [hb101]; rfl
    have e2 : (o || o1) = o1 := by rw [hb102]; rfl
    have hfin : Ev w [.box br [.slice a (List.length l) c, .bool s, .bool o] 120] wo344 [.box br [.slice ta7 (List.length (lsR n x 16777215 l s)) tc8, .bool (lsS n x 16777215 l s || s1), .bool (o || o1)] 120, .vec oa oc 2 (List.flatMap fExt xs) 147, .grp (List.flatMap innExt xs)] := by rw [e1, e2]; exact Hv346.pk [0, 2, 3]
    exact ⟨ta7, tc8, oa, oc, xs, rfl, by rw [hmn]; exact hfin, hs9, by rw [hmn], hct, hsm⟩
  ·
   have hb101p : ¬ (lsS n x 16777215 l s = true) := Bool.eq_false_iff.1 hb101
   rcases Bool.eq_false_or_eq_true (o) with hb349 | hb349
   ·
    have hb349p : o = true := hb349
    refine r_c (fun ac wo => Env ac 69 [(0, pt br), (3, .func (.func 210) #[] #[]), (8, .slice none 0 0), (10, pt bk25), (11, .slice oa (List.length xs) oc)] ∧ Ev w [.box br [.slice a (List.length l) c, .bool s, .bool o] 120] wo [.box br [.slice ta7 (List.length (lsR n x 16777215 l s)) tc8, .bool s1, .bool true] 120, .box bk25 [.slice ra (List.length rl) rc, .bool s1, .bool o1] 120, .vec oa oc 2 (List.flatMap fExt xs) 147, .grp (List.flatMap innExt xs)]) ?_ ?_
    ·
     refine h_s (fun wv => Ev w [.box br [.slice a (List.length l) c, .bool s, .bool o] 120] wv [.box br [.slice ta7 (List.length (lsR n x 16777215 l s)) tc8, .bool (lsS n x 16777215 l s), .bool o] 120, .box bk25 [.slice ra (List.length rl) rc, .bool s1, .bool o1] 120]) [24] 28 ?_
     have wo350 := Hv100.trans (Ev.drew Hv100.heap)
     refine q_s [0,1,2,3,4] [] 23 En99 (wo350.pk [0, 1]) fun ac465 En466 => ?_
     refine q_l 0 5 En466 (wo350.pk [0, 1]) fun ac467 En468 => ?_
     refine q_s [6] [] 21 En468 (wo350.pk [0, 1]) fun ac469 En470 => ?_
     have En471 := En470.fx (t := 47) (congrArg Value.bool hb101)
     have En472 := En471.fx (t := 48) (congrArg Value.bool hb101)
     refine q_s [7,8,9] [] 18 En472 (wo350.pk [0, 1]) fun ac473 En474 => ?_
     refine q_l 1 10 En474 (wo350.pk [0, 1]) fun ac475 En476 => ?_
     refine q_s [11,12,13,14] [] 13 En476 (wo350.pk [0, 1]) fun ac477 En478 => ?_
     refine q_l 0 15 En478 (wo350.pk [0, 1]) fun ac479 En480 => ?_
     refine q_s [16] [] 11 En480 (wo350.pk [0, 1]) fun ac481 En482 => ?_
     have En483 := En482.fx (t := 57) (congrArg Value.bool hb349)
     have En484 := En483.fx (t := 58) (congrArg Value.bool hb349)
     refine q_s [17,18,19,20,21,22,23] [] 4 En484 (wo350.pk [0, 1]) fun ac485 En486 => ?_
     refine q_t 24 ?_
     refine m_s 0 [.box br [.slice ta7 (List.length (lsR n x 16777215 l s)) tc8, .bool s1, .bool o] 120, .box bk25 [.slice ra (List.length rl) rc, .bool s1, .bool o1] 120, .vec oa oc 2 (List.flatMap fExt xs) 147, .grp (List.flatMap innExt xs)] En486 wo350 fun ac487 wo488 En489 Hv490 => ?_
     refine ⟨q_y, ?_⟩
     refine q_n [25,26] [] 1 En489 fun ac491 En492 => ?_
     refine q_t 27 ?_
     refine m_s 0 [.box br [.slice ta7 (List.length (lsR n x 16777215 l s)) tc8, .bool s1, .bool true] 120, .box bk25 [.slice ra (List.length rl) rc, .bool s1, .bool o1] 120, .vec oa oc 2 (List.flatMap fExt xs) 147, .grp (List.flatMap innExt xs)] En492 Hv490 fun ac493 wo494 En495 Hv496 => ?_
     refine ⟨q_y, ?_⟩
     exact h_e ⟨En495.sb, Hv496.pk [0, 1, 2, 3]⟩
    rintro ac497 wo498 ⟨En499, Hv500⟩
    refine then_normal ?_
    refine d_s [0,3,8,10,11] [] En499 fun ac501 En502 => ?_
    refine wp_ret ?_
    refine d_ret1 (t := 8) (v := .slice oa (List.length xs) oc) En502 (by kernel_rfl) (by kernel_rfl) ?_
    have e1 : (lsS n x 16777215 l s || s1) = s1 := by rw [hb101]; rfl
    have e2 : (o || o1) = true := by rw [hb349]; rfl
    have hfin : Ev w [.box br [.slice a (List.length l) c, .bool s, .bool o] 120] wo498 [.box br [.slice ta7 (List.length (lsR n x 16777215 l s)) tc8, .bool (lsS n x 16777215 l s || s1), .bool (o || o1)] 120, .vec oa oc 2 (List.flatMap fExt xs) 147, .grp (List.flatMap innExt xs)] := by rw [e1, e2]; exact Hv500.pk [0, 2, 3]
    exact ⟨ta7, tc8, oa, oc, xs, rfl, by rw [hmn]; exact hfin, hs9, by rw [hmn], hct, hsm⟩
   ·
    have hb349p : ¬ (o = true) := Bool.eq_false_iff.1 hb349
    refine r_c (fun ac wo => Env ac 69 [(0, pt br), (3, .func (.func 210) #[] #[]), (8, .slice none 0 0), (10, pt bk25), (11, .slice oa (List.length xs) oc)] ∧ Ev w [.box br [.slice a (List.length l) c, .bool s, .bool o] 120] wo [.box br [.slice ta7 (List.length (lsR n x 16777215 l s)) tc8, .bool s1, .bool o1] 120, .box bk25 [.slice ra (List.length rl) rc, .bool s1, .bool o1] 120, .vec oa oc 2 (List.flatMap fExt xs) 147, .grp (List.flatMap innExt xs)]) ?_ ?_
    ·
     refine h_s (fun wv => Ev w [.box br [.slice a (List.length l) c, .bool s, .bool o] 120] wv [.box br [.slice ta7 (List.length (lsR n x 16777215 l s)) tc8, .bool (lsS n x 16777215 l s), .bool o] 120, .box bk25 [.slice ra (List.length rl) rc, .bool s1, .bool o1] 120]) [24] 28 ?_
     have wo503 := Hv100.trans (Ev.drew Hv100.heap)
     refine q_s [0,1,2,3,4] [] 23 En99 (wo503.pk [0, 1]) fun ac638 En639 => ?_
     refine q_l 0 5 En639 (wo503.pk [0, 1]) fun ac640 En641 => ?_
     refine q_s [6] [] 21 En641 (wo503.pk [0, 1]) fun ac642 En643 => ?_
     have En644 := En643.fx (t := 47) (congrArg Value.bool hb101)
     have En645 := En644.fx (t := 48) (congrArg Value.bool hb101)
     refine q_s [7,8,9] [] 18 En645 (wo503.pk [0, 1]) fun ac646 En647 => ?_
     refine q_l 1 10 En647 (wo503.pk [0, 1]) fun ac648 En649 => ?_
     refine q_s [11,12,13,14] [] 13 En649 (wo503.pk [0, 1]) fun ac650 En651 => ?_
     refine q_l 0 15 En651 (wo503.pk [0, 1]) fun ac652 En653 => ?_
     refine q_s [16] [] 11 En653 (wo503.pk [0, 1]) fun ac654 En655 => ?_
     have En656 := En655.fx (t := 57) (congrArg Value.bool hb349)
     have En657 := En656.fx (t := 58) (congrArg Value.bool hb349)
     refine q_s [17,18,19] [] 8 En657 (wo503.pk [0, 1]) fun ac658 En659 => ?_
     refine q_l 1 20 En659 (wo503.pk [0, 1]) fun ac660 En661 => ?_
     refine q_s [21,22,23] [] 4 En661 (wo503.pk [0, 1]) fun ac662 En663 => ?_
     refine q_t 24 ?_
     refine m_s 0 [.box br [.slice ta7 (List.length (lsR n x 16777215 l s)) tc8, .bool s1, .bool o] 120, .box bk25 [.slice ra (List.length rl) rc, .bool s1, .bool o1] 120, .vec oa oc 2 (List.flatMap fExt xs) 147, .grp (List.flatMap innExt xs)] En663 wo503 fun ac664 wo665 En666 Hv667 => ?_
     refine ⟨q_y, ?_⟩
     refine q_n [25,26] [] 1 En666 fun ac668 En669 => ?_
     refine q_t 27 ?_
     refine m_s 0 [.box br [.slice ta7 (List.length (lsR n x 16777215 l s)) tc8, .bool s1, .bool o1] 120, .box bk25 [.slice ra (List.length rl) rc, .bool s1, .bool o1] 120, .vec oa oc 2 (List.flatMap fExt xs) 147, .grp (List.flatMap innExt xs)] En669 Hv667 fun ac670 wo671 En672 Hv673 => ?_
     refine ⟨q_y, ?_⟩
     exact h_e ⟨En672.sb, Hv673.pk [0, 1, 2, 3]⟩
    rintro ac674 wo675 ⟨En676, Hv677⟩
    refine then_normal ?_
    refine d_s [0,3,8,10,11] [] En676 fun ac678 En679 => ?_
    refine wp_ret ?_
    refine d_ret1 (t := 8) (v := .slice oa (List.length xs) oc) En679 (by kernel_rfl) (by kernel_rfl) ?_
    have e1 : (lsS n x 16777215 l s || s1) = s1 := by rw [hb101]; rfl
    have e2 : (o || o1) = o1 := by rw [hb349]; rfl
    have hfin : Ev w [.box br [.slice a (List.length l) c, .bool s, .bool o] 120] wo675 [.box br [.slice ta7 (List.length (lsR n x 16777215 l s)) tc8, .bool (lsS n x 16777215 l s || s1), .bool (o || o1)] 120, .vec oa oc 2 (List.flatMap fExt xs) 147, .grp (List.flatMap innExt xs)] := by rw [e1, e2]; exact Hv677.pk [0, 2, 3]
    exact ⟨ta7, tc8, oa, oc, xs, rfl, by rw [hmn]; exact hfin, hs9, by rw [hmn], hct, hsm⟩

theorem sameext_go (w : World) (ap : Option Addr) (cp : Nat) (xp : List RExt) (ip : InS fExt 32 (fun x : RExt => (True ∧ (InB w [] x.2.1.a x.2.1.c x.2.1.l ∧ (True)))) w [] ap cp xp) (aq : Option Addr) (cq : Nat) (xq : List RExt) (iq : InS fExt 32 (fun x : RExt => (True ∧ (InB w [] x.2.1.a x.2.1.c x.2.1.l ∧ (True)))) w [] aq cq xq) : Calls Try.prog 78 #[.slice ap (List.length xp) cp, .slice aq (List.length xq) cq] w fun e w' => e = .returned (.bool (List.map (fun y : RExt => (y.1, y.2.1.l)) xp == List.map (fun y : RExt => (y.1, y.2.1.l)) xq)) ∧ Ev w [] w' [] := by
 have hsp := ip.small
 refine d_0 [(0, .slice ap (List.length xp) cp), (1, .slice aq (List.length xq) cq)] 43 Go.Proofs.Try.func78 Go.Proofs.Try.ntmps78 (Heap.nil _) fun act0 En0 Hv0 => ?_
 refine d_s [0,1,4] [] En0 fun ac1 En2 => ?_
 refine wp_seq ?_
 refine d_s [0,1,4,10] [] En2 fun ac3 En4 => ?_
 refine c_n ((List.length xp : Nat) : Int) ((List.length xq : Nat) : Int) En4 (fun hc5 => ?_) (fun hc5 => ?_)
 ·
  refine d_s [0,1,4] [] En4 fun ac6 En7 => ?_
  refine wp_ret ?_
  refine then_ret ?_
  refine d_ret1 (t := 4) (v := .bool false) En7 (by kernel_rfl) (by kernel_rfl) ?_
  exact ⟨congrArg (fun b => Ending.returned (Value.bool b)) (same_len (by omega)), Hv0.pk []⟩
 ·
  refine wp_skip ?_
  refine then_normal ?_
  refine wp_seq ?_
  refine d_s [0,1,4,5] [] En4 fun ac8 En9 => ?_
  refine wp_block ?_
  refine loop_m (fun ms10 ac wo => ∃ (i : Nat), ms10 = (List.length xp + 1 - i : Nat) ∧ Env ac 43 [(0, .slice ap (List.length xp) cp), (1, .slice aq (List.length xq) cq), (5, ni i)] ∧ Ev w [] wo [] ∧ (List.take i (List.map (fun y : RExt => (y.1, y.2.1.l)) xp) = List.take i (List.map (fun y : RExt => (y.1, y.2.1.l)) xq))) ⟨_, 0, rfl, En9.sb, Hv0.pk [], rfl⟩ ?_
  rintro mm16 ac12 wo13 ⟨i, rfl, En14, Hv15, hp⟩
  refine wp_seq ?_
  refine d_s [0,1,5,14] [] En14 fun ac17 En18 => ?_
  refine c_d (((i : Nat) : Int) < ((List.length xp : Nat) : Int)) En18 (fun hc19 => ?_) (fun hc19 => ?_)
  ·
   refine wp_skip ?_
   refine then_normal ?_
   refine wp_seq ?_
   refine wp_block ?_
   refine wp_seq ?_
   have hb20 : i < List.length xp := by omega
   obtain ⟨⟨x22a, ⟨a_x22b, c_x22b, x22b⟩, _⟩, hx21⟩ : ∃ x, (xp)[i]? = some x := ⟨_, List.getElem?_eq_getElem hb20⟩
   obtain ⟨_, i_x22b, _⟩ := ip.each _ (List.mem_of_getElem? hx21)
   replace i_x22b : InB w [] a_x22b c_x22b x22b := i_x22b
   obtain ⟨adp, hadp⟩ := some_of ip.nz (show i < List.length xp by omega)
   have hb23 : i < List.length xq := by omega
   obtain ⟨⟨x25a, ⟨a_x25b, c_x25b, x25b⟩, _⟩, hx24⟩ : ∃ x, (xq)[i]? = some x := ⟨_, List.getElem?_eq_getElem hb23⟩
   obtain ⟨_, i_x25b, _⟩ := iq.each _ (List.mem_of_getElem? hx24)
   replace i_x25b : InB w [] a_x25b c_x25b x25b := i_x25b
   obtain ⟨adq, hadq⟩ := some_of iq.nz (show i < List.length xq by omega)
   rcases Bool.eq_false_or_eq_true (((UInt16.toNat x22a : Nat) : Int) != ((UInt16.toNat x25a : Nat) : Int)) with hb26 | hb26
   ·
    have hb26p : ¬ (((UInt16.toNat x22a : Nat) : Int) = ((UInt16.toNat x25a : Nat) : Int)) := by simpa using hb26
    refine r_c (fun ac wo => Env ac 43 [(0, .slice ap (List.length xp) cp), (1, .slice aq (List.length xq) cq), (5, ni i), (42, .bool true)] ∧ Ev w [] wo []) ?_ ?_
    ·
     refine s_g0 [(0, .slice ap (List.length xp) cp), (1, .slice aq (List.length xq) cq), (5, ni i)] [0,1,2,3,4,5,6,7,8,9,10,11] [(17, .slice ap (List.length xp) cp), (18, ni i), (19, .pointer (some (Addr.add adp (i * 2)))), (20, .pointer (some (Addr.add adp (i * 2)))), (21, uv16 x22a), (22, .slice aq (List.length xq) cq), (23, ni i), (24, .pointer (some (Addr.add adq (i * 2)))), (25, .pointer (some (Addr.add adq (i * 2)))), (26, uv16 x25a), (27, .bool (((UInt16.toNat x22a : Nat) : Int) != ((UInt16.toNat x25a : Nat) : Int))), (28, .bool (((UInt16.toNat x22a : Nat) : Int) != ((UInt16.toNat x25a : Nat) : Int)))] 14 [(0, .slice ap (List.length xp) cp), (1, .slice aq (List.length xq) cq), (5, ni i), (28, .bool (((UInt16.toNat x22a : Nat) : Int) != ((UInt16.toNat x25a : Nat) : Int)))] (En18.sb) (Hv15.trans (Ev.drew Hv15.heap)) ?_ fun ac61 wo62 En63 Hv64 => ?_
     ·
      refine s_p [] ?_
      refine s_p [] ?_
      have hb29 : i < List.length xp := (by omega)
      refine s_c (fun Mx30 ac31 wo32 En33 Hv34 => ?_) ?_
      ·
       refine q_v (x := Instr.indexAt 36 (.slice ap (List.length xp) cp) (ni i)) (v := .pointer (some (Addr.add adp (i * 2)))) En33 (Go.Dbr.run_indexsl (e := 147) (sz := 2) (j := i) (jo := i * 2) hadp (by kernel_rfl) (by kernel_rfl) (by omega) hb29 rfl _) fun ac35 En36 => ?_
       exact s_e En36 Hv34
      refine s_p [] ?_
      refine s_c (fun Mx37 ac38 wo39 En40 Hv41 => ?_) ?_
      ·
       refine op_loadf (d := some 21) (t := 37) (ad := adp) (ao := ap) (ys := List.flatMap fExt xp) (o := i * 2) (v := uv16 x22a) En40 (by kernel_rfl) rfl (ip.ro.ev Hv41).reads hadp ((flat_get (sz := 2) (j := 0) (fun _ _ => rfl) hx21 (by decide)).trans rfl) (by kernel_rfl) ?_
       intro ac42 En43
       exact s_e En43 Hv41
      refine s_p [] ?_
      refine s_p [] ?_
      have hb46 : i < List.length xq := (by omega)
      refine s_c (fun Mx47 ac48 wo49 En50 Hv51 => ?_) ?_
      ·
       refine q_v (x := Instr.indexAt 36 (.slice aq (List.length xq) cq) (ni i)) (v := .pointer (some (Addr.add adq (i * 2)))) En50 (Go.Dbr.run_indexsl (e := 147) (sz := 2) (j := i) (jo := i * 2) hadq (by kernel_rfl) (by kernel_rfl) (by omega) hb46 rfl _) fun ac52 En53 => ?_
       exact s_e En53 Hv51
      refine s_p [] ?_
      refine s_c (fun Mx54 ac55 wo56 En57 Hv58 => ?_) ?_
      ·
       refine op_loadf (d := some 26) (t := 37) (ad := adq) (ao := aq) (ys := List.flatMap fExt xq) (o := i * 2) (v := uv16 x25a) En57 (by kernel_rfl) rfl (iq.ro.ev Hv58).reads hadq ((flat_get (sz := 2) (j := 0) (fun _ _ => rfl) hx24 (by decide)).trans rfl) (by kernel_rfl) ?_
       intro ac59 En60
       exact s_e En60 Hv58
      refine s_p [] ?_
      refine s_p [] ?_
      exact s_n
     have En68 := En63.fx (t := 28) (congrArg Value.bool hb26)
     refine q_a [12,13,14,15,16,17,18,19,20,21,22,23,24,25] [] 0 En68 fun ac69 En70 => ?_
     exact a_e ⟨En70.sb, Hv64.pk []⟩
    rintro ac71 wo72 ⟨En73, Hv74⟩
    refine then_normal ?_
    refine c_t En73 ?_
    refine d_s [0,1,4,5] [] En73 fun ac75 En76 => ?_
    refine wp_ret ?_
    refine block_ret ?_
    refine then_ret ?_
    refine then_ret ?_
    refine block_ret ?_
    refine then_ret ?_
    refine d_ret1 (t := 4) (v := .bool false) En76 (by kernel_rfl) (by kernel_rfl) ?_
    exact ⟨congrArg (fun b => Ending.returned (Value.bool b)) (same_no hx21 hx24 (fun g => by first | exact absurd (congrArg (fun z : UInt16 × Bs => ((UInt16.toNat z.1 : Nat) : Int)) g) (by assumption) | exact absurd (congrArg Prod.snd g) (by assumption))), Hv74.pk []⟩
   ·
    have hb26p : ((UInt16.toNat x22a : Nat) : Int) = ((UInt16.toNat x25a : Nat) : Int) := by simpa using hb26
    refine r_c (fun ac wo => Env ac 43 [(0, .slice ap (List.length xp) cp), (1, .slice aq (List.length xq) cq), (5, ni i), (42, .bool (!(x22b == x25b)))] ∧ Ev w [] wo []) ?_ ?_
    ·
     refine s_g0 [(0, .slice ap (List.length xp) cp), (1, .slice aq (List.length xq) cq), (5, ni i)] [0,1,2,3,4,5,6,7,8,9,10,11] [(17, .slice ap (List.length xp) cp), (18, ni i), (19, .pointer (some (Addr.add adp (i * 2)))), (20, .pointer (some (Addr.add adp (i * 2)))), (21, uv16 x22a), (22, .slice aq (List.length xq) cq), (23, ni i), (24, .pointer (some (Addr.add adq (i * 2)))), (25, .pointer (some (Addr.add adq (i * 2)))), (26, uv16 x25a), (27, .bool (((UInt16.toNat x22a : Nat) : Int) != ((UInt16.toNat x25a : Nat) : Int))), (28, .bool (((UInt16.toNat x22a : Nat) : Int) != ((UInt16.toNat x25a : Nat) : Int)))] 14 [(0, .slice ap (List.length xp) cp), (1, .slice aq (List.length xq) cq), (5, ni i), (28, .bool (((UInt16.toNat x22a : Nat) : Int) != ((UInt16.toNat x25a : Nat) : Int)))] (En18.sb) (Hv15.trans (Ev.drew Hv15.heap)) ?_ fun ac111 wo112 En113 Hv114 => ?_
     ·
      refine s_p [] ?_
      refine s_p [] ?_
      have hb79 : i < List.length xp := (by omega)
      refine s_c (fun Mx80 ac81 wo82 En83 Hv84 => ?_) ?_
      ·
       refine q_v (x := Instr.indexAt 36 (.slice ap (List.length xp) cp) (ni i)) (v := .pointer (some (Addr.add adp (i * 2)))) En83 (Go.Dbr.run_indexsl (e := 147) (sz := 2) (j := i) (jo := i * 2) hadp (by kernel_rfl) (by kernel_rfl) (by omega) hb79 rfl _) fun ac85 En86 => ?_
       exact s_e En86 Hv84
      refine s_p [] ?_
      refine s_c (fun Mx87 ac88 wo89 En90 Hv91 => ?_) ?_
      ·
       refine op_loadf (d := some 21) (t := 37) (ad := adp) (ao := ap) (ys := List.flatMap fExt xp) (o := i * 2) (v := uv16 x22a) En90 (by kernel_rfl) rfl (ip.ro.ev Hv91).reads hadp ((flat_get (sz := 2) (j := 0) (fun _ _ => rfl) hx21 (by decide)).trans rfl) (by kernel_rfl) ?_
       intro ac92 En93
       exact s_e En93 Hv91
      refine s_p [] ?_
      refine s_p [] ?_
      have hb96 : i < List.length xq := (by omega)
      refine s_c (fun Mx97 ac98 wo99 En100 Hv101 => ?_) ?_
      ·
       refine q_v (x := Instr.indexAt 36 (.slice aq (List.length xq) cq) (ni i)) (v := .pointer (some (Addr.add adq (i * 2)))) En100 (Go.Dbr.run_indexsl (e := 147) (sz := 2) (j := i) (jo := i * 2) hadq (by kernel_rfl) (by kernel_rfl) (by omega) hb96 rfl _) fun ac102 En103 => ?_
       exact s_e En103 Hv101
      refine s_p [] ?_
      refine s_c (fun Mx104 ac105 wo106 En107 Hv108 => ?_) ?_
      ·
       refine op_loadf (d := some 26) (t := 37) (ad := adq) (ao := aq) (ys := List.flatMap fExt xq) (o := i * 2) (v := uv16 x25a) En107 (by kernel_rfl) rfl (iq.ro.ev Hv108).reads hadq ((flat_get (sz := 2) (j := 0) (fun _ _ => rfl) hx24 (by decide)).trans rfl) (by kernel_rfl) ?_
       intro ac109 En110
       exact s_e En110 Hv108
      refine s_p [] ?_
      refine s_p [] ?_
      exact s_n
     refine any_name fun G hG => ?_
     have nd168 : ∀ (ac : Act) (wo : World), Env ac 43 [(0, .slice ap (List.length xp) cp), (1, .slice aq (List.length xq) cq), (5, ni i), (28, .bool false), (34, .string (bstr x22b)), (39, .slice a_x25b (List.length x25b) c_x25b)] → Ev w [] wo [] → G 3 #[true, true, true, true, true, true, true, true, true, true, true, true, true, true, true, true, true, true, true, true, true, true, true, false, false, false] ac wo := by
      intro ac169 wo170 En171 Hv172
      refine any_from hG ?_
      refine q_u 23 ?_
      refine op_str (d := some 40) (src := 23) (dst := 9) (e := 5) (ao := a_x25b) (cap := c_x25b) (p := List.length x25b) (bs := x25b) En171 (by kernel_rfl) rfl (by kernel_rfl) (by kernel_rfl) (by kernel_rfl) (i_x25b.ev Hv172).reads i_x25b.nz ?_
      intro ac173 En174
      refine q_a [24,25] [(24, g_v (show (.bool (!(ByteArray.toList (bstr x22b) == ByteArray.toList (bstr x25b))) : Value) = .bool (!(x22b == x25b)) by rw [Go.Dbr.bstr_eq x22b x25b] <;> rfl))] 0 En174 fun ac175 En176 => ?_
      exact a_e ⟨En176.sb, Hv172.pk []⟩
     have nd177 : ∀ (ac : Act) (wo : World), Env ac 43 [(0, .slice ap (List.length xp) cp), (1, .slice aq (List.length xq) cq), (5, ni i), (28, .bool false), (33, .slice a_x22b (List.length x22b) c_x22b), (40, .string (bstr x25b))] → Ev w [] wo [] → G 3 #[true, true, true, true, true, true, true, true, true, true, true, true, true, true, true, true, true, false, true, true, true, true, true, true, false, false] ac wo := by
      intro ac178 wo179 En180 Hv181
      refine any_from hG ?_
      refine q_u 17 ?_
      refine op_str (d := some 34) (src := 23) (dst := 9) (e := 5) (ao := a_x22b) (cap := c_x22b) (p := List.length x22b) (bs := x22b) En180 (by kernel_rfl) rfl (by kernel_rfl) (by kernel_rfl) (by kernel_rfl) (i_x22b.ev Hv181).reads i_x22b.nz ?_
      intro ac182 En183
      refine q_a [24,25] [(24, g_v (show (.bool (!(ByteArray.toList (bstr x22b) == ByteArray.toList (bstr x25b))) : Value) = .bool (!(x22b == x25b)) by rw [Go.Dbr.bstr_eq x22b x25b] <;> rfl))] 0 En183 fun ac184 En185 => ?_
      exact a_e ⟨En185.sb, Hv181.pk []⟩
     have nd186 : ∀ (ac : Act) (wo : World), Env ac 43 [(0, .slice ap (List.length xp) cp), (1, .slice aq (List.length xq) cq), (5, ni i), (28, .bool false), (34, .string (bstr x22b)), (38, .pointer (some (Addr.add (Addr.add adq (i * 2)) 1)))] → Ev w [] wo [] → G 4 #[true, true, true, true, true, true, true, true, true, true, true, true, true, true, true, true, true, true, true, true, true, true, false, false, false, false] ac wo := by
      intro ac187 wo188 En189 Hv190
      refine any_from hG ?_
      refine q_u 22 ?_
      refine op_loadf (d := some 39) (t := 23) (ad := adq) (ao := aq) (ys := List.flatMap fExt xq) (o := i * 2 + 1) (v := .slice a_x25b (List.length x25b) c_x25b) En189 (by kernel_rfl) (Deep.add_add _ _ _) (iq.ro.ev Hv190).reads hadq ((flat_get (sz := 2) (j := 1) (fun _ _ => rfl) hx24 (by decide)).trans rfl) (by kernel_rfl) ?_
      intro ac191 En192
      refine q_u 23 ?_
      refine op_str (d := some 40) (src := 23) (dst := 9) (e := 5) (ao := a_x25b) (cap := c_x25b) (p := List.length x25b) (bs := x25b) En192 (by kernel_rfl) rfl (by kernel_rfl) (by kernel_rfl) (by kernel_rfl) (i_x25b.ev Hv190).reads i_x25b.nz ?_
      intro ac193 En194
      refine q_a [24,25] [(24, g_v (show (.bool (!(ByteArray.toList (bstr x22b) == ByteArray.toList (bstr x25b))) : Value) = .bool (!(x22b == x25b)) by rw [Go.Dbr.bstr_eq x22b x25b] <;> rfl))] 0 En194 fun ac195 En196 => ?_
      exact a_e ⟨En196.sb, Hv190.pk []⟩
     have nd197 : ∀ (ac : Act) (wo : World), Env ac 43 [(0, .slice ap (List.length xp) cp), (1, .slice aq (List.length xq) cq), (5, ni i), (28, .bool false), (33, .slice a_x22b (List.length x22b) c_x22b), (39, .slice a_x25b (List.length x25b) c_x25b)] → Ev w [] wo [] → G 4 #[true, true, true, true, true, true, true, true, true, true, true, true, true, true, true, true, true, false, true, true, true, true, true, false, false, false] ac wo := by
      intro ac198 wo199 En200 Hv201
      refine any_from hG ?_
      refine any_two 17 23 (by kernel_rfl) ?_ ?_
      ·
       rintro _ rfl
       refine op_str (d := some 34) (src := 23) (dst := 9) (e := 5) (ao := a_x22b) (cap := c_x22b) (p := List.length x22b) (bs := x22b) En200 (by kernel_rfl) rfl (by kernel_rfl) (by kernel_rfl) (by kernel_rfl) (i_x22b.ev Hv201).reads i_x22b.nz ?_
       intro ac202 En203
       exact any_to hG (by kernel_rfl) (nd168 _ _ (En203.sb) (Hv201.pk []))
      ·
       rintro _ rfl
       refine op_str (d := some 40) (src := 23) (dst := 9) (e := 5) (ao := a_x25b) (cap := c_x25b) (p := List.length x25b) (bs := x25b) En200 (by kernel_rfl) rfl (by kernel_rfl) (by kernel_rfl) (by kernel_rfl) (i_x25b.ev Hv201).reads i_x25b.nz ?_
       intro ac204 En205
       exact any_to hG (by kernel_rfl) (nd177 _ _ (En205.sb) (Hv201.pk []))
     have nd206 : ∀ (ac : Act) (wo : World), Env ac 43 [(0, .slice ap (List.length xp) cp), (1, .slice aq (List.length xq) cq), (5, ni i), (28, .bool false), (32, .pointer (some (Addr.add (Addr.add adp (i * 2)) 1))), (40, .string (bstr x25b))] → Ev w [] wo [] → G 4 #[true, true, true, true, true, true, true, true, true, true, true, true, true, true, true, true, false, false, true, true, true, true, true, true, false, false] ac wo := by
      intro ac207 wo208 En209 Hv210
      refine any_from hG ?_
      refine q_u 16 ?_
      refine op_loadf (d := some 33) (t := 23) (ad := adp) (ao := ap) (ys := List.flatMap fExt xp) (o := i * 2 + 1) (v := .slice a_x22b (List.length x22b) c_x22b) En209 (by kernel_rfl) (Deep.add_add _ _ _) (ip.ro.ev Hv210).reads hadp ((flat_get (sz := 2) (j := 1) (fun _ _ => rfl) hx21 (by decide)).trans rfl) (by kernel_rfl) ?_
      intro ac211 En212
      refine q_u 17 ?_
      refine op_str (d := some 34) (src := 23) (dst := 9) (e := 5) (ao := a_x22b) (cap := c_x22b) (p := List.length x22b) (bs := x22b) En212 (by kernel_rfl) rfl (by kernel_rfl) (by kernel_rfl) (by kernel_rfl) (i_x22b.ev Hv210).reads i_x22b.nz ?_
      intro ac213 En214
      refine q_a [24,25] [(24, g_v (show (.bool (!(ByteArray.toList (bstr x22b) == ByteArray.toList (bstr x25b))) : Value) = .bool (!(x22b == x25b)) by rw [Go.Dbr.bstr_eq x22b x25b] <;> rfl))] 0 En214 fun ac215 En216 => ?_
      exact a_e ⟨En216.sb, Hv210.pk []⟩
     have nd217 : ∀ (ac : Act) (wo : World), Env ac 43 [(0, .slice ap (List.length xp) cp), (1, .slice aq (List.length xq) cq), (5, ni i), (28, .bool false), (33, .slice a_x22b (List.length x22b) c_x22b), (38, .pointer (some (Addr.add (Addr.add adq (i * 2)) 1)))] → Ev w [] wo [] → G 5 #[true, true, true, true, true, true, true, true, true, true, true, true, true, true, true, true, true, false, true, true, true, true, false, false, false, false] ac wo := by
      intro ac218 wo219 En220 Hv221
      refine any_from hG ?_
      refine any_two 17 22 (by kernel_rfl) ?_ ?_
      ·
       rintro _ rfl
       refine op_str (d := some 34) (src := 23) (dst := 9) (e := 5) (ao := a_x22b) (cap := c_x22b) (p := List.length x22b) (bs := x22b) En220 (by kernel_rfl) rfl (by kernel_rfl) (by kernel_rfl) (by kernel_rfl) (i_x22b.ev Hv221).reads i_x22b.nz ?_
       intro ac222 En223
       exact any_to hG (by kernel_rfl) (nd186 _ _ (En223.sb) (Hv221.pk []))
      ·
       rintro _ rfl
       refine op_loadf (d := some 39) (t := 23) (ad := adq) (ao := aq) (ys := List.flatMap fExt xq) (o := i * 2 + 1) (v := .slice a_x25b (List.length x25b) c_x25b) En220 (by kernel_rfl) (Deep.add_add _ _ _) (iq.ro.ev Hv221).reads hadq ((flat_get (sz := 2) (j := 1) (fun _ _ => rfl) hx24 (by decide)).trans rfl) (by kernel_rfl) ?_
       intro ac224 En225
       exact any_to hG (by kernel_rfl) (nd197 _ _ (En225.sb) (Hv221.pk []))
     have nd226 : ∀ (ac : Act) (wo : World), Env ac 43 [(0, .slice ap (List.length xp) cp), (1, .slice aq (List.length xq) cq), (5, ni i), (28, .bool false), (32, .pointer (some (Addr.add (Addr.add adp (i * 2)) 1))), (39, .slice a_x25b (List.length x25b) c_x25b)] → Ev w [] wo [] → G 5 #[true, true, true, true, true, true, true, true, true, true, true, true, true, true, true, true, false, false, true, true, true, true, true, false, false, false] ac wo := by
      intro ac227 wo228 En229 Hv230
      refine any_from hG ?_
      refine any_two 16 23 (by kernel_rfl) ?_ ?_
      ·
       rintro _ rfl
       refine op_loadf (d := some 33) (t := 23) (ad := adp) (ao := ap) (ys := List.flatMap fExt xp) (o := i * 2 + 1) (v := .slice a_x22b (List.length x22b) c_x22b) En229 (by kernel_rfl) (Deep.add_add _ _ _) (ip.ro.ev Hv230).reads hadp ((flat_get (sz := 2) (j := 1) (fun _ _ => rfl) hx21 (by decide)).trans rfl) (by kernel_rfl) ?_
       intro ac231 En232
       exact any_to hG (by kernel_rfl) (nd197 _ _ (En232.sb) (Hv230.pk []))
      ·
       rintro _ rfl
       refine op_str (d := some 40) (src := 23) (dst := 9) (e := 5) (ao := a_x25b) (cap := c_x25b) (p := List.length x25b) (bs := x25b) En229 (by kernel_rfl) rfl (by kernel_rfl) (by kernel_rfl) (by kernel_rfl) (i_x25b.ev Hv230).reads i_x25b.nz ?_
       intro ac233 En234
       exact any_to hG (by kernel_rfl) (nd206 _ _ (En234.sb) (Hv230.pk []))
     refine any_from hG ?_
     have En235 := En113.fx (t := 28) (congrArg Value.bool hb26)
     have hb238 : i < List.length xp := (by omega)
     refine q_a [12,13] [] 12 En235 fun ac239 En240 => ?_
     refine q_g 14 (s := Instr.indexAt 36 (.slice ap (List.length xp) cp) (ni i)) (v := .pointer (some (Addr.add adp (i * 2)))) En240 (fun _ => Go.Dbr.run_indexsl (e := 147) (sz := 2) (j := i) (jo := i * 2) hadp (by kernel_rfl) (by kernel_rfl) (by omega) hb238 rfl _) fun ac241 En242 => ?_
     have hb245 : i < List.length xq := (by omega)
     refine q_a [15,18,19] [] 8 En242 fun ac246 En247 => ?_
     refine q_g 20 (s := Instr.indexAt 36 (.slice aq (List.length xq) cq) (ni i)) (v := .pointer (some (Addr.add adq (i * 2)))) En247 (fun _ => Go.Dbr.run_indexsl (e := 147) (sz := 2) (j := i) (jo := i * 2) hadq (by kernel_rfl) (by kernel_rfl) (by omega) hb245 rfl _) fun ac248 En249 => ?_
     refine q_a [21] [] 6 En249 fun ac250 En251 => ?_
     refine any_two 16 22 (by kernel_rfl) ?_ ?_
     ·
      rintro _ rfl
      refine op_loadf (d := some 33) (t := 23) (ad := adp) (ao := ap) (ys := List.flatMap fExt xp) (o := i * 2 + 1) (v := .slice a_x22b (List.length x22b) c_x22b) En251 (by kernel_rfl) (Deep.add_add _ _ _) (ip.ro.ev Hv114).reads hadp ((flat_get (sz := 2) (j := 1) (fun _ _ => rfl) hx21 (by decide)).trans rfl) (by kernel_rfl) ?_
      intro ac252 En253
      exact any_to hG (by kernel_rfl) (nd217 _ _ (En253.sb) (Hv114.pk []))
     ·
      rintro _ rfl
      refine op_loadf (d := some 39) (t := 23) (ad := adq) (ao := aq) (ys := List.flatMap fExt xq) (o := i * 2 + 1) (v := .slice a_x25b (List.length x25b) c_x25b) En251 (by kernel_rfl) (Deep.add_add _ _ _) (iq.ro.ev Hv114).reads hadq ((flat_get (sz := 2) (j := 1) (fun _ _ => rfl) hx24 (by decide)).trans rfl) (by kernel_rfl) ?_
      intro ac254 En255
      exact any_to hG (by kernel_rfl) (nd226 _ _ (En255.sb) (Hv114.pk []))
    rintro ac256 wo257 ⟨En258, Hv259⟩
    refine then_normal ?_
    refine cond_at En258 (t := !(x22b == x25b)) (by kernel_rfl) (fun hc260 => ?_) (fun hc260 => ?_)
    ·
     replace hc260 : x22b ≠ x25b := by simpa using hc260
     refine d_s [0,1,4,5] [] En258 fun ac261 En262 => ?_
     refine wp_ret ?_
     refine block_ret ?_
     refine then_ret ?_
     refine then_ret ?_
     refine block_ret ?_
     refine then_ret ?_
     refine d_ret1 (t := 4) (v := .bool false) En262 (by kernel_rfl) (by kernel_rfl) ?_
     exact ⟨congrArg (fun b => Ending.returned (Value.bool b)) (same_no hx21 hx24 (fun g => by first | exact absurd (congrArg (fun z : UInt16 × Bs => ((UInt16.toNat z.1 : Nat) : Int)) g) (by assumption) | exact absurd (congrArg Prod.snd g) (by assumption))), Hv259.pk []⟩
    ·
     replace hc260 : ¬ (x22b ≠ x25b) := by simpa using hc260
     refine wp_skip ?_
     refine block_normal ?_
     refine then_normal ?_
     refine d_r [0,1,5] [(1, g_n (w_a i 1))] En258 fun ac263 En264 => ?_
     refine then_normal ?_
     refine ⟨_, ⟨i + 1, rfl, En264.sb, Hv259.pk [], (same_step hx21 hx24 (pair_eq (u16_eq (x := x22a) (y := x25a) (by omega)) (Classical.not_not.1 (by assumption))) hp)⟩, ?_⟩
     omega
  ·
   refine wp_exit ?_
   refine then_exit ?_
   refine then_exit ?_
   refine block_exit ?_
   refine then_normal ?_
   refine d_s [0,1,4,5] [] En18 fun ac265 En266 => ?_
   refine wp_ret ?_
   refine d_ret1 (t := 4) (v := .bool true) En266 (by kernel_rfl) (by kernel_rfl) ?_
   exact ⟨congrArg (fun b => Ending.returned (Value.bool b)) (same_all (by omega) (by omega) hp), Hv15.pk []⟩

end Go.Proofs.Ytofecellbfhnjaa

/- Slices of structs that are made: nil ones, room. -/

namespace Go.Dbr
open Go Go.RowKit
section
variable {α : Type}
theorem sv_nz {f : α → List Value} {sz : Nat} {w : World} {L : List Ent} (h : Heap w L) {k : Nat} {a : Option Addr} {cap : Nat} {xs : List α} {T : TypeId} (hk : L[k]? = some (.vec a cap sz (xs.flatMap f) T)) (hf : ∀ x, (f x).length = sz) (h1 : 0 < sz) : a = none → xs.length = 0 := fun ha => by
  have h0 : Ent.holds0 w (.vec a cap sz (xs.flatMap f) T) := h.holds k _ hk
  subst ha
  obtain ⟨_, h2⟩ := h0
  have := sv_len hf xs
  rw [h2] at this
  rcases Nat.eq_zero_or_pos xs.length with e | e
  · exact e
  · have := Nat.mul_pos e h1; simp at *; omega
theorem sv_vcap {f : α → List Value} {sz : Nat} {w : World} {L : List Ent} (h : Heap w L) {k : Nat} {a : Option Addr} {cap : Nat} {xs : List α} {T : TypeId} (hk : L[k]? = some (.vec a cap sz (xs.flatMap f) T)) (hf : ∀ x, (f x).length = sz) (h1 : 0 < sz) : xs.length ≤ cap := by
  have hn := sv_nz h hk hf h1
  have h0 : Ent.holds0 w (.vec a cap sz (xs.flatMap f) T) := h.holds k _ hk
  cases a with
  | none => rw [hn rfl]; exact Nat.zero_le _
  | some ad =>
    obtain ⟨_, _, h3, _⟩ := h0
    rw [sv_len hf] at h3
    exact Nat.le_of_mul_le_mul_right h3 h1
end
end Go.Dbr

/- Layer 17: extensions are read, by both. -/


namespace Go.Proofs.Ytofecellbfhnjaa
open Go.Dbr
set_option maxRecDepth 100000
set_option maxHeartbeats 2000000
set_option linter.unusedVariables false
set_option linter.unusedSimpArgs false

theorem fdI_ge (t : UInt16) (ps : List EX) : decide (fdI t ps ≥ 0) = hasE t ps := by
  unfold hasE
  by_cases h : fdN t ps < ps.length
  · rw [fdI_y h, decide_eq_true h]; exact decide_eq_true (by omega)
  · rw [fdI_n h, decide_eq_false h]; rfl
/-- of the first ones, has one the type of one ahead of it? -/
def dupN (ps : List EX) : Nat → Bool
  | 0 => false
  | i + 1 => dupN ps i || (match ps[i]? with
    | some p => hasE p.1 (ps.take i)
    | none => false)
theorem dup_s {ps : List EX} {i : Nat} {p : EX} (h : ps[i]? = some p) : dupN ps (i + 1) = (dupN ps i || hasE p.1 (ps.take i)) := by rw [dupN, h]
theorem dup_t {ps : List EX} {i : Nat} {p : EX} {o od : Bool} (h : ps[i]? = some p) (ho : od = (o || dupN ps i)) (ht : od = true) : true = (o || dupN ps (i + 1)) := by
  rw [dup_s h, ← Bool.or_assoc, ← ho, ht]
  rfl
theorem dup_f {ps : List EX} {i : Nat} {p : EX} {o od : Bool} (h : ps[i]? = some p) (ho : od = (o || dupN ps i)) (hf : ¬ od = true) : hasE p.1 (ps.take i) = (o || dupN ps (i + 1)) := by
  rw [dup_s h, ← Bool.or_assoc, ← ho, Bool.eq_false_iff.2 hf, Bool.false_or]
def dupA (ps : List EX) : Bool := dupN ps ps.length
theorem dup_all {ps : List EX} {i : Nat} {o od : Bool} (ho : od = (o || dupN ps i)) (hi : i = ps.length) : od = (o || dupA ps) := by rw [ho, hi, dupA]
def extsM (l : Bs) (s o : Bool) : List EX × PS := ((manyM extM 2 0 l s o).1, (manyM extM 2 0 l s o).2.1, (manyM extM 2 0 l s o).2.2.1, (manyM extM 2 0 l s o).2.2.2 || dupA (manyM extM 2 0 l s o).1)
theorem exts1_go (w : World) (tb : Nat) (t g : UInt16) (a2 : Option Addr) (n2 c2 : Nat) (ab : Option Addr) (cb : Nat) (b : Bs) (ib : InB w [.box tb [uv16 t, .slice a2 n2 c2] 147] ab cb b) (hH : Heap w [.box tb [uv16 t, .slice a2 n2 c2] 147]) : Calls Try.prog 211 #[.agg #[uv16 g, .slice ab (List.length b) cb], pt tb] w fun e w' => e = .returned (.bool (((UInt16.toNat g : Nat) : Int) == ((UInt16.toNat t : Nat) : Int))) ∧ Ev w [.box tb [uv16 t, .slice a2 n2 c2] 147] w' [.box tb [uv16 t, .slice a2 n2 c2] 147] := by
 refine d_0 [(0, .agg #[uv16 g, .slice ab (List.length b) cb]), (1, pt tb)] 9 Go.Proofs.Try.func211 Go.Proofs.Try.ntmps211 (hH) fun act0 En0 Hv0 => ?_
 refine wp_seq ?_
 refine region_from ?_
 refine f_o ?_
 refine m_m 147 [uv16 g, .slice ab (List.length b) cb] En0 Hv0 fun ac2 wo3 bk1 En4 Hv5 => ?_
 refine d_e [1,2,3] [] En4 fun ac6 En7 => ?_
 refine then_normal ?_
 refine wp_seq ?_
 refine region_from ?_
 refine d_k [1,3,4] [] 1 En7 fun ac8 En9 => ?_
 refine f_o ?_
 refine m_l 1 En9 Hv5 fun ac10 En11 => ?_
 refine d_k [3,5,6] [] 3 En11 fun ac12 En13 => ?_
 refine f_o ?_
 refine m_l 0 En13 Hv5 fun ac14 En15 => ?_
 refine d_e [3] [] En15 fun ac16 En17 => ?_
 refine then_normal ?_
 refine wp_ret ?_
 refine d_ret1 (t := 3) (v := .bool (((UInt16.toNat g : Nat) : Int) == ((UInt16.toNat t : Nat) : Int))) En17 (by kernel_rfl) (by kernel_rfl) ?_
 exact ⟨rfl, Hv5.pk [0]⟩

theorem indexe_go (w : World) (tb : Nat) (t : UInt16) (a2 : Option Addr) (n2 c2 : Nat) (al : Option Addr) (cl : Nat) (xs : List RExt) (il : InS fExt 32 (fun y : RExt => (True ∧ (InB w [.box tb [uv16 t, .slice a2 n2 c2] 147] y.2.1.a y.2.1.c y.2.1.l ∧ (True)))) w [.box tb [uv16 t, .slice a2 n2 c2] 147] al cl xs) (hH : Heap w [.box tb [uv16 t, .slice a2 n2 c2] 147]) : Calls Try.prog 133 #[.slice al (List.length xs) cl, .func (.func 211) #[] #[pt tb]] w fun e w' => e = .returned (.int .i64 (fdI t (List.map (fun y : RExt => (y.1, y.2.1.l)) xs))) ∧ Ev w [.box tb [uv16 t, .slice a2 n2 c2] 147] w' [.box tb [uv16 t, .slice a2 n2 c2] 147] := by
 refine d_0 [(0, .slice al (List.length xs) cl), (1, .func (.func 211) #[] #[pt tb])] 19 Go.Proofs.Try.func133 Go.Proofs.Try.ntmps133 (hH) fun act0 En0 Hv0 => ?_
 refine wp_seq ?_
 refine d_r [0,1,4] [] En0 fun ac1 En2 => ?_
 refine then_normal ?_
 refine wp_seq ?_
 refine wp_seq ?_
 refine d_r [0,1,4,7,8] [] En2 fun ac3 En4 => ?_
 refine then_normal ?_
 refine wp_block ?_
 refine loop_m (fun ms5 ac wo => ∃ (i : Nat), ms5 = (List.length xs + 1 - i : Nat) ∧ Env ac 19 [(0, .slice al (List.length xs) cl), (1, .func (.func 211) #[] #[pt tb]), (7, .int .i64 ((List.length xs : Nat) : Int)), (8, ni i)] ∧ Ev w [.box tb [uv16 t, .slice a2 n2 c2] 147] wo [.box tb [uv16 t, .slice a2 n2 c2] 147] ∧ (fdN t (List.map (fun y : RExt => (y.1, y.2.1.l)) xs) = i + fdN t (List.drop i (List.map (fun y : RExt => (y.1, y.2.1.l)) xs)))) ⟨_, 0, rfl, En4.sb, Hv0.pk [0], (by rw [List.drop_zero, Nat.zero_add])⟩ ?_
 rintro mm11 ac7 wo8 ⟨i, rfl, En9, Hv10, hfi⟩
 refine wp_seq ?_
 refine d_r [0,1,7,8,9] [] En9 fun ac12 En13 => ?_
 refine then_normal ?_
 refine wp_seq ?_
 refine c_d (((i : Nat) : Int) < ((List.length xs : Nat) : Int)) En13 (fun hc14 => ?_) (fun hc14 => ?_)
 ·
  refine wp_skip ?_
  refine then_normal ?_
  refine wp_seq ?_
  refine wp_block ?_
  refine wp_seq ?_
  refine d_r [0,1,5,7,8] [] En13 fun ac15 En16 => ?_
  refine then_normal ?_
  refine wp_seq ?_
  have hzl := il.small
  have hb19 : i < List.length xs := (by omega)
  obtain ⟨adr17, had18⟩ := some_of il.nz hb19
  have hb20 : i < List.length xs := by omega
  obtain ⟨⟨x22a, ⟨a_x22b, c_x22b, x22b⟩, _⟩, hx21⟩ : ∃ x, (xs)[i]? = some x := ⟨_, List.getElem?_eq_getElem hb20⟩
  obtain ⟨_, i_x22b, _⟩ := il.each _ (List.mem_of_getElem? hx21)
  replace i_x22b : InB w [.box tb [uv16 t, .slice a2 n2 c2] 147] a_x22b c_x22b x22b := i_x22b
  refine region_from ?_
  refine d_k [0,1,5,7,8,11,12,13] [] 3 En16 fun ac23 En24 => ?_
  refine f_o ?_
  refine q_v (x := Instr.indexAt 36 (.slice al (List.length xs) cl) (ni i)) (v := .pointer (some (Addr.add adr17 (i * 2)))) En24 (Go.Dbr.run_indexsl (e := 147) (sz := 2) (j := i) (jo := i * 2) had18 (by kernel_rfl) (by kernel_rfl) (by omega) hb19 rfl _) fun ac25 En26 => ?_
  refine f_o ?_
  refine op_loadaggat (d := some 15) (t := 147) (ad := adr17) (ao := al) (ys := List.flatMap fExt xs) (o := i * 2) (m := 2) (xs := [uv16 x22a, .slice a_x22b (List.length x22b) c_x22b]) En26 (by kernel_rfl) rfl (il.ro.ev Hv10).reads had18 (fun j hj => ?_) rfl (by kernel_rfl) (by kernel_rfl) ?_
  ·
   exact flat_sub (sz := 2) (off := 0) (m := 2) (fun _ _ => rfl) hx21 (by decide) rfl j hj
  intro ac27 En28
  refine f_o ?_
  refine c_l [0] (M := [.box tb [uv16 t, .slice a2 n2 c2] 147]) En28 Hv10 (fun hM29 => exts1_go _ tb t x22a a2 n2 c2 a_x22b c_x22b x22b ((i_x22b.ev Hv10).pick [0] (by kernel_rfl)) hM29) ?_
  rintro _ wo30 ⟨rfl, he31⟩
  refine ⟨_, _, [.box tb [uv16 t, .slice a2 n2 c2] 147], rfl, he31, by kernel_rfl, fun ac33 En34 Hv35 => ?_⟩
  refine f_e ?_
  refine then_normal ?_
  refine cond_at En34 (t := ((UInt16.toNat x22a : Nat) : Int) == ((UInt16.toNat t : Nat) : Int)) (by kernel_rfl) (fun hc36 => ?_) (fun hc36 => ?_)
  ·
   replace hc36 : ((UInt16.toNat x22a : Nat) : Int) = ((UInt16.toNat t : Nat) : Int) := eq_of_beq hc36
   refine wp_seq ?_
   refine d_r [0,1,4,5,7,8] [] En34 fun ac37 En38 => ?_
   refine then_normal ?_
   refine wp_ret ?_
   refine block_ret ?_
   refine then_ret ?_
   refine then_ret ?_
   refine block_ret ?_
   refine then_ret ?_
   refine d_ret1 (t := 4) (v := ni i) En38 (by kernel_rfl) (by kernel_rfl) ?_
   obtain ⟨hN, hP⟩ := fd_hit (f := (fun y : RExt => (y.1, y.2.1.l))) hfi hx21 (u16_eq (by assumption))
   have hL : fdN t (List.map (fun y : RExt => (y.1, y.2.1.l)) xs) < List.length (List.map (fun y : RExt => (y.1, y.2.1.l)) xs) := by rw [hN, List.length_map]; omega
   exact ⟨congrArg (fun z => Ending.returned (Value.int .i64 z)) (by rw [fdI_y hL, hN]), Hv35.pk [0]⟩
  ·
   replace hc36 : ¬ (((UInt16.toNat x22a : Nat) : Int) = ((UInt16.toNat t : Nat) : Int)) := ne_of_beq_false hc36
   refine wp_skip ?_
   refine block_normal ?_
   refine then_normal ?_
   refine d_r [0,1,5,7,8] [(0, g_n (w_a i 1))] En34 fun ac39 En40 => ?_
   refine then_normal ?_
   refine ⟨_, ⟨i + 1, rfl, En40.sb, Hv35.pk [0], (fd_go hfi hx21 (fun g => absurd (congrArg (fun z : UInt16 => ((UInt16.toNat z : Nat) : Int)) g) (by assumption)))⟩, ?_⟩
   omega
 ·
  refine wp_exit ?_
  refine then_exit ?_
  refine then_exit ?_
  refine block_exit ?_
  refine then_normal ?_
  refine wp_seq ?_
  refine d_r [0,1,4,7,8] [] En13 fun ac41 En42 => ?_
  refine then_normal ?_
  refine wp_ret ?_
  refine d_ret1 (t := 4) (v := .int .i64 (-1)) En42 (by kernel_rfl) (by kernel_rfl) ?_
  exact ⟨congrArg (fun z => Ending.returned (Value.int .i64 z)) (fdI_n (fd_end hfi (by omega))).symm, Hv10.pk [0]⟩

theorem contf_go (w : World) (tb : Nat) (t : UInt16) (a2 : Option Addr) (n2 c2 : Nat) (n : Nat) (al : Option Addr) (cl : Nat) (xs : List RExt) (il : InS fExt 32 (fun y : RExt => (True ∧ (InB w [.box tb [uv16 t, .slice a2 n2 c2] 147] y.2.1.a y.2.1.c y.2.1.l ∧ (True)))) w [.box tb [uv16 t, .slice a2 n2 c2] 147] al cl xs) (en : n = List.length xs) (hH : Heap w [.box tb [uv16 t, .slice a2 n2 c2] 147]) : Calls Try.prog 205 #[.slice al n cl, .func (.func 211) #[] #[pt tb]] w fun e w' => e = .returned (.bool (hasE t (List.map (fun y : RExt => (y.1, y.2.1.l)) xs))) ∧ Ev w [.box tb [uv16 t, .slice a2 n2 c2] 147] w' [.box tb [uv16 t, .slice a2 n2 c2] 147] := by
 subst en
 refine d_0 [(0, .slice al (List.length xs) cl), (1, .func (.func 211) #[] #[pt tb])] 9 Go.Proofs.Try.func205 Go.Proofs.Try.ntmps205 (hH) fun act0 En0 Hv0 => ?_
 refine d_s [0,1,4] [] En0 fun ac1 En2 => ?_
 refine wp_seq ?_
 refine region_from ?_
 refine d_k [4,5,6] [] 2 En2 fun ac3 En4 => ?_
 refine f_o ?_
 refine c_l [0] (M := [.box tb [uv16 t, .slice a2 n2 c2] 147]) En4 Hv0 (fun hM5 => indexe_go _ tb t a2 n2 c2 al cl xs (il.go Hv0 [0] (by kernel_rfl) (fun _ h => ⟨h.1, (InB.ev h.2.1 Hv0).pick [0] (by kernel_rfl), h.2.2⟩)) hM5) ?_
 rintro _ wo6 ⟨rfl, he7⟩
 refine ⟨_, _, [.box tb [uv16 t, .slice a2 n2 c2] 147], rfl, he7, by kernel_rfl, fun ac9 En10 Hv11 => ?_⟩
 refine d_e [4] [(3, g_v (show (.bool (decide (fdI t (List.map (fun y : RExt => (y.1, y.2.1.l)) xs) ≥ (0 : Int))) : Value) = .bool (hasE t (List.map (fun y : RExt => (y.1, y.2.1.l)) xs)) by rw [fdI_ge t (List.map (fun y : RExt => (y.1, y.2.1.l)) xs)] <;> rfl))] En10 fun ac12 En13 => ?_
 refine then_normal ?_
 refine wp_ret ?_
 refine d_ret1 (t := 4) (v := .bool (hasE t (List.map (fun y : RExt => (y.1, y.2.1.l)) xs))) En13 (by kernel_rfl) (by kernel_rfl) ?_
 exact ⟨rfl, Hv11.pk [0]⟩

theorem exts_go (w : World) (br : Nat) (a : Option Addr) (c : Nat) (l : List UInt8) (s o : Bool) (i : InB w [.box br [.slice a (List.length l) c, .bool s, .bool o] 120] a c l) (hH : Heap w [.box br [.slice a (List.length l) c, .bool s, .bool o] 120]) : Calls Try.prog 183 #[pt br] w fun e w' => ∃ ta tc oa oc xs, e = .returned (.slice oa (List.length xs) oc) ∧ Ev w [.box br [.slice a (List.length l) c, .bool s, .bool o] 120] w' [.box br [.slice ta (List.length ((extsM l s o).2.1)) tc, .bool ((extsM l s o).2.2.1), .bool ((extsM l s o).2.2.2)] 120, .vec oa oc 2 (List.flatMap fExt xs) 147, .grp (List.flatMap innExt xs)] ∧ Sub a c l ta tc (extsM l s o).2.1 ∧ List.map (fun y : RExt => (y.1, y.2.1.l)) xs = (extsM l s o).1 ∧ List.length xs ≤ 4294967296 ∧ ∀ y ∈ xs, List.length y.2.1.l ≤ 140737488351232 := by
 refine d_0 [(0, pt br)] 31 Go.Proofs.Try.func183 Go.Proofs.Try.ntmps183 (hH) fun act0 En0 Hv0 => ?_
 refine wp_seq ?_
 refine d_r [0,2] [] En0 fun ac1 En2 => ?_
 refine then_normal ?_
 refine wp_seq ?_
 refine region_from ?_
 refine d_k [0,2,6] [] 1 En2 fun ac3 En4 => ?_
 refine f_o ?_
 refine c_l [0] (M := [.box br [.slice a (List.length l) c, .bool s, .bool o] 120]) En4 Hv0 (fun hM14 => many_ext _ br 2 (by omega) 0 (by omega) a c l s o ((i.ev Hv0).pick [0] (by kernel_rfl)) hM14) ?_
 rintro _ wo15 ⟨ta5, tc6, oa7, oc8, xs9, rfl, he16, hs10, hmn11, hct12, hsm13⟩
 refine ⟨_, _, [.box br [.slice ta5 (List.length (lsR 2 0 16777215 l s)) tc6, .bool (lsS 2 0 16777215 l s || (mn extM ((lsO 2 0 16777215 l s, lsS 2 0 16777215 l s, false) : PS)).2.2.1), .bool (o || (mn extM ((lsO 2 0 16777215 l s, lsS 2 0 16777215 l s, false) : PS)).2.2.2)] 120, .vec oa7 oc8 2 (List.flatMap fExt xs9) 147, .grp (List.flatMap innExt xs9)], rfl, he16, by kernel_rfl, fun ac18 En19 Hv20 => ?_⟩
 refine d_e [0,2,3] [] En19 fun ac21 En22 => ?_
 refine then_normal ?_
 refine wp_seq ?_
 refine wp_seq ?_
 have hcx := hct12
 have hO9 := lsO_32 (n := 2) (x := 0) (y := 16777215) (by decide) l s
 refine d_r [0,2,3,8,9,10] [] En22 fun ac23 En24 => ?_
 refine then_normal ?_
 refine wp_block ?_
 refine loop_m (fun ms25 ac wo => ∃ (i : Nat) (od : Bool), ms25 = (List.length xs9 - i : Nat) ∧ Env ac 31 [(0, pt br), (2, .slice none 0 0), (3, .slice oa7 (List.length xs9) oc8), (8, .slice oa7 (List.length xs9) oc8), (9, .int .i64 ((List.length xs9 : Nat) : Int)), (10, ni i)] ∧ Ev w [.box br [.slice a (List.length l) c, .bool s, .bool o] 120] wo [.box br [.slice ta5 (List.length (lsR 2 0 16777215 l s)) tc6, .bool (lsS 2 0 16777215 l s || (mn extM ((lsO 2 0 16777215 l s, lsS 2 0 16777215 l s, false) : PS)).2.2.1), .bool od] 120, .vec oa7 oc8 2 (List.flatMap fExt xs9) 147, .grp (List.flatMap innExt xs9)] ∧ (i ≤ List.length xs9) ∧ (od = ((o || (mn extM ((lsO 2 0 16777215 l s, lsS 2 0 16777215 l s, false) : PS)).2.2.2) || dupN (List.map (fun y : RExt => (y.1, y.2.1.l)) xs9) i))) ⟨_, 0, (o || (mn extM ((lsO 2 0 16777215 l s, lsS 2 0 16777215 l s, false) : PS)).2.2.2), rfl, En24.sb, Hv20.pk [0, 1, 2], (Nat.zero_le _), (by rw [dupN, Bool.or_false])⟩ ?_
 rintro mm31 ac27 wo28 ⟨i, od, rfl, En29, Hv30, hil, hod⟩
 refine wp_seq ?_
 refine d_r [0,2,3,8,9,10,11] [] En29 fun ac32 En33 => ?_
 refine then_normal ?_
 refine wp_seq ?_
 refine c_d (((i : Nat) : Int) < ((List.length xs9 : Nat) : Int)) En33 (fun hc34 => ?_) (fun hc34 => ?_)
 ·
  refine wp_skip ?_
  refine then_normal ?_
  refine wp_seq ?_
  refine wp_block ?_
  refine wp_seq ?_
  have hb37 : i < List.length xs9 := (by omega)
  obtain ⟨adr35, had36⟩ := some_of (sv_nz (f := fExt) (sz := 2) Hv30.heap (k := 1) rfl (fun _ => rfl) (by decide)) hb37
  have hb38 : i < List.length xs9 := by omega
  obtain ⟨⟨x40a, ⟨a_x40b, c_x40b, x40b⟩, _⟩, hx39⟩ : ∃ x, (xs9)[i]? = some x := ⟨_, List.getElem?_eq_getElem hb38⟩
  refine region_from ?_
  refine d_k [0,2,3,8,9,10,12] [] 1 En33 fun ac41 En42 => ?_
  refine f_o ?_
  refine q_v (x := Instr.indexAt 36 (.slice oa7 (List.length xs9) oc8) (ni i)) (v := .pointer (some (Addr.add adr35 (i * 2)))) En42 (Go.Dbr.run_indexsl (e := 147) (sz := 2) (j := i) (jo := i * 2) had36 (by kernel_rfl) (by kernel_rfl) (by omega) hb37 rfl _) fun ac43 En44 => ?_
  refine f_o ?_
  refine op_loadaggat (d := some 14) (t := 147) (ad := adr35) (ao := oa7) (ys := List.flatMap fExt xs9) (o := i * 2) (m := 2) (xs := [uv16 x40a, .slice a_x40b (List.length x40b) c_x40b]) En44 (by kernel_rfl) rfl (Hv30.heap.reads (k := 1) rfl) had36 (fun j hj => ?_) rfl (by kernel_rfl) (by kernel_rfl) ?_
  ·
   exact flat_sub (sz := 2) (off := 0) (m := 2) (fun _ _ => rfl) hx39 (by decide) rfl j hj
  intro ac45 En46
  refine f_o ?_
  refine m_z 147 [.int .u16 0, .slice none 0 0] En46 Hv30 fun ac48 wo49 bk47 En50 Hv51 => ?_
  refine d_k [0,2,3,4,5,8,9,10,14] [] 5 En50 fun ac52 En53 => ?_
  refine f_o ?_
  refine m_g 3 0 2 [uv16 x40a, .slice a_x40b (List.length x40b) c_x40b] [uv16 x40a, .slice a_x40b (List.length x40b) c_x40b] [.box br [.slice ta5 (List.length (lsR 2 0 16777215 l s)) tc6, .bool (lsS 2 0 16777215 l s || (mn extM ((lsO 2 0 16777215 l s, lsS 2 0 16777215 l s, false) : PS)).2.2.1), .bool od] 120, .vec oa7 oc8 2 (List.flatMap fExt xs9) 147, .grp (List.flatMap innExt xs9), .box bk47 [uv16 x40a, .slice a_x40b (List.length x40b) c_x40b] 147] En53 Hv51 rfl rfl (by simp) (one_all (by kernel_rfl)) rfl rfl fun ac54 wo55 En56 Hv57 => ?_
  refine f_e ?_
  refine then_normal ?_
  refine region_from ?_
  refine d_k [0,2,3,4,5,8,9,10,15,18] [] 4 En56 fun ac58 En59 => ?_
  refine f_o ?_
  refine m_l 0 En59 Hv57 fun ac60 En61 => ?_
  refine d_k [0,2,3,4,5,8,9,10,15,20] [] 6 En61 fun ac62 En63 => ?_
  rcases Bool.eq_false_or_eq_true (od) with hb64 | hb64
  ·
   have En65 := En63.fx (t := 20) (congrArg Value.bool hb64)
   have hp66 : od = true := hb64
   refine d_k [0,2,3,5,8,9,10,26,28] [] 14 En65 fun ac67 En68 => ?_
   refine f_o ?_
   refine m_s 0 [.box br [.slice ta5 (List.length (lsR 2 0 16777215 l s)) tc6, .bool (lsS 2 0 16777215 l s || (mn extM ((lsO 2 0 16777215 l s, lsS 2 0 16777215 l s, false) : PS)).2.2.1), .bool true] 120, .vec oa7 oc8 2 (List.flatMap fExt xs9) 147, .grp (List.flatMap innExt xs9), .box bk47 [uv16 x40a, .slice a_x40b (List.length x40b) c_x40b] 147] En68 Hv57 fun ac69 wo70 En71 Hv72 => ?_
   refine f_e ?_
   refine block_normal ?_
   refine then_normal ?_
   refine d_r [0,2,3,5,8,9,10] [(0, g_n (w_a i 1))] En71 fun ac73 En74 => ?_
   refine then_normal ?_
   refine ⟨_, ⟨i + 1, true, rfl, En74.sb, Hv72.pk [0, 1, 2], (by omega), (dup_t (show (List.map (fun y : RExt => (y.1, y.2.1.l)) xs9)[i]? = some ((fun y : RExt => (y.1, y.2.1.l)) (x40a, ⟨a_x40b, c_x40b, x40b⟩, ())) from by rw [List.getElem?_map, hx39]; rfl) hod hp66)⟩, ?_⟩
   omega
  ·
   have En75 := En63.fx (t := 20) (congrArg Value.bool hb64)
   have hp76 : ¬ (od = true) := Bool.eq_false_iff.1 hb64
   refine d_k [0,2,3,5,8,9,10,15,20,21,22] [] 8 En75 fun ac77 En78 => ?_
   refine f_o ?_
   have hcap79 := sv_vcap (f := fExt) (sz := 2) Hv57.heap (k := 1) rfl (fun _ => rfl) (by decide)
   refine op_slice0 (d := some 23) (t := 36) (e := 147) (sz := 2) (len := List.length xs9) (cap := oc8) (hi := i) (ao := oa7) (lov := none) (hiv := (some (ni i))) En78 (by kernel_rfl) (by kernel_rfl) (by kernel_rfl) (by omega) (.inl ⟨rfl, rfl⟩) (.inr ⟨.i64, rfl⟩) ?_
   intro ac80 En81
   refine d_k [0,2,3,5,8,9,10,15,20,23,24] [] 10 En81 fun ac82 En83 => ?_
   refine f_o ?_
   refine c_l [3] (M := [.box bk47 [uv16 x40a, .slice a_x40b (List.length x40b) c_x40b] 147]) En83 Hv57 (fun hM84 => contf_go _ bk47 x40a a_x40b (List.length x40b) c_x40b i oa7 oc8 (List.take i xs9) ((Hv57.heap.innS (k := 1) (f := fExt) (sz := 2) (by_ := 32) rfl (fun _ => rfl) (by decide) [3] (by kernel_rfl) rfl (by omega) (fun y hy => ⟨trivial, Hv57.heap.innB (k := 2) rfl (List.mem_flatMap.2 ⟨y, hy, List.mem_cons_self⟩) [3] (by kernel_rfl) rfl (Nat.le_trans (hsm13 y hy) (by decide)), trivial⟩)).take i) (by rw [List.length_take]; omega) hM84) ?_
   rintro _ wo85 ⟨rfl, he86⟩
   refine ⟨_, _, [.box bk47 [uv16 x40a, .slice a_x40b (List.length x40b) c_x40b] 147, .box br [.slice ta5 (List.length (lsR 2 0 16777215 l s)) tc6, .bool (lsS 2 0 16777215 l s || (mn extM ((lsO 2 0 16777215 l s, lsS 2 0 16777215 l s, false) : PS)).2.2.1), .bool od] 120, .vec oa7 oc8 2 (List.flatMap fExt xs9) 147, .grp (List.flatMap innExt xs9)], rfl, he86, by kernel_rfl, fun ac88 En89 Hv90 => ?_⟩
   refine d_k [0,2,3,5,8,9,10,26,28] [] 14 En89 fun ac91 En92 => ?_
   refine f_o ?_
   refine m_s 1 [.box bk47 [uv16 x40a, .slice a_x40b (List.length x40b) c_x40b] 147, .box br [.slice ta5 (List.length (lsR 2 0 16777215 l s)) tc6, .bool (lsS 2 0 16777215 l s || (mn extM ((lsO 2 0 16777215 l s, lsS 2 0 16777215 l s, false) : PS)).2.2.1), .bool (hasE x40a (List.map (fun y : RExt => (y.1, y.2.1.l)) (List.take i xs9)))] 120, .vec oa7 oc8 2 (List.flatMap fExt xs9) 147, .grp (List.flatMap innExt xs9)] En92 Hv90 fun ac93 wo94 En95 Hv96 => ?_
   refine f_e ?_
   refine block_normal ?_
   refine then_normal ?_
   refine d_r [0,2,3,5,8,9,10] [(0, g_n (w_a i 1))] En95 fun ac97 En98 => ?_
   refine then_normal ?_
   refine ⟨_, ⟨i + 1, hasE x40a (List.map (fun y : RExt => (y.1, y.2.1.l)) (List.take i xs9)), rfl, En98.sb, Hv96.pk [1, 2, 3], (by omega), (by rw [List.map_take]; exact dup_f (show (List.map (fun y : RExt => (y.1, y.2.1.l)) xs9)[i]? = some ((fun y : RExt => (y.1, y.2.1.l)) (x40a, ⟨a_x40b, c_x40b, x40b⟩, ())) from by rw [List.getElem?_map, hx39]; rfl) hod hp76)⟩, ?_⟩
   omega
 ·
  refine wp_exit ?_
  refine then_exit ?_
  refine then_exit ?_
  refine block_exit ?_
  refine then_normal ?_
  refine wp_seq ?_
  refine d_r [0,2,3,8,9,10] [] En33 fun ac99 En100 => ?_
  refine then_normal ?_
  refine wp_ret ?_
  refine d_ret1 (t := 2) (v := .slice oa7 (List.length xs9) oc8) En100 (by kernel_rfl) (by kernel_rfl) ?_
  have hfo := dup_all hod (by rw [List.length_map]; omega)
  rw [hfo, hmn11] at Hv30
  exact ⟨ta5, tc6, oa7, oc8, xs9, rfl, Hv30.pk [0, 1, 2], hs10, hmn11, (Nat.le_trans hct12 (lsO_32 (by decide) _ _)), hsm13⟩

end Go.Proofs.Ytofecellbfhnjaa

/- Layer 17: extensions are read by the document. -/

namespace Go.Proofs.Ytofecellbfhnjaa
open Go.Dbr
set_option maxRecDepth 100000
set_option maxHeartbeats 2000000
set_option linter.unusedVariables false
set_option linter.unusedSimpArgs false

end Go.Proofs.Ytofecellbfhnjaa

/- Layer 17: requests, signatures, tickets are read, by both. -/

namespace Go.Proofs.Ytofecellbfhnjaa
open Go.Dbr
set_option maxRecDepth 100000
set_option maxHeartbeats 2000000
set_option linter.unusedVariables false
set_option linter.unusedSimpArgs false

end Go.Proofs.Ytofecellbfhnjaa
