import Derived.Test.YtofecellbfhnjaaBk8
/- Layer 17: certificates are read, by both. -/

namespace Go.Proofs.Ytofecellbfhnjaa
open Go.Dbr
set_option maxRecDepth 100000
set_option maxHeartbeats 2000000
set_option linter.unusedVariables false
set_option linter.unusedSimpArgs false

abbrev RCer := (Sl UInt8) × (Sl ((UInt16) × (Sl UInt8) × Unit)) × Unit
abbrev fCer : RCer → List Value := (fun p : (Sl UInt8) × (Sl ((UInt16) × (Sl UInt8) × Unit)) × Unit => (fun s : Sl UInt8 => s.f) p.1 ++ (fun p : (Sl ((UInt16) × (Sl UInt8) × Unit)) × Unit => (fun s : Sl ((UInt16) × (Sl UInt8) × Unit) => s.f) p.1 ++ (fun _ : Unit => []) p.2) p.2)
def innCer (y : RCer) : List Inn := (y.1.a, y.1.c, 1, bys y.1.l, 5) :: (y.2.1.a, y.2.1.c, 2, List.flatMap fExt y.2.1.l, 147) :: List.flatMap innExt y.2.1.l
abbrev CE := Bs × List EX
def entM (l : Bs) (s o : Bool) : CE × PS := ((lsO 3 1 16777215 l s, (extsM (lsR 3 1 16777215 l s) (lsS 3 1 16777215 l s) o).1), (extsM (lsR 3 1 16777215 l s) (lsS 3 1 16777215 l s) o).2)
theorem extsM_le (l : Bs) (s o : Bool) : (extsM l s o).2.1.length ≤ l.length := lsR_len _ _ _ _ _
theorem lsR_lt {n x y : Nat} (hn : 0 < n) {l : Bs} (h : l ≠ []) : (lsR n x y l false).length < l.length := Nat.lt_of_le_of_lt (tkR_len _ _ _) (tk_lt hn h)
theorem ent_dec : Dec entM := ⟨fun l o h hs => Nat.lt_of_le_of_lt (extsM_le _ _ _) (lsR_lt (by decide) h), fun l o => Nat.le_trans (extsM_le _ _ _) (lsR_len _ _ _ _ _)⟩
def certM (l : Bs) (s o : Bool) : (Bs × List CE) × PS := ((lsO 1 0 255 l s, (manyM entM 3 0 (lsR 1 0 255 l s) (lsS 1 0 255 l s) o).1), (manyM entM 3 0 (lsR 1 0 255 l s) (lsS 1 0 255 l s) o).2)
theorem entry_go (w : World) (br : Nat) (a : Option Addr) (c : Nat) (l : List UInt8) (s o : Bool) (i : InB w [.box br [.slice a (List.length l) c, .bool s, .bool o] 120] a c l) (hH : Heap w [.box br [.slice a (List.length l) c, .bool s, .bool o] 120]) : Calls Try.prog 188 #[pt br] w fun e w' => ∃ ta tc oaa oca bla oab ocb xsb, e = .returned (.agg #[.slice oaa (List.length bla) oca, .slice oab (List.length xsb) ocb]) ∧ Ev w [.box br [.slice a (List.length l) c, .bool s, .bool o] 120] w' [.box br [.slice ta (List.length ((entM l s o).2.1)) tc, .bool ((entM l s o).2.2.1), .bool ((entM l s o).2.2.2)] 120, .vec oaa oca 1 (bys bla) 5, .vec oab ocb 2 (List.flatMap fExt xsb) 147, .grp (List.flatMap innExt xsb)] ∧ Sub a c l ta tc (entM l s o).2.1 ∧ (bla, List.map (fun y : RExt => (y.1, y.2.1.l)) xsb) = (entM l s o).1 ∧ List.length bla ≤ 4294967296 ∧ List.length xsb ≤ 4294967296 ∧ ∀ y ∈ xsb, List.length y.2.1.l ≤ 140737488351232 := by
 refine d_0 [(0, pt br)] 10 Go.Proofs.Try.func188 Go.Proofs.Try.ntmps188 (hH) fun act0 En0 Hv0 => ?_
 refine wp_seq ?_
 refine region_from ?_
 refine f_o ?_
 refine m_z 196 [.slice none 0 0, .slice none 0 0] En0 Hv0 fun ac2 wo3 bk1 En4 Hv5 => ?_
 refine f_e ?_
 refine then_normal ?_
 refine wp_seq ?_
 refine region_from ?_
 refine d_k [0,2,4] [] 1 En4 fun ac6 En7 => ?_
 refine f_o ?_
 refine c_l [0] (M := [.box br [.slice a (List.length l) c, .bool s, .bool o] 120]) En7 Hv5 (fun hM15 => bytes3_go _ br a c l s o ((i.ev Hv5).pick [0] (by kernel_rfl)) hM15) ?_
 rintro _ wo16 ⟨ta8, tc9, oa12, oc13, bl14, rfl, he17, hs10, hpu11⟩
 refine ⟨_, _, [.box br [.slice ta8 (List.length ((listM 3 1 16777215 l s o).2.1)) tc9, .bool ((listM 3 1 16777215 l s o).2.2.1), .bool ((listM 3 1 16777215 l s o).2.2.2)] 120, .vec oa12 oc13 1 (bys bl14) 5, .box bk1 [.slice none 0 0, .slice none 0 0] 196], rfl, he17, by kernel_rfl, fun ac19 En20 Hv21 => ?_⟩
 refine d_e [0,2,3] [] En20 fun ac22 En23 => ?_
 refine then_normal ?_
 refine wp_seq ?_
 refine region_from ?_
 refine d_k [0,2,6,7] [] 2 En23 fun ac24 En25 => ?_
 refine f_o ?_
 refine c_l [0] (M := [.box br [.slice ta8 (List.length ((listM 3 1 16777215 l s o).2.1)) tc9, .bool ((listM 3 1 16777215 l s o).2.2.1), .bool ((listM 3 1 16777215 l s o).2.2.2)] 120]) En25 Hv21 (fun hM35 => exts_go _ br ta8 tc9 ((listM 3 1 16777215 l s o).2.1) ((listM 3 1 16777215 l s o).2.2.1) ((listM 3 1 16777215 l s o).2.2.2) (hs10 _ _ ((i.ev Hv21).pick [0] (by kernel_rfl))) hM35) ?_
 rintro _ wo36 ⟨ta26, tc27, oa30, oc31, xs32, rfl, he37, hs28, hpu29, hf33, hf34⟩
 refine ⟨_, _, [.box br [.slice ta26 (List.length ((extsM ((listM 3 1 16777215 l s o).2.1) ((listM 3 1 16777215 l s o).2.2.1) ((listM 3 1 16777215 l s o).2.2.2)).2.1)) tc27, .bool ((extsM ((listM 3 1 16777215 l s o).2.1) ((listM 3 1 16777215 l s o).2.2.1) ((listM 3 1 16777215 l s o).2.2.2)).2.2.1), .bool ((extsM ((listM 3 1 16777215 l s o).2.1) ((listM 3 1 16777215 l s o).2.2.1) ((listM 3 1 16777215 l s o).2.2.2)).2.2.2)] 120, .vec oa30 oc31 2 (List.flatMap fExt xs32) 147, .grp (List.flatMap innExt xs32), .vec oa12 oc13 1 (bys bl14) 5, .box bk1 [.slice none 0 0, .slice none 0 0] 196], rfl, he37, by kernel_rfl, fun ac39 En40 Hv41 => ?_⟩
 refine d_k [0,2,9] [] 4 En40 fun ac42 En43 => ?_
 refine f_o ?_
 refine m_g 4 0 2 [.slice oa12 (List.length bl14) oc13, .slice oa30 (List.length xs32) oc31] [.slice oa12 (List.length bl14) oc13, .slice oa30 (List.length xs32) oc31] [.box br [.slice ta26 (List.length ((extsM ((listM 3 1 16777215 l s o).2.1) ((listM 3 1 16777215 l s o).2.2.1) ((listM 3 1 16777215 l s o).2.2.2)).2.1)) tc27, .bool ((extsM ((listM 3 1 16777215 l s o).2.1) ((listM 3 1 16777215 l s o).2.2.1) ((listM 3 1 16777215 l s o).2.2.2)).2.2.1), .bool ((extsM ((listM 3 1 16777215 l s o).2.1) ((listM 3 1 16777215 l s o).2.2.1) ((listM 3 1 16777215 l s o).2.2.2)).2.2.2)] 120, .vec oa30 oc31 2 (List.flatMap fExt xs32) 147, .grp (List.flatMap innExt xs32), .vec oa12 oc13 1 (bys bl14) 5, .box bk1 [.slice oa12 (List.length bl14) oc13, .slice oa30 (List.length xs32) oc31] 196] En43 Hv41 rfl rfl (by simp) (one_all (by kernel_rfl)) rfl rfl fun ac44 wo45 En46 Hv47 => ?_
 refine f_e ?_
 refine then_normal ?_
 refine wp_ret ?_
 refine d_cell1 (v := .agg #[.slice oa12 (List.length bl14) oc13, .slice oa30 (List.length xs32) oc31]) (t := 2) (T := 196) (ad := ⟨bk1, 0, none⟩) En46 (by kernel_rfl) (by kernel_rfl) (Ev.cellAgg (t := 196) (k := 4) (off := 0) (m := 2) (xs := [.slice oa12 (List.length bl14) oc13, .slice oa30 (List.length xs32) oc31]) Hv47 rfl rfl rfl (by kernel_rfl) (by kernel_rfl)) ?_
 exact ⟨ta26, tc27, oa12, oc13, bl14, oa30, oc31, xs32, rfl, Hv47.pk [0, 3, 1, 2], (hs10.trans hs28), (by rw [hpu29, hpu11]; rfl), (by rw [hpu11]; exact (Nat.le_of_succ_le (lsO_32 (by decide) _ _))), hf33, hf34⟩

theorem many_cer (w : World) (br : Nat) (n : Nat) (hn : n ≤ 4) (x : Nat) (hx : x ≤ 4294967295) (a : Option Addr) (c : Nat) (l : List UInt8) (s o : Bool) (i : InB w [.box br [.slice a (List.length l) c, .bool s, .bool o] 120] a c l) (hH : Heap w [.box br [.slice a (List.length l) c, .bool s, .bool o] 120]) : Calls Try.prog 187 #[pt br, ni n, ni x, .func (.func 188) #[] #[]] w fun e w' => ∃ ta tc oa oc xs, e = .returned (.slice oa (List.length xs) oc) ∧ Ev w [.box br [.slice a (List.length l) c, .bool s, .bool o] 120] w' [.box br [.slice ta (List.length (lsR n x 16777215 l s)) tc, .bool (lsS n x 16777215 l s || (mn entM ((lsO n x 16777215 l s, lsS n x 16777215 l s, false) : PS)).2.2.1), .bool (o || (mn entM ((lsO n x 16777215 l s, lsS n x 16777215 l s, false) : PS)).2.2.2)] 120, .vec oa oc 2 (List.flatMap fCer xs) 196, .grp (List.flatMap innCer xs)] ∧ Sub a c l ta tc (lsR n x 16777215 l s) ∧ List.map (fun y : RCer => (y.1.l, List.map (fun y : RExt => (y.1, y.2.1.l)) y.2.1.l)) xs = (mn entM ((lsO n x 16777215 l s, lsS n x 16777215 l s, false) : PS)).1 ∧ List.length xs ≤ List.length (lsO n x 16777215 l s) + 1 ∧ ∀ y ∈ xs, (List.length y.1.l ≤ 140737488351232 ∧ (List.length y.2.1.l ≤ 4294967296 ∧ ∀ z ∈ y.2.1.l, List.length z.2.1.l ≤ 140737488351232)) := by
 refine d_0 [(0, pt br), (1, ni n), (2, ni x), (3, .func (.func 188) #[] #[])] 69 Go.Proofs.Try.func187 Go.Proofs.Try.ntmps187 (hH) fun act0 En0 Hv0 => ?_
 refine d_s [0,1,2,3,8] [] En0 fun ac1 En2 => ?_
 refine wp_seq ?_
 refine region_from ?_
 refine d_k [0,3,8,12,13,14] [] 3 En2 fun ac3 En4 => ?_
 refine f_o ?_
 refine c_l [0] (M := [.box br [.slice a (List.length l) c, .bool s, .bool o] 120]) En4 Hv0 (fun hM10 => list_go _ br n (by omega) x 16777215 (by omega) (by omega) a c l s o ((i.ev Hv0).pick [0] (by kernel_rfl)) hM10) ?_
 rintro _ wo11 ⟨ao5, cp6, ta7, tc8, rfl, he12, hs9⟩
 refine ⟨_, _, [.box br [.slice ta7 (List.length (lsR n x 16777215 l s)) tc8, .bool (lsS n x 16777215 l s), .bool o] 120, .vec ao5 cp6 1 (bys (lsO n x 16777215 l s)) 5], rfl, he12, by kernel_rfl, fun ac14 En15 Hv16 => ?_⟩
 refine d_e [0,3,8,9] [] En15 fun ac17 En18 => ?_
 refine then_normal ?_
 refine wp_seq ?_
 refine region_from ?_
 refine d_k [0,3,8,16,19] [] 4 En18 fun ac19 En20 => ?_
 refine f_o ?_
 refine m_l 0 En20 Hv16 fun ac21 En22 => ?_
 refine d_k [0,3,8,21] [] 6 En22 fun ac23 En24 => ?_
 refine f_o ?_
 refine m_m 120 [.slice ao5 (List.length (lsO n x 16777215 l s)) cp6, .bool (lsS n x 16777215 l s), .bool false] En24 Hv16 fun ac26 wo27 bk25 En28 Hv29 => ?_
 refine d_e [0,3,8,10] [] En28 fun ac30 En31 => ?_
 refine then_normal ?_
 refine d_s [0,3,8,10,11] [] En31 fun ac32 En33 => ?_
 refine wp_seq ?_
 refine region_cut (F := fun ac wo => ∃ (oa : Option Addr) (oc : Nat) (xs : List (RCer)) (ra : Option Addr) (rc : Nat) (rl : Bs) (s1 : Bool) (o1 : Bool), Env ac 69 [(0, pt br), (3, .func (.func 188) #[] #[]), (8, .slice none 0 0), (10, pt bk25), (11, .slice oa (List.length xs) oc)] ∧ Ev w [.box br [.slice a (List.length l) c, .bool s, .bool o] 120] wo [.box br [.slice ta7 (List.length (lsR n x 16777215 l s)) tc8, .bool (lsS n x 16777215 l s), .bool o] 120, .box bk25 [.slice ra (List.length rl) rc, .bool s1, .bool o1] 120, .vec oa oc 2 (List.flatMap fCer xs) 196, .grp (List.flatMap innCer xs)] ∧ (mn entM ((lsO n x 16777215 l s, lsS n x 16777215 l s, false) : PS) = (List.map (fun y : RCer => (y.1.l, List.map (fun y : RExt => (y.1, y.2.1.l)) y.2.1.l)) xs, rl, s1, o1)) ∧ (List.length xs ≤ List.length (lsO n x 16777215 l s) + 1) ∧ (∀ y ∈ xs, (List.length y.1.l ≤ 140737488351232 ∧ (List.length y.2.1.l ≤ 4294967296 ∧ ∀ z ∈ y.2.1.l, List.length z.2.1.l ≤ 140737488351232)))) ?_ ?_
 ·
  refine wp_block ?_
  have Hv34 : Ev w [.box br [.slice a (List.length l) c, .bool s, .bool o] 120] wo27 [.box br [.slice ta7 (List.length (lsR n x 16777215 l s)) tc8, .bool (lsS n x 16777215 l s), .bool o] 120, .vec ao5 cp6 1 (bys (lsO n x 16777215 l s)) 5, .box bk25 [.slice ao5 (List.length (lsO n x 16777215 l s)) cp6, .bool (lsS n x 16777215 l s), .bool false] 120, .vec none 0 2 (List.flatMap fCer []) 196] := Ev.nil (sz := 2) (T := 196) Hv29
  have Hv35 : Ev w [.box br [.slice a (List.length l) c, .bool s, .bool o] 120] wo27 [.box br [.slice ta7 (List.length (lsR n x 16777215 l s)) tc8, .bool (lsS n x 16777215 l s), .bool o] 120, .vec ao5 cp6 1 (bys (lsO n x 16777215 l s)) 5, .box bk25 [.slice ao5 (List.length (lsO n x 16777215 l s)) cp6, .bool (lsS n x 16777215 l s), .bool false] 120, .vec none 0 2 (List.flatMap fCer []) 196, .grp (List.flatMap innCer [])] := Ev.grp0 Hv34
  have hO32 : List.length (lsO n x 16777215 l s) ≤ 4294967295 := Nat.le_trans (tkO_len _ _ _) (Nat.le_of_lt_succ (nbV_4 hn l s))
  refine loop_m (fun ms36 ac wo => ∃ (oa : Option Addr) (oc : Nat) (xs : List (RCer)) (ra : Option Addr) (rc : Nat) (rl : Bs) (s1 : Bool) (o1 : Bool), ms36 = (bif s1 then 0 else List.length rl + 1 : Nat) ∧ Env ac 69 [(0, pt br), (3, .func (.func 188) #[] #[]), (8, .slice none 0 0), (10, pt bk25), (11, .slice oa (List.length xs) oc)] ∧ Ev w [.box br [.slice a (List.length l) c, .bool s, .bool o] 120] wo [.box bk25 [.slice ra (List.length rl) rc, .bool s1, .bool o1] 120, .box br [.slice ta7 (List.length (lsR n x 16777215 l s)) tc8, .bool (lsS n x 16777215 l s), .bool o] 120, .vec ao5 cp6 1 (bys (lsO n x 16777215 l s)) 5, .vec oa oc 2 (List.flatMap fCer xs) 196, .grp (List.flatMap innCer xs)] ∧ (Sub ao5 cp6 (lsO n x 16777215 l s) ra rc rl) ∧ (mn entM ((lsO n x 16777215 l s, lsS n x 16777215 l s, false) : PS) = (List.map (fun y : RCer => (y.1.l, List.map (fun y : RExt => (y.1, y.2.1.l)) y.2.1.l)) xs ++ (mn entM (rl, s1, o1)).1, (mn entM (rl, s1, o1)).2)) ∧ (List.length xs + List.length rl ≤ List.length (lsO n x 16777215 l s) + (bif s1 then 1 else 0)) ∧ (∀ y ∈ xs, (List.length y.1.l ≤ 140737488351232 ∧ (List.length y.2.1.l ≤ 4294967296 ∧ ∀ z ∈ y.2.1.l, List.length z.2.1.l ≤ 140737488351232)))) ⟨_, none, 0, [], ao5, cp6, (lsO n x 16777215 l s), (lsS n x 16777215 l s), false, rfl, En33.sb, Hv35.pk [2, 0, 1, 3, 4], Sub.self, rfl, (by rw [List.length_nil, Nat.zero_add]; exact Nat.le_add_right _ _), (fun y hy => by cases hy)⟩ ?_
  rintro mm42 ac38 wo39 ⟨oa, oc, xs, ra, rc, rl, s1, o1, rfl, En40, Hv41, hsu, hmn, hct, hsm⟩
  refine wp_seq ?_
  refine wp_seq ?_
  refine region_from ?_
  refine d_k [0,3,8,10,11,25] [] 3 En40 fun ac43 En44 => ?_
  refine f_o ?_
  refine m_l 0 En44 Hv41 fun ac45 En46 => ?_
  refine d_k [0,3,8,10,11,28] [] 6 En46 fun ac47 En48 => ?_
  rcases Bool.eq_false_or_eq_true (!s1) with hb49 | hb49
  ·
   have En50 := En48.fx (t := 28) (congrArg Value.bool hb49)
   have hp51 : ¬ (s1 = true) := by simpa using hb49
   refine d_k [0,3,8,10,11,28,31] [] 9 En50 fun ac52 En53 => ?_
   refine f_o ?_
   refine m_l 0 En53 Hv41 fun ac54 En55 => ?_
   refine d_e [0,3,8,10,11,35] [] En55 fun ac56 En57 => ?_
   refine then_normal ?_
   refine c_d (((List.length rl : Nat) : Int) > (0 : Int)) En57 (fun hc58 => ?_) (fun hc58 => ?_)
   ·
    refine wp_skip ?_
    refine then_normal ?_
    refine wp_block ?_
    refine region_from ?_
    refine d_k [0,3,8,10,11,36,37,38] [] 3 En57 fun ac59 En60 => ?_
    refine f_o ?_
    refine c_l [0] (M := [.box bk25 [.slice ra (List.length rl) rc, .bool s1, .bool o1] 120]) En60 Hv41 (fun hM74 => entry_go _ bk25 ra rc rl s1 o1 (hsu _ _ (bys_in Hv41.heap (k := 2) rfl [0] (by kernel_rfl) rfl (by first | omega | (simp; done) | (simp; omega)))) hM74) ?_
    rintro _ wo75 ⟨ta61, tc62, oaa65, oca66, bla67, oab68, ocb69, xsb70, rfl, he76, hs63, hpu64, hf71, hf72, hf73⟩
    refine ⟨_, _, [.box bk25 [.slice ta61 (List.length ((entM rl s1 o1).2.1)) tc62, .bool ((entM rl s1 o1).2.2.1), .bool ((entM rl s1 o1).2.2.2)] 120, .vec oaa65 oca66 1 (bys bla67) 5, .vec oab68 ocb69 2 (List.flatMap fExt xsb70) 147, .grp (List.flatMap innExt xsb70), .box br [.slice ta7 (List.length (lsR n x 16777215 l s)) tc8, .bool (lsS n x 16777215 l s), .bool o] 120, .vec ao5 cp6 1 (bys (lsO n x 16777215 l s)) 5, .vec oa oc 2 (List.flatMap fCer xs) 196, .grp (List.flatMap innCer xs)], rfl, he76, by kernel_rfl, fun ac78 En79 Hv80 => ?_⟩
    refine f_o ?_
    refine op_lit (d := some 40) (t := 81) (T := 196) (m := 1) (parts := #[(0, .agg #[.slice oaa65 (List.length bla67) oca66, .slice oab68 (List.length xsb70) ocb69])]) (xs := List.flatMap fCer ([(⟨oaa65, oca66, bla67⟩, ⟨oab68, ocb69, xsb70⟩, ())] : List (RCer))) (sz := 2) En79 (by kernel_rfl) (by kernel_rfl) rfl (by decide) Hv80 ?_
    intro ac82 wo83 bk81 En84 Hv85
    refine f_o ?_
    refine op_append (d := some 41) (t := 81) (tx := 81) (ty := 81) (k := 6) (p := List.length xs) (m := 1) (x := .slice (some ⟨bk81, 0, none⟩) 1 1) (bytes := 48) En84 (by kernel_rfl) Hv85 rfl (sv_len (f := fCer) (sz := 2) (fun _ => rfl) _) (Reads.src (size := 2) (tx := 81) (e' := 196) (by kernel_rfl) (Hv85.heap.reads (k := 8) rfl) rfl (fun e => by cases e) (flat_one (f := fCer) (fun _ => one_all rfl) _)) (by kernel_rfl) (z := .agg #[.slice none 0 0, .slice none 0 0]) (by kernel_rfl) rfl (by decide) (by have hb1 := mn_b1 s1; omega) (by unfold maxLen; have hb1 := mn_b1 s1; omega) ?_
    intro ac90 wo91 ao86 cp87 En92 Hv93 hnz _
    clear hnz
    rw [← List.flatMap_append] at Hv93
    have ehz88 : (List.length xs) + 1 = List.length (xs ++ ([(⟨oaa65, oca66, bla67⟩, ⟨oab68, ocb69, xsb70⟩, ())] : List (RCer))) := (by first | (simp; done) | (simp; omega) | omega)
    rw [ehz88] at En92
    refine d_e [0,3,8,10,11] [] En92 fun ac94 En95 => ?_
    have Hv96 : Ev w [.box br [.slice a (List.length l) c, .bool s, .bool o] 120] wo91 [.box bk25 [.slice ta61 (List.length ((entM rl s1 o1).2.1)) tc62, .bool ((entM rl s1 o1).2.2.1), .bool ((entM rl s1 o1).2.2.2)] 120, .box br [.slice ta7 (List.length (lsR n x 16777215 l s)) tc8, .bool (lsS n x 16777215 l s), .bool o] 120, .vec ao5 cp6 1 (bys (lsO n x 16777215 l s)) 5, .vec ao86 cp87 2 (List.flatMap fCer (xs ++ ([(⟨oaa65, oca66, bla67⟩, ⟨oab68, ocb69, xsb70⟩, ())] : List (RCer)))) 196, .vec (some ⟨bk81, 0, none⟩) 1 2 (List.flatMap fCer ([(⟨oaa65, oca66, bla67⟩, ⟨oab68, ocb69, xsb70⟩, ())] : List (RCer))) 196, .grp (List.flatMap innCer (xs ++ ([(⟨oaa65, oca66, bla67⟩, ⟨oab68, ocb69, xsb70⟩, ())] : List (RCer))))] := Ev.group (M := [.box bk25 [.slice ta61 (List.length ((entM rl s1 o1).2.1)) tc62, .bool ((entM rl s1 o1).2.2.1), .bool ((entM rl s1 o1).2.2.2)] 120, .box br [.slice ta7 (List.length (lsR n x 16777215 l s)) tc8, .bool (lsS n x 16777215 l s), .bool o] 120, .vec ao5 cp6 1 (bys (lsO n x 16777215 l s)) 5, .vec ao86 cp87 2 (List.flatMap fCer (xs ++ ([(⟨oaa65, oca66, bla67⟩, ⟨oab68, ocb69, xsb70⟩, ())] : List (RCer)))) 196, .vec (some ⟨bk81, 0, none⟩) 1 2 (List.flatMap fCer ([(⟨oaa65, oca66, bla67⟩, ⟨oab68, ocb69, xsb70⟩, ())] : List (RCer))) 196]) Hv93 [0,4,5,6,8] [7,1,2,3] (by kernel_rfl) (by rw [List.flatMap_append]; rfl) (by decide)
    refine block_normal ?_
    refine then_normal ?_
    have hl0 : 0 < List.length rl := by omega
    refine ⟨_, ⟨ao86, cp87, (xs ++ ([(⟨oaa65, oca66, bla67⟩, ⟨oab68, ocb69, xsb70⟩, ())] : List (RCer))), ta61, tc62, ((entM rl s1 o1).2.1), ((entM rl s1 o1).2.2.1), ((entM rl s1 o1).2.2.2), rfl, En95.sb, Hv96.pk [0, 1, 2, 3, 5], (hsu.trans hs63), (by rw [hmn, mn_step ent_dec (Bool.eq_false_iff.2 hp51) hl0, ← hpu64, List.map_append, List.append_assoc]; rfl), (mn_ct (Bool.eq_false_iff.2 hp51) hct (dec_lt (o := o1) ent_dec (Bool.eq_false_iff.2 hp51) hl0) (dec_le (o := o1) ent_dec (Bool.eq_false_iff.2 hp51)) hl0), (all_snoc hsm ⟨Nat.le_trans hf71 (by decide), hf72, hf73⟩)⟩, ?_⟩
    exact mn_mu (Bool.eq_false_iff.2 hp51) hl0 (dec_lt (o := o1) ent_dec (Bool.eq_false_iff.2 hp51) hl0)
   ·
    refine wp_exit ?_
    refine then_exit ?_
    refine then_exit ?_
    refine block_exit ?_
    exact ⟨rfl, ⟨oa, oc, xs, ra, rc, rl, s1, o1, En57.sb, Hv41.pk [1, 0, 3, 4], (by rw [hmn, mn_end (p := (rl, s1, o1)) (by first | exact .inl (by assumption) | exact .inr (show rl = [] from List.length_eq_zero_iff.1 (by omega))), List.append_nil]), (mn_c1 hct), hsm⟩⟩
  ·
   have En97 := En48.fx (t := 28) (congrArg Value.bool hb49)
   have hp98 : s1 = true := by simpa using hb49
   refine d_e [0,3,8,10,11,35] [] En97 fun ac99 En100 => ?_
   refine then_normal ?_
   refine c_f En100 ?_
   refine wp_exit ?_
   refine then_exit ?_
   refine then_exit ?_
   refine block_exit ?_
   exact ⟨rfl, ⟨oa, oc, xs, ra, rc, rl, s1, o1, En100.sb, Hv41.pk [1, 0, 3, 4], (by rw [hmn, mn_end (p := (rl, s1, o1)) (by first | exact .inl (by assumption) | exact .inr (show rl = [] from List.length_eq_zero_iff.1 (by omega))), List.append_nil]), (mn_c1 hct), hsm⟩⟩
 ·
  rintro ac101 wo102 ⟨oa, oc, xs, ra, rc, rl, s1, o1, En103, Hv104, hmn, hct, hsm⟩
  refine then_normal ?_
  refine wp_seq ?_
  rcases Bool.eq_false_or_eq_true (lsS n x 16777215 l s) with hb105 | hb105
  ·
   have hb105p : lsS n x 16777215 l s = true := hb105
   rcases Bool.eq_false_or_eq_true (o) with hb106 | hb106
   ·
    have hb106p : o = true := hb106
    refine r_c (fun ac wo => Env ac 69 [(0, pt br), (3, .func (.func 188) #[] #[]), (8, .slice none 0 0), (10, pt bk25), (11, .slice oa (List.length xs) oc)] ∧ Ev w [.box br [.slice a (List.length l) c, .bool s, .bool o] 120] wo [.box br [.slice ta7 (List.length (lsR n x 16777215 l s)) tc8, .bool true, .bool true] 120, .box bk25 [.slice ra (List.length rl) rc, .bool s1, .bool o1] 120, .vec oa oc 2 (List.flatMap fCer xs) 196, .grp (List.flatMap innCer xs)]) ?_ ?_
    ·
     refine h_s (fun wv => Ev w [.box br [.slice a (List.length l) c, .bool s, .bool o] 120] wv [.box br [.slice ta7 (List.length (lsR n x 16777215 l s)) tc8, .bool (lsS n x 16777215 l s), .bool o] 120]) [24] 28 ?_
     have wo107 := Hv104.trans (Ev.drew Hv104.heap)
     refine q_s [0,1,2,3,4] [] 23 En103 (wo107.pk [0]) fun ac188 En189 => ?_
     refine q_l 0 5 En189 (wo107.pk [0]) fun ac190 En191 => ?_
     refine q_s [6] [] 21 En191 (wo107.pk [0]) fun ac192 En193 => ?_
     have En194 := En193.fx (t := 47) (congrArg Value.bool hb105)
     have En195 := En194.fx (t := 48) (congrArg Value.bool hb105)
     refine q_s [7,8,9,10,11,12,13,14] [] 13 En195 (wo107.pk [0]) fun ac196 En197 => ?_
     refine q_l 0 15 En197 (wo107.pk [0]) fun ac198 En199 => ?_
     refine q_s [16] [] 11 En199 (wo107.pk [0]) fun ac200 En201 => ?_
     have En202 := En201.fx (t := 57) (congrArg Value.bool hb106)
     have En203 := En202.fx (t := 58) (congrArg Value.bool hb106)
     refine q_s [17,18,19,20,21,22,23] [] 4 En203 (wo107.pk [0]) fun ac204 En205 => ?_
     refine q_t 24 ?_
     refine m_s 0 [.box br [.slice ta7 (List.length (lsR n x 16777215 l s)) tc8, .bool true, .bool o] 120, .box bk25 [.slice ra (List.length rl) rc, .bool s1, .bool o1] 120, .vec oa oc 2 (List.flatMap fCer xs) 196, .grp (List.flatMap innCer xs)] En205 wo107 fun ac206 wo207 En208 Hv209 => ?_
     refine ⟨q_y, ?_⟩
     refine q_n [25,26] [] 1 En208 fun ac210 En211 => ?_
     refine q_t 27 ?_
     refine m_s 0 [.box br [.slice ta7 (List.length (lsR n x 16777215 l s)) tc8, .bool true, .bool true] 120, .box bk25 [.slice ra (List.length rl) rc, .bool s1, .bool o1] 120, .vec oa oc 2 (List.flatMap fCer xs) 196, .grp (List.flatMap innCer xs)] En211 Hv209 fun ac212 wo213 En214 Hv215 => ?_
     refine ⟨q_y, ?_⟩
     exact h_e ⟨En214.sb, Hv215.pk [0, 1, 2, 3]⟩
    rintro ac216 wo217 ⟨En218, Hv219⟩
    refine then_normal ?_
    refine d_s [0,3,8,10,11] [] En218 fun ac220 En221 => ?_
    refine wp_ret ?_
    refine d_ret1 (t := 8) (v := .slice oa (List.length xs) oc) En221 (by kernel_rfl) (by kernel_rfl) ?_
    have e1 : (lsS n x 16777215 l s || s1) = true := by rw [hb105]; rfl
    have e2 : (o || o1) = true := by rw [hb106]; rfl
    have hfin : Ev w [.box br [.slice a (List.length l) c, .bool s, .bool o] 120] wo217 [.box br [.slice ta7 (List.length (lsR n x 16777215 l s)) tc8, .bool (lsS n x 16777215 l s || s1), .bool (o || o1)] 120, .vec oa oc 2 (List.flatMap fCer xs) 196, .grp (List.flatMap innCer xs)] := by rw [e1, e2]; exact Hv219.pk [0, 2, 3]
    exact ⟨ta7, tc8, oa, oc, xs, rfl, by rw [hmn]; exact hfin, hs9, by rw [hmn], hct, hsm⟩
   ·
    have hb106p : ¬ (o = true) := Bool.eq_false_iff.1 hb106
    refine r_c (fun ac wo => Env ac 69 [(0, pt br), (3, .func (.func 188) #[] #[]), (8, .slice none 0 0), (10, pt bk25), (11, .slice oa (List.length xs) oc)] ∧ Ev w [.box br [.slice a (List.length l) c, .bool s, .bool o] 120] wo [.box br [.slice ta7 (List.length (lsR n x 16777215 l s)) tc8, .bool true, .bool o1] 120, .box bk25 [.slice ra (List.length rl) rc, .bool s1, .bool o1] 120, .vec oa oc 2 (List.flatMap fCer xs) 196, .grp (List.flatMap innCer xs)]) ?_ ?_
    ·
     refine h_s (fun wv => Ev w [.box br [.slice a (List.length l) c, .bool s, .bool o] 120] wv [.box br [.slice ta7 (List.length (lsR n x 16777215 l s)) tc8, .bool (lsS n x 16777215 l s), .bool o] 120, .box bk25 [.slice ra (List.length rl) rc, .bool s1, .bool o1] 120]) [24] 28 ?_
     have wo222 := Hv104.trans (Ev.drew Hv104.heap)
     refine q_s [0,1,2,3,4] [] 23 En103 (wo222.pk [0, 1]) fun ac315 En316 => ?_
     refine q_l 0 5 En316 (wo222.pk [0, 1]) fun ac317 En318 => ?_
     refine q_s [6] [] 21 En318 (wo222.pk [0, 1]) fun ac319 En320 => ?_
     have En321 := En320.fx (t := 47) (congrArg Value.bool hb105)
     have En322 := En321.fx (t := 48) (congrArg Value.bool hb105)
     refine q_s [7,8,9,10,11,12,13,14] [] 13 En322 (wo222.pk [0, 1]) fun ac323 En324 => ?_
     refine q_l 0 15 En324 (wo222.pk [0, 1]) fun ac325 En326 => ?_
     refine q_s [16] [] 11 En326 (wo222.pk [0, 1]) fun ac327 En328 => ?_
     have En329 := En328.fx (t := 57) (congrArg Value.bool hb106)
     have En330 := En329.fx (t := 58) (congrArg Value.bool hb106)
     refine q_s [17,18,19] [] 8 En330 (wo222.pk [0, 1]) fun ac331 En332 => ?_
     refine q_l 1 20 En332 (wo222.pk [0, 1]) fun ac333 En334 => ?_
     refine q_s [21,22,23] [] 4 En334 (wo222.pk [0, 1]) fun ac335 En336 => ?_
     refine q_t 24 ?_
     refine m_s 0 [.box br [.slice ta7 (List.length (lsR n x 16777215 l s)) tc8, .bool true, .bool o] 120, .box bk25 [.slice ra (List.length rl) rc, .bool s1, .bool o1] 120, .vec oa oc 2 (List.flatMap fCer xs) 196, .grp (List.flatMap innCer xs)] En336 wo222 fun ac337 wo338 En339 Hv340 => ?_
     refine ⟨q_y, ?_⟩
     refine q_n [25,26] [] 1 En339 fun ac341 En342 => ?_
     refine q_t 27 ?_
     refine m_s 0 [.box br [.slice ta7 (List.length (lsR n x 16777215 l s)) tc8, .bool true, .bool o1] 120, .box bk25 [.slice ra (List.length rl) rc, .bool s1, .bool o1] 120, .vec oa oc 2 (List.flatMap fCer xs) 196, .grp (List.flatMap innCer xs)] En342 Hv340 fun ac343 wo344 En345 Hv346 => ?_
     refine ⟨q_y, ?_⟩
     exact h_e ⟨En345.sb, Hv346.pk [0, 1, 2, 3]⟩
    rintro ac347 wo348 ⟨En349, Hv350⟩
    refine then_normal ?_
    refine d_s [0,3,8,10,11] [] En349 fun ac351 En352 => ?_
    refine wp_ret ?_
    refine d_ret1 (t := 8) (v := .slice oa (List.length xs) oc) En352 (by kernel_rfl) (by kernel_rfl) ?_
    have e1 : (lsS n x 16777215 l s || s1) = true := by rw [hb105]; rfl
    have e2 : (o || o1) = o1 := by rw [hb106]; rfl
    have hfin : Ev w [.box br [.slice a (List.length l) c, .bool s, .bool o] 120] wo348 [.box br [.slice ta7 (List.length (lsR n x 16777215 l s)) tc8, .bool (lsS n x 16777215 l s || s1), .bool (o || o1)] 120, .vec oa oc 2 (List.flatMap fCer xs) 196, .grp (List.flatMap innCer xs)] := by rw [e1, e2]; exact Hv350.pk [0, 2, 3]
    exact ⟨ta7, tc8, oa, oc, xs, rfl, by rw [hmn]; exact hfin, hs9, by rw [hmn], hct, hsm⟩
  ·
   have hb105p : ¬ (lsS n x 16777215 l s = true) := Bool.eq_false_iff.1 hb105
   rcases Bool.eq_false_or_eq_true (o) with hb353 | hb353
   ·
    have hb353p : o = true := hb353
    refine r_c (fun ac wo => Env ac 69 [(0, pt br), (3, .func (.func 188) #[] #[]), (8, .slice none 0 0), (10, pt bk25), (11, .slice oa (List.length xs) oc)] ∧ Ev w [.box br [.slice a (List.length l) c, .bool s, .bool o] 120] wo [.box br [.slice ta7 (List.length (lsR n x 16777215 l s)) tc8, .bool s1, .bool true] 120, .box bk25 [.slice ra (List.length rl) rc, .bool s1, .bool o1] 120, .vec oa oc 2 (List.flatMap fCer xs) 196, .grp (List.flatMap innCer xs)]) ?_ ?_
    ·
     refine h_s (fun wv => Ev w [.box br [.slice a (List.length l) c, .bool s, .bool o] 120] wv [.box br [.slice ta7 (List.length (lsR n x 16777215 l s)) tc8, .bool (lsS n x 16777215 l s), .bool o] 120, .box bk25 [.slice ra (List.length rl) rc, .bool s1, .bool o1] 120]) [24] 28 ?_
     have wo354 := Hv104.trans (Ev.drew Hv104.heap)
     refine q_s [0,1,2,3,4] [] 23 En103 (wo354.pk [0, 1]) fun ac469 En470 => ?_
     refine q_l 0 5 En470 (wo354.pk [0, 1]) fun ac471 En472 => ?_
     refine q_s [6] [] 21 En472 (wo354.pk [0, 1]) fun ac473 En474 => ?_
     have En475 := En474.fx (t := 47) (congrArg Value.bool hb105)
     have En476 := En475.fx (t := 48) (congrArg Value.bool hb105)
     refine q_s [7,8,9] [] 18 En476 (wo354.pk [0, 1]) fun ac477 En478 => ?_
     refine q_l 1 10 En478 (wo354.pk [0, 1]) fun ac479 En480 => ?_
     refine q_s [11,12,13,14] [] 13 En480 (wo354.pk [0, 1]) fun ac481 En482 => ?_
     refine q_l 0 15 En482 (wo354.pk [0, 1]) fun ac483 En484 => ?_
     refine q_s [16] [] 11 En484 (wo354.pk [0, 1]) fun ac485 En486 => ?_
     have En487 := En486.fx (t := 57) (congrArg Value.bool hb353)
     have En488 := En487.fx (t := 58) (congrArg Value.bool hb353)
     refine q_s [17,18,19,20,21,22,23] [] 4 En488 (wo354.pk [0, 1]) fun ac489 En490 => ?_
     refine q_t 24 ?_
     refine m_s 0 [.box br [.slice ta7 (List.length (lsR n x 16777215 l s)) tc8, .bool s1, .bool o] 120, .box bk25 [.slice ra (List.length rl) rc, .bool s1, .bool o1] 120, .vec oa oc 2 (List.flatMap fCer xs) 196, .grp (List.flatMap innCer xs)] En490 wo354 fun ac491 wo492 En493 Hv494 => ?_
     refine ⟨q_y, ?_⟩
     refine q_n [25,26] [] 1 En493 fun ac495 En496 => ?_
     refine q_t 27 ?_
     refine m_s 0 [.box br [.slice ta7 (List.length (lsR n x 16777215 l s)) tc8, .bool s1, .bool true] 120, .box bk25 [.slice ra (List.length rl) rc, .bool s1, .bool o1] 120, .vec oa oc 2 (List.flatMap fCer xs) 196, .grp (List.flatMap innCer xs)] En496 Hv494 fun ac497 wo498 En499 Hv500 => ?_
     refine ⟨q_y, ?_⟩
     exact h_e ⟨En499.sb, Hv500.pk [0, 1, 2, 3]⟩
    rintro ac501 wo502 ⟨En503, Hv504⟩
    refine then_normal ?_
    refine d_s [0,3,8,10,11] [] En503 fun ac505 En506 => ?_
    refine wp_ret ?_
    refine d_ret1 (t := 8) (v := .slice oa (List.length xs) oc) En506 (by kernel_rfl) (by kernel_rfl) ?_
    have e1 : (lsS n x 16777215 l s || s1) = s1 := by rw [hb105]; rfl
    have e2 : (o || o1) = true := by rw [hb353]; rfl
    have hfin : Ev w [.box br [.slice a (List.length l) c, .bool s, .bool o] 120] wo502 [.box br [.slice ta7 (List.length (lsR n x 16777215 l s)) tc8, .bool (lsS n x 16777215 l s || s1), .bool (o || o1)] 120, .vec oa oc 2 (List.flatMap fCer xs) 196, .grp (List.flatMap innCer xs)] := by rw [e1, e2]; exact Hv504.pk [0, 2, 3]
    exact ⟨ta7, tc8, oa, oc, xs, rfl, by rw [hmn]; exact hfin, hs9, by rw [hmn], hct, hsm⟩
   ·
    have hb353p : ¬ (o = true) := Bool.eq_false_iff.1 hb353
    refine r_c (fun ac wo => Env ac 69 [(0, pt br), (3, .func (.func 188) #[] #[]), (8, .slice none 0 0), (10, pt bk25), (11, .slice oa (List.length xs) oc)] ∧ Ev w [.box br [.slice a (List.length l) c, .bool s, .bool o] 120] wo [.box br [.slice ta7 (List.length (lsR n x 16777215 l s)) tc8, .bool s1, .bool o1] 120, .box bk25 [.slice ra (List.length rl) rc, .bool s1, .bool o1] 120, .vec oa oc 2 (List.flatMap fCer xs) 196, .grp (List.flatMap innCer xs)]) ?_ ?_
    ·
     refine h_s (fun wv => Ev w [.box br [.slice a (List.length l) c, .bool s, .bool o] 120] wv [.box br [.slice ta7 (List.length (lsR n x 16777215 l s)) tc8, .bool (lsS n x 16777215 l s), .bool o] 120, .box bk25 [.slice ra (List.length rl) rc, .bool s1, .bool o1] 120]) [24] 28 ?_
     have wo507 := Hv104.trans (Ev.drew Hv104.heap)
     refine q_s [0,1,2,3,4] [] 23 En103 (wo507.pk [0, 1]) fun ac642 En643 => ?_
     refine q_l 0 5 En643 (wo507.pk [0, 1]) fun ac644 En645 => ?_
     refine q_s [6] [] 21 En645 (wo507.pk [0, 1]) fun ac646 En647 => ?_
     have En648 := En647.fx (t := 47) (congrArg Value.bool hb105)
     have En649 := En648.fx (t := 48) (congrArg Value.bool hb105)
     refine q_s [7,8,9] [] 18 En649 (wo507.pk [0, 1]) fun ac650 En651 => ?_
     refine q_l 1 10 En651 (wo507.pk [0, 1]) fun ac652 En653 => ?_
     refine q_s [11,12,13,14] [] 13 En653 (wo507.pk [0, 1]) fun ac654 En655 => ?_
     refine q_l 0 15 En655 (wo507.pk [0, 1]) fun ac656 En657 => ?_
     refine q_s [16] [] 11 En657 (wo507.pk [0, 1]) fun ac658 En659 => ?_
     have En660 := En659.fx (t := 57) (congrArg Value.bool hb353)
     have En661 := En660.fx (t := 58) (congrArg Value.bool hb353)
     refine q_s [17,18,19] [] 8 En661 (wo507.pk [0, 1]) fun ac662 En663 => ?_
     refine q_l 1 20 En663 (wo507.pk [0, 1]) fun ac664 En665 => ?_
     refine q_s [21,22,23] [] 4 En665 (wo507.pk [0, 1]) fun ac666 En667 => ?_
     refine q_t 24 ?_
     refine m_s 0 [.box br [.slice ta7 (List.length (lsR n x 16777215 l s)) tc8, .bool s1, .bool o] 120, .box bk25 [.slice ra (List.length rl) rc, .bool s1, .bool o1] 120, .vec oa oc 2 (List.flatMap fCer xs) 196, .grp (List.flatMap innCer xs)] En667 wo507 fun ac668 wo669 En670 Hv671 => ?_
     refine ⟨q_y, ?_⟩
     refine q_n [25,26] [] 1 En670 fun ac672 En673 => ?_
     refine q_t 27 ?_
     refine m_s 0 [.box br [.slice ta7 (List.length (lsR n x 16777215 l s)) tc8, .bool s1, .bool o1] 120, .box bk25 [.slice ra (List.length rl) rc, .bool s1, .bool o1] 120, .vec oa oc 2 (List.flatMap fCer xs) 196, .grp (List.flatMap innCer xs)] En673 Hv671 fun ac674 wo675 En676 Hv677 => ?_
     refine ⟨q_y, ?_⟩
     exact h_e ⟨En676.sb, Hv677.pk [0, 1, 2, 3]⟩
    rintro ac678 wo679 ⟨En680, Hv681⟩
    refine then_normal ?_
    refine d_s [0,3,8,10,11] [] En680 fun ac682 En683 => ?_
    refine wp_ret ?_
    refine d_ret1 (t := 8) (v := .slice oa (List.length xs) oc) En683 (by kernel_rfl) (by kernel_rfl) ?_
    have e1 : (lsS n x 16777215 l s || s1) = s1 := by rw [hb105]; rfl
    have e2 : (o || o1) = o1 := by rw [hb353]; rfl
    have hfin : Ev w [.box br [.slice a (List.length l) c, .bool s, .bool o] 120] wo679 [.box br [.slice ta7 (List.length (lsR n x 16777215 l s)) tc8, .bool (lsS n x 16777215 l s || s1), .bool (o || o1)] 120, .vec oa oc 2 (List.flatMap fCer xs) 196, .grp (List.flatMap innCer xs)] := by rw [e1, e2]; exact Hv681.pk [0, 2, 3]
    exact ⟨ta7, tc8, oa, oc, xs, rfl, by rw [hmn]; exact hfin, hs9, by rw [hmn], hct, hsm⟩

theorem getcert1 (w : World) (br : Nat) (a : Option Addr) (c : Nat) (l : List UInt8) (s o : Bool) (i : InB w [.box br [.slice a (List.length l) c, .bool s, .bool o] 120] a c l) (hH : Heap w [.box br [.slice a (List.length l) c, .bool s, .bool o] 120]) : Calls Try.prog 186 #[pt br] w fun e w' => ∃ ta tc oaa oca bla oab ocb xsb, e = .returned (.agg #[.slice oaa (List.length bla) oca, .slice oab (List.length xsb) ocb]) ∧ Ev w [.box br [.slice a (List.length l) c, .bool s, .bool o] 120] w' [.box br [.slice ta (List.length ((certM l s o).2.1)) tc, .bool ((certM l s o).2.2.1), .bool ((certM l s o).2.2.2)] 120, .vec oaa oca 1 (bys bla) 5, .vec oab ocb 2 (List.flatMap fCer xsb) 196, .grp (List.flatMap innCer xsb)] ∧ Sub a c l ta tc (certM l s o).2.1 ∧ (bla, List.map (fun y : RCer => (y.1.l, List.map (fun y : RExt => (y.1, y.2.1.l)) y.2.1.l)) xsb) = (certM l s o).1 ∧ List.length bla ≤ 4294967296 ∧ List.length xsb ≤ 4294967296 ∧ ∀ y ∈ xsb, (List.length y.1.l ≤ 140737488351232 ∧ (List.length y.2.1.l ≤ 4294967296 ∧ ∀ z ∈ y.2.1.l, List.length z.2.1.l ≤ 140737488351232)) := by
 refine d_0 [(0, pt br)] 10 Go.Proofs.Try.func186 Go.Proofs.Try.ntmps186 (hH) fun act0 En0 Hv0 => ?_
 refine wp_seq ?_
 refine region_from ?_
 refine f_o ?_
 refine m_z 83 [.slice none 0 0, .slice none 0 0] En0 Hv0 fun ac2 wo3 bk1 En4 Hv5 => ?_
 refine f_e ?_
 refine then_normal ?_
 refine wp_seq ?_
 refine region_from ?_
 refine d_k [0,2,4] [] 1 En4 fun ac6 En7 => ?_
 refine f_o ?_
 refine c_l [0] (M := [.box br [.slice a (List.length l) c, .bool s, .bool o] 120]) En7 Hv5 (fun hM13 => list_go _ br 1 (by omega) 0 255 (by omega) (by omega) a c l s o ((i.ev Hv5).pick [0] (by kernel_rfl)) hM13) ?_
 rintro _ wo14 ⟨ao8, cp9, ta10, tc11, rfl, he15, hs12⟩
 refine ⟨_, _, [.box br [.slice ta10 (List.length (lsR 1 0 255 l s)) tc11, .bool (lsS 1 0 255 l s), .bool o] 120, .vec ao8 cp9 1 (bys (lsO 1 0 255 l s)) 5, .box bk1 [.slice none 0 0, .slice none 0 0] 83], rfl, he15, by kernel_rfl, fun ac17 En18 Hv19 => ?_⟩
 refine d_e [0,2,3] [] En18 fun ac20 En21 => ?_
 refine then_normal ?_
 refine wp_seq ?_
 refine region_from ?_
 refine d_k [0,2,6,7] [] 2 En21 fun ac22 En23 => ?_
 refine f_o ?_
 refine c_l [0] (M := [.box br [.slice ta10 (List.length (lsR 1 0 255 l s)) tc11, .bool (lsS 1 0 255 l s), .bool o] 120]) En23 Hv19 (fun hM33 => many_cer _ br 3 (by omega) 0 (by omega) ta10 tc11 (lsR 1 0 255 l s) (lsS 1 0 255 l s) o (hs12 _ _ ((i.ev Hv19).pick [0] (by kernel_rfl))) hM33) ?_
 rintro _ wo34 ⟨ta24, tc25, oa26, oc27, xs28, rfl, he35, hs29, hmn30, hct31, hsm32⟩
 refine ⟨_, _, [.box br [.slice ta24 (List.length (lsR 3 0 16777215 (lsR 1 0 255 l s) (lsS 1 0 255 l s))) tc25, .bool (lsS 3 0 16777215 (lsR 1 0 255 l s) (lsS 1 0 255 l s) || (mn entM ((lsO 3 0 16777215 (lsR 1 0 255 l s) (lsS 1 0 255 l s), lsS 3 0 16777215 (lsR 1 0 255 l s) (lsS 1 0 255 l s), false) : PS)).2.2.1), .bool (o || (mn entM ((lsO 3 0 16777215 (lsR 1 0 255 l s) (lsS 1 0 255 l s), lsS 3 0 16777215 (lsR 1 0 255 l s) (lsS 1 0 255 l s), false) : PS)).2.2.2)] 120, .vec oa26 oc27 2 (List.flatMap fCer xs28) 196, .grp (List.flatMap innCer xs28), .vec ao8 cp9 1 (bys (lsO 1 0 255 l s)) 5, .box bk1 [.slice none 0 0, .slice none 0 0] 83], rfl, he35, by kernel_rfl, fun ac37 En38 Hv39 => ?_⟩
 refine d_k [0,2,9] [] 4 En38 fun ac40 En41 => ?_
 refine f_o ?_
 refine m_g 4 0 2 [.slice ao8 (List.length (lsO 1 0 255 l s)) cp9, .slice oa26 (List.length xs28) oc27] [.slice ao8 (List.length (lsO 1 0 255 l s)) cp9, .slice oa26 (List.length xs28) oc27] [.box br [.slice ta24 (List.length (lsR 3 0 16777215 (lsR 1 0 255 l s) (lsS 1 0 255 l s))) tc25, .bool (lsS 3 0 16777215 (lsR 1 0 255 l s) (lsS 1 0 255 l s) || (mn entM ((lsO 3 0 16777215 (lsR 1 0 255 l s) (lsS 1 0 255 l s), lsS 3 0 16777215 (lsR 1 0 255 l s) (lsS 1 0 255 l s), false) : PS)).2.2.1), .bool (o || (mn entM ((lsO 3 0 16777215 (lsR 1 0 255 l s) (lsS 1 0 255 l s), lsS 3 0 16777215 (lsR 1 0 255 l s) (lsS 1 0 255 l s), false) : PS)).2.2.2)] 120, .vec oa26 oc27 2 (List.flatMap fCer xs28) 196, .grp (List.flatMap innCer xs28), .vec ao8 cp9 1 (bys (lsO 1 0 255 l s)) 5, .box bk1 [.slice ao8 (List.length (lsO 1 0 255 l s)) cp9, .slice oa26 (List.length xs28) oc27] 83] En41 Hv39 rfl rfl (by simp) (one_all (by kernel_rfl)) rfl rfl fun ac42 wo43 En44 Hv45 => ?_
 refine f_e ?_
 refine then_normal ?_
 refine wp_ret ?_
 refine d_cell1 (v := .agg #[.slice ao8 (List.length (lsO 1 0 255 l s)) cp9, .slice oa26 (List.length xs28) oc27]) (t := 2) (T := 83) (ad := ⟨bk1, 0, none⟩) En44 (by kernel_rfl) (by kernel_rfl) (Ev.cellAgg (t := 83) (k := 4) (off := 0) (m := 2) (xs := [.slice ao8 (List.length (lsO 1 0 255 l s)) cp9, .slice oa26 (List.length xs28) oc27]) Hv45 rfl rfl rfl (by kernel_rfl) (by kernel_rfl)) ?_
 exact ⟨ta24, tc25, ao8, cp9, (lsO 1 0 255 l s), oa26, oc27, xs28, rfl, Hv45.pk [0, 3, 1, 2], (hs12.trans hs29), (by rw [hmn30]; rfl), (Nat.le_of_succ_le (lsO_32 (by decide) _ _)), (Nat.le_trans hct31 (lsO_32 (by decide) _ _)), hsm32⟩

theorem got_getcert (w : World) (a : Option Addr) (c : Nat) (l : Bs) (i : InB w [] a c l) : Calls Try.prog 185 #[.slice a (List.length l) c, .func (.func 186) #[] #[]] w fun e w' => ∃ oaa oca bla oab ocb xsb, e = .returned (.tuple #[.agg #[.slice oaa (List.length bla) oca, .slice oab (List.length xsb) ocb], .int .i64 (gotA (certM l false false))]) ∧ Ev w [] w' [.vec oaa oca 1 (bys bla) 5, .vec oab ocb 2 (List.flatMap fCer xsb) 196, .grp (List.flatMap innCer xsb)] ∧ (bla, List.map (fun y : RCer => (y.1.l, List.map (fun y : RExt => (y.1, y.2.1.l)) y.2.1.l)) xsb) = gotV ([], []) (certM l false false) ∧ List.length bla ≤ 4294967296 ∧ List.length xsb ≤ 4294967296 ∧ ∀ y ∈ xsb, (List.length y.1.l ≤ 140737488351232 ∧ (List.length y.2.1.l ≤ 4294967296 ∧ ∀ z ∈ y.2.1.l, List.length z.2.1.l ≤ 140737488351232)) := by
 refine d_0 [(0, .slice a (List.length l) c), (1, .func (.func 186) #[] #[])] 36 Go.Proofs.Try.func185 Go.Proofs.Try.ntmps185 (Heap.nil _) fun act0 En0 Hv0 => ?_
 refine wp_seq ?_
 refine region_from ?_
 refine f_o ?_
 refine m_z 83 [.slice none 0 0, .slice none 0 0] En0 Hv0 fun ac2 wo3 bk1 En4 Hv5 => ?_
 refine d_e [0,1,4,5] [] En4 fun ac6 En7 => ?_
 refine then_normal ?_
 refine wp_seq ?_
 refine region_from ?_
 refine f_o ?_
 refine m_z 83 [.slice none 0 0, .slice none 0 0] En7 Hv5 fun ac9 wo10 bk8 En11 Hv12 => ?_
 refine f_e ?_
 refine then_normal ?_
 refine wp_seq ?_
 refine region_from ?_
 refine d_k [1,4,5,6,10] [] 2 En11 fun ac13 En14 => ?_
 refine f_o ?_
 refine m_m 120 [.slice a (List.length l) c, .bool false, .bool false] En14 Hv12 fun ac16 wo17 bk15 En18 Hv19 => ?_
 refine d_e [1,4,5,6,7] [] En18 fun ac20 En21 => ?_
 refine then_normal ?_
 refine wp_seq ?_
 refine region_from ?_
 refine d_k [4,5,6,7,12,13] [] 2 En21 fun ac22 En23 => ?_
 refine f_o ?_
 refine c_l [2] (M := [.box bk15 [.slice a (List.length l) c, .bool false, .bool false] 120]) En23 Hv19 (fun hM37 => getcert1 _ bk15 a c l false false ((i.ev Hv19).pick [2] (by kernel_rfl)) hM37) ?_
 rintro _ wo38 ⟨ta24, tc25, oaa28, oca29, bla30, oab31, ocb32, xsb33, rfl, he39, hs26, hpu27, hf34, hf35, hf36⟩
 refine ⟨_, _, [.box bk15 [.slice ta24 (List.length ((certM l false false).2.1)) tc25, .bool ((certM l false false).2.2.1), .bool ((certM l false false).2.2.2)] 120, .vec oaa28 oca29 1 (bys bla30) 5, .vec oab31 ocb32 2 (List.flatMap fCer xsb33) 196, .grp (List.flatMap innCer xsb33), .box bk1 [.slice none 0 0, .slice none 0 0] 83, .box bk8 [.slice none 0 0, .slice none 0 0] 83], rfl, he39, by kernel_rfl, fun ac41 En42 Hv43 => ?_⟩
 refine f_o ?_
 refine m_z 83 [.slice none 0 0, .slice none 0 0] En42 Hv43 fun ac45 wo46 bk44 En47 Hv48 => ?_
 refine f_o ?_
 refine m_g 6 0 2 [.slice oaa28 (List.length bla30) oca29, .slice oab31 (List.length xsb33) ocb32] [.slice oaa28 (List.length bla30) oca29, .slice oab31 (List.length xsb33) ocb32] [.box bk15 [.slice ta24 (List.length ((certM l false false).2.1)) tc25, .bool ((certM l false false).2.2.1), .bool ((certM l false false).2.2.2)] 120, .vec oaa28 oca29 1 (bys bla30) 5, .vec oab31 ocb32 2 (List.flatMap fCer xsb33) 196, .grp (List.flatMap innCer xsb33), .box bk1 [.slice none 0 0, .slice none 0 0] 83, .box bk8 [.slice none 0 0, .slice none 0 0] 83, .box bk44 [.slice oaa28 (List.length bla30) oca29, .slice oab31 (List.length xsb33) ocb32] 83] En47 Hv48 rfl rfl (by simp) (one_all (by kernel_rfl)) rfl rfl fun ac49 wo50 En51 Hv52 => ?_
 refine f_e ?_
 refine then_normal ?_
 refine wp_seq ?_
 refine wp_block ?_
 refine wp_seq ?_
 refine region_from ?_
 refine d_k [4,5,6,7,8,18] [] 3 En51 fun ac53 En54 => ?_
 refine f_o ?_
 refine m_l 0 En54 Hv52 fun ac55 En56 => ?_
 refine d_k [4,5,6,7,8,20] [] 5 En56 fun ac57 En58 => ?_
 rcases Bool.eq_false_or_eq_true ((certM l false false).2.2.1) with hb59 | hb59
 ·
  have En60 := En58.fx (t := 20) (congrArg Value.bool hb59)
  have hp61 : (certM l false false).2.2.1 = true := hb59
  refine d_e [4,5,6,7,8,15] [] En60 fun ac62 En63 => ?_
  refine then_normal ?_
  refine c_t En63 ?_
  refine wp_seq ?_
  refine region_from ?_
  refine f_o ?_
  refine m_a 5 0 2 [.slice none 0 0, .slice none 0 0] En63 Hv52 rfl rfl rfl fun ac64 En65 => ?_
  refine f_o ?_
  refine m_g 4 0 2 [.slice none 0 0, .slice none 0 0] [.slice none 0 0, .slice none 0 0] [.box bk15 [.slice ta24 (List.length ((certM l false false).2.1)) tc25, .bool ((certM l false false).2.2.1), .bool ((certM l false false).2.2.2)] 120, .vec oaa28 oca29 1 (bys bla30) 5, .vec oab31 ocb32 2 (List.flatMap fCer xsb33) 196, .grp (List.flatMap innCer xsb33), .box bk1 [.slice none 0 0, .slice none 0 0] 83, .box bk8 [.slice none 0 0, .slice none 0 0] 83, .box bk44 [.slice oaa28 (List.length bla30) oca29, .slice oab31 (List.length xsb33) ocb32] 83] En65 Hv52 rfl rfl (by simp) (one_all (by kernel_rfl)) rfl rfl fun ac66 wo67 En68 Hv69 => ?_
  refine d_e [4,5,6,7,8] [] En68 fun ac70 En71 => ?_
  refine then_normal ?_
  refine wp_ret ?_
  refine block_ret ?_
  refine then_ret ?_
  refine d_cell_tmp (v := .agg #[.slice none 0 0, .slice none 0 0]) (x := .int .i64 50) (t := 4) (T := 83) (ad := ⟨bk1, 0, none⟩) (u := 5) En71 (by kernel_rfl) (by kernel_rfl) (Ev.cellAgg (t := 83) (k := 4) (off := 0) (m := 2) (xs := [.slice none 0 0, .slice none 0 0]) Hv69 rfl rfl rfl (by kernel_rfl) (by kernel_rfl)) (by kernel_rfl) ?_
  have eA : gotA (certM l false false) = 50 := Eq.symm (by first | exact end_1 (by assumption) | exact end_2 (by omega) | exact end_3 (by assumption) (by omega) (by assumption))
  rw [gotV_n eA (by decide), eA]
  have Hv72 : Ev w [] wo67 [.box bk15 [.slice ta24 (List.length ((certM l false false).2.1)) tc25, .bool ((certM l false false).2.2.1), .bool ((certM l false false).2.2.2)] 120, .vec oaa28 oca29 1 (bys bla30) 5, .vec oab31 ocb32 2 (List.flatMap fCer xsb33) 196, .grp (List.flatMap innCer xsb33), .box bk1 [.slice none 0 0, .slice none 0 0] 83, .box bk8 [.slice none 0 0, .slice none 0 0] 83, .box bk44 [.slice oaa28 (List.length bla30) oca29, .slice oab31 (List.length xsb33) ocb32] 83, .vec none 0 1 (bys []) 5] := Ev.nil (sz := 1) (T := 5) Hv69
  have Hv73 : Ev w [] wo67 [.box bk15 [.slice ta24 (List.length ((certM l false false).2.1)) tc25, .bool ((certM l false false).2.2.1), .bool ((certM l false false).2.2.2)] 120, .vec oaa28 oca29 1 (bys bla30) 5, .vec oab31 ocb32 2 (List.flatMap fCer xsb33) 196, .grp (List.flatMap innCer xsb33), .box bk1 [.slice none 0 0, .slice none 0 0] 83, .box bk8 [.slice none 0 0, .slice none 0 0] 83, .box bk44 [.slice oaa28 (List.length bla30) oca29, .slice oab31 (List.length xsb33) ocb32] 83, .vec none 0 1 (bys []) 5, .vec none 0 2 (List.flatMap fCer []) 196] := Ev.nil (sz := 2) (T := 196) Hv72
  have Hv74 : Ev w [] wo67 [.box bk15 [.slice ta24 (List.length ((certM l false false).2.1)) tc25, .bool ((certM l false false).2.2.1), .bool ((certM l false false).2.2.2)] 120, .vec oaa28 oca29 1 (bys bla30) 5, .vec oab31 ocb32 2 (List.flatMap fCer xsb33) 196, .grp (List.flatMap innCer xsb33), .box bk1 [.slice none 0 0, .slice none 0 0] 83, .box bk8 [.slice none 0 0, .slice none 0 0] 83, .box bk44 [.slice oaa28 (List.length bla30) oca29, .slice oab31 (List.length xsb33) ocb32] 83, .vec none 0 1 (bys []) 5, .vec none 0 2 (List.flatMap fCer []) 196, .grp (List.flatMap innCer [])] := Ev.grp0 Hv73
  exact ⟨none, 0, [], none, 0, [], rfl, Hv74.pk [7, 8, 9], rfl, (Nat.zero_le _), (Nat.zero_le _), (fun y hy => by cases hy)⟩
 ·
  have En75 := En58.fx (t := 20) (congrArg Value.bool hb59)
  have hp76 : ¬ ((certM l false false).2.2.1 = true) := Bool.eq_false_iff.1 hb59
  refine d_k [4,5,6,7,8,20,23] [] 8 En75 fun ac77 En78 => ?_
  refine f_o ?_
  refine m_l 0 En78 Hv52 fun ac79 En80 => ?_
  refine d_e [4,5,6,7,8,15] [] En80 fun ac81 En82 => ?_
  refine then_normal ?_
  refine c_d (((List.length ((certM l false false).2.1) : Nat) : Int) > (0 : Int)) En82 (fun hc83 => ?_) (fun hc83 => ?_)
  ·
   refine wp_seq ?_
   refine region_from ?_
   refine f_o ?_
   refine m_a 5 0 2 [.slice none 0 0, .slice none 0 0] En82 Hv52 rfl rfl rfl fun ac84 En85 => ?_
   refine f_o ?_
   refine m_g 4 0 2 [.slice none 0 0, .slice none 0 0] [.slice none 0 0, .slice none 0 0] [.box bk15 [.slice ta24 (List.length ((certM l false false).2.1)) tc25, .bool ((certM l false false).2.2.1), .bool ((certM l false false).2.2.2)] 120, .vec oaa28 oca29 1 (bys bla30) 5, .vec oab31 ocb32 2 (List.flatMap fCer xsb33) 196, .grp (List.flatMap innCer xsb33), .box bk1 [.slice none 0 0, .slice none 0 0] 83, .box bk8 [.slice none 0 0, .slice none 0 0] 83, .box bk44 [.slice oaa28 (List.length bla30) oca29, .slice oab31 (List.length xsb33) ocb32] 83] En85 Hv52 rfl rfl (by simp) (one_all (by kernel_rfl)) rfl rfl fun ac86 wo87 En88 Hv89 => ?_
   refine d_e [4,5,6,7,8] [] En88 fun ac90 En91 => ?_
   refine then_normal ?_
   refine wp_ret ?_
   refine block_ret ?_
   refine then_ret ?_
   refine d_cell_tmp (v := .agg #[.slice none 0 0, .slice none 0 0]) (x := .int .i64 50) (t := 4) (T := 83) (ad := ⟨bk1, 0, none⟩) (u := 5) En91 (by kernel_rfl) (by kernel_rfl) (Ev.cellAgg (t := 83) (k := 4) (off := 0) (m := 2) (xs := [.slice none 0 0, .slice none 0 0]) Hv89 rfl rfl rfl (by kernel_rfl) (by kernel_rfl)) (by kernel_rfl) ?_
   have eA : gotA (certM l false false) = 50 := Eq.symm (by first | exact end_1 (by assumption) | exact end_2 (by omega) | exact end_3 (by assumption) (by omega) (by assumption))
   rw [gotV_n eA (by decide), eA]
   have Hv92 : Ev w [] wo87 [.box bk15 [.slice ta24 (List.length ((certM l false false).2.1)) tc25, .bool ((certM l false false).2.2.1), .bool ((certM l false false).2.2.2)] 120, .vec oaa28 oca29 1 (bys bla30) 5, .vec oab31 ocb32 2 (List.flatMap fCer xsb33) 196, .grp (List.flatMap innCer xsb33), .box bk1 [.slice none 0 0, .slice none 0 0] 83, .box bk8 [.slice none 0 0, .slice none 0 0] 83, .box bk44 [.slice oaa28 (List.length bla30) oca29, .slice oab31 (List.length xsb33) ocb32] 83, .vec none 0 1 (bys []) 5] := Ev.nil (sz := 1) (T := 5) Hv89
   have Hv93 : Ev w [] wo87 [.box bk15 [.slice ta24 (List.length ((certM l false false).2.1)) tc25, .bool ((certM l false false).2.2.1), .bool ((certM l false false).2.2.2)] 120, .vec oaa28 oca29 1 (bys bla30) 5, .vec oab31 ocb32 2 (List.flatMap fCer xsb33) 196, .grp (List.flatMap innCer xsb33), .box bk1 [.slice none 0 0, .slice none 0 0] 83, .box bk8 [.slice none 0 0, .slice none 0 0] 83, .box bk44 [.slice oaa28 (List.length bla30) oca29, .slice oab31 (List.length xsb33) ocb32] 83, .vec none 0 1 (bys []) 5, .vec none 0 2 (List.flatMap fCer []) 196] := Ev.nil (sz := 2) (T := 196) Hv92
   have Hv94 : Ev w [] wo87 [.box bk15 [.slice ta24 (List.length ((certM l false false).2.1)) tc25, .bool ((certM l false false).2.2.1), .bool ((certM l false false).2.2.2)] 120, .vec oaa28 oca29 1 (bys bla30) 5, .vec oab31 ocb32 2 (List.flatMap fCer xsb33) 196, .grp (List.flatMap innCer xsb33), .box bk1 [.slice none 0 0, .slice none 0 0] 83, .box bk8 [.slice none 0 0, .slice none 0 0] 83, .box bk44 [.slice oaa28 (List.length bla30) oca29, .slice oab31 (List.length xsb33) ocb32] 83, .vec none 0 1 (bys []) 5, .vec none 0 2 (List.flatMap fCer []) 196, .grp (List.flatMap innCer [])] := Ev.grp0 Hv93
   exact ⟨none, 0, [], none, 0, [], rfl, Hv94.pk [7, 8, 9], rfl, (Nat.zero_le _), (Nat.zero_le _), (fun y hy => by cases hy)⟩
  ·
   refine wp_seq ?_
   refine region_from ?_
   refine d_k [4,5,6,7,8,32] [] 3 En82 fun ac95 En96 => ?_
   refine f_o ?_
   refine m_l 0 En96 Hv52 fun ac97 En98 => ?_
   refine d_e [4,5,6,7,8,29] [] En98 fun ac99 En100 => ?_
   refine then_normal ?_
   refine cond_at En100 (t := (certM l false false).2.2.2) (by kernel_rfl) (fun hc101 => ?_) (fun hc101 => ?_)
   ·
    replace hc101 : (certM l false false).2.2.2 = true := hc101
    refine wp_seq ?_
    refine region_from ?_
    refine f_o ?_
    refine m_a 5 0 2 [.slice none 0 0, .slice none 0 0] En100 Hv52 rfl rfl rfl fun ac102 En103 => ?_
    refine f_o ?_
    refine m_g 4 0 2 [.slice none 0 0, .slice none 0 0] [.slice none 0 0, .slice none 0 0] [.box bk15 [.slice ta24 (List.length ((certM l false false).2.1)) tc25, .bool ((certM l false false).2.2.1), .bool ((certM l false false).2.2.2)] 120, .vec oaa28 oca29 1 (bys bla30) 5, .vec oab31 ocb32 2 (List.flatMap fCer xsb33) 196, .grp (List.flatMap innCer xsb33), .box bk1 [.slice none 0 0, .slice none 0 0] 83, .box bk8 [.slice none 0 0, .slice none 0 0] 83, .box bk44 [.slice oaa28 (List.length bla30) oca29, .slice oab31 (List.length xsb33) ocb32] 83] En103 Hv52 rfl rfl (by simp) (one_all (by kernel_rfl)) rfl rfl fun ac104 wo105 En106 Hv107 => ?_
    refine d_e [4,5,6,7,8] [] En106 fun ac108 En109 => ?_
    refine then_normal ?_
    refine wp_ret ?_
    refine block_ret ?_
    refine then_ret ?_
    refine d_cell_tmp (v := .agg #[.slice none 0 0, .slice none 0 0]) (x := .int .i64 47) (t := 4) (T := 83) (ad := ⟨bk1, 0, none⟩) (u := 5) En109 (by kernel_rfl) (by kernel_rfl) (Ev.cellAgg (t := 83) (k := 4) (off := 0) (m := 2) (xs := [.slice none 0 0, .slice none 0 0]) Hv107 rfl rfl rfl (by kernel_rfl) (by kernel_rfl)) (by kernel_rfl) ?_
    have eA : gotA (certM l false false) = 47 := Eq.symm (by first | exact end_1 (by assumption) | exact end_2 (by omega) | exact end_3 (by assumption) (by omega) (by assumption))
    rw [gotV_n eA (by decide), eA]
    have Hv110 : Ev w [] wo105 [.box bk15 [.slice ta24 (List.length ((certM l false false).2.1)) tc25, .bool ((certM l false false).2.2.1), .bool ((certM l false false).2.2.2)] 120, .vec oaa28 oca29 1 (bys bla30) 5, .vec oab31 ocb32 2 (List.flatMap fCer xsb33) 196, .grp (List.flatMap innCer xsb33), .box bk1 [.slice none 0 0, .slice none 0 0] 83, .box bk8 [.slice none 0 0, .slice none 0 0] 83, .box bk44 [.slice oaa28 (List.length bla30) oca29, .slice oab31 (List.length xsb33) ocb32] 83, .vec none 0 1 (bys []) 5] := Ev.nil (sz := 1) (T := 5) Hv107
    have Hv111 : Ev w [] wo105 [.box bk15 [.slice ta24 (List.length ((certM l false false).2.1)) tc25, .bool ((certM l false false).2.2.1), .bool ((certM l false false).2.2.2)] 120, .vec oaa28 oca29 1 (bys bla30) 5, .vec oab31 ocb32 2 (List.flatMap fCer xsb33) 196, .grp (List.flatMap innCer xsb33), .box bk1 [.slice none 0 0, .slice none 0 0] 83, .box bk8 [.slice none 0 0, .slice none 0 0] 83, .box bk44 [.slice oaa28 (List.length bla30) oca29, .slice oab31 (List.length xsb33) ocb32] 83, .vec none 0 1 (bys []) 5, .vec none 0 2 (List.flatMap fCer []) 196] := Ev.nil (sz := 2) (T := 196) Hv110
    have Hv112 : Ev w [] wo105 [.box bk15 [.slice ta24 (List.length ((certM l false false).2.1)) tc25, .bool ((certM l false false).2.2.1), .bool ((certM l false false).2.2.2)] 120, .vec oaa28 oca29 1 (bys bla30) 5, .vec oab31 ocb32 2 (List.flatMap fCer xsb33) 196, .grp (List.flatMap innCer xsb33), .box bk1 [.slice none 0 0, .slice none 0 0] 83, .box bk8 [.slice none 0 0, .slice none 0 0] 83, .box bk44 [.slice oaa28 (List.length bla30) oca29, .slice oab31 (List.length xsb33) ocb32] 83, .vec none 0 1 (bys []) 5, .vec none 0 2 (List.flatMap fCer []) 196, .grp (List.flatMap innCer [])] := Ev.grp0 Hv111
    exact ⟨none, 0, [], none, 0, [], rfl, Hv112.pk [7, 8, 9], rfl, (Nat.zero_le _), (Nat.zero_le _), (fun y hy => by cases hy)⟩
   ·
    replace hc101 : ¬ ((certM l false false).2.2.2 = true) := Bool.eq_false_iff.1 hc101
    refine wp_skip ?_
    refine block_normal ?_
    refine then_normal ?_
    refine wp_seq ?_
    refine region_from ?_
    refine f_o ?_
    refine m_a 6 0 2 [.slice oaa28 (List.length bla30) oca29, .slice oab31 (List.length xsb33) ocb32] En100 Hv52 rfl rfl rfl fun ac113 En114 => ?_
    refine f_o ?_
    refine m_g 4 0 2 [.slice oaa28 (List.length bla30) oca29, .slice oab31 (List.length xsb33) ocb32] [.slice oaa28 (List.length bla30) oca29, .slice oab31 (List.length xsb33) ocb32] [.box bk15 [.slice ta24 (List.length ((certM l false false).2.1)) tc25, .bool ((certM l false false).2.2.1), .bool ((certM l false false).2.2.2)] 120, .vec oaa28 oca29 1 (bys bla30) 5, .vec oab31 ocb32 2 (List.flatMap fCer xsb33) 196, .grp (List.flatMap innCer xsb33), .box bk1 [.slice oaa28 (List.length bla30) oca29, .slice oab31 (List.length xsb33) ocb32] 83, .box bk8 [.slice none 0 0, .slice none 0 0] 83, .box bk44 [.slice oaa28 (List.length bla30) oca29, .slice oab31 (List.length xsb33) ocb32] 83] En114 Hv52 rfl rfl (by simp) (one_all (by kernel_rfl)) rfl rfl fun ac115 wo116 En117 Hv118 => ?_
    refine d_e [4,5,6,7,8] [] En117 fun ac119 En120 => ?_
    refine then_normal ?_
    refine wp_ret ?_
    refine d_cell_tmp (v := .agg #[.slice oaa28 (List.length bla30) oca29, .slice oab31 (List.length xsb33) ocb32]) (x := .int .i64 0) (t := 4) (T := 83) (ad := ⟨bk1, 0, none⟩) (u := 5) En120 (by kernel_rfl) (by kernel_rfl) (Ev.cellAgg (t := 83) (k := 4) (off := 0) (m := 2) (xs := [.slice oaa28 (List.length bla30) oca29, .slice oab31 (List.length xsb33) ocb32]) Hv118 rfl rfl rfl (by kernel_rfl) (by kernel_rfl)) (by kernel_rfl) ?_
    have eA : gotA (certM l false false) = 0 := (end_4 (by assumption) (by omega) (by assumption)).symm
    rw [gotV_0 eA, eA]
    exact ⟨oaa28, oca29, bla30, oab31, ocb32, xsb33, rfl, Hv118.pk [1, 2, 3], hpu27, hf34, hf35, hf36⟩

theorem getcert_go (w : World) (aq : Option Addr) (nq cq : Nat) (lq : List UInt8) (eq : nq = List.length lq) (iq : InB w [] aq cq lq) : Calls Try.prog 79 #[.slice aq nq cq] w fun e w' => ∃ oaa oca bla oab ocb xsb, e = .returned (.tuple #[.agg #[.slice oaa (List.length bla) oca, .slice oab (List.length xsb) ocb], .int .i64 (gotA (certM lq false false))]) ∧ Ev w [] w' [.vec oaa oca 1 (bys bla) 5, .vec oab ocb 2 (List.flatMap fCer xsb) 196, .grp (List.flatMap innCer xsb)] ∧ (bla, List.map (fun y : RCer => (y.1.l, List.map (fun y : RExt => (y.1, y.2.1.l)) y.2.1.l)) xsb) = gotV ([], []) (certM lq false false) ∧ List.length bla ≤ 4294967296 ∧ List.length xsb ≤ 4294967296 ∧ ∀ y ∈ xsb, (List.length y.1.l ≤ 140737488351232 ∧ (List.length y.2.1.l ≤ 4294967296 ∧ ∀ z ∈ y.2.1.l, List.length z.2.1.l ≤ 140737488351232)) := by
 subst eq
 refine d_0 [(0, .slice aq (List.length lq) cq)] 8 Go.Proofs.Try.func79 Go.Proofs.Try.ntmps79 (Heap.nil _) fun act0 En0 Hv0 => ?_
 refine wp_seq ?_
 refine region_from ?_
 refine f_o ?_
 refine m_z 83 [.slice none 0 0, .slice none 0 0] En0 Hv0 fun ac2 wo3 bk1 En4 Hv5 => ?_
 refine d_e [0,2,3] [] En4 fun ac6 En7 => ?_
 refine then_normal ?_
 refine wp_seq ?_
 refine region_from ?_
 refine d_k [2,3,4] [] 1 En7 fun ac8 En9 => ?_
 refine f_o ?_
 refine c_0 En9 Hv5 (got_getcert _ aq cq lq ((iq.ev Hv5).pick [] (by kernel_rfl))) ?_
 rintro _ wo21 ⟨oaa10, oca11, bla12, oab13, ocb14, xsb15, rfl, he22, hpu16, hf17, hf18, hf19⟩
 refine ⟨_, _, _, rfl, he22, rfl, fun ac24 En25 Hv26 => ?_⟩
 refine d_k [2,3,6,7] [] 4 En25 fun ac27 En28 => ?_
 refine f_o ?_
 refine m_g 3 0 2 [.slice oaa10 (List.length bla12) oca11, .slice oab13 (List.length xsb15) ocb14] [.slice oaa10 (List.length bla12) oca11, .slice oab13 (List.length xsb15) ocb14] [.vec oaa10 oca11 1 (bys bla12) 5, .vec oab13 ocb14 2 (List.flatMap fCer xsb15) 196, .grp (List.flatMap innCer xsb15), .box bk1 [.slice oaa10 (List.length bla12) oca11, .slice oab13 (List.length xsb15) ocb14] 83] En28 Hv26 rfl rfl (by simp) (one_all (by kernel_rfl)) rfl rfl fun ac29 wo30 En31 Hv32 => ?_
 refine d_e [2,3] [] En31 fun ac33 En34 => ?_
 refine then_normal ?_
 refine wp_ret ?_
 refine d_cell_tmp (v := .agg #[.slice oaa10 (List.length bla12) oca11, .slice oab13 (List.length xsb15) ocb14]) (x := .int .i64 (gotA (certM lq false false))) (t := 2) (T := 83) (ad := ⟨bk1, 0, none⟩) (u := 3) En34 (by kernel_rfl) (by kernel_rfl) (Ev.cellAgg (t := 83) (k := 3) (off := 0) (m := 2) (xs := [.slice oaa10 (List.length bla12) oca11, .slice oab13 (List.length xsb15) ocb14]) Hv32 rfl rfl rfl (by kernel_rfl) (by kernel_rfl)) (by kernel_rfl) ?_
 exact ⟨oaa10, oca11, bla12, oab13, ocb14, xsb15, rfl, Hv32.pk [0, 1, 2], hpu16, hf17, hf18, hf19⟩

end Go.Proofs.Ytofecellbfhnjaa
