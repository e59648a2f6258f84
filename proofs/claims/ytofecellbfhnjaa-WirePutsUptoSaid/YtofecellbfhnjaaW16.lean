/- Layer 17: shares of keys are read, by both. -/
import Derived.Test.YtofecellbfhnjaaW15
import Derived.Test.YtofecellbfhnjaaGrp
namespace Go.Proofs.Ytofecellbfhnjaa
open Go.Dbr
set_option maxRecDepth 100000
set_option maxHeartbeats 2000000
set_option linter.unusedVariables false
set_option linter.unusedSimpArgs false

abbrev RSha := (UInt16) × (Sl UInt8) × Unit
abbrev fSha : RSha → List Value := (fun p : (UInt16) × (Sl UInt8) × Unit => (fun n : UInt16 => [uv16 n]) p.1 ++ (fun p : (Sl UInt8) × Unit => (fun s : Sl UInt8 => s.f) p.1 ++ (fun _ : Unit => []) p.2) p.2)
def innSha (y : RSha) : List Inn := [(y.2.1.a, y.2.1.c, 1, bys y.2.1.l, 5)]
def shareM (l : Bs) (s o : Bool) : (UInt16 × Bs) × PS := ((UInt16.ofNat (nbV 2 l s), lsO 2 1 65535 (tkR 2 l s) (tkS 2 l s)), lsR 2 1 65535 (tkR 2 l s) (tkS 2 l s), lsS 2 1 65535 (tkR 2 l s) (tkS 2 l s), o)
def dshareM (l : Bs) (s o : Bool) : (UInt16 × Bs) × PS := ((UInt16.ofNat (nbV 2 l s), ldO 2 1 65535 (dkR 2 l s) (tkS 2 l s)), ldR 2 1 65535 (dkR 2 l s) (tkS 2 l s), ldS 2 1 65535 (dkR 2 l s) (tkS 2 l s), o)
theorem lsS_f {n x y : Nat} {l : Bs} {s : Bool} (h : lsS n x y l s = false) : tkS n l s = false ∧ s = false := by
  rw [lsS, tkS, Bool.or_eq_false_iff, lsT, Bool.or_eq_false_iff] at h
  have h2 := h.1.1
  refine ⟨h2, ?_⟩
  rw [tkS, Bool.or_eq_false_iff] at h2
  exact h2.1
theorem ldS_f {n x y : Nat} {l : Bs} {s : Bool} (h : ldS n x y l s = false) : tkS n l s = false ∧ s = false := by
  rw [ldS, tkS, Bool.or_eq_false_iff, lsT, Bool.or_eq_false_iff] at h
  have h2 := h.1.1
  refine ⟨h2, ?_⟩
  rw [tkS, Bool.or_eq_false_iff] at h2
  exact h2.1
theorem share_dec : Dec shareM := ⟨fun l o h hs => Nat.lt_of_le_of_lt (lsR_len _ _ _ _ _) (tk_lt (by decide) h), fun l o => Nat.le_trans (lsR_len _ _ _ _ _) (tkR_len _ _ _)⟩
theorem dshare_dec : Dec dshareM := ⟨fun l o h hs => Nat.lt_of_le_of_lt (ldR_len _ _ _ _ _) (dk_lt (by decide) h (ldS_f hs).2), fun l o => Nat.le_trans (ldR_len _ _ _ _ _) (dkR_len _ _ _)⟩

theorem share_go (w : World) (br : Nat) (a : Option Addr) (c : Nat) (l : List UInt8) (s o : Bool) (i : InB w [.box br [.slice a (List.length l) c, .bool s, .bool o] 120] a c l) (hH : Heap w [.box br [.slice a (List.length l) c, .bool s, .bool o] 120]) : Calls Try.prog 160 #[pt br] w fun e w' => ∃ ta tc gv oa oc bl, e = .returned (.agg #[uv16 gv, .slice oa (List.length bl) oc]) ∧ Ev w [.box br [.slice a (List.length l) c, .bool s, .bool o] 120] w' [.box br [.slice ta (List.length ((shareM l s o).2.1)) tc, .bool ((shareM l s o).2.2.1), .bool ((shareM l s o).2.2.2)] 120, .vec oa oc 1 (bys bl) 5] ∧ Sub a c l ta tc (shareM l s o).2.1 ∧ (gv, bl) = (shareM l s o).1 ∧ List.length bl ≤ 4294967296 := by
 refine d_0 [(0, pt br)] 10 Go.Proofs.Try.func160 Go.Proofs.Try.ntmps160 (hH) fun act0 En0 Hv0 => ?_
 refine wp_seq ?_
 refine region_from ?_
 refine f_o ?_
 refine m_z 49 [.int .u16 0, .slice none 0 0] En0 Hv0 fun ac2 wo3 bk1 En4 Hv5 => ?_
 refine f_e ?_
 refine then_normal ?_
 refine wp_seq ?_
 refine region_from ?_
 refine d_k [0,2,4] [] 1 En4 fun ac6 En7 => ?_
 refine f_o ?_
 refine c_l [0] (M := [.box br [.slice a (List.length l) c, .bool s, .bool o] 120]) En7 Hv5 (fun hM11 => u16_go _ br a c l s o ((i.ev Hv5).pick [0] (by kernel_rfl)) hM11) ?_
 rintro _ wo12 ⟨ta8, tc9, rfl, he13, hs10⟩
 refine ⟨_, _, [.box br [.slice ta8 (List.length (tkR 2 l s)) tc9, .bool (tkS 2 l s), .bool o] 120, .box bk1 [.int .u16 0, .slice none 0 0] 49], rfl, he13, by kernel_rfl, fun ac15 En16 Hv17 => ?_⟩
 refine d_e [0,2,3] [] En16 fun ac18 En19 => ?_
 refine then_normal ?_
 refine wp_seq ?_
 refine region_from ?_
 refine d_k [0,2,6,7] [] 2 En19 fun ac20 En21 => ?_
 refine f_o ?_
 refine c_l [0] (M := [.box br [.slice ta8 (List.length (tkR 2 l s)) tc9, .bool (tkS 2 l s), .bool o] 120]) En21 Hv17 (fun hM29 => bytes2_go _ br ta8 tc9 (tkR 2 l s) (tkS 2 l s) o (hs10 _ _ ((i.ev Hv17).pick [0] (by kernel_rfl))) hM29) ?_
 rintro _ wo30 ⟨ta22, tc23, oa26, oc27, bl28, rfl, he31, hs24, hpu25⟩
 refine ⟨_, _, [.box br [.slice ta22 (List.length ((listM 2 1 65535 (tkR 2 l s) (tkS 2 l s) o).2.1)) tc23, .bool ((listM 2 1 65535 (tkR 2 l s) (tkS 2 l s) o).2.2.1), .bool ((listM 2 1 65535 (tkR 2 l s) (tkS 2 l s) o).2.2.2)] 120, .vec oa26 oc27 1 (bys bl28) 5, .box bk1 [.int .u16 0, .slice none 0 0] 49], rfl, he31, by kernel_rfl, fun ac33 En34 Hv35 => ?_⟩
 refine d_k [0,2,9] [] 4 En34 fun ac36 En37 => ?_
 refine f_o ?_
 refine m_g 2 0 2 [.int .u16 ((UInt16.toNat (UInt16.ofNat (nbV 2 l s)) : Nat) : Int), .slice oa26 (List.length bl28) oc27] [.int .u16 ((UInt16.toNat (UInt16.ofNat (nbV 2 l s)) : Nat) : Int), .slice oa26 (List.length bl28) oc27] [.box br [.slice ta22 (List.length ((listM 2 1 65535 (tkR 2 l s) (tkS 2 l s) o).2.1)) tc23, .bool ((listM 2 1 65535 (tkR 2 l s) (tkS 2 l s) o).2.2.1), .bool ((listM 2 1 65535 (tkR 2 l s) (tkS 2 l s) o).2.2.2)] 120, .vec oa26 oc27 1 (bys bl28) 5, .box bk1 [.int .u16 ((UInt16.toNat (UInt16.ofNat (nbV 2 l s)) : Nat) : Int), .slice oa26 (List.length bl28) oc27] 49] En37 Hv35 rfl rfl (by simp) (one_all (by kernel_rfl)) rfl rfl fun ac38 wo39 En40 Hv41 => ?_
 refine f_e ?_
 refine then_normal ?_
 refine wp_ret ?_
 refine d_cell1 (v := .agg #[.int .u16 ((UInt16.toNat (UInt16.ofNat (nbV 2 l s)) : Nat) : Int), .slice oa26 (List.length bl28) oc27]) (t := 2) (T := 49) (ad := ⟨bk1, 0, none⟩) En40 (by kernel_rfl) (by kernel_rfl) (Ev.cellAgg (t := 49) (k := 2) (off := 0) (m := 2) (xs := [.int .u16 ((UInt16.toNat (UInt16.ofNat (nbV 2 l s)) : Nat) : Int), .slice oa26 (List.length bl28) oc27]) Hv41 rfl rfl rfl (by kernel_rfl) (by kernel_rfl)) ?_
 exact ⟨ta22, tc23, (UInt16.ofNat (nbV 2 l s)), oa26, oc27, bl28, rfl, Hv41.pk [0, 1], (hs10.trans hs24), (by rw [hpu25]; rfl), (by rw [hpu25]; exact Nat.le_trans (Nat.le_of_succ_le (lsO_32 (by decide) _ _)) (by decide))⟩

theorem many_sha (w : World) (br : Nat) (n : Nat) (hn : n ≤ 4) (x : Nat) (hx : x ≤ 4294967295) (a : Option Addr) (c : Nat) (l : List UInt8) (s o : Bool) (i : InB w [.box br [.slice a (List.length l) c, .bool s, .bool o] 120] a c l) (hH : Heap w [.box br [.slice a (List.length l) c, .bool s, .bool o] 120]) : Calls Try.prog 159 #[pt br, ni n, ni x, .func (.func 160) #[] #[]] w fun e w' => ∃ ta tc oa oc xs, e = .returned (.slice oa (List.length xs) oc) ∧ Ev w [.box br [.slice a (List.length l) c, .bool s, .bool o] 120] w' [.box br [.slice ta (List.length (lsR n x 16777215 l s)) tc, .bool (lsS n x 16777215 l s || (mn shareM ((lsO n x 16777215 l s, lsS n x 16777215 l s, false) : PS)).2.2.1), .bool (o || (mn shareM ((lsO n x 16777215 l s, lsS n x 16777215 l s, false) : PS)).2.2.2)] 120, .vec oa oc 2 (List.flatMap fSha xs) 49, .grp (List.flatMap innSha xs)] ∧ Sub a c l ta tc (lsR n x 16777215 l s) ∧ List.map (fun y : RSha => (y.1, y.2.1.l)) xs = (mn shareM ((lsO n x 16777215 l s, lsS n x 16777215 l s, false) : PS)).1 ∧ List.length xs ≤ List.length (lsO n x 16777215 l s) + 1 ∧ ∀ y ∈ xs, List.length y.2.1.l ≤ 140737488351232 := by
 refine d_0 [(0, pt br), (1, ni n), (2, ni x), (3, .func (.func 160) #[] #[])] 69 Go.Proofs.Try.func159 Go.Proofs.Try.ntmps159 (hH) fun act0 En0 Hv0 => ?_
 refine d_s [0,1,2,3,8] [] En0 fun ac1 En2 => ?_
 refine wp_seq ?_
 refine region_from ?_
 refine d_k [0,3,8,12,13,14] [] 3 En2 fun ac3 En4 => ?_
 refine f_o ?_
 refine c_l [0] (M := [.box br [.slice a (List.length l) c, .bool s, .bool o] 120]) En4 Hv0 (fun hM10 => list_go _ br n (by omega) x 16777215 (by omega) (by omega) a c l s o ((i.ev Hv0).pick [0] (by kernel_rfl)) hM10) ?_
 rintro _ wo11 ⟨ao5, cp6, ta7, tc8, rfl, he12, hs9⟩
 refine ⟨_, _, [.box br [.slice ta7 (List.length (lsR n x 16777215 l s)) tc8, .bool (lsS n x 16777215 l s), .bool o] 120, .vec ao5 cp6 1 (bys (lsO n x 16777215 l s)) 5], rfl, he12, by kernel_rfl, fun ac14 En15 Hv16 => ?_⟩
 refine d_e [0,3,8,9] [] En15 fun ac17 En18 => ?_
 refine then_normal ?_
 refine wp_seq ?_
 refine region_from ?_
 refine d_k [0,3,8,16,19] [] 4 En18 fun ac19 En20 => ?_
 refine f_o ?_
 refine m_l 0 En20 Hv16 fun ac21 En22 => ?_
 refine d_k [0,3,8,21] [] 6 En22 fun ac23 En24 => ?_
 refine f_o ?_
 refine m_m 120 [.slice ao5 (List.length (lsO n x 16777215 l s)) cp6, .bool (lsS n x 16777215 l s), .bool false] En24 Hv16 fun ac26 wo27 bk25 En28 Hv29 => ?_
 refine d_e [0,3,8,10] [] En28 fun ac30 En31 => ?_
 refine then_normal ?_
 refine d_s [0,3,8,10,11] [] En31 fun ac32 En33 => ?_
 refine wp_seq ?_
 refine region_cut (F := fun ac wo => ∃ (oa : Option Addr) (oc : Nat) (xs : List (RSha)) (ra : Option Addr) (rc : Nat) (rl : Bs) (s1 : Bool) (o1 : Bool), Env ac 69 [(0, pt br), (3, .func (.func 160) #[] #[]), (8, .slice none 0 0), (10, pt bk25), (11, .slice oa (List.length xs) oc)] ∧ Ev w [.box br [.slice a (List.length l) c, .bool s, .bool o] 120] wo [.box br [.slice ta7 (List.length (lsR n x 16777215 l s)) tc8, .bool (lsS n x 16777215 l s), .bool o] 120, .box bk25 [.slice ra (List.length rl) rc, .bool s1, .bool o1] 120, .vec oa oc 2 (List.flatMap fSha xs) 49, .grp (List.flatMap innSha xs)] ∧ (mn shareM ((lsO n x 16777215 l s, lsS n x 16777215 l s, false) : PS) = (List.map (fun y : RSha => (y.1, y.2.1.l)) xs, rl, s1, o1)) ∧ (List.length xs ≤ List.length (lsO n x 16777215 l s) + 1) ∧ (∀ y ∈ xs, List.length y.2.1.l ≤ 140737488351232)) ?_ ?_
 ·
  refine wp_block ?_
  have Hv34 : Ev w [.box br [.slice a (List.length l) c, .bool s, .bool o] 120] wo27 [.box br [.slice ta7 (List.length (lsR n x 16777215 l s)) tc8, .bool (lsS n x 16777215 l s), .bool o] 120, .vec ao5 cp6 1 (bys (lsO n x 16777215 l s)) 5, .box bk25 [.slice ao5 (List.length (lsO n x 16777215 l s)) cp6, .bool (lsS n x 16777215 l s), .bool false] 120, .vec none 0 2 (List.flatMap fSha []) 49] := Ev.nil (sz := 2) (T := 49) Hv29
  have Hv35 : Ev w [.box br [.slice a (List.length l) c, .bool s, .bool o] 120] wo27 [.box br [.slice ta7 (List.length (lsR n x 16777215 l s)) tc8, .bool (lsS n x 16777215 l s), .bool o] 120, .vec ao5 cp6 1 (bys (lsO n x 16777215 l s)) 5, .box bk25 [.slice ao5 (List.length (lsO n x 16777215 l s)) cp6, .bool (lsS n x 16777215 l s), .bool false] 120, .vec none 0 2 (List.flatMap fSha []) 49, .grp (List.flatMap innSha [])] := Ev.grp0 Hv34
  have hO32 : List.length (lsO n x 16777215 l s) ≤ 4294967295 := Nat.le_trans (tkO_len _ _ _) (Nat.le_of_lt_succ (nbV_4 hn l s))
  refine loop_m (fun ms36 ac wo => ∃ (oa : Option Addr) (oc : Nat) (xs : List (RSha)) (ra : Option Addr) (rc : Nat) (rl : Bs) (s1 : Bool) (o1 : Bool), ms36 = (bif s1 then 0 else List.length rl + 1 : Nat) ∧ Env ac 69 [(0, pt br), (3, .func (.func 160) #[] #[]), (8, .slice none 0 0), (10, pt bk25), (11, .slice oa (List.length xs) oc)] ∧ Ev w [.box br [.slice a (List.length l) c, .bool s, .bool o] 120] wo [.box bk25 [.slice ra (List.length rl) rc, .bool s1, .bool o1] 120, .box br [.slice ta7 (List.length (lsR n x 16777215 l s)) tc8, .bool (lsS n x 16777215 l s), .bool o] 120, .vec ao5 cp6 1 (bys (lsO n x 16777215 l s)) 5, .vec oa oc 2 (List.flatMap fSha xs) 49, .grp (List.flatMap innSha xs)] ∧ (Sub ao5 cp6 (lsO n x 16777215 l s) ra rc rl) ∧ (mn shareM ((lsO n x 16777215 l s, lsS n x 16777215 l s, false) : PS) = (List.map (fun y : RSha => (y.1, y.2.1.l)) xs ++ (mn shareM (rl, s1, o1)).1, (mn shareM (rl, s1, o1)).2)) ∧ (List.length xs + List.length rl ≤ List.length (lsO n x 16777215 l s) + (bif s1 then 1 else 0)) ∧ (∀ y ∈ xs, List.length y.2.1.l ≤ 140737488351232)) ⟨_, none, 0, [], ao5, cp6, (lsO n x 16777215 l s), (lsS n x 16777215 l s), false, rfl, En33.sb, Hv35.pk [2, 0, 1, 3, 4], Sub.self, rfl, (by rw [List.length_nil, Nat.zero_add]; exact Nat.le_add_right _ _), (fun y hy => by cases hy)⟩ ?_
  rintro mm42 ac38 wo39 ⟨oa, oc, xs, ra, rc, rl, s1, o1, rfl, En40, Hv41, hsu, hmn, hct, hsm⟩
  refine wp_seq ?_
  refine wp_seq ?_
  refine region_from ?_
  refine d_k [0,3,8,10,11,25] [] 3 En40 fun ac43 En44 => ?_
  refine f_o ?_
  refine m_l 0 En44 Hv41 fun ac45 En46 => ?_
  refine d_k [0,3,8,10,11,28] [] 6 En46 fun ac47 En48 => ?_
  rcases Bool.eq_false_or_eq_true (!s1) with hb49 | hb49
  ·
   have En50 := En48.fx (t := 28) (congrArg Value.bool hb49)
   have hp51 : ¬ (s1 = true) := by simpa using hb49
   refine d_k [0,3,8,10,11,28,31] [] 9 En50 fun ac52 En53 => ?_
   refine f_o ?_
   refine m_l 0 En53 Hv41 fun ac54 En55 => ?_
   refine d_e [0,3,8,10,11,35] [] En55 fun ac56 En57 => ?_
   refine then_normal ?_
   refine c_d (((List.length rl : Nat) : Int) > (0 : Int)) En57 (fun hc58 => ?_) (fun hc58 => ?_)
   ·
    refine wp_skip ?_
    refine then_normal ?_
    refine wp_block ?_
    refine region_from ?_
    refine d_k [0,3,8,10,11,36,37,38] [] 3 En57 fun ac59 En60 => ?_
    refine f_o ?_
    refine c_l [0] (M := [.box bk25 [.slice ra (List.length rl) rc, .bool s1, .bool o1] 120]) En60 Hv41 (fun hM70 => share_go _ bk25 ra rc rl s1 o1 (hsu _ _ (bys_in Hv41.heap (k := 2) rfl [0] (by kernel_rfl) rfl (by first | omega | (simp; done) | (simp; omega)))) hM70) ?_
    rintro _ wo71 ⟨ta61, tc62, gv65, oa66, oc67, bl68, rfl, he72, hs63, hpu64, hf69⟩
    refine ⟨_, _, [.box bk25 [.slice ta61 (List.length ((shareM rl s1 o1).2.1)) tc62, .bool ((shareM rl s1 o1).2.2.1), .bool ((shareM rl s1 o1).2.2.2)] 120, .vec oa66 oc67 1 (bys bl68) 5, .box br [.slice ta7 (List.length (lsR n x 16777215 l s)) tc8, .bool (lsS n x 16777215 l s), .bool o] 120, .vec ao5 cp6 1 (bys (lsO n x 16777215 l s)) 5, .vec oa oc 2 (List.flatMap fSha xs) 49, .grp (List.flatMap innSha xs)], rfl, he72, by kernel_rfl, fun ac74 En75 Hv76 => ?_⟩
    refine f_o ?_
    refine op_lit (d := some 40) (t := 34) (T := 49) (m := 1) (parts := #[(0, .agg #[uv16 gv65, .slice oa66 (List.length bl68) oc67])]) (xs := List.flatMap fSha ([(gv65, ⟨oa66, oc67, bl68⟩, ())] : List (RSha))) (sz := 2) En75 (by kernel_rfl) (by kernel_rfl) rfl (by decide) Hv76 ?_
    intro ac78 wo79 bk77 En80 Hv81
    refine f_o ?_
    refine op_append (d := some 41) (t := 34) (tx := 34) (ty := 34) (k := 4) (p := List.length xs) (m := 1) (x := .slice (some ⟨bk77, 0, none⟩) 1 1) (bytes := 32) En80 (by kernel_rfl) Hv81 rfl (sv_len (f := fSha) (sz := 2) (fun _ => rfl) _) (Reads.src (size := 2) (tx := 34) (e' := 49) (by kernel_rfl) (Hv81.heap.reads (k := 6) rfl) rfl (fun e => by cases e) (flat_one (f := fSha) (fun _ => one_all rfl) _)) (by kernel_rfl) (z := .agg #[.int .u16 0, .slice none 0 0]) (by kernel_rfl) rfl (by decide) (by have hb1 := mn_b1 s1; omega) (by unfold maxLen; have hb1 := mn_b1 s1; omega) ?_
    intro ac86 wo87 ao82 cp83 En88 Hv89 hnz _
    clear hnz
    rw [← List.flatMap_append] at Hv89
    have ehz84 : (List.length xs) + 1 = List.length (xs ++ ([(gv65, ⟨oa66, oc67, bl68⟩, ())] : List (RSha))) := (by first | (simp; done) | (simp; omega) | omega)
    rw [ehz84] at En88
    refine d_e [0,3,8,10,11] [] En88 fun ac90 En91 => ?_
    have Hv92 : Ev w [.box br [.slice a (List.length l) c, .bool s, .bool o] 120] wo87 [.box bk25 [.slice ta61 (List.length ((shareM rl s1 o1).2.1)) tc62, .bool ((shareM rl s1 o1).2.2.1), .bool ((shareM rl s1 o1).2.2.2)] 120, .box br [.slice ta7 (List.length (lsR n x 16777215 l s)) tc8, .bool (lsS n x 16777215 l s), .bool o] 120, .vec ao5 cp6 1 (bys (lsO n x 16777215 l s)) 5, .vec ao82 cp83 2 (List.flatMap fSha (xs ++ ([(gv65, ⟨oa66, oc67, bl68⟩, ())] : List (RSha)))) 49, .vec (some ⟨bk77, 0, none⟩) 1 2 (List.flatMap fSha ([(gv65, ⟨oa66, oc67, bl68⟩, ())] : List (RSha))) 49, .grp (List.flatMap innSha (xs ++ ([(gv65, ⟨oa66, oc67, bl68⟩, ())] : List (RSha))))] := Ev.group (M := [.box bk25 [.slice ta61 (List.length ((shareM rl s1 o1).2.1)) tc62, .bool ((shareM rl s1 o1).2.2.1), .bool ((shareM rl s1 o1).2.2.2)] 120, .box br [.slice ta7 (List.length (lsR n x 16777215 l s)) tc8, .bool (lsS n x 16777215 l s), .bool o] 120, .vec ao5 cp6 1 (bys (lsO n x 16777215 l s)) 5, .vec ao82 cp83 2 (List.flatMap fSha (xs ++ ([(gv65, ⟨oa66, oc67, bl68⟩, ())] : List (RSha)))) 49, .vec (some ⟨bk77, 0, none⟩) 1 2 (List.flatMap fSha ([(gv65, ⟨oa66, oc67, bl68⟩, ())] : List (RSha))) 49]) Hv89 [0,2,3,4,6] [5,1] (by kernel_rfl) (by rw [List.flatMap_append]; rfl) (by decide)
    refine block_normal ?_
    refine then_normal ?_
    have hl0 : 0 < List.length rl := by omega
    refine ⟨_, ⟨ao82, cp83, (xs ++ ([(gv65, ⟨oa66, oc67, bl68⟩, ())] : List (RSha))), ta61, tc62, ((shareM rl s1 o1).2.1), ((shareM rl s1 o1).2.2.1), ((shareM rl s1 o1).2.2.2), rfl, En91.sb, Hv92.pk [0, 1, 2, 3, 5], (hsu.trans hs63), (by rw [hmn, mn_step share_dec (Bool.eq_false_iff.2 hp51) hl0, ← hpu64, List.map_append, List.append_assoc]; rfl), (mn_ct (Bool.eq_false_iff.2 hp51) hct (dec_lt (o := o1) share_dec (Bool.eq_false_iff.2 hp51) hl0) (dec_le (o := o1) share_dec (Bool.eq_false_iff.2 hp51)) hl0), (all_snoc hsm (Nat.le_trans hf69 (by decide)))⟩, ?_⟩
    exact mn_mu (Bool.eq_false_iff.2 hp51) hl0 (dec_lt (o := o1) share_dec (Bool.eq_false_iff.2 hp51) hl0)
   ·
    refine wp_exit ?_
    refine then_exit ?_
    refine then_exit ?_
    refine block_exit ?_
    exact ⟨rfl, ⟨oa, oc, xs, ra, rc, rl, s1, o1, En57.sb, Hv41.pk [1, 0, 3, 4], (by rw [hmn, mn_end (p := (rl, s1, o1)) (by first | exact .inl (by assumption) | exact .inr (show rl = [] from List.length_eq_zero_iff.1 (by omega))), List.append_nil]), (mn_c1 hct), hsm⟩⟩
  ·
   have En93 := En48.fx (t := 28) (congrArg Value.bool hb49)
   have hp94 : s1 = true := by simpa using hb49
   refine d_e [0,3,8,10,11,35] [] En93 fun ac95 En96 => ?_
   refine then_normal ?_
   refine c_f En96 ?_
   refine wp_exit ?_
   refine then_exit ?_
   refine then_exit ?_
   refine block_exit ?_
   exact ⟨rfl, ⟨oa, oc, xs, ra, rc, rl, s1, o1, En96.sb, Hv41.pk [1, 0, 3, 4], (by rw [hmn, mn_end (p := (rl, s1, o1)) (by first | exact .inl (by assumption) | exact .inr (show rl = [] from List.length_eq_zero_iff.1 (by omega))), List.append_nil]), (mn_c1 hct), hsm⟩⟩
 ·
  rintro ac97 wo98 ⟨oa, oc, xs, ra, rc, rl, s1, o1, En99, Hv100, hmn, hct, hsm⟩
  refine then_normal ?_
  refine wp_seq ?_
  rcases Bool.eq_false_or_eq_true (lsS n x 16777215 l s) with hb101 | hb101
  ·
   have hb101p : lsS n x 16777215 l s = true := hb101
   rcases Bool.eq_false_or_eq_true (o) with hb102 | hb102
   ·
    have hb102p : o = true := hb102
    refine r_c (fun ac wo => Env ac 69 [(0, pt br), (3, .func (.func 160) #[] #[]), (8, .slice none 0 0), (10, pt bk25), (11, .slice oa (List.length xs) oc)] ∧ Ev w [.box br [.slice a (List.length l) c, .bool s, .bool o] 120] wo [.box br [.slice ta7 (List.length (lsR n x 16777215 l s)) tc8, .bool true, .bool true] 120, .box bk25 [.slice ra (List.length rl) rc, .bool s1, .bool o1] 120, .vec oa oc 2 (List.flatMap fSha xs) 49, .grp (List.flatMap innSha xs)]) ?_ ?_
    ·
     refine h_s (fun wv => Ev w [.box br [.slice a (List.length l) c, .bool s, .bool o] 120] wv [.box br [.slice ta7 (List.length (lsR n x 16777215 l s)) tc8, .bool (lsS n x 16777215 l s), .bool o] 120]) [24] 28 ?_
     have wo103 := Hv100.trans (Ev.drew Hv100.heap)
     refine q_s [0,1,2,3,4] [] 23 En99 (wo103.pk [0]) fun ac184 En185 => ?_
     refine q_l 0 5 En185 (wo103.pk [0]) fun ac186 En187 => ?_
     refine q_s [6] [] 21 En187 (wo103.pk [0]) fun ac188 En189 => ?_
     have En190 := En189.fx (t := 47) (congrArg Value.bool hb101)
     have En191 := En190.fx (t := 48) (congrArg Value.bool hb101)
     refine q_s [7,8,9,10,11,12,13,14] [] 13 En191 (wo103.pk [0]) fun ac192 En193 => ?_
     refine q_l 0 15 En193 (wo103.pk [0]) fun ac194 En195 => ?_
     refine q_s [16] [] 11 En195 (wo103.pk [0]) fun ac196 En197 => ?_
     have En198 := En197.fx (t := 57) (congrArg Value.bool hb102)
     have En199 := En198.fx (t := 58) (congrArg Value.bool hb102)
     refine q_s [17,18,19,20,21,22,23] [] 4 En199 (wo103.pk [0]) fun ac200 En201 => ?_
     refine q_t 24 ?_
     refine m_s 0 [.box br [.slice ta7 (List.length (lsR n x 16777215 l s)) tc8, .bool true, .bool o] 120, .box bk25 [.slice ra (List.length rl) rc, .bool s1, .bool o1] 120, .vec oa oc 2 (List.flatMap fSha xs) 49, .grp (List.flatMap innSha xs)] En201 wo103 fun ac202 wo203 En204 Hv205 => ?_
     refine ⟨q_y, ?_⟩
     refine q_n [25,26] [] 1 En204 fun ac206 En207 => ?_
     refine q_t 27 ?_
     refine m_s 0 [.box br [.slice ta7 (List.length (lsR n x 16777215 l s)) tc8, .bool true, .bool true] 120, .box bk25 [.slice ra (List.length rl) rc, .bool s1, .bool o1] 120, .vec oa oc 2 (List.flatMap fSha xs) 49, .grp (List.flatMap innSha xs)] En207 Hv205 fun ac208 wo209 En210 Hv211 => ?_
     refine ⟨q_y, ?_⟩
     exact h_e ⟨En210.sb, Hv211.pk [0, 1, 2, 3]⟩
    rintro ac212 wo213 ⟨En214, Hv215⟩
    refine then_normal ?_
    refine d_s [0,3,8,10,11] [] En214 fun ac216 En217 => ?_
    refine wp_ret ?_
    refine d_ret1 (t := 8) (v := .slice oa (List.length xs) oc) En217 (by kernel_rfl) (by kernel_rfl) ?_
    have e1 : (lsS n x 16777215 l s || s1) = true := by rw [hb101]; rfl
    have e2 : (o || o1) = true := by rw [hb102]; rfl
    have hfin : Ev w [.box br [.slice a (List.length l) c, .bool s, .bool o] 120] wo213 [.box br [.slice ta7 (List.length (lsR n x 16777215 l s)) tc8, .bool (lsS n x 16777215 l s || s1), .bool (o || o1)] 120, .vec oa oc 2 (List.flatMap fSha xs) 49, .grp (List.flatMap innSha xs)] := by rw [e1, e2]; exact Hv215.pk [0, 2, 3]
    exact ⟨ta7, tc8, oa, oc, xs, rfl, by rw [hmn]; exact hfin, hs9, by rw [hmn], hct, hsm⟩
   ·
    have hb102p : ¬ (o = true) := Bool.eq_false_iff.1 hb102
    refine r_c (fun ac wo => Env ac 69 [(0, pt br), (3, .func (.func 160) #[] #[]), (8, .slice none 0 0), (10, pt bk25), (11, .slice oa (List.length xs) oc)] ∧ Ev w [.box br [.slice a (List.length l) c, .bool s, .bool o] 120] wo [.box br [.slice ta7 (List.length (lsR n x 16777215 l s)) tc8, .bool true, .bool o1] 120, .box bk25 [.slice ra (List.length rl) rc, .bool s1, .bool o1] 120, .vec oa oc 2 (List.flatMap fSha xs) 49, .grp (List.flatMap innSha xs)]) ?_ ?_
    ·
     refine h_s (fun wv => Ev w [.box br [.slice a (List.length l) c, .bool s, .bool o] 120] wv [.box br [.slice ta7 (List.length (lsR n x 16777215 l s)) tc8, .bool (lsS n x 16777215 l s), .bool o] 120, .box bk25 [.slice ra (List.length rl) rc, .bool s1, .bool o1] 120]) [24] 28 ?_
     have wo218 := Hv100.trans (Ev.drew Hv100.heap)
     refine q_s [0,1,2,3,4] [] 23 En99 (wo218.pk [0, 1]) fun ac311 En312 => ?_
     refine q_l 0 5 En312 (wo218.pk [0, 1]) fun ac313 En314 => ?_
     refine q_s [6] [] 21 En314 (wo218.pk [0, 1]) fun ac315 En316 => ?_
     have En317 := En316.fx (t := 47) (congrArg Value.bool hb101)
     have En318 := En317.fx (t := 48) (congrArg Value.bool hb101)
     refine q_s [7,8,9,10,11,12,13,14] [] 13 En318 (wo218.pk [0, 1]) fun ac319 En320 => ?_
     refine q_l 0 15 En320 (wo218.pk [0, 1]) fun ac321 En322 => ?_
     refine q_s [16] [] 11 En322 (wo218.pk [0, 1]) fun ac323 En324 => ?_
     have En325 := En324.fx (t := 57) (congrArg Value.bool hb102)
     have En326 := En325.fx (t := 58) (congrArg Value.bool hb102)
     refine q_s [17,18,19] [] 8 En326 (wo218.pk [0, 1]) fun ac327 En328 => ?_
     refine q_l 1 20 En328 (wo218.pk [0, 1]) fun ac329 En330 => ?_
     refine q_s [21,22,23] [] 4 En330 (wo218.pk [0, 1]) fun ac331 En332 => ?_
     refine q_t 24 ?_
     refine m_s 0 [.box br [.slice ta7 (List.length (lsR n x 16777215 l s)) tc8, .bool true, .bool o] 120, .box bk25 [.slice ra (List.length rl) rc, .bool s1, .bool o1] 120, .vec oa oc 2 (List.flatMap fSha xs) 49, .grp (List.flatMap innSha xs)] En332 wo218 fun ac333 wo334 En335 Hv336 => ?_
     refine ⟨q_y, ?_⟩
     refine q_n [25,26] [] 1 En335 fun ac337 En338 => ?_
     refine q_t 27 ?_
     refine m_s 0 [.box br [.slice ta7 (List.length (lsR n x 16777215 l s)) tc8, .bool true, .bool o1] 120, .box bk25 [.slice ra (List.length rl) rc, .bool s1, .bool o1] 120, .vec oa oc 2 (List.flatMap fSha xs) 49, .grp (List.flatMap innSha xs)] En338 Hv336 fun ac339 wo340 En341 Hv342 => ?_
     refine ⟨q_y, ?_⟩
     exact h_e ⟨En341.sb, Hv342.pk [0, 1, 2, 3]⟩
    rintro ac343 wo344 ⟨En345, Hv346⟩
    refine then_normal ?_
    refine d_s [0,3,8,10,11] [] En345 fun ac347 En348 => ?_
    refine wp_ret ?_
    refine d_ret1 (t := 8) (v := .slice oa (List.length xs) oc) En348 (by kernel_rfl) (by kernel_rfl) ?_
    have e1 : (lsS n x 16777215 l s || s1) = true := by rw [hb101]; rfl
    have e2 : (o || o1) = o1 := by rw [hb102]; rfl
    have hfin : Ev w [.box br [.slice a (List.length l) c, .bool s, .bool o] 120] wo344 [.box br [.slice ta7 (List.length (lsR n x 16777215 l s)) tc8, .bool (lsS n x 16777215 l s || s1), .bool (o || o1)] 120, .vec oa oc 2 (List.flatMap fSha xs) 49, .grp (List.flatMap innSha xs)] := by rw [e1, e2]; exact Hv346.pk [0, 2, 3]
    exact ⟨ta7, tc8, oa, oc, xs, rfl, by rw [hmn]; exact hfin, hs9, by rw [hmn], hct, hsm⟩
  ·
   have hb101p : ¬ (lsS n x 16777215 l s = true) := Bool.eq_false_iff.1 hb101
   rcases Bool.eq_false_or_eq_true (o) with hb349 | hb349
   ·
    have hb349p : o = true := hb349
    refine r_c (fun ac wo => Env ac 69 [(0, pt br), (3, .func (.func 160) #[] #[]), (8, .slice none 0 0), (10, pt bk25), (11, .slice oa (List.length xs) oc)] ∧ Ev w [.box br [.slice a (List.length l) c, .bool s, .bool o] 120] wo [.box br [.slice ta7 (List.length (lsR n x 16777215 l s)) tc8, .bool s1, .bool true] 120, .box bk25 [.slice ra (List.length rl) rc, .bool s1, .bool o1] 120, .vec oa oc 2 (List.flatMap fSha xs) 49, .grp (List.flatMap innSha xs)]) ?_ ?_
    ·
     refine h_s (fun wv => Ev w [.box br [.slice a (List.length l) c, .bool s, .bool o] 120] wv [.box br [.slice ta7 (List.length (lsR n x 16777215 l s)) tc8, .bool (lsS n x 16777215 l s), .bool o] 120, .box bk25 [.slice ra (List.length rl) rc, .bool s1, .bool o1] 120]) [24] 28 ?_
     have wo350 := Hv100.trans (Ev.drew Hv100.heap)
     refine q_s [0,1,2,3,4] [] 23 En99 (wo350.pk [0, 1]) fun ac465 En466 => ?_
     refine q_l 0 5 En466 (wo350.pk [0, 1]) fun ac467 En468 => ?_
     refine q_s [6] [] 21 En468 (wo350.pk [0, 1]) fun ac469 En470 => ?_
     have En471 := En470.fx (t := 47) (congrArg Value.bool hb101)
     have En472 := En471.fx (t := 48) (congrArg Value.bool hb101)
     refine q_s [7,8,9] [] 18 En472 (wo350.pk [0, 1]) fun ac473 En474 => ?_
     refine q_l 1 10 En474 (wo350.pk [0, 1]) fun ac475 En476 => ?_
     refine q_s [11,12,13,14] [] 13 En476 (wo350.pk [0, 1]) fun ac477 En478 => ?_
     refine q_l 0 15 En478 (wo350.pk [0, 1]) fun ac479 En480 => ?_
     refine q_s [16] [] 11 En480 (wo350.pk [0, 1]) fun ac481 En482 => ?_
     have En483 := En482.fx (t := 57) (congrArg Value.bool hb349)
     have En484 := En483.fx (t := 58) (congrArg Value.bool hb349)
     refine q_s [17,18,19,20,21,22,23] [] 4 En484 (wo350.pk [0, 1]) fun ac485 En486 => ?_
     refine q_t 24 ?_
     refine m_s 0 [.box br [.slice ta7 (List.length (lsR n x 16777215 l s)) tc8, .bool s1, .bool o] 120, .box bk25 [.slice ra (List.length rl) rc, .bool s1, .bool o1] 120, .vec oa oc 2 (List.flatMap fSha xs) 49, .grp (List.flatMap innSha xs)] En486 wo350 fun ac487 wo488 En489 Hv490 => ?_
     refine ⟨q_y, ?_⟩
     refine q_n [25,26] [] 1 En489 fun ac491 En492 => ?_
     refine q_t 27 ?_
     refine m_s 0 [.box br [.slice ta7 (List.length (lsR n x 16777215 l s)) tc8, .bool s1, .bool true] 120, .box bk25 [.slice ra (List.length rl) rc, .bool s1, .bool o1] 120, .vec oa oc 2 (List.flatMap fSha xs) 49, .grp (List.flatMap innSha xs)] En492 Hv490 fun ac493 wo494 En495 Hv496 => ?_
     refine ⟨q_y, ?_⟩
     exact h_e ⟨En495.sb, Hv496.pk [0, 1, 2, 3]⟩
    rintro ac497 wo498 ⟨En499, Hv500⟩
    refine then_normal ?_
    refine d_s [0,3,8,10,11] [] En499 fun ac501 En502 => ?_
    refine wp_ret ?_
    refine d_ret1 (t := 8) (v := .slice oa (List.length xs) oc) En502 (by kernel_rfl) (by kernel_rfl) ?_
    have e1 : (lsS n x 16777215 l s || s1) = s1 := by rw [hb101]; rfl
    have e2 : (o || o1) = true := by rw [hb349]; rfl
    have hfin : Ev w [.box br [.slice a (List.length l) c, .bool s, .bool o] 120] wo498 [.box br [.slice ta7 (List.length (lsR n x 16777215 l s)) tc8, .bool (lsS n x 16777215 l s || s1), .bool (o || o1)] 120, .vec oa oc 2 (List.flatMap fSha xs) 49, .grp (List.flatMap innSha xs)] := by rw [e1, e2]; exact Hv500.pk [0, 2, 3]
    exact ⟨ta7, tc8, oa, oc, xs, rfl, by rw [hmn]; exact hfin, hs9, by rw [hmn], hct, hsm⟩
   ·
    have hb349p : ¬ (o = true) := Bool.eq_false_iff.1 hb349
    refine r_c (fun ac wo => Env ac 69 [(0, pt br), (3, .func (.func 160) #[] #[]), (8, .slice none 0 0), (10, pt bk25), (11, .slice oa (List.length xs) oc)] ∧ Ev w [.box br [.slice a (List.length l) c, .bool s, .bool o] 120] wo [.box br [.slice ta7 (List.length (lsR n x 16777215 l s)) tc8, .bool s1, .bool o1] 120, .box bk25 [.slice ra (List.length rl) rc, .bool s1, .bool o1] 120, .vec oa oc 2 (List.flatMap fSha xs) 49, .grp (List.flatMap innSha xs)]) ?_ ?_
    ·
     refine h_s (fun wv => Ev w [.box br [.slice a (List.length l) c, .bool s, .bool o] 120] wv [.box br [.slice ta7 (List.length (lsR n x 16777215 l s)) tc8, .bool (lsS n x 16777215 l s), .bool o] 120, .box bk25 [.slice ra (List.length rl) rc, .bool s1, .bool o1] 120]) [24] 28 ?_
     have wo503 := Hv100.trans (Ev.drew Hv100.heap)
     refine q_s [0,1,2,3,4] [] 23 En99 (wo503.pk [0, 1]) fun ac638 En639 => ?_
     refine q_l 0 5 En639 (wo503.pk [0, 1]) fun ac640 En641 => ?_
     refine q_s [6] [] 21 En641 (wo503.pk [0, 1]) fun ac642 En643 => ?_
     have En644 := En643.fx (t := 47) (congrArg Value.bool hb101)
     have En645 := En644.fx (t := 48) (congrArg Value.bool hb101)
     refine q_s [7,8,9] [] 18 En645 (wo503.pk [0, 1]) fun ac646 En647 => ?_
     refine q_l 1 10 En647 (wo503.pk [0, 1]) fun ac648 En649 => ?_
     refine q_s [11,12,13,14] [] 13 En649 (wo503.pk [0, 1]) fun ac650 En651 => ?_
     refine q_l 0 15 En651 (wo503.pk [0, 1]) fun ac652 En653 => ?_
     refine q_s [16] [] 11 En653 (wo503.pk [0, 1]) fun ac654 En655 => ?_
     have En656 := En655.fx (t := 57) (congrArg Value.bool hb349)
     have En657 := En656.fx (t := 58) (congrArg Value.bool hb349)
     refine q_s [17,18,19] [] 8 En657 (wo503.pk [0, 1]) fun ac658 En659 => ?_
     refine q_l 1 20 En659 (wo503.pk [0, 1]) fun ac660 En661 => ?_
     refine q_s [21,22,23] [] 4 En661 (wo503.pk [0, 1]) fun ac662 En663 => ?_
     refine q_t 24 ?_
     refine m_s 0 [.box br [.slice ta7 (List.length (lsR n x 16777215 l s)) tc8, .bool s1, .bool o] 120, .box bk25 [.slice ra (List.length rl) rc, .bool s1, .bool o1] 120, .vec oa oc 2 (List.flatMap fSha xs) 49, .grp (List.flatMap innSha xs)] En663 wo503 fun ac664 wo665 En666 Hv667 => ?_
     refine ⟨q_y, ?_⟩
     refine q_n [25,26] [] 1 En666 fun ac668 En669 => ?_
     refine q_t 27 ?_
     refine m_s 0 [.box br [.slice ta7 (List.length (lsR n x 16777215 l s)) tc8, .bool s1, .bool o1] 120, .box bk25 [.slice ra (List.length rl) rc, .bool s1, .bool o1] 120, .vec oa oc 2 (List.flatMap fSha xs) 49, .grp (List.flatMap innSha xs)] En669 Hv667 fun ac670 wo671 En672 Hv673 => ?_
     refine ⟨q_y, ?_⟩
     exact h_e ⟨En672.sb, Hv673.pk [0, 1, 2, 3]⟩
    rintro ac674 wo675 ⟨En676, Hv677⟩
    refine then_normal ?_
    refine d_s [0,3,8,10,11] [] En676 fun ac678 En679 => ?_
    refine wp_ret ?_
    refine d_ret1 (t := 8) (v := .slice oa (List.length xs) oc) En679 (by kernel_rfl) (by kernel_rfl) ?_
    have e1 : (lsS n x 16777215 l s || s1) = s1 := by rw [hb101]; rfl
    have e2 : (o || o1) = o1 := by rw [hb349]; rfl
    have hfin : Ev w [.box br [.slice a (List.length l) c, .bool s, .bool o] 120] wo675 [.box br [.slice ta7 (List.length (lsR n x 16777215 l s)) tc8, .bool (lsS n x 16777215 l s || s1), .bool (o || o1)] 120, .vec oa oc 2 (List.flatMap fSha xs) 49, .grp (List.flatMap innSha xs)] := by rw [e1, e2]; exact Hv677.pk [0, 2, 3]
    exact ⟨ta7, tc8, oa, oc, xs, rfl, by rw [hmn]; exact hfin, hs9, by rw [hmn], hct, hsm⟩

theorem getshares1 (w : World) (br : Nat) (a : Option Addr) (c : Nat) (l : List UInt8) (s o : Bool) (i : InB w [.box br [.slice a (List.length l) c, .bool s, .bool o] 120] a c l) (hH : Heap w [.box br [.slice a (List.length l) c, .bool s, .bool o] 120]) : Calls Try.prog 158 #[pt br] w fun e w' => ∃ ta tc oa oc xs, e = .returned (.slice oa (List.length xs) oc) ∧ Ev w [.box br [.slice a (List.length l) c, .bool s, .bool o] 120] w' [.box br [.slice ta (List.length ((manyM shareM 2 0 l s o).2.1)) tc, .bool ((manyM shareM 2 0 l s o).2.2.1), .bool ((manyM shareM 2 0 l s o).2.2.2)] 120, .vec oa oc 2 (List.flatMap fSha xs) 49, .grp (List.flatMap innSha xs)] ∧ Sub a c l ta tc (manyM shareM 2 0 l s o).2.1 ∧ List.map (fun y : RSha => (y.1, y.2.1.l)) xs = (manyM shareM 2 0 l s o).1 ∧ List.length xs ≤ 4294967296 ∧ ∀ y ∈ xs, List.length y.2.1.l ≤ 140737488351232 := by
 refine d_0 [(0, pt br)] 5 Go.Proofs.Try.func158 Go.Proofs.Try.ntmps158 (hH) fun act0 En0 Hv0 => ?_
 refine d_s [0,2] [] En0 fun ac1 En2 => ?_
 refine wp_seq ?_
 refine region_from ?_
 refine d_k [2,3] [] 1 En2 fun ac3 En4 => ?_
 refine f_o ?_
 refine c_l [0] (M := [.box br [.slice a (List.length l) c, .bool s, .bool o] 120]) En4 Hv0 (fun hM14 => many_sha _ br 2 (by omega) 0 (by omega) a c l s o ((i.ev Hv0).pick [0] (by kernel_rfl)) hM14) ?_
 rintro _ wo15 ⟨ta5, tc6, oa7, oc8, xs9, rfl, he16, hs10, hmn11, hct12, hsm13⟩
 refine ⟨_, _, [.box br [.slice ta5 (List.length (lsR 2 0 16777215 l s)) tc6, .bool (lsS 2 0 16777215 l s || (mn shareM ((lsO 2 0 16777215 l s, lsS 2 0 16777215 l s, false) : PS)).2.2.1), .bool (o || (mn shareM ((lsO 2 0 16777215 l s, lsS 2 0 16777215 l s, false) : PS)).2.2.2)] 120, .vec oa7 oc8 2 (List.flatMap fSha xs9) 49, .grp (List.flatMap innSha xs9)], rfl, he16, by kernel_rfl, fun ac18 En19 Hv20 => ?_⟩
 refine d_e [2] [] En19 fun ac21 En22 => ?_
 refine then_normal ?_
 refine wp_ret ?_
 refine d_ret1 (t := 2) (v := .slice oa7 (List.length xs9) oc8) En22 (by kernel_rfl) (by kernel_rfl) ?_
 exact ⟨ta5, tc6, oa7, oc8, xs9, rfl, Hv20.pk [0, 1, 2], hs10, hmn11, (Nat.le_trans hct12 (lsO_32 (by decide) _ _)), hsm13⟩

theorem got_getshares (w : World) (a : Option Addr) (c : Nat) (l : Bs) (i : InB w [] a c l) : Calls Try.prog 157 #[.slice a (List.length l) c, .func (.func 158) #[] #[]] w fun e w' => ∃ oa oc xs, e = .returned (.tuple #[.slice oa (List.length xs) oc, .int .i64 (gotA (manyM shareM 2 0 l false false))]) ∧ Ev w [] w' [.vec oa oc 2 (List.flatMap fSha xs) 49, .grp (List.flatMap innSha xs)] ∧ List.map (fun y : RSha => (y.1, y.2.1.l)) xs = gotV [] (manyM shareM 2 0 l false false) ∧ List.length xs ≤ 4294967296 ∧ ∀ y ∈ xs, List.length y.2.1.l ≤ 140737488351232 := by
 refine d_0 [(0, .slice a (List.length l) c), (1, .func (.func 158) #[] #[])] 36 Go.Proofs.Try.func157 Go.Proofs.Try.ntmps157 (Heap.nil _) fun act0 En0 Hv0 => ?_
 refine d_s [0,1,4,5] [] En0 fun ac1 En2 => ?_
 refine d_s [0,1,4,5,6] [] En2 fun ac3 En4 => ?_
 refine wp_seq ?_
 refine region_from ?_
 refine d_k [1,4,5,6,10] [] 2 En4 fun ac5 En6 => ?_
 refine f_o ?_
 refine m_m 120 [.slice a (List.length l) c, .bool false, .bool false] En6 Hv0 fun ac8 wo9 bk7 En10 Hv11 => ?_
 refine d_e [1,4,5,6,7] [] En10 fun ac12 En13 => ?_
 refine then_normal ?_
 refine wp_seq ?_
 refine region_from ?_
 refine d_k [4,5,6,7,12,13] [] 2 En13 fun ac14 En15 => ?_
 refine f_o ?_
 refine c_l [0] (M := [.box bk7 [.slice a (List.length l) c, .bool false, .bool false] 120]) En15 Hv11 (fun hM25 => getshares1 _ bk7 a c l false false ((i.ev Hv11).pick [0] (by kernel_rfl)) hM25) ?_
 rintro _ wo26 ⟨ta16, tc17, oa20, oc21, xs22, rfl, he27, hs18, hpu19, hf23, hf24⟩
 refine ⟨_, _, [.box bk7 [.slice ta16 (List.length ((manyM shareM 2 0 l false false).2.1)) tc17, .bool ((manyM shareM 2 0 l false false).2.2.1), .bool ((manyM shareM 2 0 l false false).2.2.2)] 120, .vec oa20 oc21 2 (List.flatMap fSha xs22) 49, .grp (List.flatMap innSha xs22)], rfl, he27, by kernel_rfl, fun ac29 En30 Hv31 => ?_⟩
 refine d_e [4,5,6,7,8] [] En30 fun ac32 En33 => ?_
 refine then_normal ?_
 refine wp_seq ?_
 refine wp_block ?_
 refine wp_seq ?_
 refine region_from ?_
 refine d_k [4,5,6,7,8,18] [] 3 En33 fun ac34 En35 => ?_
 refine f_o ?_
 refine m_l 0 En35 Hv31 fun ac36 En37 => ?_
 refine d_k [4,5,6,7,8,20] [] 5 En37 fun ac38 En39 => ?_
 rcases Bool.eq_false_or_eq_true ((manyM shareM 2 0 l false false).2.2.1) with hb40 | hb40
 ·
  have En41 := En39.fx (t := 20) (congrArg Value.bool hb40)
  have hp42 : (manyM shareM 2 0 l false false).2.2.1 = true := hb40
  refine d_e [4,5,6,7,8,15] [] En41 fun ac43 En44 => ?_
  refine then_normal ?_
  refine c_t En44 ?_
  refine d_s [4,5,6,7,8] [] En44 fun ac45 En46 => ?_
  refine wp_ret ?_
  refine block_ret ?_
  refine then_ret ?_
  refine d_ret2 (t := 4) (u := 5) (v := .slice none 0 0) (x := .int .i64 50) En46 (by kernel_rfl) (by kernel_rfl) (by kernel_rfl) ?_
  have eA : gotA (manyM shareM 2 0 l false false) = 50 := Eq.symm (by first | exact end_1 (by assumption) | exact end_2 (by omega) | exact end_3 (by assumption) (by omega) (by assumption))
  rw [gotV_n eA (by decide), eA]
  have Hv47 : Ev w [] wo26 [.box bk7 [.slice ta16 (List.length ((manyM shareM 2 0 l false false).2.1)) tc17, .bool ((manyM shareM 2 0 l false false).2.2.1), .bool ((manyM shareM 2 0 l false false).2.2.2)] 120, .vec oa20 oc21 2 (List.flatMap fSha xs22) 49, .grp (List.flatMap innSha xs22), .vec none 0 2 (List.flatMap fSha []) 49] := Ev.nil (sz := 2) (T := 49) Hv31
  have Hv48 : Ev w [] wo26 [.box bk7 [.slice ta16 (List.length ((manyM shareM 2 0 l false false).2.1)) tc17, .bool ((manyM shareM 2 0 l false false).2.2.1), .bool ((manyM shareM 2 0 l false false).2.2.2)] 120, .vec oa20 oc21 2 (List.flatMap fSha xs22) 49, .grp (List.flatMap innSha xs22), .vec none 0 2 (List.flatMap fSha []) 49, .grp (List.flatMap innSha [])] := Ev.grp0 Hv47
  exact ⟨none, 0, [], rfl, Hv48.pk [3, 4], rfl, (Nat.zero_le _), (fun y hy => by cases hy)⟩
 ·
  have En49 := En39.fx (t := 20) (congrArg Value.bool hb40)
  have hp50 : ¬ ((manyM shareM 2 0 l false false).2.2.1 = true) := Bool.eq_false_iff.1 hb40
  refine d_k [4,5,6,7,8,20,23] [] 8 En49 fun ac51 En52 => ?_
  refine f_o ?_
  refine m_l 0 En52 Hv31 fun ac53 En54 => ?_
  refine d_e [4,5,6,7,8,15] [] En54 fun ac55 En56 => ?_
  refine then_normal ?_
  refine c_d (((List.length ((manyM shareM 2 0 l false false).2.1) : Nat) : Int) > (0 : Int)) En56 (fun hc57 => ?_) (fun hc57 => ?_)
  ·
   refine d_s [4,5,6,7,8] [] En56 fun ac58 En59 => ?_
   refine wp_ret ?_
   refine block_ret ?_
   refine then_ret ?_
   refine d_ret2 (t := 4) (u := 5) (v := .slice none 0 0) (x := .int .i64 50) En59 (by kernel_rfl) (by kernel_rfl) (by kernel_rfl) ?_
   have eA : gotA (manyM shareM 2 0 l false false) = 50 := Eq.symm (by first | exact end_1 (by assumption) | exact end_2 (by omega) | exact end_3 (by assumption) (by omega) (by assumption))
   rw [gotV_n eA (by decide), eA]
   have Hv60 : Ev w [] wo26 [.box bk7 [.slice ta16 (List.length ((manyM shareM 2 0 l false false).2.1)) tc17, .bool ((manyM shareM 2 0 l false false).2.2.1), .bool ((manyM shareM 2 0 l false false).2.2.2)] 120, .vec oa20 oc21 2 (List.flatMap fSha xs22) 49, .grp (List.flatMap innSha xs22), .vec none 0 2 (List.flatMap fSha []) 49] := Ev.nil (sz := 2) (T := 49) Hv31
   have Hv61 : Ev w [] wo26 [.box bk7 [.slice ta16 (List.length ((manyM shareM 2 0 l false false).2.1)) tc17, .bool ((manyM shareM 2 0 l false false).2.2.1), .bool ((manyM shareM 2 0 l false false).2.2.2)] 120, .vec oa20 oc21 2 (List.flatMap fSha xs22) 49, .grp (List.flatMap innSha xs22), .vec none 0 2 (List.flatMap fSha []) 49, .grp (List.flatMap innSha [])] := Ev.grp0 Hv60
   exact ⟨none, 0, [], rfl, Hv61.pk [3, 4], rfl, (Nat.zero_le _), (fun y hy => by cases hy)⟩
  ·
   refine wp_seq ?_
   refine region_from ?_
   refine d_k [4,5,6,7,8,32] [] 3 En56 fun ac62 En63 => ?_
   refine f_o ?_
   refine m_l 0 En63 Hv31 fun ac64 En65 => ?_
   refine d_e [4,5,6,7,8,29] [] En65 fun ac66 En67 => ?_
   refine then_normal ?_
   refine cond_at En67 (t := (manyM shareM 2 0 l false false).2.2.2) (by kernel_rfl) (fun hc68 => ?_) (fun hc68 => ?_)
   ·
    replace hc68 : (manyM shareM 2 0 l false false).2.2.2 = true := hc68
    refine d_s [4,5,6,7,8] [] En67 fun ac69 En70 => ?_
    refine wp_ret ?_
    refine block_ret ?_
    refine then_ret ?_
    refine d_ret2 (t := 4) (u := 5) (v := .slice none 0 0) (x := .int .i64 47) En70 (by kernel_rfl) (by kernel_rfl) (by kernel_rfl) ?_
    have eA : gotA (manyM shareM 2 0 l false false) = 47 := Eq.symm (by first | exact end_1 (by assumption) | exact end_2 (by omega) | exact end_3 (by assumption) (by omega) (by assumption))
    rw [gotV_n eA (by decide), eA]
    have Hv71 : Ev w [] wo26 [.box bk7 [.slice ta16 (List.length ((manyM shareM 2 0 l false false).2.1)) tc17, .bool ((manyM shareM 2 0 l false false).2.2.1), .bool ((manyM shareM 2 0 l false false).2.2.2)] 120, .vec oa20 oc21 2 (List.flatMap fSha xs22) 49, .grp (List.flatMap innSha xs22), .vec none 0 2 (List.flatMap fSha []) 49] := Ev.nil (sz := 2) (T := 49) Hv31
    have Hv72 : Ev w [] wo26 [.box bk7 [.slice ta16 (List.length ((manyM shareM 2 0 l false false).2.1)) tc17, .bool ((manyM shareM 2 0 l false false).2.2.1), .bool ((manyM shareM 2 0 l false false).2.2.2)] 120, .vec oa20 oc21 2 (List.flatMap fSha xs22) 49, .grp (List.flatMap innSha xs22), .vec none 0 2 (List.flatMap fSha []) 49, .grp (List.flatMap innSha [])] := Ev.grp0 Hv71
    exact ⟨none, 0, [], rfl, Hv72.pk [3, 4], rfl, (Nat.zero_le _), (fun y hy => by cases hy)⟩
   ·
    replace hc68 : ¬ ((manyM shareM 2 0 l false false).2.2.2 = true) := Bool.eq_false_iff.1 hc68
    refine wp_skip ?_
    refine block_normal ?_
    refine then_normal ?_
    refine d_s [4,5,6,7] [] En67 fun ac73 En74 => ?_
    refine wp_ret ?_
    refine d_ret2 (t := 4) (u := 5) (v := .slice oa20 (List.length xs22) oc21) (x := .int .i64 0) En74 (by kernel_rfl) (by kernel_rfl) (by kernel_rfl) ?_
    have eA : gotA (manyM shareM 2 0 l false false) = 0 := (end_4 (by assumption) (by omega) (by assumption)).symm
    rw [gotV_0 eA, eA]
    exact ⟨oa20, oc21, xs22, rfl, Hv31.pk [1, 2], hpu19, hf23, hf24⟩

theorem getshares_go (w : World) (aq : Option Addr) (nq cq : Nat) (lq : List UInt8) (eq : nq = List.length lq) (iq : InB w [] aq cq lq) : Calls Try.prog 53 #[.slice aq nq cq] w fun e w' => ∃ oa oc xs, e = .returned (.tuple #[.slice oa (List.length xs) oc, .int .i64 (gotA (manyM shareM 2 0 lq false false))]) ∧ Ev w [] w' [.vec oa oc 2 (List.flatMap fSha xs) 49, .grp (List.flatMap innSha xs)] ∧ List.map (fun y : RSha => (y.1, y.2.1.l)) xs = gotV [] (manyM shareM 2 0 lq false false) ∧ List.length xs ≤ 4294967296 ∧ ∀ y ∈ xs, List.length y.2.1.l ≤ 140737488351232 := by
 subst eq
 refine d_0 [(0, .slice aq (List.length lq) cq)] 8 Go.Proofs.Try.func53 Go.Proofs.Try.ntmps53 (Heap.nil _) fun act0 En0 Hv0 => ?_
 refine d_s [0,2,3] [] En0 fun ac1 En2 => ?_
 refine wp_seq ?_
 refine region_from ?_
 refine d_k [2,3,4] [] 1 En2 fun ac3 En4 => ?_
 refine f_o ?_
 refine c_0 En4 Hv0 (got_getshares _ aq cq lq ((iq.ev Hv0).pick [] (by kernel_rfl))) ?_
 rintro _ wo12 ⟨oa5, oc6, xs7, rfl, he13, hpu8, hf9, hf10⟩
 refine ⟨_, _, _, rfl, he13, rfl, fun ac15 En16 Hv17 => ?_⟩
 refine d_e [2,3] [] En16 fun ac18 En19 => ?_
 refine then_normal ?_
 refine wp_ret ?_
 refine d_ret2 (t := 2) (u := 3) (v := .slice oa5 (List.length xs7) oc6) (x := .int .i64 (gotA (manyM shareM 2 0 lq false false))) En19 (by kernel_rfl) (by kernel_rfl) (by kernel_rfl) ?_
 exact ⟨oa5, oc6, xs7, rfl, Hv17.pk [0, 1], hpu8, hf9, hf10⟩

theorem got_getshare (w : World) (a : Option Addr) (c : Nat) (l : Bs) (i : InB w [] a c l) : Calls Try.prog 162 #[.slice a (List.length l) c, .func (.func 160) #[] #[]] w fun e w' => ∃ gv oa oc bl, e = .returned (.tuple #[.agg #[uv16 gv, .slice oa (List.length bl) oc], .int .i64 (gotA (shareM l false false))]) ∧ Ev w [] w' [.vec oa oc 1 (bys bl) 5] ∧ (gv, bl) = gotV (0, []) (shareM l false false) ∧ List.length bl ≤ 4294967296 := by
 refine d_0 [(0, .slice a (List.length l) c), (1, .func (.func 160) #[] #[])] 36 Go.Proofs.Try.func162 Go.Proofs.Try.ntmps162 (Heap.nil _) fun act0 En0 Hv0 => ?_
 refine wp_seq ?_
 refine region_from ?_
 refine f_o ?_
 refine m_z 49 [.int .u16 0, .slice none 0 0] En0 Hv0 fun ac2 wo3 bk1 En4 Hv5 => ?_
 refine d_e [0,1,4,5] [] En4 fun ac6 En7 => ?_
 refine then_normal ?_
 refine wp_seq ?_
 refine region_from ?_
 refine f_o ?_
 refine m_z 49 [.int .u16 0, .slice none 0 0] En7 Hv5 fun ac9 wo10 bk8 En11 Hv12 => ?_
 refine f_e ?_
 refine then_normal ?_
 refine wp_seq ?_
 refine region_from ?_
 refine d_k [1,4,5,6,10] [] 2 En11 fun ac13 En14 => ?_
 refine f_o ?_
 refine m_m 120 [.slice a (List.length l) c, .bool false, .bool false] En14 Hv12 fun ac16 wo17 bk15 En18 Hv19 => ?_
 refine d_e [1,4,5,6,7] [] En18 fun ac20 En21 => ?_
 refine then_normal ?_
 refine wp_seq ?_
 refine region_from ?_
 refine d_k [4,5,6,7,12,13] [] 2 En21 fun ac22 En23 => ?_
 refine f_o ?_
 refine c_l [2] (M := [.box bk15 [.slice a (List.length l) c, .bool false, .bool false] 120]) En23 Hv19 (fun hM33 => share_go _ bk15 a c l false false ((i.ev Hv19).pick [2] (by kernel_rfl)) hM33) ?_
 rintro _ wo34 ⟨ta24, tc25, gv28, oa29, oc30, bl31, rfl, he35, hs26, hpu27, hf32⟩
 refine ⟨_, _, [.box bk15 [.slice ta24 (List.length ((shareM l false false).2.1)) tc25, .bool ((shareM l false false).2.2.1), .bool ((shareM l false false).2.2.2)] 120, .vec oa29 oc30 1 (bys bl31) 5, .box bk1 [.int .u16 0, .slice none 0 0] 49, .box bk8 [.int .u16 0, .slice none 0 0] 49], rfl, he35, by kernel_rfl, fun ac37 En38 Hv39 => ?_⟩
 refine f_o ?_
 refine m_z 49 [.int .u16 0, .slice none 0 0] En38 Hv39 fun ac41 wo42 bk40 En43 Hv44 => ?_
 refine f_o ?_
 refine m_g 4 0 2 [uv16 gv28, .slice oa29 (List.length bl31) oc30] [uv16 gv28, .slice oa29 (List.length bl31) oc30] [.box bk15 [.slice ta24 (List.length ((shareM l false false).2.1)) tc25, .bool ((shareM l false false).2.2.1), .bool ((shareM l false false).2.2.2)] 120, .vec oa29 oc30 1 (bys bl31) 5, .box bk1 [.int .u16 0, .slice none 0 0] 49, .box bk8 [.int .u16 0, .slice none 0 0] 49, .box bk40 [uv16 gv28, .slice oa29 (List.length bl31) oc30] 49] En43 Hv44 rfl rfl (by simp) (one_all (by kernel_rfl)) rfl rfl fun ac45 wo46 En47 Hv48 => ?_
 refine f_e ?_
 refine then_normal ?_
 refine wp_seq ?_
 refine wp_block ?_
 refine wp_seq ?_
 refine region_from ?_
 refine d_k [4,5,6,7,8,18] [] 3 En47 fun ac49 En50 => ?_
 refine f_o ?_
 refine m_l 0 En50 Hv48 fun ac51 En52 => ?_
 refine d_k [4,5,6,7,8,20] [] 5 En52 fun ac53 En54 => ?_
 rcases Bool.eq_false_or_eq_true ((shareM l false false).2.2.1) with hb55 | hb55
 ·
  have En56 := En54.fx (t := 20) (congrArg Value.bool hb55)
  have hp57 : (shareM l false false).2.2.1 = true := hb55
  refine d_e [4,5,6,7,8,15] [] En56 fun ac58 En59 => ?_
  refine then_normal ?_
  refine c_t En59 ?_
  refine wp_seq ?_
  refine region_from ?_
  refine f_o ?_
  refine m_a 3 0 2 [.int .u16 0, .slice none 0 0] En59 Hv48 rfl rfl rfl fun ac60 En61 => ?_
  refine f_o ?_
  refine m_g 2 0 2 [.int .u16 0, .slice none 0 0] [.int .u16 0, .slice none 0 0] [.box bk15 [.slice ta24 (List.length ((shareM l false false).2.1)) tc25, .bool ((shareM l false false).2.2.1), .bool ((shareM l false false).2.2.2)] 120, .vec oa29 oc30 1 (bys bl31) 5, .box bk1 [.int .u16 0, .slice none 0 0] 49, .box bk8 [.int .u16 0, .slice none 0 0] 49, .box bk40 [uv16 gv28, .slice oa29 (List.length bl31) oc30] 49] En61 Hv48 rfl rfl (by simp) (one_all (by kernel_rfl)) rfl rfl fun ac62 wo63 En64 Hv65 => ?_
  refine d_e [4,5,6,7,8] [] En64 fun ac66 En67 => ?_
  refine then_normal ?_
  refine wp_ret ?_
  refine block_ret ?_
  refine then_ret ?_
  refine d_cell_tmp (v := .agg #[.int .u16 0, .slice none 0 0]) (x := .int .i64 50) (t := 4) (T := 49) (ad := ⟨bk1, 0, none⟩) (u := 5) En67 (by kernel_rfl) (by kernel_rfl) (Ev.cellAgg (t := 49) (k := 2) (off := 0) (m := 2) (xs := [.int .u16 0, .slice none 0 0]) Hv65 rfl rfl rfl (by kernel_rfl) (by kernel_rfl)) (by kernel_rfl) ?_
  have eA : gotA (shareM l false false) = 50 := Eq.symm (by first | exact end_1 (by assumption) | exact end_2 (by omega) | exact end_3 (by assumption) (by omega) (by assumption))
  rw [gotV_n eA (by decide), eA]
  have Hv68 : Ev w [] wo63 [.box bk15 [.slice ta24 (List.length ((shareM l false false).2.1)) tc25, .bool ((shareM l false false).2.2.1), .bool ((shareM l false false).2.2.2)] 120, .vec oa29 oc30 1 (bys bl31) 5, .box bk1 [.int .u16 0, .slice none 0 0] 49, .box bk8 [.int .u16 0, .slice none 0 0] 49, .box bk40 [uv16 gv28, .slice oa29 (List.length bl31) oc30] 49, .vec none 0 1 (bys []) 5] := Ev.nil (sz := 1) (T := 5) Hv65
  exact ⟨0, none, 0, [], rfl, Hv68.pk [5], rfl, (Nat.zero_le _)⟩
 ·
  have En69 := En54.fx (t := 20) (congrArg Value.bool hb55)
  have hp70 : ¬ ((shareM l false false).2.2.1 = true) := Bool.eq_false_iff.1 hb55
  refine d_k [4,5,6,7,8,20,23] [] 8 En69 fun ac71 En72 => ?_
  refine f_o ?_
  refine m_l 0 En72 Hv48 fun ac73 En74 => ?_
  refine d_e [4,5,6,7,8,15] [] En74 fun ac75 En76 => ?_
  refine then_normal ?_
  refine c_d (((List.length ((shareM l false false).2.1) : Nat) : Int) > (0 : Int)) En76 (fun hc77 => ?_) (fun hc77 => ?_)
  ·
   refine wp_seq ?_
   refine region_from ?_
   refine f_o ?_
   refine m_a 3 0 2 [.int .u16 0, .slice none 0 0] En76 Hv48 rfl rfl rfl fun ac78 En79 => ?_
   refine f_o ?_
   refine m_g 2 0 2 [.int .u16 0, .slice none 0 0] [.int .u16 0, .slice none 0 0] [.box bk15 [.slice ta24 (List.length ((shareM l false false).2.1)) tc25, .bool ((shareM l false false).2.2.1), .bool ((shareM l false false).2.2.2)] 120, .vec oa29 oc30 1 (bys bl31) 5, .box bk1 [.int .u16 0, .slice none 0 0] 49, .box bk8 [.int .u16 0, .slice none 0 0] 49, .box bk40 [uv16 gv28, .slice oa29 (List.length bl31) oc30] 49] En79 Hv48 rfl rfl (by simp) (one_all (by kernel_rfl)) rfl rfl fun ac80 wo81 En82 Hv83 => ?_
   refine d_e [4,5,6,7,8] [] En82 fun ac84 En85 => ?_
   refine then_normal ?_
   refine wp_ret ?_
   refine block_ret ?_
   refine then_ret ?_
   refine d_cell_tmp (v := .agg #[.int .u16 0, .slice none 0 0]) (x := .int .i64 50) (t := 4) (T := 49) (ad := ⟨bk1, 0, none⟩) (u := 5) En85 (by kernel_rfl) (by kernel_rfl) (Ev.cellAgg (t := 49) (k := 2) (off := 0) (m := 2) (xs := [.int .u16 0, .slice none 0 0]) Hv83 rfl rfl rfl (by kernel_rfl) (by kernel_rfl)) (by kernel_rfl) ?_
   have eA : gotA (shareM l false false) = 50 := Eq.symm (by first | exact end_1 (by assumption) | exact end_2 (by omega) | exact end_3 (by assumption) (by omega) (by assumption))
   rw [gotV_n eA (by decide), eA]
   have Hv86 : Ev w [] wo81 [.box bk15 [.slice ta24 (List.length ((shareM l false false).2.1)) tc25, .bool ((shareM l false false).2.2.1), .bool ((shareM l false false).2.2.2)] 120, .vec oa29 oc30 1 (bys bl31) 5, .box bk1 [.int .u16 0, .slice none 0 0] 49, .box bk8 [.int .u16 0, .slice none 0 0] 49, .box bk40 [uv16 gv28, .slice oa29 (List.length bl31) oc30] 49, .vec none 0 1 (bys []) 5] := Ev.nil (sz := 1) (T := 5) Hv83
   exact ⟨0, none, 0, [], rfl, Hv86.pk [5], rfl, (Nat.zero_le _)⟩
  ·
   refine wp_seq ?_
   refine region_from ?_
   refine d_k [4,5,6,7,8,32] [] 3 En76 fun ac87 En88 => ?_
   refine f_o ?_
   refine m_l 0 En88 Hv48 fun ac89 En90 => ?_
   refine d_e [4,5,6,7,8,29] [] En90 fun ac91 En92 => ?_
   refine then_normal ?_
   refine cond_at En92 (t := (shareM l false false).2.2.2) (by kernel_rfl) (fun hc93 => ?_) (fun hc93 => ?_)
   ·
    replace hc93 : (shareM l false false).2.2.2 = true := hc93
    refine wp_seq ?_
    refine region_from ?_
    refine f_o ?_
    refine m_a 3 0 2 [.int .u16 0, .slice none 0 0] En92 Hv48 rfl rfl rfl fun ac94 En95 => ?_
    refine f_o ?_
    refine m_g 2 0 2 [.int .u16 0, .slice none 0 0] [.int .u16 0, .slice none 0 0] [.box bk15 [.slice ta24 (List.length ((shareM l false false).2.1)) tc25, .bool ((shareM l false false).2.2.1), .bool ((shareM l false false).2.2.2)] 120, .vec oa29 oc30 1 (bys bl31) 5, .box bk1 [.int .u16 0, .slice none 0 0] 49, .box bk8 [.int .u16 0, .slice none 0 0] 49, .box bk40 [uv16 gv28, .slice oa29 (List.length bl31) oc30] 49] En95 Hv48 rfl rfl (by simp) (one_all (by kernel_rfl)) rfl rfl fun ac96 wo97 En98 Hv99 => ?_
    refine d_e [4,5,6,7,8] [] En98 fun ac100 En101 => ?_
    refine then_normal ?_
    refine wp_ret ?_
    refine block_ret ?_
    refine then_ret ?_
    refine d_cell_tmp (v := .agg #[.int .u16 0, .slice none 0 0]) (x := .int .i64 47) (t := 4) (T := 49) (ad := ⟨bk1, 0, none⟩) (u := 5) En101 (by kernel_rfl) (by kernel_rfl) (Ev.cellAgg (t := 49) (k := 2) (off := 0) (m := 2) (xs := [.int .u16 0, .slice none 0 0]) Hv99 rfl rfl rfl (by kernel_rfl) (by kernel_rfl)) (by kernel_rfl) ?_
    have eA : gotA (shareM l false false) = 47 := Eq.symm (by first | exact end_1 (by assumption) | exact end_2 (by omega) | exact end_3 (by assumption) (by omega) (by assumption))
    rw [gotV_n eA (by decide), eA]
    have Hv102 : Ev w [] wo97 [.box bk15 [.slice ta24 (List.length ((shareM l false false).2.1)) tc25, .bool ((shareM l false false).2.2.1), .bool ((shareM l false false).2.2.2)] 120, .vec oa29 oc30 1 (bys bl31) 5, .box bk1 [.int .u16 0, .slice none 0 0] 49, .box bk8 [.int .u16 0, .slice none 0 0] 49, .box bk40 [uv16 gv28, .slice oa29 (List.length bl31) oc30] 49, .vec none 0 1 (bys []) 5] := Ev.nil (sz := 1) (T := 5) Hv99
    exact ⟨0, none, 0, [], rfl, Hv102.pk [5], rfl, (Nat.zero_le _)⟩
   ·
    replace hc93 : ¬ ((shareM l false false).2.2.2 = true) := Bool.eq_false_iff.1 hc93
    refine wp_skip ?_
    refine block_normal ?_
    refine then_normal ?_
    refine wp_seq ?_
    refine region_from ?_
    refine f_o ?_
    refine m_a 4 0 2 [uv16 gv28, .slice oa29 (List.length bl31) oc30] En92 Hv48 rfl rfl rfl fun ac103 En104 => ?_
    refine f_o ?_
    refine m_g 2 0 2 [uv16 gv28, .slice oa29 (List.length bl31) oc30] [uv16 gv28, .slice oa29 (List.length bl31) oc30] [.box bk15 [.slice ta24 (List.length ((shareM l false false).2.1)) tc25, .bool ((shareM l false false).2.2.1), .bool ((shareM l false false).2.2.2)] 120, .vec oa29 oc30 1 (bys bl31) 5, .box bk1 [uv16 gv28, .slice oa29 (List.length bl31) oc30] 49, .box bk8 [.int .u16 0, .slice none 0 0] 49, .box bk40 [uv16 gv28, .slice oa29 (List.length bl31) oc30] 49] En104 Hv48 rfl rfl (by simp) (one_all (by kernel_rfl)) rfl rfl fun ac105 wo106 En107 Hv108 => ?_
    refine d_e [4,5,6,7,8] [] En107 fun ac109 En110 => ?_
    refine then_normal ?_
    refine wp_ret ?_
    refine d_cell_tmp (v := .agg #[uv16 gv28, .slice oa29 (List.length bl31) oc30]) (x := .int .i64 0) (t := 4) (T := 49) (ad := ⟨bk1, 0, none⟩) (u := 5) En110 (by kernel_rfl) (by kernel_rfl) (Ev.cellAgg (t := 49) (k := 2) (off := 0) (m := 2) (xs := [uv16 gv28, .slice oa29 (List.length bl31) oc30]) Hv108 rfl rfl rfl (by kernel_rfl) (by kernel_rfl)) (by kernel_rfl) ?_
    have eA : gotA (shareM l false false) = 0 := (end_4 (by assumption) (by omega) (by assumption)).symm
    rw [gotV_0 eA, eA]
    exact ⟨gv28, oa29, oc30, bl31, rfl, Hv108.pk [1], hpu27, hf32⟩

theorem getshare_go (w : World) (aq : Option Addr) (nq cq : Nat) (lq : List UInt8) (eq : nq = List.length lq) (iq : InB w [] aq cq lq) : Calls Try.prog 56 #[.slice aq nq cq] w fun e w' => ∃ gv oa oc bl, e = .returned (.tuple #[.agg #[uv16 gv, .slice oa (List.length bl) oc], .int .i64 (gotA (shareM lq false false))]) ∧ Ev w [] w' [.vec oa oc 1 (bys bl) 5] ∧ (gv, bl) = gotV (0, []) (shareM lq false false) ∧ List.length bl ≤ 4294967296 := by
 subst eq
 refine d_0 [(0, .slice aq (List.length lq) cq)] 8 Go.Proofs.Try.func56 Go.Proofs.Try.ntmps56 (Heap.nil _) fun act0 En0 Hv0 => ?_
 refine wp_seq ?_
 refine region_from ?_
 refine f_o ?_
 refine m_z 49 [.int .u16 0, .slice none 0 0] En0 Hv0 fun ac2 wo3 bk1 En4 Hv5 => ?_
 refine d_e [0,2,3] [] En4 fun ac6 En7 => ?_
 refine then_normal ?_
 refine wp_seq ?_
 refine region_from ?_
 refine d_k [2,3,4] [] 1 En7 fun ac8 En9 => ?_
 refine f_o ?_
 refine c_0 En9 Hv5 (got_getshare _ aq cq lq ((iq.ev Hv5).pick [] (by kernel_rfl))) ?_
 rintro _ wo17 ⟨gv10, oa11, oc12, bl13, rfl, he18, hpu14, hf15⟩
 refine ⟨_, _, _, rfl, he18, rfl, fun ac20 En21 Hv22 => ?_⟩
 refine d_k [2,3,6,7] [] 4 En21 fun ac23 En24 => ?_
 refine f_o ?_
 refine m_g 1 0 2 [uv16 gv10, .slice oa11 (List.length bl13) oc12] [uv16 gv10, .slice oa11 (List.length bl13) oc12] [.vec oa11 oc12 1 (bys bl13) 5, .box bk1 [uv16 gv10, .slice oa11 (List.length bl13) oc12] 49] En24 Hv22 rfl rfl (by simp) (one_all (by kernel_rfl)) rfl rfl fun ac25 wo26 En27 Hv28 => ?_
 refine d_e [2,3] [] En27 fun ac29 En30 => ?_
 refine then_normal ?_
 refine wp_ret ?_
 refine d_cell_tmp (v := .agg #[uv16 gv10, .slice oa11 (List.length bl13) oc12]) (x := .int .i64 (gotA (shareM lq false false))) (t := 2) (T := 49) (ad := ⟨bk1, 0, none⟩) (u := 3) En30 (by kernel_rfl) (by kernel_rfl) (Ev.cellAgg (t := 49) (k := 1) (off := 0) (m := 2) (xs := [uv16 gv10, .slice oa11 (List.length bl13) oc12]) Hv28 rfl rfl rfl (by kernel_rfl) (by kernel_rfl)) (by kernel_rfl) ?_
 exact ⟨gv10, oa11, oc12, bl13, rfl, Hv28.pk [0], hpu14, hf15⟩

end Go.Proofs.Ytofecellbfhnjaa
