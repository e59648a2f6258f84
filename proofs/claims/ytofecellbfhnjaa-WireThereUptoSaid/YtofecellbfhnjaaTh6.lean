import Derived.Test.YtofecellbfhnjaaTh5
import Derived.Test.YtofecellbfhnjaaTh3
/- Layer 17: texts are read, by both. -/

namespace Go.Proofs.Ytofecellbfhnjaa
open Go.Dbr
set_option maxRecDepth 100000
set_option maxHeartbeats 2000000
set_option linter.unusedVariables false
set_option linter.unusedSimpArgs false

theorem list_dec {n x y : Nat} (hn : 0 < n) : Dec (listM n x y) := ⟨fun l o h hs => by
  have h1 : tkS (nbV n l false) (tkR n l false) (lsT n x y l false) = false := hs
  have h2 : tkS n l false = false := by
    rw [tkS, Bool.or_eq_false_iff] at h1
    have h3 := h1.1
    rw [lsT, Bool.or_eq_false_iff] at h3
    exact h3.1
  exact Nat.lt_of_le_of_lt (tkR_len _ _ _) (tk_lt hn h), fun l o => lsR_len _ _ _ _ _⟩
theorem all_snoc {α : Type} {P : α → Prop} {xs : List α} {y : α} (h : ∀ x ∈ xs, P x) (hy : P y) : ∀ x ∈ xs ++ [y], P x := fun x hx => (List.mem_append.1 hx).elim (h x) fun g => by
  obtain rfl := List.mem_singleton.1 g
  exact hy

theorem getalpn11 (w : World) (br : Nat) (a : Option Addr) (c : Nat) (l : List UInt8) (s o : Bool) (i : InB w [.box br [.slice a (List.length l) c, .bool s, .bool o] 120] a c l) (hH : Heap w [.box br [.slice a (List.length l) c, .bool s, .bool o] 120]) : Calls Try.prog 154 #[pt br] w fun e w' => ∃ ta tc bl, e = .returned (.string (bstr bl)) ∧ Ev w [.box br [.slice a (List.length l) c, .bool s, .bool o] 120] w' [.box br [.slice ta (List.length ((listM 1 1 255 l s o).2.1)) tc, .bool ((listM 1 1 255 l s o).2.2.1), .bool ((listM 1 1 255 l s o).2.2.2)] 120] ∧ Sub a c l ta tc (listM 1 1 255 l s o).2.1 ∧ bl = (listM 1 1 255 l s o).1 := by
 refine d_0 [(0, pt br)] 6 Go.Proofs.Try.func154 Go.Proofs.Try.ntmps154 (hH) fun act0 En0 Hv0 => ?_
 refine d_s [0,2] [] En0 fun ac1 En2 => ?_
 refine wp_seq ?_
 refine region_from ?_
 refine d_k [2,3] [] 1 En2 fun ac3 En4 => ?_
 refine f_o ?_
 refine c_l [0] (M := [.box br [.slice a (List.length l) c, .bool s, .bool o] 120]) En4 Hv0 (fun hM12 => bytes1_go _ br a c l s o ((i.ev Hv0).pick [0] (by kernel_rfl)) hM12) ?_
 rintro _ wo13 ⟨ta5, tc6, oa9, oc10, bl11, rfl, he14, hs7, hpu8⟩
 refine ⟨_, _, [.box br [.slice ta5 (List.length ((listM 1 1 255 l s o).2.1)) tc6, .bool ((listM 1 1 255 l s o).2.2.1), .bool ((listM 1 1 255 l s o).2.2.2)] 120, .vec oa9 oc10 1 (bys bl11) 5], rfl, he14, by kernel_rfl, fun ac16 En17 Hv18 => ?_⟩
 refine f_o ?_
 refine op_str (d := some 5) (src := 23) (dst := 9) (e := 5) (ao := oa9) (cap := oc10) (p := List.length bl11) (bs := bl11) En17 (by kernel_rfl) rfl (by kernel_rfl) (by kernel_rfl) (by kernel_rfl) (Hv18.heap.reads (k := 1) rfl) (bys_vnz Hv18.heap (k := 1) rfl) ?_
 intro ac19 En20
 refine d_e [2] [] En20 fun ac21 En22 => ?_
 refine then_normal ?_
 refine wp_ret ?_
 refine d_ret1 (t := 2) (v := .string (bstr bl11)) En22 (by kernel_rfl) (by kernel_rfl) ?_
 exact ⟨ta5, tc6, bl11, rfl, Hv18.pk [0], hs7, hpu8⟩

theorem many_str (w : World) (br : Nat) (n : Nat) (hn : n ≤ 4) (x : Nat) (hx : x ≤ 4294967295) (a : Option Addr) (c : Nat) (l : List UInt8) (s o : Bool) (i : InB w [.box br [.slice a (List.length l) c, .bool s, .bool o] 120] a c l) (hH : Heap w [.box br [.slice a (List.length l) c, .bool s, .bool o] 120]) : Calls Try.prog 153 #[pt br, ni n, ni x, .func (.func 154) #[] #[]] w fun e w' => ∃ ta tc oa oc xs, e = .returned (.slice oa (List.length xs) oc) ∧ Ev w [.box br [.slice a (List.length l) c, .bool s, .bool o] 120] w' [.box br [.slice ta (List.length (lsR n x 16777215 l s)) tc, .bool (lsS n x 16777215 l s || (mn (listM 1 1 255) ((lsO n x 16777215 l s, lsS n x 16777215 l s, false) : PS)).2.2.1), .bool (o || (mn (listM 1 1 255) ((lsO n x 16777215 l s, lsS n x 16777215 l s, false) : PS)).2.2.2)] 120, .vec oa oc 1 (List.flatMap fStr xs) 9] ∧ Sub a c l ta tc (lsR n x 16777215 l s) ∧ List.map (fun y : RStr => y) xs = (mn (listM 1 1 255) ((lsO n x 16777215 l s, lsS n x 16777215 l s, false) : PS)).1 ∧ List.length xs ≤ List.length (lsO n x 16777215 l s) + 1 ∧ ∀ y ∈ xs, List.length y ≤ 140737488351232 := by
 refine d_0 [(0, pt br), (1, ni n), (2, ni x), (3, .func (.func 154) #[] #[])] 69 Go.Proofs.Try.func153 Go.Proofs.Try.ntmps153 (hH) fun act0 En0 Hv0 => ?_
 refine d_s [0,1,2,3,8] [] En0 fun ac1 En2 => ?_
 refine wp_seq ?_
 refine region_from ?_
 refine d_k [0,3,8,12,13,14] [] 3 En2 fun ac3 En4 => ?_
 refine f_o ?_
 refine c_l [0] (M := [.box br [.slice a (List.length l) c, .bool s, .bool o] 120]) En4 Hv0 (fun hM10 => list_go _ br n (by omega) x 16777215 (by omega) (by omega) a c l s o ((i.ev Hv0).pick [0] (by kernel_rfl)) hM10) ?_
 rintro _ wo11 ⟨ao5, cp6, ta7, tc8, rfl, he12, hs9⟩
 refine ⟨_, _, [.box br [.slice ta7 (List.length (lsR n x 16777215 l s)) tc8, .bool (lsS n x 16777215 l s), .bool o] 120, .vec ao5 cp6 1 (bys (lsO n x 16777215 l s)) 5], rfl, he12, by kernel_rfl, fun ac14 En15 Hv16 => ?_⟩
 refine d_e [0,3,8,9] [] En15 fun ac17 En18 => ?_
 refine then_normal ?_
 refine wp_seq ?_
 refine region_from ?_
 refine d_k [0,3,8,16,19] [] 4 En18 fun ac19 En20 => ?_
 refine f_o ?_
 refine m_l 0 En20 Hv16 fun ac21 En22 => ?_
 refine d_k [0,3,8,21] [] 6 En22 fun ac23 En24 => ?_
 refine f_o ?_
 refine m_m 120 [.slice ao5 (List.length (lsO n x 16777215 l s)) cp6, .bool (lsS n x 16777215 l s), .bool false] En24 Hv16 fun ac26 wo27 bk25 En28 Hv29 => ?_
 refine d_e [0,3,8,10] [] En28 fun ac30 En31 => ?_
 refine then_normal ?_
 refine d_s [0,3,8,10,11] [] En31 fun ac32 En33 => ?_
 refine wp_seq ?_
 refine region_cut (F := fun ac wo => ∃ (oa : Option Addr) (oc : Nat) (xs : List (RStr)) (ra : Option Addr) (rc : Nat) (rl : Bs) (s1 : Bool) (o1 : Bool), Env ac 69 [(0, pt br), (3, .func (.func 154) #[] #[]), (8, .slice none 0 0), (10, pt bk25), (11, .slice oa (List.length xs) oc)] ∧ Ev w [.box br [.slice a (List.length l) c, .bool s, .bool o] 120] wo [.box br [.slice ta7 (List.length (lsR n x 16777215 l s)) tc8, .bool (lsS n x 16777215 l s), .bool o] 120, .box bk25 [.slice ra (List.length rl) rc, .bool s1, .bool o1] 120, .vec oa oc 1 (List.flatMap fStr xs) 9] ∧ (mn (listM 1 1 255) ((lsO n x 16777215 l s, lsS n x 16777215 l s, false) : PS) = (List.map (fun y : RStr => y) xs, rl, s1, o1)) ∧ (List.length xs ≤ List.length (lsO n x 16777215 l s) + 1) ∧ (∀ y ∈ xs, List.length y ≤ 140737488351232)) ?_ ?_
 ·
  refine wp_block ?_
  have Hv34 : Ev w [.box br [.slice a (List.length l) c, .bool s, .bool o] 120] wo27 [.box br [.slice ta7 (List.length (lsR n x 16777215 l s)) tc8, .bool (lsS n x 16777215 l s), .bool o] 120, .vec ao5 cp6 1 (bys (lsO n x 16777215 l s)) 5, .box bk25 [.slice ao5 (List.length (lsO n x 16777215 l s)) cp6, .bool (lsS n x 16777215 l s), .bool false] 120, .vec none 0 1 (List.flatMap fStr []) 9] := Ev.nil (sz := 1) (T := 9) Hv29
  have hO32 : List.length (lsO n x 16777215 l s) ≤ 4294967295 := Nat.le_trans (tkO_len _ _ _) (Nat.le_of_lt_succ (nbV_4 hn l s))
  refine loop_m (fun ms35 ac wo => ∃ (oa : Option Addr) (oc : Nat) (xs : List (RStr)) (ra : Option Addr) (rc : Nat) (rl : Bs) (s1 : Bool) (o1 : Bool), ms35 = (bif s1 then 0 else List.length rl + 1 : Nat) ∧ Env ac 69 [(0, pt br), (3, .func (.func 154) #[] #[]), (8, .slice none 0 0), (10, pt bk25), (11, .slice oa (List.length xs) oc)] ∧ Ev w [.box br [.slice a (List.length l) c, .bool s, .bool o] 120] wo [.box bk25 [.slice ra (List.length rl) rc, .bool s1, .bool o1] 120, .box br [.slice ta7 (List.length (lsR n x 16777215 l s)) tc8, .bool (lsS n x 16777215 l s), .bool o] 120, .vec ao5 cp6 1 (bys (lsO n x 16777215 l s)) 5, .vec oa oc 1 (List.flatMap fStr xs) 9] ∧ (Sub ao5 cp6 (lsO n x 16777215 l s) ra rc rl) ∧ (mn (listM 1 1 255) ((lsO n x 16777215 l s, lsS n x 16777215 l s, false) : PS) = (List.map (fun y : RStr => y) xs ++ (mn (listM 1 1 255) (rl, s1, o1)).1, (mn (listM 1 1 255) (rl, s1, o1)).2)) ∧ (List.length xs + List.length rl ≤ List.length (lsO n x 16777215 l s) + (bif s1 then 1 else 0)) ∧ (∀ y ∈ xs, List.length y ≤ 140737488351232)) ⟨_, none, 0, [], ao5, cp6, (lsO n x 16777215 l s), (lsS n x 16777215 l s), false, rfl, En33.sb, Hv34.pk [2, 0, 1, 3], Sub.self, rfl, (by rw [List.length_nil, Nat.zero_add]; exact Nat.le_add_right _ _), (fun y hy => by cases hy)⟩ ?_
  rintro mm41 ac37 wo38 ⟨oa, oc, xs, ra, rc, rl, s1, o1, rfl, En39, Hv40, hsu, hmn, hct, hsm⟩
  refine wp_seq ?_
  refine wp_seq ?_
  refine region_from ?_
  refine d_k [0,3,8,10,11,25] [] 3 En39 fun ac42 En43 => ?_
  refine f_o ?_
  refine m_l 0 En43 Hv40 fun ac44 En45 => ?_
  refine d_k [0,3,8,10,11,28] [] 6 En45 fun ac46 En47 => ?_
  rcases Bool.eq_false_or_eq_true (!s1) with hb48 | hb48
  ·
   have En49 := En47.fx (t := 28) (congrArg Value.bool hb48)
   have hp50 : ¬ (s1 = true) := by simpa using hb48
   refine d_k [0,3,8,10,11,28,31] [] 9 En49 fun ac51 En52 => ?_
   refine f_o ?_
   refine m_l 0 En52 Hv40 fun ac53 En54 => ?_
   refine d_e [0,3,8,10,11,35] [] En54 fun ac55 En56 => ?_
   refine then_normal ?_
   refine c_d (((List.length rl : Nat) : Int) > (0 : Int)) En56 (fun hc57 => ?_) (fun hc57 => ?_)
   ·
    refine wp_skip ?_
    refine then_normal ?_
    refine wp_block ?_
    refine region_from ?_
    refine d_k [0,3,8,10,11,36,37,38] [] 3 En56 fun ac58 En59 => ?_
    refine f_o ?_
    refine c_l [0] (M := [.box bk25 [.slice ra (List.length rl) rc, .bool s1, .bool o1] 120]) En59 Hv40 (fun hM65 => getalpn11 _ bk25 ra rc rl s1 o1 (hsu _ _ (bys_in Hv40.heap (k := 2) rfl [0] (by kernel_rfl) rfl (by first | omega | (simp; done) | (simp; omega)))) hM65) ?_
    rintro _ wo66 ⟨ta60, tc61, bl64, rfl, he67, hs62, hpu63⟩
    refine ⟨_, _, [.box bk25 [.slice ta60 (List.length ((listM 1 1 255 rl s1 o1).2.1)) tc61, .bool ((listM 1 1 255 rl s1 o1).2.2.1), .bool ((listM 1 1 255 rl s1 o1).2.2.2)] 120, .box br [.slice ta7 (List.length (lsR n x 16777215 l s)) tc8, .bool (lsS n x 16777215 l s), .bool o] 120, .vec ao5 cp6 1 (bys (lsO n x 16777215 l s)) 5, .vec oa oc 1 (List.flatMap fStr xs) 9], rfl, he67, by kernel_rfl, fun ac69 En70 Hv71 => ?_⟩
    refine f_o ?_
    refine op_lit (d := some 40) (t := 33) (T := 9) (m := 1) (parts := #[(0, .string (bstr bl64))]) (xs := List.flatMap fStr ([bl64] : List (RStr))) (sz := 1) En70 (by kernel_rfl) (by kernel_rfl) rfl (by decide) Hv71 ?_
    intro ac73 wo74 bk72 En75 Hv76
    refine f_o ?_
    refine op_append (d := some 41) (t := 33) (tx := 33) (ty := 33) (k := 3) (p := List.length xs) (m := 1) (x := .slice (some ⟨bk72, 0, none⟩) 1 1) (bytes := 16) En75 (by kernel_rfl) Hv76 rfl (sv_len (f := fStr) (sz := 1) (fun _ => rfl) _) (Reads.src (size := 1) (tx := 33) (e' := 9) (by kernel_rfl) (Hv76.heap.reads (k := 4) rfl) rfl (fun e => by cases e) (flat_one (f := fStr) (fun _ => one_all rfl) _)) (by kernel_rfl) (z := .string (bstr [])) (by kernel_rfl) rfl (by decide) (by have hb1 := mn_b1 s1; omega) (by unfold maxLen; have hb1 := mn_b1 s1; omega) ?_
    intro ac81 wo82 ao77 cp78 En83 Hv84 hnz _
    clear hnz
    rw [← List.flatMap_append] at Hv84
    have ehz79 : (List.length xs) + 1 = List.length (xs ++ ([bl64] : List (RStr))) := (by first | (simp; done) | (simp; omega) | omega)
    rw [ehz79] at En83
    refine d_e [0,3,8,10,11] [] En83 fun ac85 En86 => ?_
    refine block_normal ?_
    refine then_normal ?_
    have hl0 : 0 < List.length rl := by omega
    refine ⟨_, ⟨ao77, cp78, (xs ++ ([bl64] : List (RStr))), ta60, tc61, ((listM 1 1 255 rl s1 o1).2.1), ((listM 1 1 255 rl s1 o1).2.2.1), ((listM 1 1 255 rl s1 o1).2.2.2), rfl, En86.sb, Hv84.pk [0, 1, 2, 3], (hsu.trans hs62), (by rw [hmn, mn_step (list_dec (by decide)) (Bool.eq_false_iff.2 hp50) hl0, ← hpu63, List.map_append, List.append_assoc]; rfl), (mn_ct (Bool.eq_false_iff.2 hp50) hct (dec_lt (o := o1) (list_dec (by decide)) (Bool.eq_false_iff.2 hp50) hl0) (dec_le (o := o1) (list_dec (by decide)) (Bool.eq_false_iff.2 hp50)) hl0), (all_snoc hsm (by rw [hpu63]; exact Nat.le_trans (Nat.le_of_succ_le (lsO_32 (by decide) _ _)) (by decide)))⟩, ?_⟩
    exact mn_mu (Bool.eq_false_iff.2 hp50) hl0 (dec_lt (o := o1) (list_dec (by decide)) (Bool.eq_false_iff.2 hp50) hl0)
   ·
    refine wp_exit ?_
    refine then_exit ?_
    refine then_exit ?_
    refine block_exit ?_
    exact ⟨rfl, ⟨oa, oc, xs, ra, rc, rl, s1, o1, En56.sb, Hv40.pk [1, 0, 3], (by rw [hmn, mn_end (p := (rl, s1, o1)) (by first | exact .inl (by assumption) | exact .inr (show rl = [] from List.length_eq_zero_iff.1 (by omega))), List.append_nil]), (mn_c1 hct), hsm⟩⟩
  ·
   have En87 := En47.fx (t := 28) (congrArg Value.bool hb48)
   have hp88 : s1 = true := by simpa using hb48
   refine d_e [0,3,8,10,11,35] [] En87 fun ac89 En90 => ?_
   refine then_normal ?_
   refine c_f En90 ?_
   refine wp_exit ?_
   refine then_exit ?_
   refine then_exit ?_
   refine block_exit ?_
   exact ⟨rfl, ⟨oa, oc, xs, ra, rc, rl, s1, o1, En90.sb, Hv40.pk [1, 0, 3], (by rw [hmn, mn_end (p := (rl, s1, o1)) (by first | exact .inl (by assumption) | exact .inr (show rl = [] from List.length_eq_zero_iff.1 (by omega))), List.append_nil]), (mn_c1 hct), hsm⟩⟩
 ·
  rintro ac91 wo92 ⟨oa, oc, xs, ra, rc, rl, s1, o1, En93, Hv94, hmn, hct, hsm⟩
  refine then_normal ?_
  refine wp_seq ?_
  rcases Bool.eq_false_or_eq_true (lsS n x 16777215 l s) with hb95 | hb95
  ·
   have hb95p : lsS n x 16777215 l s = true := hb95
   rcases Bool.eq_false_or_eq_true (o) with hb96 | hb96
   ·
    have hb96p : o = true := hb96
    refine r_c (fun ac wo => Env ac 69 [(0, pt br), (3, .func (.func 154) #[] #[]), (8, .slice none 0 0), (10, pt bk25), (11, .slice oa (List.length xs) oc)] ∧ Ev w [.box br [.slice a (List.length l) c, .bool s, .bool o] 120] wo [.box br [.slice ta7 (List.length (lsR n x 16777215 l s)) tc8, .bool true, .bool true] 120, .box bk25 [.slice ra (List.length rl) rc, .bool s1, .bool o1] 120, .vec oa oc 1 (List.flatMap fStr xs) 9]) ?_ ?_
    ·
     refine h_s (fun wv => Ev w [.box br [.slice a (List.length l) c, .bool s, .bool o] 120] wv [.box br [.slice ta7 (List.length (lsR n x 16777215 l s)) tc8, .bool (lsS n x 16777215 l s), .bool o] 120]) [24] 28 ?_
     have wo97 := Hv94.trans (Ev.drew Hv94.heap)
     refine q_s [0,1,2,3,4] [] 23 En93 (wo97.pk [0]) fun ac178 En179 => ?_
     refine q_l 0 5 En179 (wo97.pk [0]) fun ac180 En181 => ?_
     refine q_s [6] [] 21 En181 (wo97.pk [0]) fun ac182 En183 => ?_
     have En184 := En183.fx (t := 47) (congrArg Value.bool hb95)
     have En185 := En184.fx (t := 48) (congrArg Value.bool hb95)
     refine q_s [7,8,9,10,11,12,13,14] [] 13 En185 (wo97.pk [0]) fun ac186 En187 => ?_
     refine q_l 0 15 En187 (wo97.pk [0]) fun ac188 En189 => ?_
     refine q_s [16] [] 11 En189 (wo97.pk [0]) fun ac190 En191 => ?_
     have En192 := En191.fx (t := 57) (congrArg Value.bool hb96)
     have En193 := En192.fx (t := 58) (congrArg Value.bool hb96)
     refine q_s [17,18,19,20,21,22,23] [] 4 En193 (wo97.pk [0]) fun ac194 En195 => ?_
     refine q_t 24 ?_
     refine m_s 0 [.box br [.slice ta7 (List.length (lsR n x 16777215 l s)) tc8, .bool true, .bool o] 120, .box bk25 [.slice ra (List.length rl) rc, .bool s1, .bool o1] 120, .vec oa oc 1 (List.flatMap fStr xs) 9] En195 wo97 fun ac196 wo197 En198 Hv199 => ?_
     refine ⟨q_y, ?_⟩
     refine q_n [25,26] [] 1 En198 fun ac200 En201 => ?_
     refine q_t 27 ?_
     refine m_s 0 [.box br [.slice ta7 (List.length (lsR n x 16777215 l s)) tc8, .bool true, .bool true] 120, .box bk25 [.slice ra (List.length rl) rc, .bool s1, .bool o1] 120, .vec oa oc 1 (List.flatMap fStr xs) 9] En201 Hv199 fun ac202 wo203 En204 Hv205 => ?_
     refine ⟨q_y, ?_⟩
     exact h_e ⟨En204.sb, Hv205.pk [0, 1, 2]⟩
    rintro ac206 wo207 ⟨En208, Hv209⟩
    refine then_normal ?_
    refine d_s [0,3,8,10,11] [] En208 fun ac210 En211 => ?_
    refine wp_ret ?_
    refine d_ret1 (t := 8) (v := .slice oa (List.length xs) oc) En211 (by kernel_rfl) (by kernel_rfl) ?_
    have e1 : (lsS n x 16777215 l s || s1) = true := by rw [hb95]; rfl
    have e2 : (o || o1) = true := by rw [hb96]; rfl
    have hfin : Ev w [.box br [.slice a (List.length l) c, .bool s, .bool o] 120] wo207 [.box br [.slice ta7 (List.length (lsR n x 16777215 l s)) tc8, .bool (lsS n x 16777215 l s || s1), .bool (o || o1)] 120, .vec oa oc 1 (List.flatMap fStr xs) 9] := by rw [e1, e2]; exact Hv209.pk [0, 2]
    exact ⟨ta7, tc8, oa, oc, xs, rfl, by rw [hmn]; exact hfin, hs9, by rw [hmn], hct, hsm⟩
   ·
    have hb96p : ¬ (o = true) := Bool.eq_false_iff.1 hb96
    refine r_c (fun ac wo => Env ac 69 [(0, pt br), (3, .func (.func 154) #[] #[]), (8, .slice none 0 0), (10, pt bk25), (11, .slice oa (List.length xs) oc)] ∧ Ev w [.box br [.slice a (List.length l) c, .bool s, .bool o] 120] wo [.box br [.slice ta7 (List.length (lsR n x 16777215 l s)) tc8, .bool true, .bool o1] 120, .box bk25 [.slice ra (List.length rl) rc, .bool s1, .bool o1] 120, .vec oa oc 1 (List.flatMap fStr xs) 9]) ?_ ?_
    ·
     refine h_s (fun wv => Ev w [.box br [.slice a (List.length l) c, .bool s, .bool o] 120] wv [.box br [.slice ta7 (List.length (lsR n x 16777215 l s)) tc8, .bool (lsS n x 16777215 l s), .bool o] 120, .box bk25 [.slice ra (List.length rl) rc, .bool s1, .bool o1] 120]) [24] 28 ?_
     have wo212 := Hv94.trans (Ev.drew Hv94.heap)
     refine q_s [0,1,2,3,4] [] 23 En93 (wo212.pk [0, 1]) fun ac305 En306 => ?_
     refine q_l 0 5 En306 (wo212.pk [0, 1]) fun ac307 En308 => ?_
     refine q_s [6] [] 21 En308 (wo212.pk [0, 1]) fun ac309 En310 => ?_
     have En311 := En310.fx (t := 47) (congrArg Value.bool hb95)
     have En312 := En311.fx (t := 48) (congrArg Value.bool hb95)
     refine q_s [7,8,9,10,11,12,13,14] [] 13 En312 (wo212.pk [0, 1]) fun ac313 En314 => ?_
     refine q_l 0 15 En314 (wo212.pk [0, 1]) fun ac315 En316 => ?_
     refine q_s [16] [] 11 En316 (wo212.pk [0, 1]) fun ac317 En318 => ?_
     have En319 := En318.fx (t := 57) (congrArg Value.bool hb96)
     have En320 := En319.fx (t := 58) (congrArg Value.bool hb96)
     refine q_s [17,18,19] [] 8 En320 (wo212.pk [0, 1]) fun ac321 En322 => ?_
     refine q_l 1 20 En322 (wo212.pk [0, 1]) fun ac323 En324 => ?_
     refine q_s [21,22,23] [] 4 En324 (wo212.pk [0, 1]) fun ac325 En326 => ?_
     refine q_t 24 ?_
     refine m_s 0 [.box br [.slice ta7 (List.length (lsR n x 16777215 l s)) tc8, .bool true, .bool o] 120, .box bk25 [.slice ra (List.length rl) rc, .bool s1, .bool o1] 120, .vec oa oc 1 (List.flatMap fStr xs) 9] En326 wo212 fun ac327 wo328 En329 Hv330 => ?_
     refine ⟨q_y, ?_⟩
     refine q_n [25,26] [] 1 En329 fun ac331 En332 => ?_
     refine q_t 27 ?_
     refine m_s 0 [.box br [.slice ta7 (List.length (lsR n x 16777215 l s)) tc8, .bool true, .bool o1] 120, .box bk25 [.slice ra (List.length rl) rc, .bool s1, .bool o1] 120, .vec oa oc 1 (List.flatMap fStr xs) 9] En332 Hv330 fun ac333 wo334 En335 Hv336 => ?_
     refine ⟨q_y, ?_⟩
     exact h_e ⟨En335.sb, Hv336.pk [0, 1, 2]⟩
    rintro ac337 wo338 ⟨En339, Hv340⟩
    refine then_normal ?_
    refine d_s [0,3,8,10,11] [] En339 fun ac341 En342 => ?_
    refine wp_ret ?_
    refine d_ret1 (t := 8) (v := .slice oa (List.length xs) oc) En342 (by kernel_rfl) (by kernel_rfl) ?_
    have e1 : (lsS n x 16777215 l s || s1) = true := by rw [hb95]; rfl
    have e2 : (o || o1) = o1 := by rw [hb96]; rfl
    have hfin : Ev w [.box br [.slice a (List.length l) c, .bool s, .bool o] 120] wo338 [.box br [.slice ta7 (List.length (lsR n x 16777215 l s)) tc8, .bool (lsS n x 16777215 l s || s1), .bool (o || o1)] 120, .vec oa oc 1 (List.flatMap fStr xs) 9] := by rw [e1, e2]; exact Hv340.pk [0, 2]
    exact ⟨ta7, tc8, oa, oc, xs, rfl, by rw [hmn]; exact hfin, hs9, by rw [hmn], hct, hsm⟩
  ·
   have hb95p : ¬ (lsS n x 16777215 l s = true) := Bool.eq_false_iff.1 hb95
   rcases Bool.eq_false_or_eq_true (o) with hb343 | hb343
   ·
    have hb343p : o = true := hb343
    refine r_c (fun ac wo => Env ac 69 [(0, pt br), (3, .func (.func 154) #[] #[]), (8, .slice none 0 0), (10, pt bk25), (11, .slice oa (List.length xs) oc)] ∧ Ev w [.box br [.slice a (List.length l) c, .bool s, .bool o] 120] wo [.box br [.slice ta7 (List.length (lsR n x 16777215 l s)) tc8, .bool s1, .bool true] 120, .box bk25 [.slice ra (List.length rl) rc, .bool s1, .bool o1] 120, .vec oa oc 1 (List.flatMap fStr xs) 9]) ?_ ?_
    ·
     refine h_s (fun wv => Ev w [.box br [.slice a (List.length l) c, .bool s, .bool o] 120] wv [.box br [.slice ta7 (List.length (lsR n x 16777215 l s)) tc8, .bool (lsS n x 16777215 l s), .bool o] 120, .box bk25 [.slice ra (List.length rl) rc, .bool s1, .bool o1] 120]) [24] 28 ?_
     have wo344 := Hv94.trans (Ev.drew Hv94.heap)
     refine q_s [0,1,2,3,4] [] 23 En93 (wo344.pk [0, 1]) fun ac459 En460 => ?_
     refine q_l 0 5 En460 (wo344.pk [0, 1]) fun ac461 En462 => ?_
     refine q_s [6] [] 21 En462 (wo344.pk [0, 1]) fun ac463 En464 => ?_
     have En465 := En464.fx (t := 47) (congrArg Value.bool hb95)
     have En466 := En465.fx (t := 48) (congrArg Value.bool hb95)
     refine q_s [7,8,9] [] 18 En466 (wo344.pk [0, 1]) fun ac467 En468 => ?_
     refine q_l 1 10 En468 (wo344.pk [0, 1]) fun ac469 En470 => ?_
     refine q_s [11,12,13,14] [] 13 En470 (wo344.pk [0, 1]) fun ac471 En472 => ?_
     refine q_l 0 15 En472 (wo344.pk [0, 1]) fun ac473 En474 => ?_
     refine q_s [16] [] 11 En474 (wo344.pk [0, 1]) fun ac475 En476 => ?_
     have En477 := En476.fx (t := 57) (congrArg Value.bool hb343)
     have En478 := En477.fx (t := 58) (congrArg Value.bool hb343)
     refine q_s [17,18,19,20,21,22,23] [] 4 En478 (wo344.pk [0, 1]) fun ac479 En480 => ?_
     refine q_t 24 ?_
     refine m_s 0 [.box br [.slice ta7 (List.length (lsR n x 16777215 l s)) tc8, .bool s1, .bool o] 120, .box bk25 [.slice ra (List.length rl) rc, .bool s1, .bool o1] 120, .vec oa oc 1 (List.flatMap fStr xs) 9] En480 wo344 fun ac481 wo482 En483 Hv484 => ?_
     refine ⟨q_y, ?_⟩
     refine q_n [25,26] [] 1 En483 fun ac485 En486 => ?_
     refine q_t 27 ?_
     refine m_s 0 [.box br [.slice ta7 (List.length (lsR n x 16777215 l s)) tc8, .bool s1, .bool true] 120, .box bk25 [.slice ra (List.length rl) rc, .bool s1, .bool o1] 120, .vec oa oc 1 (List.flatMap fStr xs) 9] En486 Hv484 fun ac487 wo488 En489 Hv490 => ?_
     refine ⟨q_y, ?_⟩
     exact h_e ⟨En489.sb, Hv490.pk [0, 1, 2]⟩
    rintro ac491 wo492 ⟨En493, Hv494⟩
    refine then_normal ?_
    refine d_s [0,3,8,10,11] [] En493 fun ac495 En496 => ?_
    refine wp_ret ?_
    refine d_ret1 (t := 8) (v := .slice oa (List.length xs) oc) En496 (by kernel_rfl) (by kernel_rfl) ?_
    have e1 : (lsS n x 16777215 l s || s1) = s1 := by rw [hb95]; rfl
    have e2 : (o || o1) = true := by rw [hb343]; rfl
    have hfin : Ev w [.box br [.slice a (List.length l) c, .bool s, .bool o] 120] wo492 [.box br [.slice ta7 (List.length (lsR n x 16777215 l s)) tc8, .bool (lsS n x 16777215 l s || s1), .bool (o || o1)] 120, .vec oa oc 1 (List.flatMap fStr xs) 9] := by rw [e1, e2]; exact Hv494.pk [0, 2]
    exact ⟨ta7, tc8, oa, oc, xs, rfl, by rw [hmn]; exact hfin, hs9, by rw [hmn], hct, hsm⟩
   ·
    have hb343p : ¬ (o = true) := Bool.eq_false_iff.1 hb343
    refine r_c (fun ac wo => Env ac 69 [(0, pt br), (3, .func (.func 154) #[] #[]), (8, .slice none 0 0), (10, pt bk25), (11, .slice oa (List.length xs) oc)] ∧ Ev w [.box br [.slice a (List.length l) c, .bool s, .bool o] 120] wo [.box br [.slice ta7 (List.length (lsR n x 16777215 l s)) tc8, .bool s1, .bool o1] 120, .box bk25 [.slice ra (List.length rl) rc, .bool s1, .bool o1] 120, .vec oa oc 1 (List.flatMap fStr xs) 9]) ?_ ?_
    ·
     refine h_s (fun wv => Ev w [.box br [.slice a (List.length l) c, .bool s, .bool o] 120] wv [.box br [.slice ta7 (List.length (lsR n x 16777215 l s)) tc8, .bool (lsS n x 16777215 l s), .bool o] 120, .box bk25 [.slice ra (List.length rl) rc, .bool s1, .bool o1] 120]) [24] 28 ?_
     have wo497 := Hv94.trans (Ev.drew Hv94.heap)
     refine q_s [0,1,2,3,4] [] 23 En93 (wo497.pk [0, 1]) fun ac632 En633 => ?_
     refine q_l 0 5 En633 (wo497.pk [0, 1]) fun ac634 En635 => ?_
     refine q_s [6] [] 21 En635 (wo497.pk [0, 1]) fun ac636 En637 => ?_
     have En638 := En637.fx (t := 47) (congrArg Value.bool hb95)
     have En639 := En638.fx (t := 48) (congrArg Value.bool hb95)
     refine q_s [7,8,9] [] 18 En639 (wo497.pk [0, 1]) fun ac640 En641 => ?_
     refine q_l 1 10 En641 (wo497.pk [0, 1]) fun ac642 En643 => ?_
     refine q_s [11,12,13,14] [] 13 En643 (wo497.pk [0, 1]) fun ac644 En645 => ?_
     refine q_l 0 15 En645 (wo497.pk [0, 1]) fun ac646 En647 => ?_
     refine q_s [16] [] 11 En647 (wo497.pk [0, 1]) fun ac648 En649 => ?_
     have En650 := En649.fx (t := 57) (congrArg Value.bool hb343)
     have En651 := En650.fx (t := 58) (congrArg Value.bool hb343)
     refine q_s [17,18,19] [] 8 En651 (wo497.pk [0, 1]) fun ac652 En653 => ?_
     refine q_l 1 20 En653 (wo497.pk [0, 1]) fun ac654 En655 => ?_
     refine q_s [21,22,23] [] 4 En655 (wo497.pk [0, 1]) fun ac656 En657 => ?_
     refine q_t 24 ?_
     refine m_s 0 [.box br [.slice ta7 (List.length (lsR n x 16777215 l s)) tc8, .bool s1, .bool o] 120, .box bk25 [.slice ra (List.length rl) rc, .bool s1, .bool o1] 120, .vec oa oc 1 (List.flatMap fStr xs) 9] En657 wo497 fun ac658 wo659 En660 Hv661 => ?_
     refine ⟨q_y, ?_⟩
     refine q_n [25,26] [] 1 En660 fun ac662 En663 => ?_
     refine q_t 27 ?_
     refine m_s 0 [.box br [.slice ta7 (List.length (lsR n x 16777215 l s)) tc8, .bool s1, .bool o1] 120, .box bk25 [.slice ra (List.length rl) rc, .bool s1, .bool o1] 120, .vec oa oc 1 (List.flatMap fStr xs) 9] En663 Hv661 fun ac664 wo665 En666 Hv667 => ?_
     refine ⟨q_y, ?_⟩
     exact h_e ⟨En666.sb, Hv667.pk [0, 1, 2]⟩
    rintro ac668 wo669 ⟨En670, Hv671⟩
    refine then_normal ?_
    refine d_s [0,3,8,10,11] [] En670 fun ac672 En673 => ?_
    refine wp_ret ?_
    refine d_ret1 (t := 8) (v := .slice oa (List.length xs) oc) En673 (by kernel_rfl) (by kernel_rfl) ?_
    have e1 : (lsS n x 16777215 l s || s1) = s1 := by rw [hb95]; rfl
    have e2 : (o || o1) = o1 := by rw [hb343]; rfl
    have hfin : Ev w [.box br [.slice a (List.length l) c, .bool s, .bool o] 120] wo669 [.box br [.slice ta7 (List.length (lsR n x 16777215 l s)) tc8, .bool (lsS n x 16777215 l s || s1), .bool (o || o1)] 120, .vec oa oc 1 (List.flatMap fStr xs) 9] := by rw [e1, e2]; exact Hv671.pk [0, 2]
    exact ⟨ta7, tc8, oa, oc, xs, rfl, by rw [hmn]; exact hfin, hs9, by rw [hmn], hct, hsm⟩

theorem getalpn1 (w : World) (br : Nat) (a : Option Addr) (c : Nat) (l : List UInt8) (s o : Bool) (i : InB w [.box br [.slice a (List.length l) c, .bool s, .bool o] 120] a c l) (hH : Heap w [.box br [.slice a (List.length l) c, .bool s, .bool o] 120]) : Calls Try.prog 152 #[pt br] w fun e w' => ∃ ta tc oa oc xs, e = .returned (.slice oa (List.length xs) oc) ∧ Ev w [.box br [.slice a (List.length l) c, .bool s, .bool o] 120] w' [.box br [.slice ta (List.length ((manyM (listM 1 1 255) 2 1 l s o).2.1)) tc, .bool ((manyM (listM 1 1 255) 2 1 l s o).2.2.1), .bool ((manyM (listM 1 1 255) 2 1 l s o).2.2.2)] 120, .vec oa oc 1 (List.flatMap fStr xs) 9] ∧ Sub a c l ta tc (manyM (listM 1 1 255) 2 1 l s o).2.1 ∧ List.map (fun y : RStr => y) xs = (manyM (listM 1 1 255) 2 1 l s o).1 ∧ List.length xs ≤ 4294967296 ∧ ∀ y ∈ xs, List.length y ≤ 140737488351232 := by
 refine d_0 [(0, pt br)] 5 Go.Proofs.Try.func152 Go.Proofs.Try.ntmps152 (hH) fun act0 En0 Hv0 => ?_
 refine d_s [0,2] [] En0 fun ac1 En2 => ?_
 refine wp_seq ?_
 refine region_from ?_
 refine d_k [2,3] [] 1 En2 fun ac3 En4 => ?_
 refine f_o ?_
 refine c_l [0] (M := [.box br [.slice a (List.length l) c, .bool s, .bool o] 120]) En4 Hv0 (fun hM14 => many_str _ br 2 (by omega) 1 (by omega) a c l s o ((i.ev Hv0).pick [0] (by kernel_rfl)) hM14) ?_
 rintro _ wo15 ⟨ta5, tc6, oa7, oc8, xs9, rfl, he16, hs10, hmn11, hct12, hsm13⟩
 refine ⟨_, _, [.box br [.slice ta5 (List.length (lsR 2 1 16777215 l s)) tc6, .bool (lsS 2 1 16777215 l s || (mn (listM 1 1 255) ((lsO 2 1 16777215 l s, lsS 2 1 16777215 l s, false) : PS)).2.2.1), .bool (o || (mn (listM 1 1 255) ((lsO 2 1 16777215 l s, lsS 2 1 16777215 l s, false) : PS)).2.2.2)] 120, .vec oa7 oc8 1 (List.flatMap fStr xs9) 9], rfl, he16, by kernel_rfl, fun ac18 En19 Hv20 => ?_⟩
 refine d_e [2] [] En19 fun ac21 En22 => ?_
 refine then_normal ?_
 refine wp_ret ?_
 refine d_ret1 (t := 2) (v := .slice oa7 (List.length xs9) oc8) En22 (by kernel_rfl) (by kernel_rfl) ?_
 exact ⟨ta5, tc6, oa7, oc8, xs9, rfl, Hv20.pk [0, 1], hs10, hmn11, (Nat.le_trans hct12 (lsO_32 (by decide) _ _)), hsm13⟩

theorem got_getalpn (w : World) (a : Option Addr) (c : Nat) (l : Bs) (i : InB w [] a c l) : Calls Try.prog 151 #[.slice a (List.length l) c, .func (.func 152) #[] #[]] w fun e w' => ∃ oa oc xs, e = .returned (.tuple #[.slice oa (List.length xs) oc, .int .i64 (gotA (manyM (listM 1 1 255) 2 1 l false false))]) ∧ Ev w [] w' [.vec oa oc 1 (List.flatMap fStr xs) 9] ∧ List.map (fun y : RStr => y) xs = gotV [] (manyM (listM 1 1 255) 2 1 l false false) ∧ List.length xs ≤ 4294967296 ∧ ∀ y ∈ xs, List.length y ≤ 140737488351232 := by
 refine d_0 [(0, .slice a (List.length l) c), (1, .func (.func 152) #[] #[])] 36 Go.Proofs.Try.func151 Go.Proofs.Try.ntmps151 (Heap.nil _) fun act0 En0 Hv0 => ?_
 refine d_s [0,1,4,5] [] En0 fun ac1 En2 => ?_
 refine d_s [0,1,4,5,6] [] En2 fun ac3 En4 => ?_
 refine wp_seq ?_
 refine region_from ?_
 refine d_k [1,4,5,6,10] [] 2 En4 fun ac5 En6 => ?_
 refine f_o ?_
 refine m_m 120 [.slice a (List.length l) c, .bool false, .bool false] En6 Hv0 fun ac8 wo9 bk7 En10 Hv11 => ?_
 refine d_e [1,4,5,6,7] [] En10 fun ac12 En13 => ?_
 refine then_normal ?_
 refine wp_seq ?_
 refine region_from ?_
 refine d_k [4,5,6,7,12,13] [] 2 En13 fun ac14 En15 => ?_
 refine f_o ?_
 refine c_l [0] (M := [.box bk7 [.slice a (List.length l) c, .bool false, .bool false] 120]) En15 Hv11 (fun hM25 => getalpn1 _ bk7 a c l false false ((i.ev Hv11).pick [0] (by kernel_rfl)) hM25) ?_
 rintro _ wo26 ⟨ta16, tc17, oa20, oc21, xs22, rfl, he27, hs18, hpu19, hf23, hf24⟩
 refine ⟨_, _, [.box bk7 [.slice ta16 (List.length ((manyM (listM 1 1 255) 2 1 l false false).2.1)) tc17, .bool ((manyM (listM 1 1 255) 2 1 l false false).2.2.1), .bool ((manyM (listM 1 1 255) 2 1 l false false).2.2.2)] 120, .vec oa20 oc21 1 (List.flatMap fStr xs22) 9], rfl, he27, by kernel_rfl, fun ac29 En30 Hv31 => ?_⟩
 refine d_e [4,5,6,7,8] [] En30 fun ac32 En33 => ?_
 refine then_normal ?_
 refine wp_seq ?_
 refine wp_block ?_
 refine wp_seq ?_
 refine region_from ?_
 refine d_k [4,5,6,7,8,18] [] 3 En33 fun ac34 En35 => ?_
 refine f_o ?_
 refine m_l 0 En35 Hv31 fun ac36 En37 => ?_
 refine d_k [4,5,6,7,8,20] [] 5 En37 fun ac38 En39 => ?_
 rcases Bool.eq_false_or_eq_true ((manyM (listM 1 1 255) 2 1 l false false).2.2.1) with hb40 | hb40
 ·
  have En41 := En39.fx (t := 20) (congrArg Value.bool hb40)
  have hp42 : (manyM (listM 1 1 255) 2 1 l false false).2.2.1 = true := hb40
  refine d_e [4,5,6,7,8,15] [] En41 fun ac43 En44 => ?_
  refine then_normal ?_
  refine c_t En44 ?_
  refine d_s [4,5,6,7,8] [] En44 fun ac45 En46 => ?_
  refine wp_ret ?_
  refine block_ret ?_
  refine then_ret ?_
  refine d_ret2 (t := 4) (u := 5) (v := .slice none 0 0) (x := .int .i64 50) En46 (by kernel_rfl) (by kernel_rfl) (by kernel_rfl) ?_
  have eA : gotA (manyM (listM 1 1 255) 2 1 l false false) = 50 := Eq.symm (by first | exact end_1 (by assumption) | exact end_2 (by omega) | exact end_3 (by assumption) (by omega) (by assumption))
  rw [gotV_n eA (by decide), eA]
  have Hv47 : Ev w [] wo26 [.box bk7 [.slice ta16 (List.length ((manyM (listM 1 1 255) 2 1 l false false).2.1)) tc17, .bool ((manyM (listM 1 1 255) 2 1 l false false).2.2.1), .bool ((manyM (listM 1 1 255) 2 1 l false false).2.2.2)] 120, .vec oa20 oc21 1 (List.flatMap fStr xs22) 9, .vec none 0 1 (List.flatMap fStr []) 9] := Ev.nil (sz := 1) (T := 9) Hv31
  exact ⟨none, 0, [], rfl, Hv47.pk [2], rfl, (Nat.zero_le _), (fun y hy => by cases hy)⟩
 ·
  have En48 := En39.fx (t := 20) (congrArg Value.bool hb40)
  have hp49 : ¬ ((manyM (listM 1 1 255) 2 1 l false false).2.2.1 = true) := Bool.eq_false_iff.1 hb40
  refine d_k [4,5,6,7,8,20,23] [] 8 En48 fun ac50 En51 => ?_
  refine f_o ?_
  refine m_l 0 En51 Hv31 fun ac52 En53 => ?_
  refine d_e [4,5,6,7,8,15] [] En53 fun ac54 En55 => ?_
  refine then_normal ?_
  refine c_d (((List.length ((manyM (listM 1 1 255) 2 1 l false false).2.1) : Nat) : Int) > (0 : Int)) En55 (fun hc56 => ?_) (fun hc56 => ?_)
  ·
   refine d_s [4,5,6,7,8] [] En55 fun ac57 En58 => ?_
   refine wp_ret ?_
   refine block_ret ?_
   refine then_ret ?_
   refine d_ret2 (t := 4) (u := 5) (v := .slice none 0 0) (x := .int .i64 50) En58 (by kernel_rfl) (by kernel_rfl) (by kernel_rfl) ?_
   have eA : gotA (manyM (listM 1 1 255) 2 1 l false false) = 50 := Eq.symm (by first | exact end_1 (by assumption) | exact end_2 (by omega) | exact end_3 (by assumption) (by omega) (by assumption))
   rw [gotV_n eA (by decide), eA]
   have Hv59 : Ev w [] wo26 [.box bk7 [.slice ta16 (List.length ((manyM (listM 1 1 255) 2 1 l false false).2.1)) tc17, .bool ((manyM (listM 1 1 255) 2 1 l false false).2.2.1), .bool ((manyM (listM 1 1 255) 2 1 l false false).2.2.2)] 120, .vec oa20 oc21 1 (List.flatMap fStr xs22) 9, .vec none 0 1 (List.flatMap fStr []) 9] := Ev.nil (sz := 1) (T := 9) Hv31
   exact ⟨none, 0, [], rfl, Hv59.pk [2], rfl, (Nat.zero_le _), (fun y hy => by cases hy)⟩
  ·
   refine wp_seq ?_
   refine region_from ?_
   refine d_k [4,5,6,7,8,32] [] 3 En55 fun ac60 En61 => ?_
   refine f_o ?_
   refine m_l 0 En61 Hv31 fun ac62 En63 => ?_
   refine d_e [4,5,6,7,8,29] [] En63 fun ac64 En65 => ?_
   refine then_normal ?_
   refine cond_at En65 (t := (manyM (listM 1 1 255) 2 1 l false false).2.2.2) (by kernel_rfl) (fun hc66 => ?_) (fun hc66 => ?_)
   ·
    replace hc66 : (manyM (listM 1 1 255) 2 1 l false false).2.2.2 = true := hc66
    refine d_s [4,5,6,7,8] [] En65 fun ac67 En68 => ?_
    refine wp_ret ?_
    refine block_ret ?_
    refine then_ret ?_
    refine d_ret2 (t := 4) (u := 5) (v := .slice none 0 0) (x := .int .i64 47) En68 (by kernel_rfl) (by kernel_rfl) (by kernel_rfl) ?_
    have eA : gotA (manyM (listM 1 1 255) 2 1 l false false) = 47 := Eq.symm (by first | exact end_1 (by assumption) | exact end_2 (by omega) | exact end_3 (by assumption) (by omega) (by assumption))
    rw [gotV_n eA (by decide), eA]
    have Hv69 : Ev w [] wo26 [.box bk7 [.slice ta16 (List.length ((manyM (listM 1 1 255) 2 1 l false false).2.1)) tc17, .bool ((manyM (listM 1 1 255) 2 1 l false false).2.2.1), .bool ((manyM (listM 1 1 255) 2 1 l false false).2.2.2)] 120, .vec oa20 oc21 1 (List.flatMap fStr xs22) 9, .vec none 0 1 (List.flatMap fStr []) 9] := Ev.nil (sz := 1) (T := 9) Hv31
    exact ⟨none, 0, [], rfl, Hv69.pk [2], rfl, (Nat.zero_le _), (fun y hy => by cases hy)⟩
   ·
    replace hc66 : ¬ ((manyM (listM 1 1 255) 2 1 l false false).2.2.2 = true) := Bool.eq_false_iff.1 hc66
    refine wp_skip ?_
    refine block_normal ?_
    refine then_normal ?_
    refine d_s [4,5,6,7] [] En65 fun ac70 En71 => ?_
    refine wp_ret ?_
    refine d_ret2 (t := 4) (u := 5) (v := .slice oa20 (List.length xs22) oc21) (x := .int .i64 0) En71 (by kernel_rfl) (by kernel_rfl) (by kernel_rfl) ?_
    have eA : gotA (manyM (listM 1 1 255) 2 1 l false false) = 0 := (end_4 (by assumption) (by omega) (by assumption)).symm
    rw [gotV_0 eA, eA]
    exact ⟨oa20, oc21, xs22, rfl, Hv31.pk [1], hpu19, hf23, hf24⟩

theorem getalpn_go (w : World) (aq : Option Addr) (nq cq : Nat) (lq : List UInt8) (eq : nq = List.length lq) (iq : InB w [] aq cq lq) : Calls Try.prog 48 #[.slice aq nq cq] w fun e w' => ∃ oa oc xs, e = .returned (.tuple #[.slice oa (List.length xs) oc, .int .i64 (gotA (manyM (listM 1 1 255) 2 1 lq false false))]) ∧ Ev w [] w' [.vec oa oc 1 (List.flatMap fStr xs) 9] ∧ List.map (fun y : RStr => y) xs = gotV [] (manyM (listM 1 1 255) 2 1 lq false false) ∧ List.length xs ≤ 4294967296 ∧ ∀ y ∈ xs, List.length y ≤ 140737488351232 := by
 subst eq
 refine d_0 [(0, .slice aq (List.length lq) cq)] 8 Go.Proofs.Try.func48 Go.Proofs.Try.ntmps48 (Heap.nil _) fun act0 En0 Hv0 => ?_
 refine d_s [0,2,3] [] En0 fun ac1 En2 => ?_
 refine wp_seq ?_
 refine region_from ?_
 refine d_k [2,3,4] [] 1 En2 fun ac3 En4 => ?_
 refine f_o ?_
 refine c_0 En4 Hv0 (got_getalpn _ aq cq lq ((iq.ev Hv0).pick [] (by kernel_rfl))) ?_
 rintro _ wo12 ⟨oa5, oc6, xs7, rfl, he13, hpu8, hf9, hf10⟩
 refine ⟨_, _, _, rfl, he13, rfl, fun ac15 En16 Hv17 => ?_⟩
 refine d_e [2,3] [] En16 fun ac18 En19 => ?_
 refine then_normal ?_
 refine wp_ret ?_
 refine d_ret2 (t := 2) (u := 3) (v := .slice oa5 (List.length xs7) oc6) (x := .int .i64 (gotA (manyM (listM 1 1 255) 2 1 lq false false))) En19 (by kernel_rfl) (by kernel_rfl) (by kernel_rfl) ?_
 exact ⟨oa5, oc6, xs7, rfl, Hv17.pk [0], hpu8, hf9, hf10⟩

theorem sametxt_go (w : World) (ap : Option Addr) (cp : Nat) (xp : List RStr) (ip : InS fStr 16 (fun x : RStr => List.length x ≤ 140737488351232) w [] ap cp xp) (aq : Option Addr) (cq : Nat) (xq : List RStr) (iq : InS fStr 16 (fun x : RStr => List.length x ≤ 140737488351232) w [] aq cq xq) : Calls Try.prog 50 #[.slice ap (List.length xp) cp, .slice aq (List.length xq) cq] w fun e w' => e = .returned (.bool (List.map (fun y : RStr => y) xp == List.map (fun y : RStr => y) xq)) ∧ Ev w [] w' [] := by
 have hsp := ip.small
 refine d_0 [(0, .slice ap (List.length xp) cp), (1, .slice aq (List.length xq) cq)] 26 Go.Proofs.Try.func50 Go.Proofs.Try.ntmps50 (Heap.nil _) fun act0 En0 Hv0 => ?_
 refine d_s [0,1,4] [] En0 fun ac1 En2 => ?_
 refine wp_seq ?_
 refine d_s [0,1,4,10] [] En2 fun ac3 En4 => ?_
 refine c_n ((List.length xp : Nat) : Int) ((List.length xq : Nat) : Int) En4 (fun hc5 => ?_) (fun hc5 => ?_)
 ·
  refine d_s [0,1,4] [] En4 fun ac6 En7 => ?_
  refine wp_ret ?_
  refine then_ret ?_
  refine d_ret1 (t := 4) (v := .bool false) En7 (by kernel_rfl) (by kernel_rfl) ?_
  exact ⟨congrArg (fun b => Ending.returned (Value.bool b)) (same_len (by omega)), Hv0.pk []⟩
 ·
  refine wp_skip ?_
  refine then_normal ?_
  refine wp_seq ?_
  refine d_s [0,1,4,5] [] En4 fun ac8 En9 => ?_
  refine wp_block ?_
  refine loop_m (fun ms10 ac wo => ∃ (i : Nat), ms10 = (List.length xp + 1 - i : Nat) ∧ Env ac 26 [(0, .slice ap (List.length xp) cp), (1, .slice aq (List.length xq) cq), (5, ni i)] ∧ Ev w [] wo [] ∧ (List.take i (List.map (fun y : RStr => y) xp) = List.take i (List.map (fun y : RStr => y) xq))) ⟨_, 0, rfl, En9.sb, Hv0.pk [], rfl⟩ ?_
  rintro mm16 ac12 wo13 ⟨i, rfl, En14, Hv15, hp⟩
  refine wp_seq ?_
  refine d_s [0,1,5,14] [] En14 fun ac17 En18 => ?_
  refine c_d (((i : Nat) : Int) < ((List.length xp : Nat) : Int)) En18 (fun hc19 => ?_) (fun hc19 => ?_)
  ·
   refine wp_skip ?_
   refine then_normal ?_
   refine wp_seq ?_
   refine wp_block ?_
   refine wp_seq ?_
   have hb20 : i < List.length xp := by omega
   obtain ⟨x22, hx21⟩ : ∃ x, (xp)[i]? = some x := ⟨_, List.getElem?_eq_getElem hb20⟩
   obtain s_x22 := ip.each _ (List.mem_of_getElem? hx21)
   replace s_x22 : (List.length x22 ≤ 140737488351232) := s_x22
   obtain ⟨adp, hadp⟩ := some_of ip.nz (show i < List.length xp by omega)
   have hb23 : i < List.length xq := by omega
   obtain ⟨x25, hx24⟩ : ∃ x, (xq)[i]? = some x := ⟨_, List.getElem?_eq_getElem hb23⟩
   obtain s_x25 := iq.each _ (List.mem_of_getElem? hx24)
   replace s_x25 : (List.length x25 ≤ 140737488351232) := s_x25
   obtain ⟨adq, hadq⟩ := some_of iq.nz (show i < List.length xq by omega)
   refine r_c (fun ac wo => Env ac 26 [(0, .slice ap (List.length xp) cp), (1, .slice aq (List.length xq) cq), (5, ni i), (25, .bool (!(x22 == x25)))] ∧ Ev w [] wo []) ?_ ?_
   ·
    refine s_g0 [(0, .slice ap (List.length xp) cp), (1, .slice aq (List.length xq) cq), (5, ni i)] [0,1,2,3,4,5,6,7,8] [(17, .slice ap (List.length xp) cp), (18, ni i), (19, .pointer (some (Addr.add adp i))), (20, .string (bstr x22)), (21, .slice aq (List.length xq) cq), (22, ni i), (23, .pointer (some (Addr.add adq i))), (24, .string (bstr x25)), (25, .bool (!(x22 == x25)))] 0 [(0, .slice ap (List.length xp) cp), (1, .slice aq (List.length xq) cq), (5, ni i), (25, .bool (!(x22 == x25)))] (En18.sb) (Hv15.trans (Ev.drew Hv15.heap)) ?_ fun ac60 wo61 En62 Hv63 => ?_
    ·
     refine s_p [] ?_
     refine s_p [] ?_
     have hb28 : i < List.length xp := (by omega)
     refine s_c (fun Mx29 ac30 wo31 En32 Hv33 => ?_) ?_
     ·
      refine q_v (x := Instr.indexAt 33 (.slice ap (List.length xp) cp) (ni i)) (v := .pointer (some (Addr.add adp i))) En32 (Go.Dbr.run_indexsl (e := 9) (sz := 1) (j := i) (jo := i) hadp (by kernel_rfl) (by kernel_rfl) (by omega) hb28 (Nat.mul_one _) _) fun ac34 En35 => ?_
      exact s_e En35 Hv33
     refine s_c (fun Mx36 ac37 wo38 En39 Hv40 => ?_) ?_
     ·
      refine op_loadf (d := some 20) (t := 9) (ad := adp) (ao := ap) (ys := List.flatMap fStr xp) (o := i) (v := .string (bstr x22)) En39 (by kernel_rfl) rfl (ip.ro.ev Hv40).reads hadp ((flat_get1 (fun _ _ => rfl) hx21).trans rfl) (by kernel_rfl) ?_
      intro ac41 En42
      exact s_e En42 Hv40
     refine s_p [] ?_
     refine s_p [] ?_
     have hb45 : i < List.length xq := (by omega)
     refine s_c (fun Mx46 ac47 wo48 En49 Hv50 => ?_) ?_
     ·
      refine q_v (x := Instr.indexAt 33 (.slice aq (List.length xq) cq) (ni i)) (v := .pointer (some (Addr.add adq i))) En49 (Go.Dbr.run_indexsl (e := 9) (sz := 1) (j := i) (jo := i) hadq (by kernel_rfl) (by kernel_rfl) (by omega) hb45 (Nat.mul_one _) _) fun ac51 En52 => ?_
      exact s_e En52 Hv50
     refine s_c (fun Mx53 ac54 wo55 En56 Hv57 => ?_) ?_
     ·
      refine op_loadf (d := some 24) (t := 9) (ad := adq) (ao := aq) (ys := List.flatMap fStr xq) (o := i) (v := .string (bstr x25)) En56 (by kernel_rfl) rfl (iq.ro.ev Hv57).reads hadq ((flat_get1 (fun _ _ => rfl) hx24).trans rfl) (by kernel_rfl) ?_
      intro ac58 En59
      exact s_e En59 Hv57
     refine s_p [(8, g_v (show (.bool (!(ByteArray.toList (bstr x22) == ByteArray.toList (bstr x25))) : Value) = .bool (!(x22 == x25)) by rw [Go.Dbr.bstr_eq x22 x25] <;> rfl))] ?_
     exact s_n
    exact a_e ⟨En62.sb, Hv63.pk []⟩
   rintro ac64 wo65 ⟨En66, Hv67⟩
   refine then_normal ?_
   refine cond_at En66 (t := !(x22 == x25)) (by kernel_rfl) (fun hc68 => ?_) (fun hc68 => ?_)
   ·
    replace hc68 : x22 ≠ x25 := by simpa using hc68
    refine d_s [0,1,4,5] [] En66 fun ac69 En70 => ?_
    refine wp_ret ?_
    refine block_ret ?_
    refine then_ret ?_
    refine then_ret ?_
    refine block_ret ?_
    refine then_ret ?_
    refine d_ret1 (t := 4) (v := .bool false) En70 (by kernel_rfl) (by kernel_rfl) ?_
    exact ⟨congrArg (fun b => Ending.returned (Value.bool b)) (same_no hx21 hx24 (by assumption)), Hv67.pk []⟩
   ·
    replace hc68 : ¬ (x22 ≠ x25) := by simpa using hc68
    refine wp_skip ?_
    refine block_normal ?_
    refine then_normal ?_
    refine d_r [0,1,5] [(1, g_n (w_a i 1))] En66 fun ac71 En72 => ?_
    refine then_normal ?_
    refine ⟨_, ⟨i + 1, rfl, En72.sb, Hv67.pk [], (same_step hx21 hx24 (by first | assumption | exact Classical.not_not.1 (by assumption)) hp)⟩, ?_⟩
    omega
  ·
   refine wp_exit ?_
   refine then_exit ?_
   refine then_exit ?_
   refine block_exit ?_
   refine then_normal ?_
   refine d_s [0,1,4,5] [] En18 fun ac73 En74 => ?_
   refine wp_ret ?_
   refine d_ret1 (t := 4) (v := .bool true) En74 (by kernel_rfl) (by kernel_rfl) ?_
   exact ⟨congrArg (fun b => Ending.returned (Value.bool b)) (same_all (by omega) (by omega) hp), Hv15.pk []⟩

end Go.Proofs.Ytofecellbfhnjaa

/- Layer 17: shares of keys are read, by both. -/


namespace Go.Proofs.Ytofecellbfhnjaa
open Go.Dbr
set_option maxRecDepth 100000
set_option maxHeartbeats 2000000
set_option linter.unusedVariables false
set_option linter.unusedSimpArgs false

abbrev RSha := (UInt16) × (Sl UInt8) × Unit
abbrev fSha : RSha → List Value := (fun p : (UInt16) × (Sl UInt8) × Unit => (fun n : UInt16 => [uv16 n]) p.1 ++ (fun p : (Sl UInt8) × Unit => (fun s : Sl UInt8 => s.f) p.1 ++ (fun _ : Unit => []) p.2) p.2)
def innSha (y : RSha) : List Inn := [(y.2.1.a, y.2.1.c, 1, bys y.2.1.l, 5)]
def shareM (l : Bs) (s o : Bool) : (UInt16 × Bs) × PS := ((UInt16.ofNat (nbV 2 l s), lsO 2 1 65535 (tkR 2 l s) (tkS 2 l s)), lsR 2 1 65535 (tkR 2 l s) (tkS 2 l s), lsS 2 1 65535 (tkR 2 l s) (tkS 2 l s), o)
theorem share_dec : Dec shareM := ⟨fun l o h hs => Nat.lt_of_le_of_lt (lsR_len _ _ _ _ _) (tk_lt (by decide) h), fun l o => Nat.le_trans (lsR_len _ _ _ _ _) (tkR_len _ _ _)⟩
theorem share_go (w : World) (br : Nat) (a : Option Addr) (c : Nat) (l : List UInt8) (s o : Bool) (i : InB w [.box br [.slice a (List.length l) c, .bool s, .bool o] 120] a c l) (hH : Heap w [.box br [.slice a (List.length l) c, .bool s, .bool o] 120]) : Calls Try.prog 160 #[pt br] w fun e w' => ∃ ta tc gv oa oc bl, e = .returned (.agg #[uv16 gv, .slice oa (List.length bl) oc]) ∧ Ev w [.box br [.slice a (List.length l) c, .bool s, .bool o] 120] w' [.box br [.slice ta (List.length ((shareM l s o).2.1)) tc, .bool ((shareM l s o).2.2.1), .bool ((shareM l s o).2.2.2)] 120, .vec oa oc 1 (bys bl) 5] ∧ Sub a c l ta tc (shareM l s o).2.1 ∧ (gv, bl) = (shareM l s o).1 ∧ List.length bl ≤ 4294967296 := by
 refine d_0 [(0, pt br)] 10 Go.Proofs.Try.func160 Go.Proofs.Try.ntmps160 (hH) fun act0 En0 Hv0 => ?_
 refine wp_seq ?_
 refine region_from ?_
 refine f_o ?_
 refine m_z 49 [.int .u16 0, .slice none 0 0] En0 Hv0 fun ac2 wo3 bk1 En4 Hv5 => ?_
 refine f_e ?_
 refine then_normal ?_
 refine wp_seq ?_
 refine region_from ?_
 refine d_k [0,2,4] [] 1 En4 fun ac6 En7 => ?_
 refine f_o ?_
 refine c_l [0] (M := [.box br [.slice a (List.length l) c, .bool s, .bool o] 120]) En7 Hv5 (fun hM11 => u16_go _ br a c l s o ((i.ev Hv5).pick [0] (by kernel_rfl)) hM11) ?_
 rintro _ wo12 ⟨ta8, tc9, rfl, he13, hs10⟩
 refine ⟨_, _, [.box br [.slice ta8 (List.length (tkR 2 l s)) tc9, .bool (tkS 2 l s), .bool o] 120, .box bk1 [.int .u16 0, .slice none 0 0] 49], rfl, he13, by kernel_rfl, fun ac15 En16 Hv17 => ?_⟩
 refine d_e [0,2,3] [] En16 fun ac18 En19 => ?_
 refine then_normal ?_
 refine wp_seq ?_
 refine region_from ?_
 refine d_k [0,2,6,7] [] 2 En19 fun ac20 En21 => ?_
 refine f_o ?_
 refine c_l [0] (M := [.box br [.slice ta8 (List.length (tkR 2 l s)) tc9, .bool (tkS 2 l s), .bool o] 120]) En21 Hv17 (fun hM29 => bytes2_go _ br ta8 tc9 (tkR 2 l s) (tkS 2 l s) o (hs10 _ _ ((i.ev Hv17).pick [0] (by kernel_rfl))) hM29) ?_
 rintro _ wo30 ⟨ta22, tc23, oa26, oc27, bl28, rfl, he31, hs24, hpu25⟩
 refine ⟨_, _, [.box br [.slice ta22 (List.length ((listM 2 1 65535 (tkR 2 l s) (tkS 2 l s) o).2.1)) tc23, .bool ((listM 2 1 65535 (tkR 2 l s) (tkS 2 l s) o).2.2.1), .bool ((listM 2 1 65535 (tkR 2 l s) (tkS 2 l s) o).2.2.2)] 120, .vec oa26 oc27 1 (bys bl28) 5, .box bk1 [.int .u16 0, .slice none 0 0] 49], rfl, he31, by kernel_rfl, fun ac33 En34 Hv35 => ?_⟩
 refine d_k [0,2,9] [] 4 En34 fun ac36 En37 => ?_
 refine f_o ?_
 refine m_g 2 0 2 [.int .u16 ((UInt16.toNat (UInt16.ofNat (nbV 2 l s)) : Nat) : Int), .slice oa26 (List.length bl28) oc27] [.int .u16 ((UInt16.toNat (UInt16.ofNat (nbV 2 l s)) : Nat) : Int), .slice oa26 (List.length bl28) oc27] [.box br [.slice ta22 (List.length ((listM 2 1 65535 (tkR 2 l s) (tkS 2 l s) o).2.1)) tc23, .bool ((listM 2 1 65535 (tkR 2 l s) (tkS 2 l s) o).2.2.1), .bool ((listM 2 1 65535 (tkR 2 l s) (tkS 2 l s) o).2.2.2)] 120, .vec oa26 oc27 1 (bys bl28) 5, .box bk1 [.int .u16 ((UInt16.toNat (UInt16.ofNat (nbV 2 l s)) : Nat) : Int), .slice oa26 (List.length bl28) oc27] 49] En37 Hv35 rfl rfl (by simp) (one_all (by kernel_rfl)) rfl rfl fun ac38 wo39 En40 Hv41 => ?_
 refine f_e ?_
 refine then_normal ?_
 refine wp_ret ?_
 refine d_cell1 (v := .agg #[.int .u16 ((UInt16.toNat (UInt16.ofNat (nbV 2 l s)) : Nat) : Int), .slice oa26 (List.length bl28) oc27]) (t := 2) (T := 49) (ad := ⟨bk1, 0, none⟩) En40 (by kernel_rfl) (by kernel_rfl) (Ev.cellAgg (t := 49) (k := 2) (off := 0) (m := 2) (xs := [.int .u16 ((UInt16.toNat (UInt16.ofNat (nbV 2 l s)) : Nat) : Int), .slice oa26 (List.length bl28) oc27]) Hv41 rfl rfl rfl (by kernel_rfl) (by kernel_rfl)) ?_
 exact ⟨ta22, tc23, (UInt16.ofNat (nbV 2 l s)), oa26, oc27, bl28, rfl, Hv41.pk [0, 1], (hs10.trans hs24), (by rw [hpu25]; rfl), (by rw [hpu25]; exact Nat.le_trans (Nat.le_of_succ_le (lsO_32 (by decide) _ _)) (by decide))⟩

theorem many_sha (w : World) (br : Nat) (n : Nat) (hn : n ≤ 4) (x : Nat) (hx : x ≤ 4294967295) (a : Option Addr) (c : Nat) (l : List UInt8) (s o : Bool) (i : InB w [.box br [.slice a (List.length l) c, .bool s, .bool o] 120] a c l) (hH : Heap w [.box br [.slice a (List.length l) c, .bool s, .bool o] 120]) : Calls Try.prog 159 #[pt br, ni n, ni x, .func (.func 160) #[] #[]] w fun e w' => ∃ ta tc oa oc xs, e = .returned (.slice oa (List.length xs) oc) ∧ Ev w [.box br [.slice a (List.length l) c, .bool s, .bool o] 120] w' [.box br [.slice ta (List.length (lsR n x 16777215 l s)) tc, .bool (lsS n x 16777215 l s || (mn shareM ((lsO n x 16777215 l s, lsS n x 16777215 l s, false) : PS)).2.2.1), .bool (o || (mn shareM ((lsO n x 16777215 l s, lsS n x 16777215 l s, false) : PS)).2.2.2)] 120, .vec oa oc 2 (List.flatMap fSha xs) 49, .grp (List.flatMap innSha xs)] ∧ Sub a c l ta tc (lsR n x 16777215 l s) ∧ List.map (fun y : RSha => (y.1, y.2.1.l)) xs = (mn shareM ((lsO n x 16777215 l s, lsS n x 16777215 l s, false) : PS)).1 ∧ List.length xs ≤ List.length (lsO n x 16777215 l s) + 1 ∧ ∀ y ∈ xs, List.length y.2.1.l ≤ 140737488351232 := by
 refine d_0 [(0, pt br), (1, ni n), (2, ni x), (3, .func (.func 160) #[] #[])] 69 Go.Proofs.Try.func159 Go.Proofs.Try.ntmps159 (hH) fun act0 En0 Hv0 => ?_
 refine d_s [0,1,2,3,8] [] En0 fun ac1 En2 => ?_
 refine wp_seq ?_
 refine region_from ?_
 refine d_k [0,3,8,12,13,14] [] 3 En2 fun ac3 En4 => ?_
 refine f_o ?_
 refine c_l [0] (M := [.box br [.slice a (List.length l) c, .bool s, .bool o] 120]) En4 Hv0 (fun hM10 => list_go _ br n (by omega) x 16777215 (by omega) (by omega) a c l s o ((i.ev Hv0).pick [0] (by kernel_rfl)) hM10) ?_
 rintro _ wo11 ⟨ao5, cp6, ta7, tc8, rfl, he12, hs9⟩
 refine ⟨_, _, [.box br [.slice ta7 (List.length (lsR n x 16777215 l s)) tc8, .bool (lsS n x 16777215 l s), .bool o] 120, .vec ao5 cp6 1 (bys (lsO n x 16777215 l s)) 5], rfl, he12, by kernel_rfl, fun ac14 En15 Hv16 => ?_⟩
 refine d_e [0,3,8,9] [] En15 fun ac17 En18 => ?_
 refine then_normal ?_
 refine wp_seq ?_
 refine region_from ?_
 refine d_k [0,3,8,16,19] [] 4 En18 fun ac19 En20 => ?_
 refine f_o ?_
 refine m_l 0 En20 Hv16 fun ac21 En22 => ?_
 refine d_k [0,3,8,21] [] 6 En22 fun ac23 En24 => ?_
 refine f_o ?_
 refine m_m 120 [.slice ao5 (List.length (lsO n x 16777215 l s)) cp6, .bool (lsS n x 16777215 l s), .bool false] En24 Hv16 fun ac26 wo27 bk25 En28 Hv29 => ?_
 refine d_e [0,3,8,10] [] En28 fun ac30 En31 => ?_
 refine then_normal ?_
 refine d_s [0,3,8,10,11] [] En31 fun ac32 En33 => ?_
 refine wp_seq ?_
 refine region_cut (F := fun ac wo => ∃ (oa : Option Addr) (oc : Nat) (xs : List (RSha)) (ra : Option Addr) (rc : Nat) (rl : Bs) (s1 : Bool) (o1 : Bool), Env ac 69 [(0, pt br), (3, .func (.func 160) #[] #[]), (8, .slice none 0 0), (10, pt bk25), (11, .slice oa (List.length xs) oc)] ∧ Ev w [.box br [.slice a (List.length l) c, .bool s, .bool o] 120] wo [.box br [.slice ta7 (List.length (lsR n x 16777215 l s)) tc8, .bool (lsS n x 16777215 l s), .bool o] 120, .box bk25 [.slice ra (List.length rl) rc, .bool s1, .bool o1] 120, .vec oa oc 2 (List.flatMap fSha xs) 49, .grp (List.flatMap innSha xs)] ∧ (mn shareM ((lsO n x 16777215 l s, lsS n x 16777215 l s, false) : PS) = (List.map (fun y : RSha => (y.1, y.2.1.l)) xs, rl, s1, o1)) ∧ (List.length xs ≤ List.length (lsO n x 16777215 l s) + 1) ∧ (∀ y ∈ xs, List.length y.2.1.l ≤ 140737488351232)) ?_ ?_
 ·
  refine wp_block ?_
  have Hv34 : Ev w [.box br [.slice a (List.length l) c, .bool s, .bool o] 120] wo27 [.box br [.slice ta7 (List.length (lsR n x 16777215 l s)) tc8, .bool (lsS n x 16777215 l s), .bool o] 120, .vec ao5 cp6 1 (bys (lsO n x 16777215 l s)) 5, .box bk25 [.slice ao5 (List.length (lsO n x 16777215 l s)) cp6, .bool (lsS n x 16777215 l s), .bool false] 120, .vec none 0 2 (List.flatMap fSha []) 49] := Ev.nil (sz := 2) (T := 49) Hv29
  have Hv35 : Ev w [.box br [.slice a (List.length l) c, .bool s, .bool o] 120] wo27 [.box br [.slice ta7 (List.length (lsR n x 16777215 l s)) tc8, .bool (lsS n x 16777215 l s), .bool o] 120, .vec ao5 cp6 1 (bys (lsO n x 16777215 l s)) 5, .box bk25 [.slice ao5 (List.length (lsO n x 16777215 l s)) cp6, .bool (lsS n x 16777215 l s), .bool false] 120, .vec none 0 2 (List.flatMap fSha []) 49, .grp (List.flatMap innSha [])] := Ev.grp0 Hv34
  have hO32 : List.length (lsO n x 16777215 l s) ≤ 4294967295 := Nat.le_trans (tkO_len _ _ _) (Nat.le_of_lt_succ (nbV_4 hn l s))
  refine loop_m (fun ms36 ac wo => ∃ (oa : Option Addr) (oc : Nat) (xs : List (RSha)) (ra : Option Addr) (rc : Nat) (rl : Bs) (s1 : Bool) (o1 : Bool), ms36 = (bif s1 then 0 else List.length rl + 1 : Nat) ∧ Env ac 69 [(0, pt br), (3, .func (.func 160) #[] #[]), (8, .slice none 0 0), (10, pt bk25), (11, .slice oa (List.length xs) oc)] ∧ Ev w [.box br [.slice a (List.length l) c, .bool s, .bool o] 120] wo [.box bk25 [.slice ra (List.length rl) rc, .bool s1, .bool o1] 120, .box br [.slice ta7 (List.length (lsR n x 16777215 l s)) tc8, .bool (lsS n x 16777215 l s), .bool o] 120, .vec ao5 cp6 1 (bys (lsO n x 16777215 l s)) 5, .vec oa oc 2 (List.flatMap fSha xs) 49, .grp (List.flatMap innSha xs)] ∧ (Sub ao5 cp6 (lsO n x 16777215 l s) ra rc rl) ∧ (mn shareM ((lsO n x 16777215 l s, lsS n x 16777215 l s, false) : PS) = (List.map (fun y : RSha => (y.1, y.2.1.l)) xs ++ (mn shareM (rl, s1, o1)).1, (mn shareM (rl, s1, o1)).2)) ∧ (List.length xs + List.length rl ≤ List.length (lsO n x 16777215 l s) + (bif s1 then 1 else 0)) ∧ (∀ y ∈ xs, List.length y.2.1.l ≤ 140737488351232)) ⟨_, none, 0, [], ao5, cp6, (lsO n x 16777215 l s), (lsS n x 16777215 l s), false, rfl, En33.sb, Hv35.pk [2, 0, 1, 3, 4], Sub.self, rfl, (by rw [List.length_nil, Nat.zero_add]; exact Nat.le_add_right _ _), (fun y hy => by cases hy)⟩ ?_
  rintro mm42 ac38 wo39 ⟨oa, oc, xs, ra, rc, rl, s1, o1, rfl, En40, Hv41, hsu, hmn, hct, hsm⟩
  refine wp_seq ?_
  refine wp_seq ?_
  refine region_from ?_
  refine d_k [0,3,8,10,11,25] [] 3 En40 fun ac43 En44 => ?_
  refine f_o ?_
  refine m_l 0 En44 Hv41 fun ac45 En46 => ?_
  refine d_k [0,3,8,10,11,28] [] 6 En46 fun ac47 En48 => ?_
  rcases Bool.eq_false_or_eq_true (!s1) with hb49 | hb49
  ·
   have En50 := En48.fx (t := 28) (congrArg Value.bool hb49)
   have hp51 : ¬ (s1 = true) := by simpa using hb49
   refine d_k [0,3,8,10,11,28,31] [] 9 En50 fun ac52 En53 => ?_
   refine f_o ?_
   refine m_l 0 En53 Hv41 fun ac54 En55 => ?_
   refine d_e [0,3,8,10,11,35] [] En55 fun ac56 En57 => ?_
   refine then_normal ?_
   refine c_d (((List.length rl : Nat) : Int) > (0 : Int)) En57 (fun hc58 => ?_) (fun hc58 => ?_)
   ·
    refine wp_skip ?_
    refine then_normal ?_
    refine wp_block ?_
    refine region_from ?_
    refine d_k [0,3,8,10,11,36,37,38] [] 3 En57 fun ac59 En60 => ?_
    refine f_o ?_
    refine c_l [0] (M := [.box bk25 [.slice ra (List.length rl) rc, .bool s1, .bool o1] 120]) En60 Hv41 (fun hM70 => share_go _ bk25 ra rc rl s1 o1 (hsu _ _ (bys_in Hv41.heap (k := 2) rfl [0] (by kernel_rfl) rfl (by first | omega | (simp; done) | (simp; omega)))) hM70) ?_
    rintro _ wo71 ⟨ta61, tc62, gv65, oa66, oc67, bl68, rfl, he72, hs63, hpu64, hf69⟩
    refine ⟨_, _, [.box bk25 [.slice ta61 (List.length ((shareM rl s1 o1).2.1)) tc62, .bool ((shareM rl s1 o1).2.2.1), .bool ((shareM rl s1 o1).2.2.2)] 120, .vec oa66 oc67 1 (bys bl68) 5, .box br [.slice ta7 (List.length (lsR n x 16777215 l s)) tc8, .bool (lsS n x 16777215 l s), .bool o] 120, .vec ao5 cp6 1 (bys (lsO n x 16777215 l s)) 5, .vec oa oc 2 (List.flatMap fSha xs) 49, .grp (List.flatMap innSha xs)], rfl, he72, by kernel_rfl, fun ac74 En75 Hv76 => ?_⟩
    refine f_o ?_
    refine op_lit (d := some 40) (t := 34) (T := 49) (m := 1) (parts := #[(0, .agg #[uv16 gv65, .slice oa66 (List.length bl68) oc67])]) (xs := List.flatMap fSha ([(gv65, ⟨oa66, oc67, bl68⟩, ())] : List (RSha))) (sz := 2) En75 (by kernel_rfl) (by kernel_rfl) rfl (by decide) Hv76 ?_
    intro ac78 wo79 bk77 En80 Hv81
    refine f_o ?_
    refine op_append (d := some 41) (t := 34) (tx := 34) (ty := 34) (k := 4) (p := List.length xs) (m := 1) (x := .slice (some ⟨bk77, 0, none⟩) 1 1) (bytes := 32) En80 (by kernel_rfl) Hv81 rfl (sv_len (f := fSha) (sz := 2) (fun _ => rfl) _) (Reads.src (size := 2) (tx := 34) (e' := 49) (by kernel_rfl) (Hv81.heap.reads (k := 6) rfl) rfl (fun e => by cases e) (flat_one (f := fSha) (fun _ => one_all rfl) _)) (by kernel_rfl) (z := .agg #[.int .u16 0, .slice none 0 0]) (by kernel_rfl) rfl (by decide) (by have hb1 := mn_b1 s1; omega) (by unfold maxLen; have hb1 := mn_b1 s1; omega) ?_
    intro ac86 wo87 ao82 cp83 En88 Hv89 hnz _
    clear hnz
    rw [← List.flatMap_append] at Hv89
    have ehz84 : (List.length xs) + 1 = List.length (xs ++ ([(gv65, ⟨oa66, oc67, bl68⟩, ())] : List (RSha))) := (by first | (simp; done) | (simp; omega) | omega)
    rw [ehz84] at En88
    refine d_e [0,3,8,10,11] [] En88 fun ac90 En91 => ?_
    have Hv92 : Ev w [.box br [.slice a (List.length l) c, .bool s, .bool o] 120] wo87 [.box bk25 [.slice ta61 (List.length ((shareM rl s1 o1).2.1)) tc62, .bool ((shareM rl s1 o1).2.2.1), .bool ((shareM rl s1 o1).2.2.2)] 120, .box br [.slice ta7 (List.length (lsR n x 16777215 l s)) tc8, .bool (lsS n x 16777215 l s), .bool o] 120, .vec ao5 cp6 1 (bys (lsO n x 16777215 l s)) 5, .vec ao82 cp83 2 (List.flatMap fSha (xs ++ ([(gv65, ⟨oa66, oc67, bl68⟩, ())] : List (RSha)))) 49, .vec (some ⟨bk77, 0, none⟩) 1 2 (List.flatMap fSha ([(gv65, ⟨oa66, oc67, bl68⟩, ())] : List (RSha))) 49, .grp (List.flatMap innSha (xs ++ ([(gv65, ⟨oa66, oc67, bl68⟩, ())] : List (RSha))))] := Ev.group (M := [.box bk25 [.slice ta61 (List.length ((shareM rl s1 o1).2.1)) tc62, .bool ((shareM rl s1 o1).2.2.1), .bool ((shareM rl s1 o1).2.2.2)] 120, .box br [.slice ta7 (List.length (lsR n x 16777215 l s)) tc8, .bool (lsS n x 16777215 l s), .bool o] 120, .vec ao5 cp6 1 (bys (lsO n x 16777215 l s)) 5, .vec ao82 cp83 2 (List.flatMap fSha (xs ++ ([(gv65, ⟨oa66, oc67, bl68⟩, ())] : List (RSha)))) 49, .vec (some ⟨bk77, 0, none⟩) 1 2 (List.flatMap fSha ([(gv65, ⟨oa66, oc67, bl68⟩, ())] : List (RSha))) 49]) Hv89 [0,2,3,4,6] [5,1] (by kernel_rfl) (by rw [List.flatMap_append]; rfl) (by decide)
    refine block_normal ?_
    refine then_normal ?_
    have hl0 : 0 < List.length rl := by omega
    refine ⟨_, ⟨ao82, cp83, (xs ++ ([(gv65, ⟨oa66, oc67, bl68⟩, ())] : List (RSha))), ta61, tc62, ((shareM rl s1 o1).2.1), ((shareM rl s1 o1).2.2.1), ((shareM rl s1 o1).2.2.2), rfl, En91.sb, Hv92.pk [0, 1, 2, 3, 5], (hsu.trans hs63), (by rw [hmn, mn_step share_dec (Bool.eq_false_iff.2 hp51) hl0, ← hpu64, List.map_append, List.append_assoc]; rfl), (mn_ct (Bool.eq_false_iff.2 hp51) hct (dec_lt (o := o1) share_dec (Bool.eq_false_iff.2 hp51) hl0) (dec_le (o := o1) share_dec (Bool.eq_false_iff.2 hp51)) hl0), (all_snoc hsm (Nat.le_trans hf69 (by decide)))⟩, ?_⟩
    exact mn_mu (Bool.eq_false_iff.2 hp51) hl0 (dec_lt (o := o1) share_dec (Bool.eq_false_iff.2 hp51) hl0)
   ·
    refine wp_exit ?_
    refine then_exit ?_
    refine then_exit ?_
    refine block_exit ?_
    exact ⟨rfl, ⟨oa, oc, xs, ra, rc, rl, s1, o1, En57.sb, Hv41.pk [1, 0, 3, 4], (by rw [hmn, mn_end (p := (rl, s1, o1)) (by first | exact .inl (by assumption) | exact .inr (show rl = [] from List.length_eq_zero_iff.1 (by omega))), List.append_nil]), (mn_c1 hct), hsm⟩⟩
  ·
   have En93 := En48.fx (t := 28) (congrArg Value.bool hb49)
   have hp94 : s1 = true := by simpa using hb49
   refine d_e [0,3,8,10,11,35] [] En93 fun ac95 En96 => ?_
   refine then_normal ?_
   refine c_f En96 ?_
   refine wp_exit ?_
   refine then_exit ?_
   refine then_exit ?_
   refine block_exit ?_
   exact ⟨rfl, ⟨oa, oc, xs, ra, rc, rl, s1, o1, En96.sb, Hv41.pk [1, 0, 3, 4], (by rw [hmn, mn_end (p := (rl, s1, o1)) (by first | exact .inl (by assumption) | exact .inr (show rl = [] from List.length_eq_zero_iff.1 (by omega))), List.append_nil]), (mn_c1 hct), hsm⟩⟩
 ·
  rintro ac97 wo98 ⟨oa, oc, xs, ra, rc, rl, s1, o1, En99, Hv100, hmn, hct, hsm⟩
  refine then_normal ?_
  refine wp_seq ?_
  rcases Bool.eq_false_or_eq_true (lsS n x 16777215 l s) with hb101 | hb101
  ·
   have hb101p : lsS n x 16777215 l s = true := hb101
   rcases Bool.eq_false_or_eq_true (o) with hb102 | hb102
   ·
    have hb102p : o = true := hb102
    refine r_c (fun ac wo => Env ac 69 [(0, pt br), (3, .func (.func 160) #[] #[]), (8, .slice none 0 0), (10, pt bk25), (11, .slice oa (List.length xs) oc)] ∧ Ev w [.box br [.slice a (List.length l) c, .bool s, .bool o] 120] wo [.box br [.slice ta7 (List.length (lsR n x 16777215 l s)) tc8, .bool true, .bool true] 120, .box bk25 [.slice ra (List.length rl) rc, .bool s1, .bool o1] 120, .vec oa oc 2 (List.flatMap fSha xs) 49, .grp (List.flatMap innSha xs)]) ?_ ?_
    ·
     refine h_s (fun wv => Ev w [.box br [.slice a (List.length l) c, .bool s, .bool o] 120] wv [.box br [.slice ta7 (List.length (lsR n x 16777215 l s)) tc8, .bool (lsS n x 16777215 l s), .bool o] 120]) [24] 28 ?_
     have wo103 := Hv100.trans (Ev.drew Hv100.heap)
     refine q_s [0,1,2,3,4] [] 23 En99 (wo103.pk [0]) fun ac184 En185 => ?_
     refine q_l 0 5 En185 (wo103.pk [0]) fun ac186 En187 => ?_
     refine q_s [6] [] 21 En187 (wo103.pk [0]) fun ac188 En189 => ?_
     have En190 := En189.fx (t := 47) (congrArg Value.bool hb101)
     have En191 := En190.fx (t := 48) (congrArg Value.bool hb101)
     refine q_s [7,8,9,10,11,12,13,14] [] 13 En191 (wo103.pk [0]) fun ac192 En193 => ?_
     refine q_l 0 15 En193 (wo103.pk [0]) fun ac194 En195 => ?_
     refine q_s [16] [] 11 En195 (wo103.pk [0]) fun ac196 En197 => ?_
     have En198 := En197.fx (t := 57) (congrArg Value.bool hb102)
     have En199 := En198.fx (t := 58) (congrArg Value.bool hb102)
     refine q_s [17,18,19,20,21,22,23] [] 4 En199 (wo103.pk [0]) fun ac200 En201 => ?_
     refine q_t 24 ?_
     refine m_s 0 [.box br [.slice ta7 (List.length (lsR n x 16777215 l s)) tc8, .bool true, .bool o] 120, .box bk25 [.slice ra (List.length rl) rc, .bool s1, .bool o1] 120, .vec oa oc 2 (List.flatMap fSha xs) 49, .grp (List.flatMap innSha xs)] En201 wo103 fun ac202 wo203 En204 Hv205 => ?_
     refine ⟨q_y, ?_⟩
     refine q_n [25,26] [] 1 En204 fun ac206 En207 => ?_
     refine q_t 27 ?_
     refine m_s 0 [.box br [.slice ta7 (List.length (lsR n x 16777215 l s)) tc8, .bool true, .bool true] 120, .box bk25 [.slice ra (List.length rl) rc, .bool s1, .bool o1] 120, .vec oa oc 2 (List.flatMap fSha xs) 49, .grp (List.flatMap innSha xs)] En207 Hv205 fun ac208 wo209 En210 Hv211 => ?_
     refine ⟨q_y, ?_⟩
     exact h_e ⟨En210.sb, Hv211.pk [0, 1, 2, 3]⟩
    rintro ac212 wo213 ⟨En214, Hv215⟩
    refine then_normal ?_
    refine d_s [0,3,8,10,11] [] En214 fun ac216 En217 => ?_
    refine wp_ret ?_
    refine d_ret1 (t := 8) (v := .slice oa (List.length xs) oc) En217 (by kernel_rfl) (by kernel_rfl) ?_
    have e1 : (lsS n x 16777215 l s || s1) = true := by rw [hb101]; rfl
    have e2 : (o || o1) = true := by rw [hb102]; rfl
    have hfin : Ev w [.box br [.slice a (List.length l) c, .bool s, .bool o] 120] wo213 [.box br [.slice ta7 (List.length (lsR n x 16777215 l s)) tc8, .bool (lsS n x 16777215 l s || s1), .bool (o || o1)] 120, .vec oa oc 2 (List.flatMap fSha xs) 49, .grp (List.flatMap innSha xs)] := by rw [e1, e2]; exact Hv215.pk [0, 2, 3]
    exact ⟨ta7, tc8, oa, oc, xs, rfl, by rw [hmn]; exact hfin, hs9, by rw [hmn], hct, hsm⟩
   ·
    have hb102p : ¬ (o = true) := Bool.eq_false_iff.1 hb102
    refine r_c (fun ac wo => Env ac 69 [(0, pt br), (3, .func (.func 160) #[] #[]), (8, .slice none 0 0), (10, pt bk25), (11, .slice oa (List.length xs) oc)] ∧ Ev w [.box br [.slice a (List.length l) c, .bool s, .bool o] 120] wo [.box br [.slice ta7 (List.length (lsR n x 16777215 l s)) tc8, .bool true, .bool o1] 120, .box bk25 [.slice ra (List.length rl) rc, .bool s1, .bool o1] 120, .vec oa oc 2 (List.flatMap fSha xs) 49, .grp (List.flatMap innSha xs)]) ?_ ?_
    ·
     refine h_s (fun wv => Ev w [.box br [.slice a (List.length l) c, .bool s, .bool o] 120] wv [.box br [.slice ta7 (List.length (lsR n x 16777215 l s)) tc8, .bool (lsS n x 16777215 l s), .bool o] 120, .box bk25 [.slice ra (List.length rl) rc, .bool s1, .bool o1] 120]) [24] 28 ?_
     have wo218 := Hv100.trans (Ev.drew Hv100.heap)
     refine q_s [0,1,2,3,4] [] 23 En99 (wo218.pk [0, 1]) fun ac311 En312 => ?_
     refine q_l 0 5 En312 (wo218.pk [0, 1]) fun ac313 En314 => ?_
     refine q_s [6] [] 21 En314 (wo218.pk [0, 1]) fun ac315 En316 => ?_
     have En317 := En316.fx (t := 47) (congrArg Value.bool hb101)
     have En318 := En317.fx (t := 48) (congrArg Value.bool hb101)
     refine q_s [7,8,9,10,11,12,13,14] [] 13 En318 (wo218.pk [0, 1]) fun ac319 En320 => ?_
     refine q_l 0 15 En320 (wo218.pk [0, 1]) fun ac321 En322 => ?_
     refine q_s [16] [] 11 En322 (wo218.pk [0, 1]) fun ac323 En324 => ?_
     have En325 := En324.fx (t := 57) (congrArg Value.bool hb102)
     have En326 := En325.fx (t := 58) (congrArg Value.bool hb102)
     refine q_s [17,18,19] [] 8 En326 (wo218.pk [0, 1]) fun ac327 En328 => ?_
     refine q_l 1 20 En328 (wo218.pk [0, 1]) fun ac329 En330 => ?_
     refine q_s [21,22,23] [] 4 En330 (wo218.pk [0, 1]) fun ac331 En332 => ?_
     refine q_t 24 ?_
     refine m_s 0 [.box br [.slice ta7 (List.length (lsR n x 16777215 l s)) tc8, .bool true, .bool o] 120, .box bk25 [.slice ra (List.length rl) rc, .bool s1, .bool o1] 120, .vec oa oc 2 (List.flatMap fSha xs) 49, .grp (List.flatMap innSha xs)] En332 wo218 fun ac333 wo334 En335 Hv336 => ?_
     refine ⟨q_y, ?_⟩
     refine q_n [25,26] [] 1 En335 fun ac337 En338 => ?_
     refine q_t 27 ?_
     refine m_s 0 [.box br [.slice ta7 (List.length (lsR n x 16777215 l s)) tc8, .bool true, .bool o1] 120, .box bk25 [.slice ra (List.length rl) rc, .bool s1, .bool o1] 120, .vec oa oc 2 (List.flatMap fSha xs) 49, .grp (List.flatMap innSha xs)] En338 Hv336 fun ac339 wo340 En341 Hv342 => ?_
     refine ⟨q_y, ?_⟩
     exact h_e ⟨En341.sb, Hv342.pk [0, 1, 2, 3]⟩
    rintro ac343 wo344 ⟨En345, Hv346⟩
    refine then_normal ?_
    refine d_s [0,3,8,10,11] [] En345 fun ac347 En348 => ?_
    refine wp_ret ?_
    refine d_ret1 (t := 8) (v := .slice oa (List.length xs) oc) En348 (by kernel_rfl) (by kernel_rfl) ?_
    have e1 : (lsS n x 16777215 l s || s1) = true := by rw [hb101]; rfl
    have e2 : (o || o1) = o1 := by rw [hb102]; rfl
    have hfin : Ev w [.box br [.slice a (List.length l) c, .bool s, .bool o] 120] wo344 [.box br [.slice ta7 (List.length (lsR n x 16777215 l s)) tc8, .bool (lsS n x 16777215 l s || s1), .bool (o || o1)] 120, .vec oa oc 2 (List.flatMap fSha xs) 49, .grp (List.flatMap innSha xs)] := by rw [e1, e2]; exact Hv346.pk [0, 2, 3]
    exact ⟨ta7, tc8, oa, oc, xs, rfl, by rw [hmn]; exact hfin, hs9, by rw [hmn], hct, hsm⟩
  ·
   have hb101p : ¬ (lsS n x 16777215 l s = true) := Bool.eq_false_iff.1 hb101
   rcases Bool.eq_false_or_eq_true (o) with hb349 | hb349
   ·
    have hb349p : o = true := hb349
    refine r_c (fun ac wo => Env ac 69 [(0, pt br), (3, .func (.func 160) #[] #[]), (8, .slice none 0 0), (10, pt bk25), (11, .slice oa (List.length xs) oc)] ∧ Ev w [.box br [.slice a (List.length l) c, .bool s, .bool o] 120] wo [.box br [.slice ta7 (List.length (lsR n x 16777215 l s)) tc8, .bool s1, .bool true] 120, .box bk25 [.slice ra (List.length rl) rc, .bool s1, .bool o1] 120, .vec oa oc 2 (List.flatMap fSha xs) 49, .grp (List.flatMap innSha xs)]) ?_ ?_
    ·
     refine h_s (fun wv => Ev w [.box br [.slice a (List.length l) c, .bool s, .bool o] 120] wv [.box br [.slice ta7 (List.length (lsR n x 16777215 l s)) tc8, .bool (lsS n x 16777215 l s), .bool o] 120, .box bk25 [.slice ra (List.length rl) rc, .bool s1, .bool o1] 120]) [24] 28 ?_
     have wo350 := Hv100.trans (Ev.drew Hv100.heap)
     refine q_s [0,1,2,3,4] [] 23 En99 (wo350.pk [0, 1]) fun ac465 En466 => ?_
     refine q_l 0 5 En466 (wo350.pk [0, 1]) fun ac467 En468 => ?_
     refine q_s [6] [] 21 En468 (wo350.pk [0, 1]) fun ac469 En470 => ?_
     have En471 := En470.fx (t := 47) (congrArg Value.bool hb101)
     have En472 := En471.fx (t := 48) (congrArg Value.bool hb101)
     refine q_s [7,8,9] [] 18 En472 (wo350.pk [0, 1]) fun ac473 En474 => ?_
     refine q_l 1 10 En474 (wo350.pk [0, 1]) fun ac475 En476 => ?_
     refine q_s [11,12,13,14] [] 13 En476 (wo350.pk [0, 1]) fun ac477 En478 => ?_
     refine q_l 0 15 En478 (wo350.pk [0, 1]) fun ac479 En480 => ?_
     refine q_s [16] [] 11 En480 (wo350.pk [0, 1]) fun ac481 En482 => ?_
     have En483 := En482.fx (t := 57) (congrArg Value.bool hb349)
     have En484 := En483.fx (t := 58) (congrArg Value.bool hb349)
     refine q_s [17,18,19,20,21,22,23] [] 4 En484 (wo350.pk [0, 1]) fun ac485 En486 => ?_
     refine q_t 24 ?_
     refine m_s 0 [.box br [.slice ta7 (List.length (lsR n x 16777215 l s)) tc8, .bool s1, .bool o] 120, .box bk25 [.slice ra (List.length rl) rc, .bool s1, .bool o1] 120, .vec oa oc 2 (List.flatMap fSha xs) 49, .grp (List.flatMap innSha xs)] En486 wo350 fun ac487 wo488 En489 Hv490 => ?_
     refine ⟨q_y, ?_⟩
     refine q_n [25,26] [] 1 En489 fun ac491 En492 => ?_
     refine q_t 27 ?_
     refine m_s 0 [.box br [.slice ta7 (List.length (lsR n x 16777215 l s)) tc8, .bool s1, .bool true] 120, .box bk25 [.slice ra (List.length rl) rc, .bool s1, .bool o1] 120, .vec oa oc 2 (List.flatMap fSha xs) 49, .grp (List.flatMap innSha xs)] En492 Hv490 fun ac493 wo494 En495 Hv496 => ?_
     refine ⟨q_y, ?_⟩
     exact h_e ⟨En495.sb, Hv496.pk [0, 1, 2, 3]⟩
    rintro ac497 wo498 ⟨En499, Hv500⟩
    refine then_normal ?_
    refine d_s [0,3,8,10,11] [] En499 fun ac501 En502 => ?_
    refine wp_ret ?_
    refine d_ret1 (t := 8) (v := .slice oa (List.length xs) oc) En502 (by kernel_rfl) (by kernel_rfl) ?_
    have e1 : (lsS n x 16777215 l s || s1) = s1 := by rw [hb101]; rfl
    have e2 : (o || o1) = true := by rw [hb349]; rfl
    have hfin : Ev w [.box br [.slice a (List.length l) c, .bool s, .bool o] 120] wo498 [.box br [.slice ta7 (List.length (lsR n x 16777215 l s)) tc8, .bool (lsS n x 16777215 l s || s1), .bool (o || o1)] 120, .vec oa oc 2 (List.flatMap fSha xs) 49, .grp (List.flatMap innSha xs)] := by rw [e1, e2]; exact Hv500.pk [0, 2, 3]
    exact ⟨ta7, tc8, oa, oc, xs, rfl, by rw [hmn]; exact hfin, hs9, by rw [hmn], hct, hsm⟩
   ·
    have hb349p : ¬ (o = true) := Bool.eq_false_iff.1 hb349
    refine r_c (fun ac wo => Env ac 69 [(0, pt br), (3, .func (.func 160) #[] #[]), (8, .slice none 0 0), (10, pt bk25), (11, .slice oa (List.length xs) oc)] ∧ Ev w [.box br [.slice a (List.length l) c, .bool s, .bool o] 120] wo [.box br [.slice ta7 (List.length (lsR n x 16777215 l s)) tc8, .bool s1, .bool o1] 120, .box bk25 [.slice ra (List.length rl) rc, .bool s1, .bool o1] 120, .vec oa oc 2 (List.flatMap fSha xs) 49, .grp (List.flatMap innSha xs)]) ?_ ?_
    ·
     refine h_s (fun wv => Ev w [.box br [.slice a (List.length l) c, .bool s, .bool o] 120] wv [.box br [.slice ta7 (List.length (lsR n x 16777215 l s)) tc8, .bool (lsS n x 16777215 l s), .bool o] 120, .box bk25 [.slice ra (List.length rl) rc, .bool s1, .bool o1] 120]) [24] 28 ?_
     have wo503 := Hv100.trans (Ev.drew Hv100.heap)
     refine q_s [0,1,2,3,4] [] 23 En99 (wo503.pk [0, 1]) fun ac638 En639 => ?_
     refine q_l 0 5 En639 (wo503.pk [0, 1]) fun ac640 En641 => ?_
     refine q_s [6] [] 21 En641 (wo503.pk [0, 1]) fun ac642 En643 => ?_
     have En644 := En643.fx (t := 47) (congrArg Value.bool hb101)
     have En645 := En644.fx (t := 48) (congrArg Value.bool hb101)
     refine q_s [7,8,9] [] 18 En645 (wo503.pk [0, 1]) fun ac646 En647 => ?_
     refine q_l 1 10 En647 (wo503.pk [0, 1]) fun ac648 En649 => ?_
     refine q_s [11,12,13,14] [] 13 En649 (wo503.pk [0, 1]) fun ac650 En651 => ?_
     refine q_l 0 15 En651 (wo503.pk [0, 1]) fun ac652 En653 => ?_
     refine q_s [16] [] 11 En653 (wo503.pk [0, 1]) fun ac654 En655 => ?_
     have En656 := En655.fx (t := 57) (congrArg Value.bool hb349)
     have En657 := En656.fx (t := 58) (congrArg Value.bool hb349)
     refine q_s [17,18,19] [] 8 En657 (wo503.pk [0, 1]) fun ac658 En659 => ?_
     refine q_l 1 20 En659 (wo503.pk [0, 1]) fun ac660 En661 => ?_
     refine q_s [21,22,23] [] 4 En661 (wo503.pk [0, 1]) fun ac662 En663 => ?_
     refine q_t 24 ?_
     refine m_s 0 [.box br [.slice ta7 (List.length (lsR n x 16777215 l s)) tc8, .bool s1, .bool o] 120, .box bk25 [.slice ra (List.length rl) rc, .bool s1, .bool o1] 120, .vec oa oc 2 (List.flatMap fSha xs) 49, .grp (List.flatMap innSha xs)] En663 wo503 fun ac664 wo665 En666 Hv667 => ?_
     refine ⟨q_y, ?_⟩
     refine q_n [25,26] [] 1 En666 fun ac668 En669 => ?_
     refine q_t 27 ?_
     refine m_s 0 [.box br [.slice ta7 (List.length (lsR n x 16777215 l s)) tc8, .bool s1, .bool o1] 120, .box bk25 [.slice ra (List.length rl) rc, .bool s1, .bool o1] 120, .vec oa oc 2 (List.flatMap fSha xs) 49, .grp (List.flatMap innSha xs)] En669 Hv667 fun ac670 wo671 En672 Hv673 => ?_
     refine ⟨q_y, ?_⟩
     exact h_e ⟨En672.sb, Hv673.pk [0, 1, 2, 3]⟩
    rintro ac674 wo675 ⟨En676, Hv677⟩
    refine then_normal ?_
    refine d_s [0,3,8,10,11] [] En676 fun ac678 En679 => ?_
    refine wp_ret ?_
    refine d_ret1 (t := 8) (v := .slice oa (List.length xs) oc) En679 (by kernel_rfl) (by kernel_rfl) ?_
    have e1 : (lsS n x 16777215 l s || s1) = s1 := by rw [hb101]; rfl
    have e2 : (o || o1) = o1 := by rw [hb349]; rfl
    have hfin : Ev w [.box br [.slice a (List.length l) c, .bool s, .bool o] 120] wo675 [.box br [.slice ta7 (List.length (lsR n x 16777215 l s)) tc8, .bool (lsS n x 16777215 l s || s1), .bool (o || o1)] 120, .vec oa oc 2 (List.flatMap fSha xs) 49, .grp (List.flatMap innSha xs)] := by rw [e1, e2]; exact Hv677.pk [0, 2, 3]
    exact ⟨ta7, tc8, oa, oc, xs, rfl, by rw [hmn]; exact hfin, hs9, by rw [hmn], hct, hsm⟩

theorem getshares1 (w : World) (br : Nat) (a : Option Addr) (c : Nat) (l : List UInt8) (s o : Bool) (i : InB w [.box br [.slice a (List.length l) c, .bool s, .bool o] 120] a c l) (hH : Heap w [.box br [.slice a (List.length l) c, .bool s, .bool o] 120]) : Calls Try.prog 158 #[pt br] w fun e w' => ∃ ta tc oa oc xs, e = .returned (.slice oa (List.length xs) oc) ∧ Ev w [.box br [.slice a (List.length l) c, .bool s, .bool o] 120] w' [.box br [.slice ta (List.length ((manyM shareM 2 0 l s o).2.1)) tc, .bool ((manyM shareM 2 0 l s o).2.2.1), .bool ((manyM shareM 2 0 l s o).2.2.2)] 120, .vec oa oc 2 (List.flatMap fSha xs) 49, .grp (List.flatMap innSha xs)] ∧ Sub a c l ta tc (manyM shareM 2 0 l s o).2.1 ∧ List.map (fun y : RSha => (y.1, y.2.1.l)) xs = (manyM shareM 2 0 l s o).1 ∧ List.length xs ≤ 4294967296 ∧ ∀ y ∈ xs, List.length y.2.1.l ≤ 140737488351232 := by
 refine d_0 [(0, pt br)] 5 Go.Proofs.Try.func158 Go.Proofs.Try.ntmps158 (hH) fun act0 En0 Hv0 => ?_
 refine d_s [0,2] [] En0 fun ac1 En2 => ?_
 refine wp_seq ?_
 refine region_from ?_
 refine d_k [2,3] [] 1 En2 fun ac3 En4 => ?_
 refine f_o ?_
 refine c_l [0] (M := [.box br [.slice a (List.length l) c, .bool s, .bool o] 120]) En4 Hv0 (fun hM14 => many_sha _ br 2 (by omega) 0 (by omega) a c l s o ((i.ev Hv0).pick [0] (by kernel_rfl)) hM14) ?_
 rintro _ wo15 ⟨ta5, tc6, oa7, oc8, xs9, rfl, he16, hs10, hmn11, hct12, hsm13⟩
 refine ⟨_, _, [.box br [.slice ta5 (List.length (lsR 2 0 16777215 l s)) tc6, .bool (lsS 2 0 16777215 l s || (mn shareM ((lsO 2 0 16777215 l s, lsS 2 0 16777215 l s, false) : PS)).2.2.1), .bool (o || (mn shareM ((lsO 2 0 16777215 l s, lsS 2 0 16777215 l s, false) : PS)).2.2.2)] 120, .vec oa7 oc8 2 (List.flatMap fSha xs9) 49, .grp (List.flatMap innSha xs9)], rfl, he16, by kernel_rfl, fun ac18 En19 Hv20 => ?_⟩
 refine d_e [2] [] En19 fun ac21 En22 => ?_
 refine then_normal ?_
 refine wp_ret ?_
 refine d_ret1 (t := 2) (v := .slice oa7 (List.length xs9) oc8) En22 (by kernel_rfl) (by kernel_rfl) ?_
 exact ⟨ta5, tc6, oa7, oc8, xs9, rfl, Hv20.pk [0, 1, 2], hs10, hmn11, (Nat.le_trans hct12 (lsO_32 (by decide) _ _)), hsm13⟩

theorem got_getshares (w : World) (a : Option Addr) (c : Nat) (l : Bs) (i : InB w [] a c l) : Calls Try.prog 157 #[.slice a (List.length l) c, .func (.func 158) #[] #[]] w fun e w' => ∃ oa oc xs, e = .returned (.tuple #[.slice oa (List.length xs) oc, .int .i64 (gotA (manyM shareM 2 0 l false false))]) ∧ Ev w [] w' [.vec oa oc 2 (List.flatMap fSha xs) 49, .grp (List.flatMap innSha xs)] ∧ List.map (fun y : RSha => (y.1, y.2.1.l)) xs = gotV [] (manyM shareM 2 0 l false false) ∧ List.length xs ≤ 4294967296 ∧ ∀ y ∈ xs, List.length y.2.1.l ≤ 140737488351232 := by
 refine d_0 [(0, .slice a (List.length l) c), (1, .func (.func 158) #[] #[])] 36 Go.Proofs.Try.func157 Go.Proofs.Try.ntmps157 (Heap.nil _) fun act0 En0 Hv0 => ?_
 refine d_s [0,1,4,5] [] En0 fun ac1 En2 => ?_
 refine d_s [0,1,4,5,6] [] En2 fun ac3 En4 => ?_
 refine wp_seq ?_
 refine region_from ?_
 refine d_k [1,4,5,6,10] [] 2 En4 fun ac5 En6 => ?_
 refine f_o ?_
 refine m_m 120 [.slice a (List.length l) c, .bool false, .bool false] En6 Hv0 fun ac8 wo9 bk7 En10 Hv11 => ?_
 refine d_e [1,4,5,6,7] [] En10 fun ac12 En13 => ?_
 refine then_normal ?_
 refine wp_seq ?_
 refine region_from ?_
 refine d_k [4,5,6,7,12,13] [] 2 En13 fun ac14 En15 => ?_
 refine f_o ?_
 refine c_l [0] (M := [.box bk7 [.slice a (List.length l) c, .bool false, .bool false] 120]) En15 Hv11 (fun hM25 => getshares1 _ bk7 a c l false false ((i.ev Hv11).pick [0] (by kernel_rfl)) hM25) ?_
 rintro _ wo26 ⟨ta16, tc17, oa20, oc21, xs22, rfl, he27, hs18, hpu19, hf23, hf24⟩
 refine ⟨_, _, [.box bk7 [.slice ta16 (List.length ((manyM shareM 2 0 l false false).2.1)) tc17, .bool ((manyM shareM 2 0 l false false).2.2.1), .bool ((manyM shareM 2 0 l false false).2.2.2)] 120, .vec oa20 oc21 2 (List.flatMap fSha xs22) 49, .grp (List.flatMap innSha xs22)], rfl, he27, by kernel_rfl, fun ac29 En30 Hv31 => ?_⟩
 refine d_e [4,5,6,7,8] [] En30 fun ac32 En33 => ?_
 refine then_normal ?_
 refine wp_seq ?_
 refine wp_block ?_
 refine wp_seq ?_
 refine region_from ?_
 refine d_k [4,5,6,7,8,18] [] 3 En33 fun ac34 En35 => ?_
 refine f_o ?_
 refine m_l 0 En35 Hv31 fun ac36 En37 => ?_
 refine d_k [4,5,6,7,8,20] [] 5 En37 fun ac38 En39 => ?_
 rcases Bool.eq_false_or_eq_true ((manyM shareM 2 0 l false false).2.2.1) with hb40 | hb40
 ·
  have En41 := En39.fx (t := 20) (congrArg Value.bool hb40)
  have hp42 : (manyM shareM 2 0 l false false).2.2.1 = true := hb40
  refine d_e [4,5,6,7,8,15] [] En41 fun ac43 En44 => ?_
  refine then_normal ?_
  refine c_t En44 ?_
  refine d_s [4,5,6,7,8] [] En44 fun ac45 En46 => ?_
  refine wp_ret ?_
  refine block_ret ?_
  refine then_ret ?_
  refine d_ret2 (t := 4) (u := 5) (v := .slice none 0 0) (x := .int .i64 50) En46 (by kernel_rfl) (by kernel_rfl) (by kernel_rfl) ?_
  have eA : gotA (manyM shareM 2 0 l false false) = 50 := Eq.symm (by first | exact end_1 (by assumption) | exact end_2 (by omega) | exact end_3 (by assumption) (by omega) (by assumption))
  rw [gotV_n eA (by decide), eA]
  have Hv47 : Ev w [] wo26 [.box bk7 [.slice ta16 (List.length ((manyM shareM 2 0 l false false).2.1)) tc17, .bool ((manyM shareM 2 0 l false false).2.2.1), .bool ((manyM shareM 2 0 l false false).2.2.2)] 120, .vec oa20 oc21 2 (List.flatMap fSha xs22) 49, .grp (List.flatMap innSha xs22), .vec none 0 2 (List.flatMap fSha []) 49] := Ev.nil (sz := 2) (T := 49) Hv31
  have Hv48 : Ev w [] wo26 [.box bk7 [.slice ta16 (List.length ((manyM shareM 2 0 l false false).2.1)) tc17, .bool ((manyM shareM 2 0 l false false).2.2.1), .bool ((manyM shareM 2 0 l false false).2.2.2)] 120, .vec oa20 oc21 2 (List.flatMap fSha xs22) 49, .grp (List.flatMap innSha xs22), .vec none 0 2 (List.flatMap fSha []) 49, .grp (List.flatMap innSha [])] := Ev.grp0 Hv47
  exact ⟨none, 0, [], rfl, Hv48.pk [3, 4], rfl, (Nat.zero_le _), (fun y hy => by cases hy)⟩
 ·
  have En49 := En39.fx (t := 20) (congrArg Value.bool hb40)
  have hp50 : ¬ ((manyM shareM 2 0 l false false).2.2.1 = true) := Bool.eq_false_iff.1 hb40
  refine d_k [4,5,6,7,8,20,23] [] 8 En49 fun ac51 En52 => ?_
  refine f_o ?_
  refine m_l 0 En52 Hv31 fun ac53 En54 => ?_
  refine d_e [4,5,6,7,8,15] [] En54 fun ac55 En56 => ?_
  refine then_normal ?_
  refine c_d (((List.length ((manyM shareM 2 0 l false false).2.1) : Nat) : Int) > (0 : Int)) En56 (fun hc57 => ?_) (fun hc57 => ?_)
  ·
   refine d_s [4,5,6,7,8] [] En56 fun ac58 En59 => ?_
   refine wp_ret ?_
   refine block_ret ?_
   refine then_ret ?_
   refine d_ret2 (t := 4) (u := 5) (v := .slice none 0 0) (x := .int .i64 50) En59 (by kernel_rfl) (by kernel_rfl) (by kernel_rfl) ?_
   have eA : gotA (manyM shareM 2 0 l false false) = 50 := Eq.symm (by first | exact end_1 (by assumption) | exact end_2 (by omega) | exact end_3 (by assumption) (by omega) (by assumption))
   rw [gotV_n eA (by decide), eA]
   have Hv60 : Ev w [] wo26 [.box bk7 [.slice ta16 (List.length ((manyM shareM 2 0 l false false).2.1)) tc17, .bool ((manyM shareM 2 0 l false false).2.2.1), .bool ((manyM shareM 2 0 l false false).2.2.2)] 120, .vec oa20 oc21 2 (List.flatMap fSha xs22) 49, .grp (List.flatMap innSha xs22), .vec none 0 2 (List.flatMap fSha []) 49] := Ev.nil (sz := 2) (T := 49) Hv31
   have Hv61 : Ev w [] wo26 [.box bk7 [.slice ta16 (List.length ((manyM shareM 2 0 l false false).2.1)) tc17, .bool ((manyM shareM 2 0 l false false).2.2.1), .bool ((manyM shareM 2 0 l false false).2.2.2)] 120, .vec oa20 oc21 2 (List.flatMap fSha xs22) 49, .grp (List.flatMap innSha xs22), .vec none 0 2 (List.flatMap fSha []) 49, .grp (List.flatMap innSha [])] := Ev.grp0 Hv60
   exact ⟨none, 0, [], rfl, Hv61.pk [3, 4], rfl, (Nat.zero_le _), (fun y hy => by cases hy)⟩
  ·
   refine wp_seq ?_
   refine region_from ?_
   refine d_k [4,5,6,7,8,32] [] 3 En56 fun ac62 En63 => ?_
   refine f_o ?_
   refine m_l 0 En63 Hv31 fun ac64 En65 => ?_
   refine d_e [4,5,6,7,8,29] [] En65 fun ac66 En67 => ?_
   refine then_normal ?_
   refine cond_at En67 (t := (manyM shareM 2 0 l false false).2.2.2) (by kernel_rfl) (fun hc68 => ?_) (fun hc68 => ?_)
   ·
    replace hc68 : (manyM shareM 2 0 l false false).2.2.2 = true := hc68
    refine d_s [4,5,6,7,8] [] En67 fun ac69 En70 => ?_
    refine wp_ret ?_
    refine block_ret ?_
    refine then_ret ?_
    refine d_ret2 (t := 4) (u := 5) (v := .slice none 0 0) (x := .int .i64 47) En70 (by kernel_rfl) (by kernel_rfl) (by kernel_rfl) ?_
    have eA : gotA (manyM shareM 2 0 l false false) = 47 := Eq.symm (by first | exact end_1 (by assumption) | exact end_2 (by omega) | exact end_3 (by assumption) (by omega) (by assumption))
    rw [gotV_n eA (by decide), eA]
    have Hv71 : Ev w [] wo26 [.box bk7 [.slice ta16 (List.length ((manyM shareM 2 0 l false false).2.1)) tc17, .bool ((manyM shareM 2 0 l false false).2.2.1), .bool ((manyM shareM 2 0 l false false).2.2.2)] 120, .vec oa20 oc21 2 (List.flatMap fSha xs22) 49, .grp (List.flatMap innSha xs22), .vec none 0 2 (List.flatMap fSha []) 49] := Ev.nil (sz := 2) (T := 49) Hv31
    have Hv72 : Ev w [] wo26 [.box bk7 [.slice ta16 (List.length ((manyM shareM 2 0 l false false).2.1)) tc17, .bool ((manyM shareM 2 0 l false false).2.2.1), .bool ((manyM shareM 2 0 l false false).2.2.2)] 120, .vec oa20 oc21 2 (List.flatMap fSha xs22) 49, .grp (List.flatMap innSha xs22), .vec none 0 2 (List.flatMap fSha []) 49, .grp (List.flatMap innSha [])] := Ev.grp0 Hv71
    exact ⟨none, 0, [], rfl, Hv72.pk [3, 4], rfl, (Nat.zero_le _), (fun y hy => by cases hy)⟩
   ·
    replace hc68 : ¬ ((manyM shareM 2 0 l false false).2.2.2 = true) := Bool.eq_false_iff.1 hc68
    refine wp_skip ?_
    refine block_normal ?_
    refine then_normal ?_
    refine d_s [4,5,6,7] [] En67 fun ac73 En74 => ?_
    refine wp_ret ?_
    refine d_ret2 (t := 4) (u := 5) (v := .slice oa20 (List.length xs22) oc21) (x := .int .i64 0) En74 (by kernel_rfl) (by kernel_rfl) (by kernel_rfl) ?_
    have eA : gotA (manyM shareM 2 0 l false false) = 0 := (end_4 (by assumption) (by omega) (by assumption)).symm
    rw [gotV_0 eA, eA]
    exact ⟨oa20, oc21, xs22, rfl, Hv31.pk [1, 2], hpu19, hf23, hf24⟩

theorem getshares_go (w : World) (aq : Option Addr) (nq cq : Nat) (lq : List UInt8) (eq : nq = List.length lq) (iq : InB w [] aq cq lq) : Calls Try.prog 53 #[.slice aq nq cq] w fun e w' => ∃ oa oc xs, e = .returned (.tuple #[.slice oa (List.length xs) oc, .int .i64 (gotA (manyM shareM 2 0 lq false false))]) ∧ Ev w [] w' [.vec oa oc 2 (List.flatMap fSha xs) 49, .grp (List.flatMap innSha xs)] ∧ List.map (fun y : RSha => (y.1, y.2.1.l)) xs = gotV [] (manyM shareM 2 0 lq false false) ∧ List.length xs ≤ 4294967296 ∧ ∀ y ∈ xs, List.length y.2.1.l ≤ 140737488351232 := by
 subst eq
 refine d_0 [(0, .slice aq (List.length lq) cq)] 8 Go.Proofs.Try.func53 Go.Proofs.Try.ntmps53 (Heap.nil _) fun act0 En0 Hv0 => ?_
 refine d_s [0,2,3] [] En0 fun ac1 En2 => ?_
 refine wp_seq ?_
 refine region_from ?_
 refine d_k [2,3,4] [] 1 En2 fun ac3 En4 => ?_
 refine f_o ?_
 refine c_0 En4 Hv0 (got_getshares _ aq cq lq ((iq.ev Hv0).pick [] (by kernel_rfl))) ?_
 rintro _ wo12 ⟨oa5, oc6, xs7, rfl, he13, hpu8, hf9, hf10⟩
 refine ⟨_, _, _, rfl, he13, rfl, fun ac15 En16 Hv17 => ?_⟩
 refine d_e [2,3] [] En16 fun ac18 En19 => ?_
 refine then_normal ?_
 refine wp_ret ?_
 refine d_ret2 (t := 2) (u := 3) (v := .slice oa5 (List.length xs7) oc6) (x := .int .i64 (gotA (manyM shareM 2 0 lq false false))) En19 (by kernel_rfl) (by kernel_rfl) (by kernel_rfl) ?_
 exact ⟨oa5, oc6, xs7, rfl, Hv17.pk [0, 1], hpu8, hf9, hf10⟩

end Go.Proofs.Ytofecellbfhnjaa
