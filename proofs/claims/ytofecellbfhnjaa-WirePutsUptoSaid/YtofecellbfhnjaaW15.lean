/- Layer 17: texts are read, by both. -/
import Derived.Test.YtofecellbfhnjaaW14
namespace Go.Proofs.Ytofecellbfhnjaa
open Go.Dbr
set_option maxRecDepth 100000
set_option maxHeartbeats 2000000
set_option linter.unusedVariables false
set_option linter.unusedSimpArgs false

theorem list_dec {n x y : Nat} (hn : 0 < n) : Dec (listM n x y) := ⟨fun l o h hs => by
  have h1 : tkS (nbV n l false) (tkR n l false) (lsT n x y l false) = false := hs
  have h2 : tkS n l false = false := by
    rw [tkS, Bool.or_eq_false_iff] at h1
    have h3 := h1.1
    rw [lsT, Bool.or_eq_false_iff] at h3
    exact h3.1
  exact Nat.lt_of_le_of_lt (tkR_len _ _ _) (tk_lt hn h), fun l o => lsR_len _ _ _ _ _⟩
theorem dlist_dec {n x y : Nat} (hn : 0 < n) : Dec (dlistM n x y) := ⟨fun l o h hs => by
  have h1 : tkS (nbV n l false) (dkR n l false) (lsT n x y l false) = false := hs
  have h2 : tkS n l false = false := by
    rw [tkS, Bool.or_eq_false_iff] at h1
    have h3 := h1.1
    rw [lsT, Bool.or_eq_false_iff] at h3
    exact h3.1
  exact Nat.lt_of_le_of_lt (dkR_len _ _ _) (dk_lt hn h h2), fun l o => ldR_len _ _ _ _ _⟩
theorem all_snoc {α : Type} {P : α → Prop} {xs : List α} {y : α} (h : ∀ x ∈ xs, P x) (hy : P y) : ∀ x ∈ xs ++ [y], P x := fun x hx => (List.mem_append.1 hx).elim (h x) fun g => by
  obtain rfl := List.mem_singleton.1 g
  exact hy

theorem getalpn11 (w : World) (br : Nat) (a : Option Addr) (c : Nat) (l : List UInt8) (s o : Bool) (i : InB w [.box br [.slice a (List.length l) c, .bool s, .bool o] 120] a c l) (hH : Heap w [.box br [.slice a (List.length l) c, .bool s, .bool o] 120]) : Calls Try.prog 154 #[pt br] w fun e w' => ∃ ta tc bl, e = .returned (.string (bstr bl)) ∧ Ev w [.box br [.slice a (List.length l) c, .bool s, .bool o] 120] w' [.box br [.slice ta (List.length ((listM 1 1 255 l s o).2.1)) tc, .bool ((listM 1 1 255 l s o).2.2.1), .bool ((listM 1 1 255 l s o).2.2.2)] 120] ∧ Sub a c l ta tc (listM 1 1 255 l s o).2.1 ∧ bl = (listM 1 1 255 l s o).1 := by
 refine d_0 [(0, pt br)] 6 Go.Proofs.Try.func154 Go.Proofs.Try.ntmps154 (hH) fun act0 En0 Hv0 => ?_
 refine d_s [0,2] [] En0 fun ac1 En2 => ?_
 refine wp_seq ?_
 refine region_from ?_
 refine d_k [2,3] [] 1 En2 fun ac3 En4 => ?_
 refine f_o ?_
 refine c_l [0] (M := [.box br [.slice a (List.length l) c, .bool s, .bool o] 120]) En4 Hv0 (fun hM12 => bytes1_go _ br a c l s o ((i.ev Hv0).pick [0] (by kernel_rfl)) hM12) ?_
 rintro _ wo13 ⟨ta5, tc6, oa9, oc10, bl11, rfl, he14, hs7, hpu8⟩
 refine ⟨_, _, [.box br [.slice ta5 (List.length ((listM 1 1 255 l s o).2.1)) tc6, .bool ((listM 1 1 255 l s o).2.2.1), .bool ((listM 1 1 255 l s o).2.2.2)] 120, .vec oa9 oc10 1 (bys bl11) 5], rfl, he14, by kernel_rfl, fun ac16 En17 Hv18 => ?_⟩
 refine f_o ?_
 refine op_str (d := some 5) (src := 23) (dst := 9) (e := 5) (ao := oa9) (cap := oc10) (p := List.length bl11) (bs := bl11) En17 (by kernel_rfl) rfl (by kernel_rfl) (by kernel_rfl) (by kernel_rfl) (Hv18.heap.reads (k := 1) rfl) (bys_vnz Hv18.heap (k := 1) rfl) ?_
 intro ac19 En20
 refine d_e [2] [] En20 fun ac21 En22 => ?_
 refine then_normal ?_
 refine wp_ret ?_
 refine d_ret1 (t := 2) (v := .string (bstr bl11)) En22 (by kernel_rfl) (by kernel_rfl) ?_
 exact ⟨ta5, tc6, bl11, rfl, Hv18.pk [0], hs7, hpu8⟩

theorem many_str (w : World) (br : Nat) (n : Nat) (hn : n ≤ 4) (x : Nat) (hx : x ≤ 4294967295) (a : Option Addr) (c : Nat) (l : List UInt8) (s o : Bool) (i : InB w [.box br [.slice a (List.length l) c, .bool s, .bool o] 120] a c l) (hH : Heap w [.box br [.slice a (List.length l) c, .bool s, .bool o] 120]) : Calls Try.prog 153 #[pt br, ni n, ni x, .func (.func 154) #[] #[]] w fun e w' => ∃ ta tc oa oc xs, e = .returned (.slice oa (List.length xs) oc) ∧ Ev w [.box br [.slice a (List.length l) c, .bool s, .bool o] 120] w' [.box br [.slice ta (List.length (lsR n x 16777215 l s)) tc, .bool (lsS n x 16777215 l s || (mn (listM 1 1 255) ((lsO n x 16777215 l s, lsS n x 16777215 l s, false) : PS)).2.2.1), .bool (o || (mn (listM 1 1 255) ((lsO n x 16777215 l s, lsS n x 16777215 l s, false) : PS)).2.2.2)] 120, .vec oa oc 1 (List.flatMap fStr xs) 9] ∧ Sub a c l ta tc (lsR n x 16777215 l s) ∧ List.map (fun y : RStr => y) xs = (mn (listM 1 1 255) ((lsO n x 16777215 l s, lsS n x 16777215 l s, false) : PS)).1 ∧ List.length xs ≤ List.length (lsO n x 16777215 l s) + 1 ∧ ∀ y ∈ xs, List.length y ≤ 140737488351232 := by
 refine d_0 [(0, pt br), (1, ni n), (2, ni x), (3, .func (.func 154) #[] #[])] 69 Go.Proofs.Try.func153 Go.Proofs.Try.ntmps153 (hH) fun act0 En0 Hv0 => ?_
 refine d_s [0,1,2,3,8] [] En0 fun ac1 En2 => ?_
 refine wp_seq ?_
 refine region_from ?_
 refine d_k [0,3,8,12,13,14] [] 3 En2 fun ac3 En4 => ?_
 refine f_o ?_
 refine c_l [0] (M := [.box br [.slice a (List.length l) c, .bool s, .bool o] 120]) En4 Hv0 (fun hM10 => list_go _ br n (by omega) x 16777215 (by omega) (by omega) a c l s o ((i.ev Hv0).pick [0] (by kernel_rfl)) hM10) ?_
 rintro _ wo11 ⟨ao5, cp6, ta7, tc8, rfl, he12, hs9⟩
 refine ⟨_, _, [.box br [.slice ta7 (List.length (lsR n x 16777215 l s)) tc8, .bool (lsS n x 16777215 l s), .bool o] 120, .vec ao5 cp6 1 (bys (lsO n x 16777215 l s)) 5], rfl, he12, by kernel_rfl, fun ac14 En15 Hv16 => ?_⟩
 refine d_e [0,3,8,9] [] En15 fun ac17 En18 => ?_
 refine then_normal ?_
 refine wp_seq ?_
 refine region_from ?_
 refine d_k [0,3,8,16,19] [] 4 En18 fun ac19 En20 => ?_
 refine f_o ?_
 refine m_l 0 En20 Hv16 fun ac21 En22 => ?_
 refine d_k [0,3,8,21] [] 6 En22 fun ac23 En24 => ?_
 refine f_o ?_
 refine m_m 120 [.slice ao5 (List.length (lsO n x 16777215 l s)) cp6, .bool (lsS n x 16777215 l s), .bool false] En24 Hv16 fun ac26 wo27 bk25 En28 Hv29 => ?_
 refine d_e [0,3,8,10] [] En28 fun ac30 En31 => ?_
 refine then_normal ?_
 refine d_s [0,3,8,10,11] [] En31 fun ac32 En33 => ?_
 refine wp_seq ?_
 refine region_cut (F := fun ac wo => ∃ (oa : Option Addr) (oc : Nat) (xs : List (RStr)) (ra : Option Addr) (rc : Nat) (rl : Bs) (s1 : Bool) (o1 : Bool), Env ac 69 [(0, pt br), (3, .func (.func 154) #[] #[]), (8, .slice none 0 0), (10, pt bk25), (11, .slice oa (List.length xs) oc)] ∧ Ev w [.box br [.slice a (List.length l) c, .bool s, .bool o] 120] wo [.box br [.slice ta7 (List.length (lsR n x 16777215 l s)) tc8, .bool (lsS n x 16777215 l s), .bool o] 120, .box bk25 [.slice ra (List.length rl) rc, .bool s1, .bool o1] 120, .vec oa oc 1 (List.flatMap fStr xs) 9] ∧ (mn (listM 1 1 255) ((lsO n x 16777215 l s, lsS n x 16777215 l s, false) : PS) = (List.map (fun y : RStr => y) xs, rl, s1, o1)) ∧ (List.length xs ≤ List.length (lsO n x 16777215 l s) + 1) ∧ (∀ y ∈ xs, List.length y ≤ 140737488351232)) ?_ ?_
 ·
  refine wp_block ?_
  have Hv34 : Ev w [.box br [.slice a (List.length l) c, .bool s, .bool o] 120] wo27 [.box br [.slice ta7 (List.length (lsR n x 16777215 l s)) tc8, .bool (lsS n x 16777215 l s), .bool o] 120, .vec ao5 cp6 1 (bys (lsO n x 16777215 l s)) 5, .box bk25 [.slice ao5 (List.length (lsO n x 16777215 l s)) cp6, .bool (lsS n x 16777215 l s), .bool false] 120, .vec none 0 1 (List.flatMap fStr []) 9] := Ev.nil (sz := 1) (T := 9) Hv29
  have hO32 : List.length (lsO n x 16777215 l s) ≤ 4294967295 := Nat.le_trans (tkO_len _ _ _) (Nat.le_of_lt_succ (nbV_4 hn l s))
  refine loop_m (fun ms35 ac wo => ∃ (oa : Option Addr) (oc : Nat) (xs : List (RStr)) (ra : Option Addr) (rc : Nat) (rl : Bs) (s1 : Bool) (o1 : Bool), ms35 = (bif s1 then 0 else List.length rl + 1 : Nat) ∧ Env ac 69 [(0, pt br), (3, .func (.func 154) #[] #[]), (8, .slice none 0 0), (10, pt bk25), (11, .slice oa (List.length xs) oc)] ∧ Ev w [.box br [.slice a (List.length l) c, .bool s, .bool o] 120] wo [.box bk25 [.slice ra (List.length rl) rc, .bool s1, .bool o1] 120, .box br [.slice ta7 (List.length (lsR n x 16777215 l s)) tc8, .bool (lsS n x 16777215 l s), .bool o] 120, .vec ao5 cp6 1 (bys (lsO n x 16777215 l s)) 5, .vec oa oc 1 (List.flatMap fStr xs) 9] ∧ (Sub ao5 cp6 (lsO n x 16777215 l s) ra rc rl) ∧ (mn (listM 1 1 255) ((lsO n x 16777215 l s, lsS n x 16777215 l s, false) : PS) = (List.map (fun y : RStr => y) xs ++ (mn (listM 1 1 255) (rl, s1, o1)).1, (mn (listM 1 1 255) (rl, s1, o1)).2)) ∧ (List.length xs + List.length rl ≤ List.length (lsO n x 16777215 l s) + (bif s1 then 1 else 0)) ∧ (∀ y ∈ xs, List.length y ≤ 140737488351232)) ⟨_, none, 0, [], ao5, cp6, (lsO n x 16777215 l s), (lsS n x 16777215 l s), false, rfl, En33.sb, Hv34.pk [2, 0, 1, 3], Sub.self, rfl, (by rw [List.length_nil, Nat.zero_add]; exact Nat.le_add_right _ _), (fun y hy => by cases hy)⟩ ?_
  rintro mm41 ac37 wo38 ⟨oa, oc, xs, ra, rc, rl, s1, o1, rfl, En39, Hv40, hsu, hmn, hct, hsm⟩
  refine wp_seq ?_
  refine wp_seq ?_
  refine region_from ?_
  refine d_k [0,3,8,10,11,25] [] 3 En39 fun ac42 En43 => ?_
  refine f_o ?_
  refine m_l 0 En43 Hv40 fun ac44 En45 => ?_
  refine d_k [0,3,8,10,11,28] [] 6 En45 fun ac46 En47 => ?_
  rcases Bool.eq_false_or_eq_true (!s1) with hb48 | hb48
  ·
   have En49 := En47.fx (t := 28) (congrArg Value.bool hb48)
   have hp50 : ¬ (s1 = true) := by simpa using hb48
   refine d_k [0,3,8,10,11,28,31] [] 9 En49 fun ac51 En52 => ?_
   refine f_o ?_
   refine m_l 0 En52 Hv40 fun ac53 En54 => ?_
   refine d_e [0,3,8,10,11,35] [] En54 fun ac55 En56 => ?_
   refine then_normal ?_
   refine c_d (((List.length rl : Nat) : Int) > (0 : Int)) En56 (fun hc57 => ?_) (fun hc57 => ?_)
   ·
    refine wp_skip ?_
    refine then_normal ?_
    refine wp_block ?_
    refine region_from ?_
    refine d_k [0,3,8,10,11,36,37,38] [] 3 En56 fun ac58 En59 => ?_
    refine f_o ?_
    refine c_l [0] (M := [.box bk25 [.slice ra (List.length rl) rc, .bool s1, .bool o1] 120]) En59 Hv40 (fun hM65 => getalpn11 _ bk25 ra rc rl s1 o1 (hsu _ _ (bys_in Hv40.heap (k := 2) rfl [0] (by kernel_rfl) rfl (by first | omega | (simp; done) | (simp; omega)))) hM65) ?_
    rintro _ wo66 ⟨ta60, tc61, bl64, rfl, he67, hs62, hpu63⟩
    refine ⟨_, _, [.box bk25 [.slice ta60 (List.length ((listM 1 1 255 rl s1 o1).2.1)) tc61, .bool ((listM 1 1 255 rl s1 o1).2.2.1), .bool ((listM 1 1 255 rl s1 o1).2.2.2)] 120, .box br [.slice ta7 (List.length (lsR n x 16777215 l s)) tc8, .bool (lsS n x 16777215 l s), .bool o] 120, .vec ao5 cp6 1 (bys (lsO n x 16777215 l s)) 5, .vec oa oc 1 (List.flatMap fStr xs) 9], rfl, he67, by kernel_rfl, fun ac69 En70 Hv71 => ?_⟩
    refine f_o ?_
    refine op_lit (d := some 40) (t := 33) (T := 9) (m := 1) (parts := #[(0, .string (bstr bl64))]) (xs := List.flatMap fStr ([bl64] : List (RStr))) (sz := 1) En70 (by kernel_rfl) (by kernel_rfl) rfl (by decide) Hv71 ?_
    intro ac73 wo74 bk72 En75 Hv76
    refine f_o ?_
    refine op_append (d := some 41) (t := 33) (tx := 33) (ty := 33) (k := 3) (p := List.length xs) (m := 1) (x := .slice (some ⟨bk72, 0, none⟩) 1 1) (bytes := 16) En75 (by kernel_rfl) Hv76 rfl (sv_len (f := fStr) (sz := 1) (fun _ => rfl) _) (Reads.src (size := 1) (tx := 33) (e' := 9) (by kernel_rfl) (Hv76.heap.reads (k := 4) rfl) rfl (fun e => by cases e) (flat_one (f := fStr) (fun _ => one_all rfl) _)) (by kernel_rfl) (z := .string (bstr [])) (by kernel_rfl) rfl (by decide) (by have hb1 := mn_b1 s1; omega) (by unfold maxLen; have hb1 := mn_b1 s1; omega) ?_
    intro ac81 wo82 ao77 cp78 En83 Hv84 hnz _
    clear hnz
    rw [← List.flatMap_append] at Hv84
    have ehz79 : (List.length xs) + 1 = List.length (xs ++ ([bl64] : List (RStr))) := (by first | (simp; done) | (simp; omega) | omega)
    rw [ehz79] at En83
    refine d_e [0,3,8,10,11] [] En83 fun ac85 En86 => ?_
    refine block_normal ?_
    refine then_normal ?_
    have hl0 : 0 < List.length rl := by omega
    refine ⟨_, ⟨ao77, cp78, (xs ++ ([bl64] : List (RStr))), ta60, tc61, ((listM 1 1 255 rl s1 o1).2.1), ((listM 1 1 255 rl s1 o1).2.2.1), ((listM 1 1 255 rl s1 o1).2.2.2), rfl, En86.sb, Hv84.pk [0, 1, 2, 3], (hsu.trans hs62), (by rw [hmn, mn_step (list_dec (by decide)) (Bool.eq_false_iff.2 hp50) hl0, ← hpu63, List.map_append, List.append_assoc]; rfl), (mn_ct (Bool.eq_false_iff.2 hp50) hct (dec_lt (o := o1) (list_dec (by decide)) (Bool.eq_false_iff.2 hp50) hl0) (dec_le (o := o1) (list_dec (by decide)) (Bool.eq_false_iff.2 hp50)) hl0), (all_snoc hsm (by rw [hpu63]; exact Nat.le_trans (Nat.le_of_succ_le (lsO_32 (by decide) _ _)) (by decide)))⟩, ?_⟩
    exact mn_mu (Bool.eq_false_iff.2 hp50) hl0 (dec_lt (o := o1) (list_dec (by decide)) (Bool.eq_false_iff.2 hp50) hl0)
   ·
    refine wp_exit ?_
    refine then_exit ?_
    refine then_exit ?_
    refine block_exit ?_
    exact ⟨rfl, ⟨oa, oc, xs, ra, rc, rl, s1, o1, En56.sb, Hv40.pk [1, 0, 3], (by rw [hmn, mn_end (p := (rl, s1, o1)) (by first | exact .inl (by assumption) | exact .inr (show rl = [] from List.length_eq_zero_iff.1 (by omega))), List.append_nil]), (mn_c1 hct), hsm⟩⟩
  ·
   have En87 := En47.fx (t := 28) (congrArg Value.bool hb48)
   have hp88 : s1 = true := by simpa using hb48
   refine d_e [0,3,8,10,11,35] [] En87 fun ac89 En90 => ?_
   refine then_normal ?_
   refine c_f En90 ?_
   refine wp_exit ?_
   refine then_exit ?_
   refine then_exit ?_
   refine block_exit ?_
   exact ⟨rfl, ⟨oa, oc, xs, ra, rc, rl, s1, o1, En90.sb, Hv40.pk [1, 0, 3], (by rw [hmn, mn_end (p := (rl, s1, o1)) (by first | exact .inl (by assumption) | exact .inr (show rl = [] from List.length_eq_zero_iff.1 (by omega))), List.append_nil]), (mn_c1 hct), hsm⟩⟩
 ·
  rintro ac91 wo92 ⟨oa, oc, xs, ra, rc, rl, s1, o1, En93, Hv94, hmn, hct, hsm⟩
  refine then_normal ?_
  refine wp_seq ?_
  rcases Bool.eq_false_or_eq_true (lsS n x 16777215 l s) with hb95 | hb95
  ·
   have hb95p : lsS n x 16777215 l s = true := hb95
   rcases Bool.eq_false_or_eq_true (o) with hb96 | hb96
   ·
    have hb96p : o = true := hb96
    refine r_c (fun ac wo => Env ac 69 [(0, pt br), (3, .func (.func 154) #[] #[]), (8, .slice none 0 0), (10, pt bk25), (11, .slice oa (List.length xs) oc)] ∧ Ev w [.box br [.slice a (List.length l) c, .bool s, .bool o] 120] wo [.box br [.slice ta7 (List.length (lsR n x 16777215 l s)) tc8, .bool true, .bool true] 120, .box bk25 [.slice ra (List.length rl) rc, .bool s1, .bool o1] 120, .vec oa oc 1 (List.flatMap fStr xs) 9]) ?_ ?_
    ·
     refine h_s (fun wv => Ev w [.box br [.slice a (List.length l) c, .bool s, .bool o] 120] wv [.box br [.slice ta7 (List.length (lsR n x 16777215 l s)) tc8, .bool (lsS n x 16777215 l s), .bool o] 120]) [24] 28 ?_
     have wo97 := Hv94.trans (Ev.drew Hv94.heap)
     refine q_s [0,1,2,3,4] [] 23 En93 (wo97.pk [0]) fun ac178 En179 => ?_
     refine q_l 0 5 En179 (wo97.pk [0]) fun ac180 En181 => ?_
     refine q_s [6] [] 21 En181 (wo97.pk [0]) fun ac182 En183 => ?_
     have En184 := En183.fx (t := 47) (congrArg Value.bool hb95)
     have En185 := En184.fx (t := 48) (congrArg Value.bool hb95)
     refine q_s [7,8,9,10,11,12,13,14] [] 13 En185 (wo97.pk [0]) fun ac186 En187 => ?_
     refine q_l 0 15 En187 (wo97.pk [0]) fun ac188 En189 => ?_
     refine q_s [16] [] 11 En189 (wo97.pk [0]) fun ac190 En191 => ?_
     have En192 := En191.fx (t := 57) (congrArg Value.bool hb96)
     have En193 := En192.fx (t := 58) (congrArg Value.bool hb96)
     refine q_s [17,18,19,20,21,22,23] [] 4 En193 (wo97.pk [0]) fun ac194 En195 => ?_
     refine q_t 24 ?_
     refine m_s 0 [.box br [.slice ta7 (List.length (lsR n x 16777215 l s)) tc8, .bool true, .bool o] 120, .box bk25 [.slice ra (List.length rl) rc, .bool s1, .bool o1] 120, .vec oa oc 1 (List.flatMap fStr xs) 9] En195 wo97 fun ac196 wo197 En198 Hv199 => ?_
     refine ⟨q_y, ?_⟩
     refine q_n [25,26] [] 1 En198 fun ac200 En201 => ?_
     refine q_t 27 ?_
     refine m_s 0 [.box br [.slice ta7 (List.length (lsR n x 16777215 l s)) tc8, .bool true, .bool true] 120, .box bk25 [.slice ra (List.length rl) rc, .bool s1, .bool o1] 120, .vec oa oc 1 (List.flatMap fStr xs) 9] En201 Hv199 fun ac202 wo203 En204 Hv205 => ?_
     refine ⟨q_y, ?_⟩
     exact h_e ⟨En204.sb, Hv205.pk [0, 1, 2]⟩
    rintro ac206 wo207 ⟨En208, Hv209⟩
    refine then_normal ?_
    refine d_s [0,3,8,10,11] [] En208 fun ac210 En211 => ?_
    refine wp_ret ?_
    refine d_ret1 (t := 8) (v := .slice oa (List.length xs) oc) En211 (by kernel_rfl) (by kernel_rfl) ?_
    have e1 : (lsS n x 16777215 l s || s1) = true := by rw [hb95]; rfl
    have e2 : (o || o1) = true := by rw [hb96]; rfl
    have hfin : Ev w [.box br [.slice a (List.length l) c, .bool s, .bool o] 120] wo207 [.box br [.slice ta7 (List.length (lsR n x 16777215 l s)) tc8, .bool (lsS n x 16777215 l s || s1), .bool (o || o1)] 120, .vec oa oc 1 (List.flatMap fStr xs) 9] := by rw [e1, e2]; exact Hv209.pk [0, 2]
    exact ⟨ta7, tc8, oa, oc, xs, rfl, by rw [hmn]; exact hfin, hs9, by rw [hmn], hct, hsm⟩
   ·
    have hb96p : ¬ (o = true) := Bool.eq_false_iff.1 hb96
    refine r_c (fun ac wo => Env ac 69 [(0, pt br), (3, .func (.func 154) #[] #[]), (8, .slice none 0 0), (10, pt bk25), (11, .slice oa (List.length xs) oc)] ∧ Ev w [.box br [.slice a (List.length l) c, .bool s, .bool o] 120] wo [.box br [.slice ta7 (List.length (lsR n x 16777215 l s)) tc8, .bool true, .bool o1] 120, .box bk25 [.slice ra (List.length rl) rc, .bool s1, .bool o1] 120, .vec oa oc 1 (List.flatMap fStr xs) 9]) ?_ ?_
    ·
     refine h_s (fun wv => Ev w [.box br [.slice a (List.length l) c, .bool s, .bool o] 120] wv [.box br [.slice ta7 (List.length (lsR n x 16777215 l s)) tc8, .bool (lsS n x 16777215 l s), .bool o] 120, .box bk25 [.slice ra (List.length rl) rc, .bool s1, .bool o1] 120]) [24] 28 ?_
     have wo212 := Hv94.trans (Ev.drew Hv94.heap)
     refine q_s [0,1,2,3,4] [] 23 En93 (wo212.pk [0, 1]) fun ac305 En306 => ?_
     refine q_l 0 5 En306 (wo212.pk [0, 1]) fun ac307 En308 => ?_
     refine q_s [6] [] 21 En308 (wo212.pk [0, 1]) fun ac309 En310 => ?_
     have En311 := En310.fx (t := 47) (congrArg Value.bool hb95)
     have En312 := En311.fx (t := 48) (congrArg Value.bool hb95)
     refine q_s [7,8,9,10,11,12,13,14] [] 13 En312 (wo212.pk [0, 1]) fun ac313 En314 => ?_
     refine q_l 0 15 En314 (wo212.pk [0, 1]) fun ac315 En316 => ?_
     refine q_s [16] [] 11 En316 (wo212.pk [0, 1]) fun ac317 En318 => ?_
     have En319 := En318.fx (t := 57) (congrArg Value.bool hb96)
     have En320 := En319.fx (t := 58) (congrArg Value.bool hb96)
     refine q_s [17,18,19] [] 8 En320 (wo212.pk [0, 1]) fun ac321 En322 => ?_
     refine q_l 1 20 En322 (wo212.pk [0, 1]) fun ac323 En324 => ?_
     refine q_s [21,22,23] [] 4 En324 (wo212.pk [0, 1]) fun ac325 En326 => ?_
     refine q_t 24 ?_
     refine m_s 0 [.box br [.slice ta7 (List.length (lsR n x 16777215 l s)) tc8, .bool true, .bool o] 120, .box bk25 [.slice ra (List.length rl) rc, .bool s1, .bool o1] 120, .vec oa oc 1 (List.flatMap fStr xs) 9] En326 wo212 fun ac327 wo328 En329 Hv330 => ?_
     refine ⟨q_y, ?_⟩
     refine q_n [25,26] [] 1 En329 fun ac331 En332 => ?_
     refine q_t 27 ?_
     refine m_s 0 [.box br [.slice ta7 (List.length (lsR n x 16777215 l s)) tc8, .bool true, .bool o1] 120, .box bk25 [.slice ra (List.length rl) rc, .bool s1, .bool o1] 120, .vec oa oc 1 (List.flatMap fStr xs) 9] En332 Hv330 fun ac333 wo334 En335 Hv336 => ?_
     refine ⟨q_y, ?_⟩
     exact h_e ⟨En335.sb, Hv336.pk [0, 1, 2]⟩
    rintro ac337 wo338 ⟨En339, Hv340⟩
    refine then_normal ?_
    refine d_s [0,3,8,10,11] [] En339 fun ac341 En342 => ?_
    refine wp_ret ?_
    refine d_ret1 (t := 8) (v := .slice oa (List.length xs) oc) En342 (by kernel_rfl) (by kernel_rfl) ?_
    have e1 : (lsS n x 16777215 l s || s1) = true := by rw [hb95]; rfl
    have e2 : (o || o1) = o1 := by rw [hb96]; rfl
    have hfin : Ev w [.box br [.slice a (List.length l) c, .bool s, .bool o] 120] wo338 [.box br [.slice ta7 (List.length (lsR n x 16777215 l s)) tc8, .bool (lsS n x 16777215 l s || s1), .bool (o || o1)] 120, .vec oa oc 1 (List.flatMap fStr xs) 9] := by rw [e1, e2]; exact Hv340.pk [0, 2]
    exact ⟨ta7, tc8, oa, oc, xs, rfl, by rw [hmn]; exact hfin, hs9, by rw [hmn], hct, hsm⟩
  ·
   have hb95p : ¬ (lsS n x 16777215 l s = true) := Bool.eq_false_iff.1 hb95
   rcases Bool.eq_false_or_eq_true (o) with hb343 | hb343
   ·
    have hb343p : o = true := hb343
    refine r_c (fun ac wo => Env ac 69 [(0, pt br), (3, .func (.func 154) #[] #[]), (8, .slice none 0 0), (10, pt bk25), (11, .slice oa (List.length xs) oc)] ∧ Ev w [.box br [.slice a (List.length l) c, .bool s, .bool o] 120] wo [.box br [.slice ta7 (List.length (lsR n x 16777215 l s)) tc8, .bool s1, .bool true] 120, .box bk25 [.slice ra (List.length rl) rc, .bool s1, .bool o1] 120, .vec oa oc 1 (List.flatMap fStr xs) 9]) ?_ ?_
    ·
     refine h_s (fun wv => Ev w [.box br [.slice a (List.length l) c, .bool s, .bool o] 120] wv [.box br [.slice ta7 (List.length (lsR n x 16777215 l s)) tc8, .bool (lsS n x 16777215 l s), .bool o] 120, .box bk25 [.slice ra (List.length rl) rc, .bool s1, .bool o1] 120]) [24] 28 ?_
     have wo344 := Hv94.trans (Ev.drew Hv94.heap)
     refine q_s [0,1,2,3,4] [] 23 En93 (wo344.pk [0, 1]) fun ac459 En460 => ?_
     refine q_l 0 5 En460 (wo344.pk [0, 1]) fun ac461 En462 => ?_
     refine q_s [6] [] 21 En462 (wo344.pk [0, 1]) fun ac463 En464 => ?_
     have En465 := En464.fx (t := 47) (congrArg Value.bool hb95)
     have En466 := En465.fx (t := 48) (congrArg Value.bool hb95)
     refine q_s [7,8,9] [] 18 En466 (wo344.pk [0, 1]) fun ac467 En468 => ?_
     refine q_l 1 10 En468 (wo344.pk [0, 1]) fun ac469 En470 => ?_
     refine q_s [11,12,13,14] [] 13 En470 (wo344.pk [0, 1]) fun ac471 En472 => ?_
     refine q_l 0 15 En472 (wo344.pk [0, 1]) fun ac473 En474 => ?_
     refine q_s [16] [] 11 En474 (wo344.pk [0, 1]) fun ac475 En476 => ?_
     have En477 := En476.fx (t := 57) (congrArg Value.bool hb343)
     have En478 := En477.fx (t := 58) (congrArg Value.bool hb343)
     refine q_s [17,18,19,20,21,22,23] [] 4 En478 (wo344.pk [0, 1]) fun ac479 En480 => ?_
     refine q_t 24 ?_
     refine m_s 0 [.box br [.slice ta7 (List.length (lsR n x 16777215 l s)) tc8, .bool s1, .bool o] 120, .box bk25 [.slice ra (List.length rl) rc, .bool s1, .bool o1] 120, .vec oa oc 1 (List.flatMap fStr xs) 9] En480 wo344 fun ac481 wo482 En483 Hv484 => ?_
     refine ⟨q_y, ?_⟩
     refine q_n [25,26] [] 1 En483 fun ac485 En486 => ?_
     refine q_t 27 ?_
     refine m_s 0 [.box br [.slice ta7 (List.length (lsR n x 16777215 l s)) tc8, .bool s1, .bool true] 120, .box bk25 [.slice ra (List.length rl) rc, .bool s1, .bool o1] 120, .vec oa oc 1 (List.flatMap fStr xs) 9] En486 Hv484 fun ac487 wo488 En489 Hv490 => ?_
     refine ⟨q_y, ?_⟩
     exact h_e ⟨En489.sb, Hv490.pk [0, 1, 2]⟩
    rintro ac491 wo492 ⟨En493, Hv494⟩
    refine then_normal ?_
    refine d_s [0,3,8,10,11] [] En493 fun ac495 En496 => ?_
    refine wp_ret ?_
    refine d_ret1 (t := 8) (v := .slice oa (List.length xs) oc) En496 (by kernel_rfl) (by kernel_rfl) ?_
    have e1 : (lsS n x 16777215 l s || s1) = s1 := by rw [hb95]; rfl
    have e2 : (o || o1) = true := by rw [hb343]; rfl
    have hfin : Ev w [.box br [.slice a (List.length l) c, .bool s, .bool o] 120] wo492 [.box br [.slice ta7 (List.length (lsR n x 16777215 l s)) tc8, .bool (lsS n x 16777215 l s || s1), .bool (o || o1)] 120, .vec oa oc 1 (List.flatMap fStr xs) 9] := by rw [e1, e2]; exact Hv494.pk [0, 2]
    exact ⟨ta7, tc8, oa, oc, xs, rfl, by rw [hmn]; exact hfin, hs9, by rw [hmn], hct, hsm⟩
   ·
    have hb343p : ¬ (o = true) := Bool.eq_false_iff.1 hb343
    refine r_c (fun ac wo => Env ac 69 [(0, pt br), (3, .func (.func 154) #[] #[]), (8, .slice none 0 0), (10, pt bk25), (11, .slice oa (List.length xs) oc)] ∧ Ev w [.box br [.slice a (List.length l) c, .bool s, .bool o] 120] wo [.box br [.slice ta7 (List.length (lsR n x 16777215 l s)) tc8, .bool s1, .bool o1] 120, .box bk25 [.slice ra (List.length rl) rc, .bool s1, .bool o1] 120, .vec oa oc 1 (List.flatMap fStr xs) 9]) ?_ ?_
    ·
     refine h_s (fun wv => Ev w [.box br [.slice a (List.length l) c, .bool s, .bool o] 120] wv [.box br [.slice ta7 (List.length (lsR n x 16777215 l s)) tc8, .bool (lsS n x 16777215 l s), .bool o] 120, .box bk25 [.slice ra (List.length rl) rc, .bool s1, .bool o1] 120]) [24] 28 ?_
     have wo497 := Hv94.trans (Ev.drew Hv94.heap)
     refine q_s [0,1,2,3,4] [] 23 En93 (wo497.pk [0, 1]) fun ac632 En633 => ?_
     refine q_l 0 5 En633 (wo497.pk [0, 1]) fun ac634 En635 => ?_
     refine q_s [6] [] 21 En635 (wo497.pk [0, 1]) fun ac636 En637 => ?_
     have En638 := En637.fx (t := 47) (congrArg Value.bool hb95)
     have En639 := En638.fx (t := 48) (congrArg Value.bool hb95)
     refine q_s [7,8,9] [] 18 En639 (wo497.pk [0, 1]) fun ac640 En641 => ?_
     refine q_l 1 10 En641 (wo497.pk [0, 1]) fun ac642 En643 => ?_
     refine q_s [11,12,13,14] [] 13 En643 (wo497.pk [0, 1]) fun ac644 En645 => ?_
     refine q_l 0 15 En645 (wo497.pk [0, 1]) fun ac646 En647 => ?_
     refine q_s [16] [] 11 En647 (wo497.pk [0, 1]) fun ac648 En649 => ?_
     have En650 := En649.fx (t := 57) (congrArg Value.bool hb343)
     have En651 := En650.fx (t := 58) (congrArg Value.bool hb343)
     refine q_s [17,18,19] [] 8 En651 (wo497.pk [0, 1]) fun ac652 En653 => ?_
     refine q_l 1 20 En653 (wo497.pk [0, 1]) fun ac654 En655 => ?_
     refine q_s [21,22,23] [] 4 En655 (wo497.pk [0, 1]) fun ac656 En657 => ?_
     refine q_t 24 ?_
     refine m_s 0 [.box br [.slice ta7 (List.length (lsR n x 16777215 l s)) tc8, .bool s1, .bool o] 120, .box bk25 [.slice ra (List.length rl) rc, .bool s1, .bool o1] 120, .vec oa oc 1 (List.flatMap fStr xs) 9] En657 wo497 fun ac658 wo659 En660 Hv661 => ?_
     refine ⟨q_y, ?_⟩
     refine q_n [25,26] [] 1 En660 fun ac662 En663 => ?_
     refine q_t 27 ?_
     refine m_s 0 [.box br [.slice ta7 (List.length (lsR n x 16777215 l s)) tc8, .bool s1, .bool o1] 120, .box bk25 [.slice ra (List.length rl) rc, .bool s1, .bool o1] 120, .vec oa oc 1 (List.flatMap fStr xs) 9] En663 Hv661 fun ac664 wo665 En666 Hv667 => ?_
     refine ⟨q_y, ?_⟩
     exact h_e ⟨En666.sb, Hv667.pk [0, 1, 2]⟩
    rintro ac668 wo669 ⟨En670, Hv671⟩
    refine then_normal ?_
    refine d_s [0,3,8,10,11] [] En670 fun ac672 En673 => ?_
    refine wp_ret ?_
    refine d_ret1 (t := 8) (v := .slice oa (List.length xs) oc) En673 (by kernel_rfl) (by kernel_rfl) ?_
    have e1 : (lsS n x 16777215 l s || s1) = s1 := by rw [hb95]; rfl
    have e2 : (o || o1) = o1 := by rw [hb343]; rfl
    have hfin : Ev w [.box br [.slice a (List.length l) c, .bool s, .bool o] 120] wo669 [.box br [.slice ta7 (List.length (lsR n x 16777215 l s)) tc8, .bool (lsS n x 16777215 l s || s1), .bool (o || o1)] 120, .vec oa oc 1 (List.flatMap fStr xs) 9] := by rw [e1, e2]; exact Hv671.pk [0, 2]
    exact ⟨ta7, tc8, oa, oc, xs, rfl, by rw [hmn]; exact hfin, hs9, by rw [hmn], hct, hsm⟩

theorem getalpn1 (w : World) (br : Nat) (a : Option Addr) (c : Nat) (l : List UInt8) (s o : Bool) (i : InB w [.box br [.slice a (List.length l) c, .bool s, .bool o] 120] a c l) (hH : Heap w [.box br [.slice a (List.length l) c, .bool s, .bool o] 120]) : Calls Try.prog 152 #[pt br] w fun e w' => ∃ ta tc oa oc xs, e = .returned (.slice oa (List.length xs) oc) ∧ Ev w [.box br [.slice a (List.length l) c, .bool s, .bool o] 120] w' [.box br [.slice ta (List.length ((manyM (listM 1 1 255) 2 1 l s o).2.1)) tc, .bool ((manyM (listM 1 1 255) 2 1 l s o).2.2.1), .bool ((manyM (listM 1 1 255) 2 1 l s o).2.2.2)] 120, .vec oa oc 1 (List.flatMap fStr xs) 9] ∧ Sub a c l ta tc (manyM (listM 1 1 255) 2 1 l s o).2.1 ∧ List.map (fun y : RStr => y) xs = (manyM (listM 1 1 255) 2 1 l s o).1 ∧ List.length xs ≤ 4294967296 ∧ ∀ y ∈ xs, List.length y ≤ 140737488351232 := by
 refine d_0 [(0, pt br)] 5 Go.Proofs.Try.func152 Go.Proofs.Try.ntmps152 (hH) fun act0 En0 Hv0 => ?_
 refine d_s [0,2] [] En0 fun ac1 En2 => ?_
 refine wp_seq ?_
 refine region_from ?_
 refine d_k [2,3] [] 1 En2 fun ac3 En4 => ?_
 refine f_o ?_
 refine c_l [0] (M := [.box br [.slice a (List.length l) c, .bool s, .bool o] 120]) En4 Hv0 (fun hM14 => many_str _ br 2 (by omega) 1 (by omega) a c l s o ((i.ev Hv0).pick [0] (by kernel_rfl)) hM14) ?_
 rintro _ wo15 ⟨ta5, tc6, oa7, oc8, xs9, rfl, he16, hs10, hmn11, hct12, hsm13⟩
 refine ⟨_, _, [.box br [.slice ta5 (List.length (lsR 2 1 16777215 l s)) tc6, .bool (lsS 2 1 16777215 l s || (mn (listM 1 1 255) ((lsO 2 1 16777215 l s, lsS 2 1 16777215 l s, false) : PS)).2.2.1), .bool (o || (mn (listM 1 1 255) ((lsO 2 1 16777215 l s, lsS 2 1 16777215 l s, false) : PS)).2.2.2)] 120, .vec oa7 oc8 1 (List.flatMap fStr xs9) 9], rfl, he16, by kernel_rfl, fun ac18 En19 Hv20 => ?_⟩
 refine d_e [2] [] En19 fun ac21 En22 => ?_
 refine then_normal ?_
 refine wp_ret ?_
 refine d_ret1 (t := 2) (v := .slice oa7 (List.length xs9) oc8) En22 (by kernel_rfl) (by kernel_rfl) ?_
 exact ⟨ta5, tc6, oa7, oc8, xs9, rfl, Hv20.pk [0, 1], hs10, hmn11, (Nat.le_trans hct12 (lsO_32 (by decide) _ _)), hsm13⟩

theorem got_getalpn (w : World) (a : Option Addr) (c : Nat) (l : Bs) (i : InB w [] a c l) : Calls Try.prog 151 #[.slice a (List.length l) c, .func (.func 152) #[] #[]] w fun e w' => ∃ oa oc xs, e = .returned (.tuple #[.slice oa (List.length xs) oc, .int .i64 (gotA (manyM (listM 1 1 255) 2 1 l false false))]) ∧ Ev w [] w' [.vec oa oc 1 (List.flatMap fStr xs) 9] ∧ List.map (fun y : RStr => y) xs = gotV [] (manyM (listM 1 1 255) 2 1 l false false) ∧ List.length xs ≤ 4294967296 ∧ ∀ y ∈ xs, List.length y ≤ 140737488351232 := by
 refine d_0 [(0, .slice a (List.length l) c), (1, .func (.func 152) #[] #[])] 36 Go.Proofs.Try.func151 Go.Proofs.Try.ntmps151 (Heap.nil _) fun act0 En0 Hv0 => ?_
 refine d_s [0,1,4,5] [] En0 fun ac1 En2 => ?_
 refine d_s [0,1,4,5,6] [] En2 fun ac3 En4 => ?_
 refine wp_seq ?_
 refine region_from ?_
 refine d_k [1,4,5,6,10] [] 2 En4 fun ac5 En6 => ?_
 refine f_o ?_
 refine m_m 120 [.slice a (List.length l) c, .bool false, .bool false] En6 Hv0 fun ac8 wo9 bk7 En10 Hv11 => ?_
 refine d_e [1,4,5,6,7] [] En10 fun ac12 En13 => ?_
 refine then_normal ?_
 refine wp_seq ?_
 refine region_from ?_
 refine d_k [4,5,6,7,12,13] [] 2 En13 fun ac14 En15 => ?_
 refine f_o ?_
 refine c_l [0] (M := [.box bk7 [.slice a (List.length l) c, .bool false, .bool false] 120]) En15 Hv11 (fun hM25 => getalpn1 _ bk7 a c l false false ((i.ev Hv11).pick [0] (by kernel_rfl)) hM25) ?_
 rintro _ wo26 ⟨ta16, tc17, oa20, oc21, xs22, rfl, he27, hs18, hpu19, hf23, hf24⟩
 refine ⟨_, _, [.box bk7 [.slice ta16 (List.length ((manyM (listM 1 1 255) 2 1 l false false).2.1)) tc17, .bool ((manyM (listM 1 1 255) 2 1 l false false).2.2.1), .bool ((manyM (listM 1 1 255) 2 1 l false false).2.2.2)] 120, .vec oa20 oc21 1 (List.flatMap fStr xs22) 9], rfl, he27, by kernel_rfl, fun ac29 En30 Hv31 => ?_⟩
 refine d_e [4,5,6,7,8] [] En30 fun ac32 En33 => ?_
 refine then_normal ?_
 refine wp_seq ?_
 refine wp_block ?_
 refine wp_seq ?_
 refine region_from ?_
 refine d_k [4,5,6,7,8,18] [] 3 En33 fun ac34 En35 => ?_
 refine f_o ?_
 refine m_l 0 En35 Hv31 fun ac36 En37 => ?_
 refine d_k [4,5,6,7,8,20] [] 5 En37 fun ac38 En39 => ?_
 rcases Bool.eq_false_or_eq_true ((manyM (listM 1 1 255) 2 1 l false false).2.2.1) with hb40 | hb40
 ·
  have En41 := En39.fx (t := 20) (congrArg Value.bool hb40)
  have hp42 : (manyM (listM 1 1 255) 2 1 l false false).2.2.1 = true := hb40
  refine d_e [4,5,6,7,8,15] [] En41 fun ac43 En44 => ?_
  refine then_normal ?_
  refine c_t En44 ?_
  refine d_s [4,5,6,7,8] [] En44 fun ac45 En46 => ?_
  refine wp_ret ?_
  refine block_ret ?_
  refine then_ret ?_
  refine d_ret2 (t := 4) (u := 5) (v := .slice none 0 0) (x := .int .i64 50) En46 (by kernel_rfl) (by kernel_rfl) (by kernel_rfl) ?_
  have eA : gotA (manyM (listM 1 1 255) 2 1 l false false) = 50 := Eq.symm (by first | exact end_1 (by assumption) | exact end_2 (by omega) | exact end_3 (by assumption) (by omega) (by assumption))
  rw [gotV_n eA (by decide), eA]
  have Hv47 : Ev w [] wo26 [.box bk7 [.slice ta16 (List.length ((manyM (listM 1 1 255) 2 1 l false false).2.1)) tc17, .bool ((manyM (listM 1 1 255) 2 1 l false false).2.2.1), .bool ((manyM (listM 1 1 255) 2 1 l false false).2.2.2)] 120, .vec oa20 oc21 1 (List.flatMap fStr xs22) 9, .vec none 0 1 (List.flatMap fStr []) 9] := Ev.nil (sz := 1) (T := 9) Hv31
  exact ⟨none, 0, [], rfl, Hv47.pk [2], rfl, (Nat.zero_le _), (fun y hy => by cases hy)⟩
 ·
  have En48 := En39.fx (t := 20) (congrArg Value.bool hb40)
  have hp49 : ¬ ((manyM (listM 1 1 255) 2 1 l false false).2.2.1 = true) := Bool.eq_false_iff.1 hb40
  refine d_k [4,5,6,7,8,20,23] [] 8 En48 fun ac50 En51 => ?_
  refine f_o ?_
  refine m_l 0 En51 Hv31 fun ac52 En53 => ?_
  refine d_e [4,5,6,7,8,15] [] En53 fun ac54 En55 => ?_
  refine then_normal ?_
  refine c_d (((List.length ((manyM (listM 1 1 255) 2 1 l false false).2.1) : Nat) : Int) > (0 : Int)) En55 (fun hc56 => ?_) (fun hc56 => ?_)
  ·
   refine d_s [4,5,6,7,8] [] En55 fun ac57 En58 => ?_
   refine wp_ret ?_
   refine block_ret ?_
   refine then_ret ?_
   refine d_ret2 (t := 4) (u := 5) (v := .slice none 0 0) (x := .int .i64 50) En58 (by kernel_rfl) (by kernel_rfl) (by kernel_rfl) ?_
   have eA : gotA (manyM (listM 1 1 255) 2 1 l false false) = 50 := Eq.symm (by first | exact end_1 (by assumption) | exact end_2 (by omega) | exact end_3 (by assumption) (by omega) (by assumption))
   rw [gotV_n eA (by decide), eA]
   have Hv59 : Ev w [] wo26 [.box bk7 [.slice ta16 (List.length ((manyM (listM 1 1 255) 2 1 l false false).2.1)) tc17, .bool ((manyM (listM 1 1 255) 2 1 l false false).2.2.1), .bool ((manyM (listM 1 1 255) 2 1 l false false).2.2.2)] 120, .vec oa20 oc21 1 (List.flatMap fStr xs22) 9, .vec none 0 1 (List.flatMap fStr []) 9] := Ev.nil (sz := 1) (T := 9) Hv31
   exact ⟨none, 0, [], rfl, Hv59.pk [2], rfl, (Nat.zero_le _), (fun y hy => by cases hy)⟩
  ·
   refine wp_seq ?_
   refine region_from ?_
   refine d_k [4,5,6,7,8,32] [] 3 En55 fun ac60 En61 => ?_
   refine f_o ?_
   refine m_l 0 En61 Hv31 fun ac62 En63 => ?_
   refine d_e [4,5,6,7,8,29] [] En63 fun ac64 En65 => ?_
   refine then_normal ?_
   refine cond_at En65 (t := (manyM (listM 1 1 255) 2 1 l false false).2.2.2) (by kernel_rfl) (fun hc66 => ?_) (fun hc66 => ?_)
   ·
    replace hc66 : (manyM (listM 1 1 255) 2 1 l false false).2.2.2 = true := hc66
    refine d_s [4,5,6,7,8] [] En65 fun ac67 En68 => ?_
    refine wp_ret ?_
    refine block_ret ?_
    refine then_ret ?_
    refine d_ret2 (t := 4) (u := 5) (v := .slice none 0 0) (x := .int .i64 47) En68 (by kernel_rfl) (by kernel_rfl) (by kernel_rfl) ?_
    have eA : gotA (manyM (listM 1 1 255) 2 1 l false false) = 47 := Eq.symm (by first | exact end_1 (by assumption) | exact end_2 (by omega) | exact end_3 (by assumption) (by omega) (by assumption))
    rw [gotV_n eA (by decide), eA]
    have Hv69 : Ev w [] wo26 [.box bk7 [.slice ta16 (List.length ((manyM (listM 1 1 255) 2 1 l false false).2.1)) tc17, .bool ((manyM (listM 1 1 255) 2 1 l false false).2.2.1), .bool ((manyM (listM 1 1 255) 2 1 l false false).2.2.2)] 120, .vec oa20 oc21 1 (List.flatMap fStr xs22) 9, .vec none 0 1 (List.flatMap fStr []) 9] := Ev.nil (sz := 1) (T := 9) Hv31
    exact ⟨none, 0, [], rfl, Hv69.pk [2], rfl, (Nat.zero_le _), (fun y hy => by cases hy)⟩
   ·
    replace hc66 : ¬ ((manyM (listM 1 1 255) 2 1 l false false).2.2.2 = true) := Bool.eq_false_iff.1 hc66
    refine wp_skip ?_
    refine block_normal ?_
    refine then_normal ?_
    refine d_s [4,5,6,7] [] En65 fun ac70 En71 => ?_
    refine wp_ret ?_
    refine d_ret2 (t := 4) (u := 5) (v := .slice oa20 (List.length xs22) oc21) (x := .int .i64 0) En71 (by kernel_rfl) (by kernel_rfl) (by kernel_rfl) ?_
    have eA : gotA (manyM (listM 1 1 255) 2 1 l false false) = 0 := (end_4 (by assumption) (by omega) (by assumption)).symm
    rw [gotV_0 eA, eA]
    exact ⟨oa20, oc21, xs22, rfl, Hv31.pk [1], hpu19, hf23, hf24⟩

theorem getalpn_go (w : World) (aq : Option Addr) (nq cq : Nat) (lq : List UInt8) (eq : nq = List.length lq) (iq : InB w [] aq cq lq) : Calls Try.prog 48 #[.slice aq nq cq] w fun e w' => ∃ oa oc xs, e = .returned (.tuple #[.slice oa (List.length xs) oc, .int .i64 (gotA (manyM (listM 1 1 255) 2 1 lq false false))]) ∧ Ev w [] w' [.vec oa oc 1 (List.flatMap fStr xs) 9] ∧ List.map (fun y : RStr => y) xs = gotV [] (manyM (listM 1 1 255) 2 1 lq false false) ∧ List.length xs ≤ 4294967296 ∧ ∀ y ∈ xs, List.length y ≤ 140737488351232 := by
 subst eq
 refine d_0 [(0, .slice aq (List.length lq) cq)] 8 Go.Proofs.Try.func48 Go.Proofs.Try.ntmps48 (Heap.nil _) fun act0 En0 Hv0 => ?_
 refine d_s [0,2,3] [] En0 fun ac1 En2 => ?_
 refine wp_seq ?_
 refine region_from ?_
 refine d_k [2,3,4] [] 1 En2 fun ac3 En4 => ?_
 refine f_o ?_
 refine c_0 En4 Hv0 (got_getalpn _ aq cq lq ((iq.ev Hv0).pick [] (by kernel_rfl))) ?_
 rintro _ wo12 ⟨oa5, oc6, xs7, rfl, he13, hpu8, hf9, hf10⟩
 refine ⟨_, _, _, rfl, he13, rfl, fun ac15 En16 Hv17 => ?_⟩
 refine d_e [2,3] [] En16 fun ac18 En19 => ?_
 refine then_normal ?_
 refine wp_ret ?_
 refine d_ret2 (t := 2) (u := 3) (v := .slice oa5 (List.length xs7) oc6) (x := .int .i64 (gotA (manyM (listM 1 1 255) 2 1 lq false false))) En19 (by kernel_rfl) (by kernel_rfl) (by kernel_rfl) ?_
 exact ⟨oa5, oc6, xs7, rfl, Hv17.pk [0], hpu8, hf9, hf10⟩

theorem dgetalpn_go (w : World) (aq : Option Addr) (nq cq : Nat) (lq : List UInt8) (eq : nq = List.length lq) (iq : InB w [] aq cq lq) : Calls Try.prog 49 #[.slice aq nq cq] w fun e w' => ∃ oa oc xs, e = .returned (.tuple #[.slice oa (List.length xs) oc, .int .i64 (gotA (dmanyM (dlistM 1 1 255) 2 1 65535 lq false false))]) ∧ Ev w [] w' [.vec oa oc 1 (List.flatMap fStr xs) 9] ∧ List.map (fun y : RStr => y) xs = gotV [] (dmanyM (dlistM 1 1 255) 2 1 65535 lq false false) ∧ List.length xs ≤ 4294967296 ∧ ∀ y ∈ xs, List.length y ≤ 140737488351232 := by
 subst eq
 refine d_0 [(0, .slice aq (List.length lq) cq)] 31 Go.Proofs.Try.func49 Go.Proofs.Try.ntmps49 (Heap.nil _) fun act0 En0 Hv0 => ?_
 refine wp_seq ?_
 refine d_r [0,2,3] [] En0 fun ac1 En2 => ?_
 refine then_normal ?_
 refine wp_seq ?_
 refine region_from ?_
 refine d_k [2,3,9] [] 2 En2 fun ac3 En4 => ?_
 refine f_o ?_
 refine m_m 154 [.slice aq (List.length lq) cq, .bool false, .bool false] En4 Hv0 fun ac6 wo7 bk5 En8 Hv9 => ?_
 refine d_e [2,3,4] [] En8 fun ac10 En11 => ?_
 refine then_normal ?_
 refine wp_seq ?_
 refine region_from ?_
 refine d_k [2,3,4,11] [] 1 En11 fun ac12 En13 => ?_
 refine f_o ?_
 refine c_l [0] (M := [.box bk5 [.slice aq (List.length lq) cq, .bool false, .bool false] 154]) En13 Hv9 (fun hM20 => dpart_go _ bk5 2 (by omega) 1 65535 (by omega) (by omega) aq cq lq false false ((iq.ev Hv9).pick [0] (by kernel_rfl)) hM20) ?_
 rintro _ wo21 ⟨bp14, ao15, cp16, ta17, tc18, rfl, he22, hs19⟩
 refine ⟨_, _, [.box bk5 [.slice ta17 (List.length (ldR 2 1 65535 lq false)) tc18, .bool (ldS 2 1 65535 lq false), .bool false] 154, .box bp14 [.slice ao15 (List.length (ldO 2 1 65535 lq false)) cp16, .bool (ldS 2 1 65535 lq false), .bool false] 154, .vec ao15 cp16 1 (bys (ldO 2 1 65535 lq false)) 5], rfl, he22, by kernel_rfl, fun ac24 En25 Hv26 => ?_⟩
 refine d_e [2,3,4,5] [] En25 fun ac27 En28 => ?_
 refine then_normal ?_
 refine wp_seq ?_
 refine d_r [2,3,4,5,6] [] En28 fun ac29 En30 => ?_
 refine then_normal ?_
 refine wp_seq ?_
 refine wp_block ?_
 have Hv31 : Ev w [] wo21 [.box bk5 [.slice ta17 (List.length (ldR 2 1 65535 lq false)) tc18, .bool (ldS 2 1 65535 lq false), .bool false] 154, .box bp14 [.slice ao15 (List.length (ldO 2 1 65535 lq false)) cp16, .bool (ldS 2 1 65535 lq false), .bool false] 154, .vec ao15 cp16 1 (bys (ldO 2 1 65535 lq false)) 5, .vec none 0 1 (List.flatMap fStr []) 9] := Ev.nil (sz := 1) (T := 9) Hv26
 have hO32 := Nat.le_of_succ_le (ldO_32 (n := 2) (x := 1) (y := 65535) (by decide) lq false)
 refine loop_m (fun ms32 ac wo => ∃ (oa : Option Addr) (oc : Nat) (xs : List (RStr)) (ra : Option Addr) (rc : Nat) (rl : Bs) (s1 : Bool) (o1 : Bool), ms32 = (bif s1 then 0 else List.length rl + 1 : Nat) ∧ Env ac 31 [(2, .slice none 0 0), (3, .int .i64 0), (4, pt bk5), (5, pt bp14), (6, .slice oa (List.length xs) oc)] ∧ Ev w [] wo [.box bp14 [.slice ra (List.length rl) rc, .bool s1, .bool o1] 154, .vec ao15 cp16 1 (bys (ldO 2 1 65535 lq false)) 5, .box bk5 [.slice ta17 (List.length (ldR 2 1 65535 lq false)) tc18, .bool (ldS 2 1 65535 lq false), .bool false] 154, .vec oa oc 1 (List.flatMap fStr xs) 9] ∧ (Sub ao15 cp16 (ldO 2 1 65535 lq false) ra rc rl) ∧ (mn (dlistM 1 1 255) ((ldO 2 1 65535 lq false, ldS 2 1 65535 lq false, false) : PS) = (List.map (fun y : RStr => y) xs ++ (mn (dlistM 1 1 255) (rl, s1, o1)).1, (mn (dlistM 1 1 255) (rl, s1, o1)).2)) ∧ (List.length xs + List.length rl ≤ List.length (ldO 2 1 65535 lq false) + (bif s1 then 1 else 0)) ∧ (∀ y ∈ xs, List.length y ≤ 140737488351232)) ⟨_, none, 0, [], ao15, cp16, (ldO 2 1 65535 lq false), (ldS 2 1 65535 lq false), false, rfl, En30.sb, Hv31.pk [1, 2, 0, 3], Sub.self, rfl, (by rw [List.length_nil, Nat.zero_add]; exact Nat.le_add_right _ _), (fun y hy => by cases hy)⟩ ?_
 rintro mm38 ac34 wo35 ⟨oa, oc, xs, ra, rc, rl, s1, o1, rfl, En36, Hv37, hsu, hmn, hct, hsm⟩
 refine wp_seq ?_
 refine wp_seq ?_
 refine region_from ?_
 refine d_k [2,3,4,5,6,13] [] 1 En36 fun ac39 En40 => ?_
 refine f_o ?_
 refine c_l [0] (M := [.box bp14 [.slice ra (List.length rl) rc, .bool s1, .bool o1] 154]) En40 Hv37 (fun hM41 => dmore_go _ bp14 ra (List.length rl) rc s1 o1 hM41) ?_
 rintro _ wo42 ⟨rfl, he43⟩
 refine ⟨_, _, [.box bp14 [.slice ra (List.length rl) rc, .bool s1, .bool o1] 154, .vec ao15 cp16 1 (bys (ldO 2 1 65535 lq false)) 5, .box bk5 [.slice ta17 (List.length (ldR 2 1 65535 lq false)) tc18, .bool (ldS 2 1 65535 lq false), .bool false] 154, .vec oa oc 1 (List.flatMap fStr xs) 9], rfl, he43, by kernel_rfl, fun ac45 En46 Hv47 => ?_⟩
 refine f_e ?_
 refine then_normal ?_
 refine cond_at En46 (t := !s1 && decide (0 < List.length rl)) (by kernel_rfl) (fun hc48 => ?_) (fun hc48 => ?_)
 ·
  replace hc48 : s1 = false ∧ 0 < List.length rl := by simpa using hc48
  refine wp_skip ?_
  refine then_normal ?_
  refine wp_block ?_
  refine region_from ?_
  refine d_k [2,3,4,5,6,15,16] [] 2 En46 fun ac49 En50 => ?_
  refine f_o ?_
  refine c_l [0] (M := [.box bp14 [.slice ra (List.length rl) rc, .bool s1, .bool o1] 154]) En50 Hv47 (fun hM56 => dlist_go _ bp14 1 (by omega) 1 255 (by omega) (by omega) ra rc rl s1 o1 (hsu _ _ (bys_in Hv47.heap (k := 1) rfl [0] (by kernel_rfl) rfl (by first | omega | (simp; done) | (simp; omega)))) hM56) ?_
  rintro _ wo57 ⟨ao51, cp52, ta53, tc54, rfl, he58, hs55⟩
  refine ⟨_, _, [.box bp14 [.slice ta53 (List.length (ldR 1 1 255 rl s1)) tc54, .bool (ldS 1 1 255 rl s1), .bool o1] 154, .vec ao51 cp52 1 (bys (ldO 1 1 255 rl s1)) 5, .vec ao15 cp16 1 (bys (ldO 2 1 65535 lq false)) 5, .box bk5 [.slice ta17 (List.length (ldR 2 1 65535 lq false)) tc18, .bool (ldS 2 1 65535 lq false), .bool false] 154, .vec oa oc 1 (List.flatMap fStr xs) 9], rfl, he58, by kernel_rfl, fun ac60 En61 Hv62 => ?_⟩
  refine f_o ?_
  refine op_str (d := some 18) (src := 23) (dst := 9) (e := 5) (ao := ao51) (cap := cp52) (p := List.length (ldO 1 1 255 rl s1)) (bs := ldO 1 1 255 rl s1) En61 (by kernel_rfl) rfl (by kernel_rfl) (by kernel_rfl) (by kernel_rfl) (Hv62.heap.reads (k := 1) rfl) (bys_vnz Hv62.heap (k := 1) rfl) ?_
  intro ac63 En64
  refine f_o ?_
  refine op_lit (d := some 19) (t := 33) (T := 9) (m := 1) (parts := #[(0, .string (bstr (ldO 1 1 255 rl s1)))]) (xs := List.flatMap fStr ([ldO 1 1 255 rl s1] : List (RStr))) (sz := 1) En64 (by kernel_rfl) (by kernel_rfl) rfl (by decide) Hv62 ?_
  intro ac66 wo67 bk65 En68 Hv69
  refine f_o ?_
  refine op_append (d := some 20) (t := 33) (tx := 33) (ty := 33) (k := 4) (p := List.length xs) (m := 1) (x := .slice (some ⟨bk65, 0, none⟩) 1 1) (bytes := 16) En68 (by kernel_rfl) Hv69 rfl (sv_len (f := fStr) (sz := 1) (fun _ => rfl) _) (Reads.src (size := 1) (tx := 33) (e' := 9) (by kernel_rfl) (Hv69.heap.reads (k := 5) rfl) rfl (fun e => by cases e) (flat_one (f := fStr) (fun _ => one_all rfl) _)) (by kernel_rfl) (z := .string (bstr [])) (by kernel_rfl) rfl (by decide) (by have hb1 := mn_b1 s1; omega) (by unfold maxLen; have hb1 := mn_b1 s1; omega) ?_
  intro ac74 wo75 ao70 cp71 En76 Hv77 hnz _
  clear hnz
  rw [← List.flatMap_append] at Hv77
  have ehz72 : (List.length xs) + 1 = List.length (xs ++ ([ldO 1 1 255 rl s1] : List (RStr))) := (by first | (simp; done) | (simp; omega) | omega)
  rw [ehz72] at En76
  refine d_e [2,3,4,5,6] [] En76 fun ac78 En79 => ?_
  refine block_normal ?_
  refine then_normal ?_
  refine ⟨_, ⟨ao70, cp71, (xs ++ ([ldO 1 1 255 rl s1] : List (RStr))), ta53, tc54, (ldR 1 1 255 rl s1), (ldS 1 1 255 rl s1), o1, rfl, En79.sb, Hv77.pk [0, 2, 3, 4], (hsu.trans hs55), (by rw [hmn, mn_step (dlist_dec (by decide)) hc48.1 hc48.2, List.map_append, List.append_assoc]; rfl), (mn_ct hc48.1 hct (dec_lt (o := o1) (dlist_dec (by decide)) hc48.1 hc48.2) (dec_le (o := o1) (dlist_dec (by decide)) hc48.1) hc48.2), (all_snoc hsm (Nat.le_trans (Nat.le_of_succ_le (ldO_32 (by decide) _ _)) (by decide)))⟩, ?_⟩
  exact mn_mu hc48.1 hc48.2 (dec_lt (o := o1) (dlist_dec (by decide)) hc48.1 hc48.2)
 ·
  replace hc48 : ¬ (s1 = false ∧ 0 < List.length rl) := by simpa using hc48
  refine wp_exit ?_
  refine then_exit ?_
  refine then_exit ?_
  refine block_exit ?_
  refine then_normal ?_
  refine wp_seq ?_
  have hm2 : mn (dlistM 1 1 255) ((ldO 2 1 65535 lq false, ldS 2 1 65535 lq false, false) : PS) = (List.map (fun y : RStr => y) xs, rl, s1, o1) := by rw [hmn, mn_end (p := (rl, s1, o1)) (more_no hc48), List.append_nil]
  have hc2 := mn_c1 hct
  refine region_from ?_
  refine d_k [2,3,4,5,6,21,22] [] 2 En46 fun ac80 En81 => ?_
  refine f_o ?_
  refine c_l [2,0] (M := [.box bk5 [.slice ta17 (List.length (ldR 2 1 65535 lq false)) tc18, .bool (ldS 2 1 65535 lq false), .bool false] 154, .box bp14 [.slice ra (List.length rl) rc, .bool s1, .bool o1] 154]) En81 Hv47 (fun hM82 => dwith_go _ bk5 bp14 ta17 (List.length (ldR 2 1 65535 lq false)) tc18 (ldS 2 1 65535 lq false) false ra (List.length rl) rc s1 o1 hM82) ?_
  rintro _ wo83 ⟨rfl, he84⟩
  refine ⟨_, _, [.box bk5 [.slice ta17 (List.length (ldR 2 1 65535 lq false)) tc18, .bool ((ldS 2 1 65535 lq false) || s1), .bool (false || o1)] 154, .box bp14 [.slice ra (List.length rl) rc, .bool s1, .bool o1] 154, .vec ao15 cp16 1 (bys (ldO 2 1 65535 lq false)) 5, .vec oa oc 1 (List.flatMap fStr xs) 9], rfl, he84, by kernel_rfl, fun ac86 En87 Hv88 => ?_⟩
  refine f_e ?_
  refine then_normal ?_
  refine wp_seq ?_
  refine region_from ?_
  refine d_k [2,3,4,5,6,24] [] 1 En87 fun ac89 En90 => ?_
  refine f_o ?_
  refine c_l [0] (M := [.box bk5 [.slice ta17 (List.length (ldR 2 1 65535 lq false)) tc18, .bool ((ldS 2 1 65535 lq false) || s1), .bool (false || o1)] 154]) En90 Hv88 (fun hM91 => dend_go _ bk5 ta17 (List.length (ldR 2 1 65535 lq false)) tc18 ((ldS 2 1 65535 lq false) || s1) (false || o1) hM91) ?_
  rintro _ wo92 ⟨rfl, he93⟩
  refine ⟨_, _, [.box bk5 [.slice ta17 (List.length (ldR 2 1 65535 lq false)) tc18, .bool ((ldS 2 1 65535 lq false) || s1), .bool (false || o1)] 154, .box bp14 [.slice ra (List.length rl) rc, .bool s1, .bool o1] 154, .vec ao15 cp16 1 (bys (ldO 2 1 65535 lq false)) 5, .vec oa oc 1 (List.flatMap fStr xs) 9], rfl, he93, by kernel_rfl, fun ac95 En96 Hv97 => ?_⟩
  refine d_e [2,3,4,5,6,7] [] En96 fun ac98 En99 => ?_
  refine then_normal ?_
  refine wp_seq ?_
  refine wp_seq ?_
  refine d_r [2,3,4,5,6,7,27] [] En99 fun ac100 En101 => ?_
  refine then_normal ?_
  refine c_n (endV ((ldS 2 1 65535 lq false) || s1) (List.length (ldR 2 1 65535 lq false)) (false || o1)) (0 : Int) En101 (fun hc102 => ?_) (fun hc102 => ?_)
  ·
   refine wp_seq ?_
   refine d_r [2,3,4,5,6,7] [] En101 fun ac103 En104 => ?_
   refine then_normal ?_
   refine wp_ret ?_
   refine then_ret ?_
   refine d_ret2 (t := 2) (u := 3) (v := .slice none 0 0) (x := .int .i64 (endV ((ldS 2 1 65535 lq false) || s1) (List.length (ldR 2 1 65535 lq false)) (false || o1))) En104 (by kernel_rfl) (by kernel_rfl) (by kernel_rfl) ?_
   have eA : gotA (dmanyM (dlistM 1 1 255) 2 1 65535 lq false false) = endV ((ldS 2 1 65535 lq false) || s1) (List.length (ldR 2 1 65535 lq false)) (false || o1) := by unfold gotA dmanyM; rw [hm2] <;> rfl
   rw [gotV_n eA (by assumption), eA]
   have Hv105 : Ev w [] wo92 [.box bk5 [.slice ta17 (List.length (ldR 2 1 65535 lq false)) tc18, .bool ((ldS 2 1 65535 lq false) || s1), .bool (false || o1)] 154, .box bp14 [.slice ra (List.length rl) rc, .bool s1, .bool o1] 154, .vec ao15 cp16 1 (bys (ldO 2 1 65535 lq false)) 5, .vec oa oc 1 (List.flatMap fStr xs) 9, .vec none 0 1 (List.flatMap fStr []) 9] := Ev.nil (sz := 1) (T := 9) Hv97
   exact ⟨none, 0, [], rfl, Hv105.pk [4], rfl, (Nat.zero_le _), (fun y hy => by cases hy)⟩
  ·
   refine wp_skip ?_
   refine then_normal ?_
   refine wp_seq ?_
   refine d_r [2,3,4,5,6,7] [] En101 fun ac106 En107 => ?_
   refine then_normal ?_
   refine wp_ret ?_
   refine d_ret2 (t := 2) (u := 3) (v := .slice oa (List.length xs) oc) (x := .int .i64 (endV ((ldS 2 1 65535 lq false) || s1) (List.length (ldR 2 1 65535 lq false)) (false || o1))) En107 (by kernel_rfl) (by kernel_rfl) (by kernel_rfl) ?_
   have eA : gotA (dmanyM (dlistM 1 1 255) 2 1 65535 lq false false) = endV ((ldS 2 1 65535 lq false) || s1) (List.length (ldR 2 1 65535 lq false)) (false || o1) := by unfold gotA dmanyM; rw [hm2] <;> rfl
   rw [gotV_0 (eA.trans (by assumption)), eA]
   exact ⟨oa, oc, xs, rfl, Hv97.pk [3], (by show _ = (mn (dlistM 1 1 255) ((ldO 2 1 65535 lq false, ldS 2 1 65535 lq false, false) : PS)).1; rw [hm2]), (Nat.le_trans hc2 (ldO_32 (by decide) _ _)), hsm⟩

theorem sametxt_go (w : World) (ap : Option Addr) (cp : Nat) (xp : List RStr) (ip : InS fStr 16 (fun x : RStr => List.length x ≤ 140737488351232) w [] ap cp xp) (aq : Option Addr) (cq : Nat) (xq : List RStr) (iq : InS fStr 16 (fun x : RStr => List.length x ≤ 140737488351232) w [] aq cq xq) : Calls Try.prog 50 #[.slice ap (List.length xp) cp, .slice aq (List.length xq) cq] w fun e w' => e = .returned (.bool (List.map (fun y : RStr => y) xp == List.map (fun y : RStr => y) xq)) ∧ Ev w [] w' [] := by
 have hsp := ip.small
 refine d_0 [(0, .slice ap (List.length xp) cp), (1, .slice aq (List.length xq) cq)] 26 Go.Proofs.Try.func50 Go.Proofs.Try.ntmps50 (Heap.nil _) fun act0 En0 Hv0 => ?_
 refine d_s [0,1,4] [] En0 fun ac1 En2 => ?_
 refine wp_seq ?_
 refine d_s [0,1,4,10] [] En2 fun ac3 En4 => ?_
 refine c_n ((List.length xp : Nat) : Int) ((List.length xq : Nat) : Int) En4 (fun hc5 => ?_) (fun hc5 => ?_)
 ·
  refine d_s [0,1,4] [] En4 fun ac6 En7 => ?_
  refine wp_ret ?_
  refine then_ret ?_
  refine d_ret1 (t := 4) (v := .bool false) En7 (by kernel_rfl) (by kernel_rfl) ?_
  exact ⟨congrArg (fun b => Ending.returned (Value.bool b)) (same_len (by omega)), Hv0.pk []⟩
 ·
  refine wp_skip ?_
  refine then_normal ?_
  refine wp_seq ?_
  refine d_s [0,1,4,5] [] En4 fun ac8 En9 => ?_
  refine wp_block ?_
  refine loop_m (fun ms10 ac wo => ∃ (i : Nat), ms10 = (List.length xp + 1 - i : Nat) ∧ Env ac 26 [(0, .slice ap (List.length xp) cp), (1, .slice aq (List.length xq) cq), (5, ni i)] ∧ Ev w [] wo [] ∧ (List.take i (List.map (fun y : RStr => y) xp) = List.take i (List.map (fun y : RStr => y) xq))) ⟨_, 0, rfl, En9.sb, Hv0.pk [], rfl⟩ ?_
  rintro mm16 ac12 wo13 ⟨i, rfl, En14, Hv15, hp⟩
  refine wp_seq ?_
  refine d_s [0,1,5,14] [] En14 fun ac17 En18 => ?_
  refine c_d (((i : Nat) : Int) < ((List.length xp : Nat) : Int)) En18 (fun hc19 => ?_) (fun hc19 => ?_)
  ·
   refine wp_skip ?_
   refine then_normal ?_
   refine wp_seq ?_
   refine wp_block ?_
   refine wp_seq ?_
   have hb20 : i < List.length xp := by omega
   obtain ⟨x22, hx21⟩ : ∃ x, (xp)[i]? = some x := ⟨_, List.getElem?_eq_getElem hb20⟩
   obtain s_x22 := ip.each _ (List.mem_of_getElem? hx21)
   replace s_x22 : (List.length x22 ≤ 140737488351232) := s_x22
   obtain ⟨adp, hadp⟩ := some_of ip.nz (show i < List.length xp by omega)
   have hb23 : i < List.length xq := by omega
   obtain ⟨x25, hx24⟩ : ∃ x, (xq)[i]? = some x := ⟨_, List.getElem?_eq_getElem hb23⟩
   obtain s_x25 := iq.each _ (List.mem_of_getElem? hx24)
   replace s_x25 : (List.length x25 ≤ 140737488351232) := s_x25
   obtain ⟨adq, hadq⟩ := some_of iq.nz (show i < List.length xq by omega)
   refine r_c (fun ac wo => Env ac 26 [(0, .slice ap (List.length xp) cp), (1, .slice aq (List.length xq) cq), (5, ni i), (25, .bool (!(x22 == x25)))] ∧ Ev w [] wo []) ?_ ?_
   ·
    refine s_g0 [(0, .slice ap (List.length xp) cp), (1, .slice aq (List.length xq) cq), (5, ni i)] [0,1,2,3,4,5,6,7,8] [(17, .slice ap (List.length xp) cp), (18, ni i), (19, .pointer (some (Addr.add adp i))), (20, .string (bstr x22)), (21, .slice aq (List.length xq) cq), (22, ni i), (23, .pointer (some (Addr.add adq i))), (24, .string (bstr x25)), (25, .bool (!(x22 == x25)))] 0 [(0, .slice ap (List.length xp) cp), (1, .slice aq (List.length xq) cq), (5, ni i), (25, .bool (!(x22 == x25)))] (En18.sb) (Hv15.trans (Ev.drew Hv15.heap)) ?_ fun ac60 wo61 En62 Hv63 => ?_
    ·
     refine s_p [] ?_
     refine s_p [] ?_
     have hb28 : i < List.length xp := (by omega)
     refine s_c (fun Mx29 ac30 wo31 En32 Hv33 => ?_) ?_
     ·
      refine q_v (x := Instr.indexAt 33 (.slice ap (List.length xp) cp) (ni i)) (v := .pointer (some (Addr.add adp i))) En32 (Go.Dbr.run_indexsl (e := 9) (sz := 1) (j := i) (jo := i) hadp (by kernel_rfl) (by kernel_rfl) (by omega) hb28 (Nat.mul_one _) _) fun ac34 En35 => ?_
      exact s_e En35 Hv33
     refine s_c (fun Mx36 ac37 wo38 En39 Hv40 => ?_) ?_
     ·
      refine op_loadf (d := some 20) (t := 9) (ad := adp) (ao := ap) (ys := List.flatMap fStr xp) (o := i) (v := .string (bstr x22)) En39 (by kernel_rfl) rfl (ip.ro.ev Hv40).reads hadp ((flat_get1 (fun _ _ => rfl) hx21).trans rfl) (by kernel_rfl) ?_
      intro ac41 En42
      exact s_e En42 Hv40
     refine s_p [] ?_
     refine s_p [] ?_
     have hb45 : i < List.length xq := (by omega)
     refine s_c (fun Mx46 ac47 wo48 En49 Hv50 => ?_) ?_
     ·
      refine q_v (x := Instr.indexAt 33 (.slice aq (List.length xq) cq) (ni i)) (v := .pointer (some (Addr.add adq i))) En49 (Go.Dbr.run_indexsl (e := 9) (sz := 1) (j := i) (jo := i) hadq (by kernel_rfl) (by kernel_rfl) (by omega) hb45 (Nat.mul_one _) _) fun ac51 En52 => ?_
      exact s_e En52 Hv50
     refine s_c (fun Mx53 ac54 wo55 En56 Hv57 => ?_) ?_
     ·
      refine op_loadf (d := some 24) (t := 9) (ad := adq) (ao := aq) (ys := List.flatMap fStr xq) (o := i) (v := .string (bstr x25)) En56 (by kernel_rfl) rfl (iq.ro.ev Hv57).reads hadq ((flat_get1 (fun _ _ => rfl) hx24).trans rfl) (by kernel_rfl) ?_
      intro ac58 En59
      exact s_e En59 Hv57
     refine s_p [(8, g_v (show (.bool (!(ByteArray.toList (bstr x22) == ByteArray.toList (bstr x25))) : Value) = .bool (!(x22 == x25)) by rw [Go.Dbr.bstr_eq x22 x25] <;> rfl))] ?_
     exact s_n
    exact a_e ⟨En62.sb, Hv63.pk []⟩
   rintro ac64 wo65 ⟨En66, Hv67⟩
   refine then_normal ?_
   refine cond_at En66 (t := !(x22 == x25)) (by kernel_rfl) (fun hc68 => ?_) (fun hc68 => ?_)
   ·
    replace hc68 : x22 ≠ x25 := by simpa using hc68
    refine d_s [0,1,4,5] [] En66 fun ac69 En70 => ?_
    refine wp_ret ?_
    refine block_ret ?_
    refine then_ret ?_
    refine then_ret ?_
    refine block_ret ?_
    refine then_ret ?_
    refine d_ret1 (t := 4) (v := .bool false) En70 (by kernel_rfl) (by kernel_rfl) ?_
    exact ⟨congrArg (fun b => Ending.returned (Value.bool b)) (same_no hx21 hx24 (by assumption)), Hv67.pk []⟩
   ·
    replace hc68 : ¬ (x22 ≠ x25) := by simpa using hc68
    refine wp_skip ?_
    refine block_normal ?_
    refine then_normal ?_
    refine d_r [0,1,5] [(1, g_n (w_a i 1))] En66 fun ac71 En72 => ?_
    refine then_normal ?_
    refine ⟨_, ⟨i + 1, rfl, En72.sb, Hv67.pk [], (same_step hx21 hx24 (by first | assumption | exact Classical.not_not.1 (by assumption)) hp)⟩, ?_⟩
    omega
  ·
   refine wp_exit ?_
   refine then_exit ?_
   refine then_exit ?_
   refine block_exit ?_
   refine then_normal ?_
   refine d_s [0,1,4,5] [] En18 fun ac73 En74 => ?_
   refine wp_ret ?_
   refine d_ret1 (t := 4) (v := .bool true) En74 (by kernel_rfl) (by kernel_rfl) ?_
   exact ⟨congrArg (fun b => Ending.returned (Value.bool b)) (same_all (by omega) (by omega) hp), Hv15.pk []⟩

end Go.Proofs.Ytofecellbfhnjaa
