import Derived.Test.YtofecellbfhnjaaBk4
import Derived.Laws.IdiomStrings
/- Layer 17: many parts, one by one; numbers. -/


namespace Go.Proofs.Ytofecellbfhnjaa
open Go.Dbr
set_option maxRecDepth 100000
set_option maxHeartbeats 2000000
set_option linter.unusedVariables false
set_option linter.unusedSimpArgs false

abbrev RU16 := UInt16
abbrev fU16 : RU16 → List Value := (fun n : UInt16 => [uv16 n])
def listM (n x y : Nat) (l : Bs) (s o : Bool) : Bs × PS := (lsO n x y l s, lsR n x y l s, lsS n x y l s, o)
def u16M (l : Bs) (s o : Bool) : UInt16 × PS := (UInt16.ofNat (nbV 2 l s), tkR 2 l s, tkS 2 l s, o)
theorem tk_lt {n : Nat} (hn : 0 < n) {l : Bs} (h : l ≠ []) : (tkR n l false).length < l.length := by
  have h0 : 0 < l.length := List.length_pos_iff.2 h
  unfold tkR
  cases tkS n l false with
  | true => exact h0
  | false => rw [Bool.cond_false, List.length_drop]; omega
theorem u16_dec : Dec u16M := ⟨fun l _ h _ => tk_lt (by decide) h, fun l _ => tkR_len _ _ _⟩
theorem u16_go (w : World) (br : Nat) (a : Option Addr) (c : Nat) (l : List UInt8) (s o : Bool) (i : InB w [.box br [.slice a (List.length l) c, .bool s, .bool o] 120] a c l) (hH : Heap w [.box br [.slice a (List.length l) c, .bool s, .bool o] 120]) : Calls Try.prog 148 #[pt br] w fun e w' => ∃ ta tc, e = .returned (.int .u16 ((UInt16.toNat (UInt16.ofNat (nbV 2 l s)) : Nat) : Int)) ∧ Ev w [.box br [.slice a (List.length l) c, .bool s, .bool o] 120] w' [.box br [.slice ta (List.length (tkR 2 l s)) tc, .bool (tkS 2 l s), .bool o] 120] ∧ Sub a c l ta tc (tkR 2 l s) := by
 refine d_0 [(0, pt br)] 6 Go.Proofs.Try.func148 Go.Proofs.Try.ntmps148 (hH) fun act0 En0 Hv0 => ?_
 refine d_s [0,2] [] En0 fun ac1 En2 => ?_
 refine wp_seq ?_
 refine region_from ?_
 refine d_k [2,3] [] 1 En2 fun ac3 En4 => ?_
 refine f_o ?_
 refine c_l [0] (M := [.box br [.slice a (List.length l) c, .bool s, .bool o] 120]) En4 Hv0 (fun hM8 => number_go _ br 2 (by omega) a c l s o ((i.ev Hv0).pick [0] (by kernel_rfl)) hM8) ?_
 rintro _ wo9 ⟨ta5, tc6, rfl, he10, hs7⟩
 refine ⟨_, _, [.box br [.slice ta5 (List.length (tkR 2 l s)) tc6, .bool (tkS 2 l s), .bool o] 120], rfl, he10, by kernel_rfl, fun ac12 En13 Hv14 => ?_⟩
 refine d_e [2] [(2, g_i .u16 (Go.Dbr.nat_to_u16 (a := ((nbV 2 l s : Nat) : Int)) (n := nbV 2 l s) rfl))] En13 fun ac15 En16 => ?_
 refine then_normal ?_
 refine wp_ret ?_
 refine d_ret1 (t := 2) (v := .int .u16 ((UInt16.toNat (UInt16.ofNat (nbV 2 l s)) : Nat) : Int)) En16 (by kernel_rfl) (by kernel_rfl) ?_
 exact ⟨ta5, tc6, rfl, Hv14.pk [0], hs7⟩

theorem dec_lt {α : Type} {one : Bs → Bool → Bool → α × PS} (D : Dec one) {l : Bs} {s o : Bool} (hs : s = false) (h0 : 0 < l.length) : (one l s o).2.2.1 = false → (one l s o).2.1.length < l.length := by
  subst hs
  exact D.lt l o (List.length_pos_iff.1 h0)
theorem dec_le {α : Type} {one : Bs → Bool → Bool → α × PS} (D : Dec one) {l : Bs} {s o : Bool} (hs : s = false) : (one l s o).2.1.length ≤ l.length := by
  subst hs
  exact D.le l o
theorem mn_mu {s1 s2 : Bool} {n m : Nat} (hs : s1 = false) (h0 : 0 < n) (h : s2 = false → m < n) : (bif s2 then 0 else m + 1) < (bif s1 then 0 else n + 1) := by
  subst hs
  cases s2 with
  | true => exact Nat.succ_pos _
  | false => exact Nat.succ_lt_succ (h rfl)
theorem mn_ct {α : Type} {xs : List α} {y : α} {s1 s2 : Bool} {n m N : Nat} (hs : s1 = false) (hc : xs.length + n ≤ N + (bif s1 then 1 else 0)) (h : s2 = false → m < n) (h2 : m ≤ n) (h0 : 0 < n) : (xs ++ [y]).length + m ≤ N + (bif s2 then 1 else 0) := by
  subst hs
  rw [List.length_append, List.length_singleton]
  cases s2 with
  | true => simp only [Bool.cond_true, Bool.cond_false] at *; omega
  | false => have := h rfl; simp only [Bool.cond_false] at *; omega
theorem mn_b1 (s : Bool) : (bif s then 1 else 0) ≤ 1 := by cases s <;> decide
theorem mn_c1 {n m N : Nat} {s1 : Bool} (h : n + m ≤ N + (bif s1 then 1 else 0)) : n ≤ N + 1 := by
  cases s1 with
  | true => simp only [Bool.cond_true] at h; omega
  | false => simp only [Bool.cond_false] at h; omega

theorem many_u16 (w : World) (br : Nat) (n : Nat) (hn : n ≤ 4) (x : Nat) (hx : x ≤ 4294967295) (a : Option Addr) (c : Nat) (l : List UInt8) (s o : Bool) (i : InB w [.box br [.slice a (List.length l) c, .bool s, .bool o] 120] a c l) (hH : Heap w [.box br [.slice a (List.length l) c, .bool s, .bool o] 120]) : Calls Try.prog 147 #[pt br, ni n, ni x, .func (.func 148) #[] #[]] w fun e w' => ∃ ta tc oa oc xs, e = .returned (.slice oa (List.length xs) oc) ∧ Ev w [.box br [.slice a (List.length l) c, .bool s, .bool o] 120] w' [.box br [.slice ta (List.length (lsR n x 16777215 l s)) tc, .bool (lsS n x 16777215 l s || (mn u16M ((lsO n x 16777215 l s, lsS n x 16777215 l s, false) : PS)).2.2.1), .bool (o || (mn u16M ((lsO n x 16777215 l s, lsS n x 16777215 l s, false) : PS)).2.2.2)] 120, .vec oa oc 1 (List.flatMap fU16 xs) 37] ∧ Sub a c l ta tc (lsR n x 16777215 l s) ∧ List.map (fun y : RU16 => y) xs = (mn u16M ((lsO n x 16777215 l s, lsS n x 16777215 l s, false) : PS)).1 ∧ List.length xs ≤ List.length (lsO n x 16777215 l s) + 1 := by
 refine d_0 [(0, pt br), (1, ni n), (2, ni x), (3, .func (.func 148) #[] #[])] 69 Go.Proofs.Try.func147 Go.Proofs.Try.ntmps147 (hH) fun act0 En0 Hv0 => ?_
 refine d_s [0,1,2,3,8] [] En0 fun ac1 En2 => ?_
 refine wp_seq ?_
 refine region_from ?_
 refine d_k [0,3,8,12,13,14] [] 3 En2 fun ac3 En4 => ?_
 refine f_o ?_
 refine c_l [0] (M := [.box br [.slice a (List.length l) c, .bool s, .bool o] 120]) En4 Hv0 (fun hM10 => list_go _ br n (by omega) x 16777215 (by omega) (by omega) a c l s o ((i.ev Hv0).pick [0] (by kernel_rfl)) hM10) ?_
 rintro _ wo11 ⟨ao5, cp6, ta7, tc8, rfl, he12, hs9⟩
 refine ⟨_, _, [.box br [.slice ta7 (List.length (lsR n x 16777215 l s)) tc8, .bool (lsS n x 16777215 l s), .bool o] 120, .vec ao5 cp6 1 (bys (lsO n x 16777215 l s)) 5], rfl, he12, by kernel_rfl, fun ac14 En15 Hv16 => ?_⟩
 refine d_e [0,3,8,9] [] En15 fun ac17 En18 => ?_
 refine then_normal ?_
 refine wp_seq ?_
 refine region_from ?_
 refine d_k [0,3,8,16,19] [] 4 En18 fun ac19 En20 => ?_
 refine f_o ?_
 refine m_l 0 En20 Hv16 fun ac21 En22 => ?_
 refine d_k [0,3,8,21] [] 6 En22 fun ac23 En24 => ?_
 refine f_o ?_
 refine m_m 120 [.slice ao5 (List.length (lsO n x 16777215 l s)) cp6, .bool (lsS n x 16777215 l s), .bool false] En24 Hv16 fun ac26 wo27 bk25 En28 Hv29 => ?_
 refine d_e [0,3,8,10] [] En28 fun ac30 En31 => ?_
 refine then_normal ?_
 refine d_s [0,3,8,10,11] [] En31 fun ac32 En33 => ?_
 refine wp_seq ?_
 refine region_cut (F := fun ac wo => ∃ (oa : Option Addr) (oc : Nat) (xs : List (RU16)) (ra : Option Addr) (rc : Nat) (rl : Bs) (s1 : Bool) (o1 : Bool), Env ac 69 [(0, pt br), (3, .func (.func 148) #[] #[]), (8, .slice none 0 0), (10, pt bk25), (11, .slice oa (List.length xs) oc)] ∧ Ev w [.box br [.slice a (List.length l) c, .bool s, .bool o] 120] wo [.box br [.slice ta7 (List.length (lsR n x 16777215 l s)) tc8, .bool (lsS n x 16777215 l s), .bool o] 120, .box bk25 [.slice ra (List.length rl) rc, .bool s1, .bool o1] 120, .vec oa oc 1 (List.flatMap fU16 xs) 37] ∧ (mn u16M ((lsO n x 16777215 l s, lsS n x 16777215 l s, false) : PS) = (List.map (fun y : RU16 => y) xs, rl, s1, o1)) ∧ (List.length xs ≤ List.length (lsO n x 16777215 l s) + 1)) ?_ ?_
 ·
  refine wp_block ?_
  have Hv34 : Ev w [.box br [.slice a (List.length l) c, .bool s, .bool o] 120] wo27 [.box br [.slice ta7 (List.length (lsR n x 16777215 l s)) tc8, .bool (lsS n x 16777215 l s), .bool o] 120, .vec ao5 cp6 1 (bys (lsO n x 16777215 l s)) 5, .box bk25 [.slice ao5 (List.length (lsO n x 16777215 l s)) cp6, .bool (lsS n x 16777215 l s), .bool false] 120, .vec none 0 1 (List.flatMap fU16 []) 37] := Ev.nil (sz := 1) (T := 37) Hv29
  have hO32 : List.length (lsO n x 16777215 l s) ≤ 4294967295 := Nat.le_trans (tkO_len _ _ _) (Nat.le_of_lt_succ (nbV_4 hn l s))
  refine loop_m (fun ms35 ac wo => ∃ (oa : Option Addr) (oc : Nat) (xs : List (RU16)) (ra : Option Addr) (rc : Nat) (rl : Bs) (s1 : Bool) (o1 : Bool), ms35 = (bif s1 then 0 else List.length rl + 1 : Nat) ∧ Env ac 69 [(0, pt br), (3, .func (.func 148) #[] #[]), (8, .slice none 0 0), (10, pt bk25), (11, .slice oa (List.length xs) oc)] ∧ Ev w [.box br [.slice a (List.length l) c, .bool s, .bool o] 120] wo [.box bk25 [.slice ra (List.length rl) rc, .bool s1, .bool o1] 120, .box br [.slice ta7 (List.length (lsR n x 16777215 l s)) tc8, .bool (lsS n x 16777215 l s), .bool o] 120, .vec ao5 cp6 1 (bys (lsO n x 16777215 l s)) 5, .vec oa oc 1 (List.flatMap fU16 xs) 37] ∧ (Sub ao5 cp6 (lsO n x 16777215 l s) ra rc rl) ∧ (mn u16M ((lsO n x 16777215 l s, lsS n x 16777215 l s, false) : PS) = (List.map (fun y : RU16 => y) xs ++ (mn u16M (rl, s1, o1)).1, (mn u16M (rl, s1, o1)).2)) ∧ (List.length xs + List.length rl ≤ List.length (lsO n x 16777215 l s) + (bif s1 then 1 else 0))) ⟨_, none, 0, [], ao5, cp6, (lsO n x 16777215 l s), (lsS n x 16777215 l s), false, rfl, En33.sb, Hv34.pk [2, 0, 1, 3], Sub.self, rfl, (by rw [List.length_nil, Nat.zero_add]; exact Nat.le_add_right _ _)⟩ ?_
  rintro mm41 ac37 wo38 ⟨oa, oc, xs, ra, rc, rl, s1, o1, rfl, En39, Hv40, hsu, hmn, hct⟩
  refine wp_seq ?_
  refine wp_seq ?_
  refine region_from ?_
  refine d_k [0,3,8,10,11,25] [] 3 En39 fun ac42 En43 => ?_
  refine f_o ?_
  refine m_l 0 En43 Hv40 fun ac44 En45 => ?_
  refine d_k [0,3,8,10,11,28] [] 6 En45 fun ac46 En47 => ?_
  rcases Bool.eq_false_or_eq_true (!s1) with hb48 | hb48
  ·
   have En49 := En47.fx (t := 28) (congrArg Value.bool hb48)
   have hp50 : ¬ (s1 = true) := by simpa using hb48
   refine d_k [0,3,8,10,11,28,31] [] 9 En49 fun ac51 En52 => ?_
   refine f_o ?_
   refine m_l 0 En52 Hv40 fun ac53 En54 => ?_
   refine d_e [0,3,8,10,11,35] [] En54 fun ac55 En56 => ?_
   refine then_normal ?_
   refine c_d (((List.length rl : Nat) : Int) > (0 : Int)) En56 (fun hc57 => ?_) (fun hc57 => ?_)
   ·
    refine wp_skip ?_
    refine then_normal ?_
    refine wp_block ?_
    refine region_from ?_
    refine d_k [0,3,8,10,11,36,37,38] [] 3 En56 fun ac58 En59 => ?_
    refine f_o ?_
    refine c_l [0] (M := [.box bk25 [.slice ra (List.length rl) rc, .bool s1, .bool o1] 120]) En59 Hv40 (fun hM63 => u16_go _ bk25 ra rc rl s1 o1 (hsu _ _ (bys_in Hv40.heap (k := 2) rfl [0] (by kernel_rfl) rfl (by first | omega | (simp; done) | (simp; omega)))) hM63) ?_
    rintro _ wo64 ⟨ta60, tc61, rfl, he65, hs62⟩
    refine ⟨_, _, [.box bk25 [.slice ta60 (List.length (tkR 2 rl s1)) tc61, .bool (tkS 2 rl s1), .bool o1] 120, .box br [.slice ta7 (List.length (lsR n x 16777215 l s)) tc8, .bool (lsS n x 16777215 l s), .bool o] 120, .vec ao5 cp6 1 (bys (lsO n x 16777215 l s)) 5, .vec oa oc 1 (List.flatMap fU16 xs) 37], rfl, he65, by kernel_rfl, fun ac67 En68 Hv69 => ?_⟩
    refine f_o ?_
    refine op_lit (d := some 40) (t := 32) (T := 37) (m := 1) (parts := #[(0, .int .u16 ((UInt16.toNat (UInt16.ofNat (nbV 2 rl s1)) : Nat) : Int))]) (xs := List.flatMap fU16 ([UInt16.ofNat (nbV 2 rl s1)] : List (RU16))) (sz := 1) En68 (by kernel_rfl) (by kernel_rfl) rfl (by decide) Hv69 ?_
    intro ac71 wo72 bk70 En73 Hv74
    refine f_o ?_
    refine op_append (d := some 41) (t := 32) (tx := 32) (ty := 32) (k := 3) (p := List.length xs) (m := 1) (x := .slice (some ⟨bk70, 0, none⟩) 1 1) (bytes := 2) En73 (by kernel_rfl) Hv74 rfl (sv_len (f := fU16) (sz := 1) (fun _ => rfl) _) (Reads.src (size := 1) (tx := 32) (e' := 37) (by kernel_rfl) (Hv74.heap.reads (k := 4) rfl) rfl (fun e => by cases e) (flat_one (f := fU16) (fun _ => one_all rfl) _)) (by kernel_rfl) (z := .int .u16 0) (by kernel_rfl) rfl (by decide) (by have hb1 := mn_b1 s1; omega) (by unfold maxLen; have hb1 := mn_b1 s1; omega) ?_
    intro ac79 wo80 ao75 cp76 En81 Hv82 hnz _
    clear hnz
    rw [← List.flatMap_append] at Hv82
    have ehz77 : (List.length xs) + 1 = List.length (xs ++ ([UInt16.ofNat (nbV 2 rl s1)] : List (RU16))) := (by first | (simp; done) | (simp; omega) | omega)
    rw [ehz77] at En81
    refine d_e [0,3,8,10,11] [] En81 fun ac83 En84 => ?_
    refine block_normal ?_
    refine then_normal ?_
    have hl0 : 0 < List.length rl := by omega
    refine ⟨_, ⟨ao75, cp76, (xs ++ ([UInt16.ofNat (nbV 2 rl s1)] : List (RU16))), ta60, tc61, (tkR 2 rl s1), (tkS 2 rl s1), o1, rfl, En84.sb, Hv82.pk [0, 1, 2, 3], (hsu.trans hs62), (by rw [hmn, mn_step u16_dec (Bool.eq_false_iff.2 hp50) hl0, List.map_append, List.append_assoc]; rfl), (mn_ct (Bool.eq_false_iff.2 hp50) hct (dec_lt (o := o1) u16_dec (Bool.eq_false_iff.2 hp50) hl0) (dec_le (o := o1) u16_dec (Bool.eq_false_iff.2 hp50)) hl0)⟩, ?_⟩
    exact mn_mu (Bool.eq_false_iff.2 hp50) hl0 (dec_lt (o := o1) u16_dec (Bool.eq_false_iff.2 hp50) hl0)
   ·
    refine wp_exit ?_
    refine then_exit ?_
    refine then_exit ?_
    refine block_exit ?_
    exact ⟨rfl, ⟨oa, oc, xs, ra, rc, rl, s1, o1, En56.sb, Hv40.pk [1, 0, 3], (by rw [hmn, mn_end (p := (rl, s1, o1)) (by first | exact .inl (by assumption) | exact .inr (show rl = [] from List.length_eq_zero_iff.1 (by omega))), List.append_nil]), (mn_c1 hct)⟩⟩
  ·
   have En85 := En47.fx (t := 28) (congrArg Value.bool hb48)
   have hp86 : s1 = true := by simpa using hb48
   refine d_e [0,3,8,10,11,35] [] En85 fun ac87 En88 => ?_
   refine then_normal ?_
   refine c_f En88 ?_
   refine wp_exit ?_
   refine then_exit ?_
   refine then_exit ?_
   refine block_exit ?_
   exact ⟨rfl, ⟨oa, oc, xs, ra, rc, rl, s1, o1, En88.sb, Hv40.pk [1, 0, 3], (by rw [hmn, mn_end (p := (rl, s1, o1)) (by first | exact .inl (by assumption) | exact .inr (show rl = [] from List.length_eq_zero_iff.1 (by omega))), List.append_nil]), (mn_c1 hct)⟩⟩
 ·
  rintro ac89 wo90 ⟨oa, oc, xs, ra, rc, rl, s1, o1, En91, Hv92, hmn, hct⟩
  refine then_normal ?_
  refine wp_seq ?_
  rcases Bool.eq_false_or_eq_true (lsS n x 16777215 l s) with hb93 | hb93
  ·
   have hb93p : lsS n x 16777215 l s = true := hb93
   rcases Bool.eq_false_or_eq_true (o) with hb94 | hb94
   ·
    have hb94p : o = true := hb94
    refine r_c (fun ac wo => Env ac 69 [(0, pt br), (3, .func (.func 148) #[] #[]), (8, .slice none 0 0), (10, pt bk25), (11, .slice oa (List.length xs) oc)] ∧ Ev w [.box br [.slice a (List.length l) c, .bool s, .bool o] 120] wo [.box br [.slice ta7 (List.length (lsR n x 16777215 l s)) tc8, .bool true, .bool true] 120, .box bk25 [.slice ra (List.length rl) rc, .bool s1, .bool o1] 120, .vec oa oc 1 (List.flatMap fU16 xs) 37]) ?_ ?_
    ·
     refine h_s (fun wv => Ev w [.box br [.slice a (List.length l) c, .bool s, .bool o] 120] wv [.box br [.slice ta7 (List.length (lsR n x 16777215 l s)) tc8, .bool (lsS n x 16777215 l s), .bool o] 120]) [24] 28 ?_
     have wo95 := Hv92.trans (Ev.drew Hv92.heap)
     refine q_s [0,1,2,3,4] [] 23 En91 (wo95.pk [0]) fun ac176 En177 => ?_
     refine q_l 0 5 En177 (wo95.pk [0]) fun ac178 En179 => ?_
     refine q_s [6] [] 21 En179 (wo95.pk [0]) fun ac180 En181 => ?_
     have En182 := En181.fx (t := 47) (congrArg Value.bool hb93)
     have En183 := En182.fx (t := 48) (congrArg Value.bool hb93)
     refine q_s [7,8,9,10,11,12,13,14] [] 13 En183 (wo95.pk [0]) fun ac184 En185 => ?_
     refine q_l 0 15 En185 (wo95.pk [0]) fun ac186 En187 => ?_
     refine q_s [16] [] 11 En187 (wo95.pk [0]) fun ac188 En189 => ?_
     have En190 := En189.fx (t := 57) (congrArg Value.bool hb94)
     have En191 := En190.fx (t := 58) (congrArg Value.bool hb94)
     refine q_s [17,18,19,20,21,22,23] [] 4 En191 (wo95.pk [0]) fun ac192 En193 => ?_
     refine q_t 24 ?_
     refine m_s 0 [.box br [.slice ta7 (List.length (lsR n x 16777215 l s)) tc8, .bool true, .bool o] 120, .box bk25 [.slice ra (List.length rl) rc, .bool s1, .bool o1] 120, .vec oa oc 1 (List.flatMap fU16 xs) 37] En193 wo95 fun ac194 wo195 En196 Hv197 => ?_
     refine ⟨q_y, ?_⟩
     refine q_n [25,26] [] 1 En196 fun ac198 En199 => ?_
     refine q_t 27 ?_
     refine m_s 0 [.box br [.slice ta7 (List.length (lsR n x 16777215 l s)) tc8, .bool true, .bool true] 120, .box bk25 [.slice ra (List.length rl) rc, .bool s1, .bool o1] 120, .vec oa oc 1 (List.flatMap fU16 xs) 37] En199 Hv197 fun ac200 wo201 En202 Hv203 => ?_
     refine ⟨q_y, ?_⟩
     exact h_e ⟨En202.sb, Hv203.pk [0, 1, 2]⟩
    rintro ac204 wo205 ⟨En206, Hv207⟩
    refine then_normal ?_
    refine d_s [0,3,8,10,11] [] En206 fun ac208 En209 => ?_
    refine wp_ret ?_
    refine d_ret1 (t := 8) (v := .slice oa (List.length xs) oc) En209 (by kernel_rfl) (by kernel_rfl) ?_
    have e1 : (lsS n x 16777215 l s || s1) = true := by rw [hb93]; rfl
    have e2 : (o || o1) = true := by rw [hb94]; rfl
    have hfin : Ev w [.box br [.slice a (List.length l) c, .bool s, .bool o] 120] wo205 [.box br [.slice ta7 (List.length (lsR n x 16777215 l s)) tc8, .bool (lsS n x 16777215 l s || s1), .bool (o || o1)] 120, .vec oa oc 1 (List.flatMap fU16 xs) 37] := by rw [e1, e2]; exact Hv207.pk [0, 2]
    exact ⟨ta7, tc8, oa, oc, xs, rfl, by rw [hmn]; exact hfin, hs9, by rw [hmn], hct⟩
   ·
    have hb94p : ¬ (o = true) := Bool.eq_false_iff.1 hb94
    refine r_c (fun ac wo => Env ac 69 [(0, pt br), (3, .func (.func 148) #[] #[]), (8, .slice none 0 0), (10, pt bk25), (11, .slice oa (List.length xs) oc)] ∧ Ev w [.box br [.slice a (List.length l) c, .bool s, .bool o] 120] wo [.box br [.slice ta7 (List.length (lsR n x 16777215 l s)) tc8, .bool true, .bool o1] 120, .box bk25 [.slice ra (List.length rl) rc, .bool s1, .bool o1] 120, .vec oa oc 1 (List.flatMap fU16 xs) 37]) ?_ ?_
    ·
     refine h_s (fun wv => Ev w [.box br [.slice a (List.length l) c, .bool s, .bool o] 120] wv [.box br [.slice ta7 (List.length (lsR n x 16777215 l s)) tc8, .bool (lsS n x 16777215 l s), .bool o] 120, .box bk25 [.slice ra (List.length rl) rc, .bool s1, .bool o1] 120]) [24] 28 ?_
     have wo210 := Hv92.trans (Ev.drew Hv92.heap)
     refine q_s [0,1,2,3,4] [] 23 En91 (wo210.pk [0, 1]) fun ac303 En304 => ?_
     refine q_l 0 5 En304 (wo210.pk [0, 1]) fun ac305 En306 => ?_
     refine q_s [6] [] 21 En306 (wo210.pk [0, 1]) fun ac307 En308 => ?_
     have En309 := En308.fx (t := 47) (congrArg Value.bool hb93)
     have En310 := En309.fx (t := 48) (congrArg Value.bool hb93)
     refine q_s [7,8,9,10,11,12,13,14] [] 13 En310 (wo210.pk [0, 1]) fun ac311 En312 => ?_
     refine q_l 0 15 En312 (wo210.pk [0, 1]) fun ac313 En314 => ?_
     refine q_s [16] [] 11 En314 (wo210.pk [0, 1]) fun ac315 En316 => ?_
     have En317 := En316.fx (t := 57) (congrArg Value.bool hb94)
     have En318 := En317.fx (t := 58) (congrArg Value.bool hb94)
     refine q_s [17,18,19] [] 8 En318 (wo210.pk [0, 1]) fun ac319 En320 => ?_
     refine q_l 1 20 En320 (wo210.pk [0, 1]) fun ac321 En322 => ?_
     refine q_s [21,22,23] [] 4 En322 (wo210.pk [0, 1]) fun ac323 En324 => ?_
     refine q_t 24 ?_
     refine m_s 0 [.box br [.slice ta7 (List.length (lsR n x 16777215 l s)) tc8, .bool true, .bool o] 120, .box bk25 [.slice ra (List.length rl) rc, .bool s1, .bool o1] 120, .vec oa oc 1 (List.flatMap fU16 xs) 37] En324 wo210 fun ac325 wo326 En327 Hv328 => ?_
     refine ⟨q_y, ?_⟩
     refine q_n [25,26] [] 1 En327 fun ac329 En330 => ?_
     refine q_t 27 ?_
     refine m_s 0 [.box br [.slice ta7 (List.length (lsR n x 16777215 l s)) tc8, .bool true, .bool o1] 120, .box bk25 [.slice ra (List.length rl) rc, .bool s1, .bool o1] 120, .vec oa oc 1 (List.flatMap fU16 xs) 37] En330 Hv328 fun ac331 wo332 En333 Hv334 => ?_
     refine ⟨q_y, ?_⟩
     exact h_e ⟨En333.sb, Hv334.pk [0, 1, 2]⟩
    rintro ac335 wo336 ⟨En337, Hv338⟩
    refine then_normal ?_
    refine d_s [0,3,8,10,11] [] En337 fun ac339 En340 => ?_
    refine wp_ret ?_
    refine d_ret1 (t := 8) (v := .slice oa (List.length xs) oc) En340 (by kernel_rfl) (by kernel_rfl) ?_
    have e1 : (lsS n x 16777215 l s || s1) = true := by rw [hb93]; rfl
    have e2 : (o || o1) = o1 := by rw [hb94]; rfl
    have hfin : Ev w [.box br [.slice a (List.length l) c, .bool s, .bool o] 120] wo336 [.box br [.slice ta7 (List.length (lsR n x 16777215 l s)) tc8, .bool (lsS n x 16777215 l s || s1), .bool (o || o1)] 120, .vec oa oc 1 (List.flatMap fU16 xs) 37] := by rw [e1, e2]; exact Hv338.pk [0, 2]
    exact ⟨ta7, tc8, oa, oc, xs, rfl, by rw [hmn]; exact hfin, hs9, by rw [hmn], hct⟩
  ·
   have hb93p : ¬ (lsS n x 16777215 l s = true) := Bool.eq_false_iff.1 hb93
   rcases Bool.eq_false_or_eq_true (o) with hb341 | hb341
   ·
    have hb341p : o = true := hb341
    refine r_c (fun ac wo => Env ac 69 [(0, pt br), (3, .func (.func 148) #[] #[]), (8, .slice none 0 0), (10, pt bk25), (11, .slice oa (List.length xs) oc)] ∧ Ev w [.box br [.slice a (List.length l) c, .bool s, .bool o] 120] wo [.box br [.slice ta7 (List.length (lsR n x 16777215 l s)) tc8, .bool s1, .bool true] 120, .box bk25 [.slice ra (List.length rl) rc, .bool s1, .bool o1] 120, .vec oa oc 1 (List.flatMap fU16 xs) 37]) ?_ ?_
    ·
     refine h_s (fun wv => Ev w [.box br [.slice a (List.length l) c, .bool s, .bool o] 120] wv [.box br [.slice ta7 (List.length (lsR n x 16777215 l s)) tc8, .bool (lsS n x 16777215 l s), .bool o] 120, .box bk25 [.slice ra (List.length rl) rc, .bool s1, .bool o1] 120]) [24] 28 ?_
     have wo342 := Hv92.trans (Ev.drew Hv92.heap)
     refine q_s [0,1,2,3,4] [] 23 En91 (wo342.pk [0, 1]) fun ac457 En458 => ?_
     refine q_l 0 5 En458 (wo342.pk [0, 1]) fun ac459 En460 => ?_
     refine q_s [6] [] 21 En460 (wo342.pk [0, 1]) fun ac461 En462 => ?_
     have En463 := En462.fx (t := 47) (congrArg Value.bool hb93)
     have En464 := En463.fx (t := 48) (congrArg Value.bool hb93)
     refine q_s [7,8,9] [] 18 En464 (wo342.pk [0, 1]) fun ac465 En466 => ?_
     refine q_l 1 10 En466 (wo342.pk [0, 1]) fun ac467 En468 => ?_
     refine q_s [11,12,13,14] [] 13 En468 (wo342.pk [0, 1]) fun ac469 En470 => ?_
     refine q_l 0 15 En470 (wo342.pk [0, 1]) fun ac471 En472 => ?_
     refine q_s [16] [] 11 En472 (wo342.pk [0, 1]) fun ac473 En474 => ?_
     have En475 := En474.fx (t := 57) (congrArg Value.bool hb341)
     have En476 := En475.fx (t := 58) (congrArg Value.bool hb341)
     refine q_s [17,18,19,20,21,22,23] [] 4 En476 (wo342.pk [0, 1]) fun ac477 En478 => ?_
     refine q_t 24 ?_
     refine m_s 0 [.box br [.slice ta7 (List.length (lsR n x 16777215 l s)) tc8, .bool s1, .bool o] 120, .box bk25 [.slice ra (List.length rl) rc, .bool s1, .bool o1] 120, .vec oa oc 1 (List.flatMap fU16 xs) 37] En478 wo342 fun ac479 wo480 En481 Hv482 => ?_
     refine ⟨q_y, ?_⟩
     refine q_n [25,26] [] 1 En481 fun ac483 En484 => ?_
     refine q_t 27 ?_
     refine m_s 0 [.box br [.slice ta7 (List.length (lsR n x 16777215 l s)) tc8, .bool s1, .bool true] 120, .box bk25 [.slice ra (List.length rl) rc, .bool s1, .bool o1] 120, .vec oa oc 1 (List.flatMap fU16 xs) 37] En484 Hv482 fun ac485 wo486 En487 Hv488 => ?_
     refine ⟨q_y, ?_⟩
     exact h_e ⟨En487.sb, Hv488.pk [0, 1, 2]⟩
    rintro ac489 wo490 ⟨En491, Hv492⟩
    refine then_normal ?_
    refine d_s [0,3,8,10,11] [] En491 fun ac493 En494 => ?_
    refine wp_ret ?_
    refine d_ret1 (t := 8) (v := .slice oa (List.length xs) oc) En494 (by kernel_rfl) (by kernel_rfl) ?_
    have e1 : (lsS n x 16777215 l s || s1) = s1 := by rw [hb93]; rfl
    have e2 : (o || o1) = true := by rw [hb341]; rfl
    have hfin : Ev w [.box br [.slice a (List.length l) c, .bool s, .bool o] 120] wo490 [.box br [.slice ta7 (List.length (lsR n x 16777215 l s)) tc8, .bool (lsS n x 16777215 l s || s1), .bool (o || o1)] 120, .vec oa oc 1 (List.flatMap fU16 xs) 37] := by rw [e1, e2]; exact Hv492.pk [0, 2]
    exact ⟨ta7, tc8, oa, oc, xs, rfl, by rw [hmn]; exact hfin, hs9, by rw [hmn], hct⟩
   ·
    have hb341p : ¬ (o = true) := Bool.eq_false_iff.1 hb341
    refine r_c (fun ac wo => Env ac 69 [(0, pt br), (3, .func (.func 148) #[] #[]), (8, .slice none 0 0), (10, pt bk25), (11, .slice oa (List.length xs) oc)] ∧ Ev w [.box br [.slice a (List.length l) c, .bool s, .bool o] 120] wo [.box br [.slice ta7 (List.length (lsR n x 16777215 l s)) tc8, .bool s1, .bool o1] 120, .box bk25 [.slice ra (List.length rl) rc, .bool s1, .bool o1] 120, .vec oa oc 1 (List.flatMap fU16 xs) 37]) ?_ ?_
    ·
     refine h_s (fun wv => Ev w [.box br [.slice a (List.length l) c, .bool s, .bool o] 120] wv [.box br [.slice ta7 (List.length (lsR n x 16777215 l s)) tc8, .bool (lsS n x 16777215 l s), .bool o] 120, .box bk25 [.slice ra (List.length rl) rc, .bool s1, .bool o1] 120]) [24] 28 ?_
     have wo495 := Hv92.trans (Ev.drew Hv92.heap)
     refine q_s [0,1,2,3,4] [] 23 En91 (wo495.pk [0, 1]) fun ac630 En631 => ?_
     refine q_l 0 5 En631 (wo495.pk [0, 1]) fun ac632 En633 => ?_
     refine q_s [6] [] 21 En633 (wo495.pk [0, 1]) fun ac634 En635 => ?_
     have En636 := En635.fx (t := 47) (congrArg Value.bool hb93)
     have En637 := En636.fx (t := 48) (congrArg Value.bool hb93)
     refine q_s [7,8,9] [] 18 En637 (wo495.pk [0, 1]) fun ac638 En639 => ?_
     refine q_l 1 10 En639 (wo495.pk [0, 1]) fun ac640 En641 => ?_
     refine q_s [11,12,13,14] [] 13 En641 (wo495.pk [0, 1]) fun ac642 En643 => ?_
     refine q_l 0 15 En643 (wo495.pk [0, 1]) fun ac644 En645 => ?_
     refine q_s [16] [] 11 En645 (wo495.pk [0, 1]) fun ac646 En647 => ?_
     have En648 := En647.fx (t := 57) (congrArg Value.bool hb341)
     have En649 := En648.fx (t := 58) (congrArg Value.bool hb341)
     refine q_s [17,18,19] [] 8 En649 (wo495.pk [0, 1]) fun ac650 En651 => ?_
     refine q_l 1 20 En651 (wo495.pk [0, 1]) fun ac652 En653 => ?_
     refine q_s [21,22,23] [] 4 En653 (wo495.pk [0, 1]) fun ac654 En655 => ?_
     refine q_t 24 ?_
     refine m_s 0 [.box br [.slice ta7 (List.length (lsR n x 16777215 l s)) tc8, .bool s1, .bool o] 120, .box bk25 [.slice ra (List.length rl) rc, .bool s1, .bool o1] 120, .vec oa oc 1 (List.flatMap fU16 xs) 37] En655 wo495 fun ac656 wo657 En658 Hv659 => ?_
     refine ⟨q_y, ?_⟩
     refine q_n [25,26] [] 1 En658 fun ac660 En661 => ?_
     refine q_t 27 ?_
     refine m_s 0 [.box br [.slice ta7 (List.length (lsR n x 16777215 l s)) tc8, .bool s1, .bool o1] 120, .box bk25 [.slice ra (List.length rl) rc, .bool s1, .bool o1] 120, .vec oa oc 1 (List.flatMap fU16 xs) 37] En661 Hv659 fun ac662 wo663 En664 Hv665 => ?_
     refine ⟨q_y, ?_⟩
     exact h_e ⟨En664.sb, Hv665.pk [0, 1, 2]⟩
    rintro ac666 wo667 ⟨En668, Hv669⟩
    refine then_normal ?_
    refine d_s [0,3,8,10,11] [] En668 fun ac670 En671 => ?_
    refine wp_ret ?_
    refine d_ret1 (t := 8) (v := .slice oa (List.length xs) oc) En671 (by kernel_rfl) (by kernel_rfl) ?_
    have e1 : (lsS n x 16777215 l s || s1) = s1 := by rw [hb93]; rfl
    have e2 : (o || o1) = o1 := by rw [hb341]; rfl
    have hfin : Ev w [.box br [.slice a (List.length l) c, .bool s, .bool o] 120] wo667 [.box br [.slice ta7 (List.length (lsR n x 16777215 l s)) tc8, .bool (lsS n x 16777215 l s || s1), .bool (o || o1)] 120, .vec oa oc 1 (List.flatMap fU16 xs) 37] := by rw [e1, e2]; exact Hv669.pk [0, 2]
    exact ⟨ta7, tc8, oa, oc, xs, rfl, by rw [hmn]; exact hfin, hs9, by rw [hmn], hct⟩

end Go.Proofs.Ytofecellbfhnjaa

/- Layer 17: lists of numbers are read. -/

namespace Go.Proofs.Ytofecellbfhnjaa
open Go.Dbr
set_option maxRecDepth 100000
set_option maxHeartbeats 2000000
set_option linter.unusedVariables false
set_option linter.unusedSimpArgs false

def manyM {α : Type} (one : Bs → Bool → Bool → α × PS) (n x : Nat) (l : Bs) (s o : Bool) : List α × PS :=
  ((mn one (lsO n x 16777215 l s, lsS n x 16777215 l s, false)).1, lsR n x 16777215 l s, lsS n x 16777215 l s || (mn one (lsO n x 16777215 l s, lsS n x 16777215 l s, false)).2.2.1, o || (mn one (lsO n x 16777215 l s, lsS n x 16777215 l s, false)).2.2.2)
def gotA {α : Type} (q : α × PS) : Int := endV q.2.2.1 q.2.1.length q.2.2.2
def gotV {α : Type} (z : α) (q : α × PS) : α := if gotA q = 0 then q.1 else z
theorem gotV_0 {α : Type} {z : α} {q : α × PS} (h : gotA q = 0) : gotV z q = q.1 := by rw [gotV, if_pos h]
theorem gotV_n {α : Type} {z : α} {q : α × PS} {k : Int} (h : gotA q = k) (hk : k ≠ 0) : gotV z q = z := by rw [gotV, if_neg (by rw [h]; exact hk)]
theorem lsO_32 {n x y : Nat} (hn : n ≤ 4) (l : Bs) (s : Bool) : (lsO n x y l s).length + 1 ≤ 4294967296 := Nat.succ_le_of_lt (Nat.lt_of_le_of_lt (tkO_len _ _ _) (nbV_4 hn l s))
theorem getlist1 (w : World) (br : Nat) (a : Option Addr) (c : Nat) (l : List UInt8) (s o : Bool) (i : InB w [.box br [.slice a (List.length l) c, .bool s, .bool o] 120] a c l) (hH : Heap w [.box br [.slice a (List.length l) c, .bool s, .bool o] 120]) : Calls Try.prog 146 #[pt br] w fun e w' => ∃ ta tc oa oc xs, e = .returned (.slice oa (List.length xs) oc) ∧ Ev w [.box br [.slice a (List.length l) c, .bool s, .bool o] 120] w' [.box br [.slice ta (List.length ((manyM u16M 2 2 l s o).2.1)) tc, .bool ((manyM u16M 2 2 l s o).2.2.1), .bool ((manyM u16M 2 2 l s o).2.2.2)] 120, .vec oa oc 1 (List.flatMap fU16 xs) 37] ∧ Sub a c l ta tc (manyM u16M 2 2 l s o).2.1 ∧ List.map (fun y : RU16 => y) xs = (manyM u16M 2 2 l s o).1 ∧ List.length xs ≤ 4294967296 := by
 refine d_0 [(0, pt br)] 5 Go.Proofs.Try.func146 Go.Proofs.Try.ntmps146 (hH) fun act0 En0 Hv0 => ?_
 refine d_s [0,2] [] En0 fun ac1 En2 => ?_
 refine wp_seq ?_
 refine region_from ?_
 refine d_k [2,3] [] 1 En2 fun ac3 En4 => ?_
 refine f_o ?_
 refine c_l [0] (M := [.box br [.slice a (List.length l) c, .bool s, .bool o] 120]) En4 Hv0 (fun hM14 => many_u16 _ br 2 (by omega) 2 (by omega) a c l s o ((i.ev Hv0).pick [0] (by kernel_rfl)) hM14) ?_
 rintro _ wo15 ⟨ta5, tc6, oa7, oc8, xs9, rfl, he16, hs10, hmn11, hct12⟩
 refine ⟨_, _, [.box br [.slice ta5 (List.length (lsR 2 2 16777215 l s)) tc6, .bool (lsS 2 2 16777215 l s || (mn u16M ((lsO 2 2 16777215 l s, lsS 2 2 16777215 l s, false) : PS)).2.2.1), .bool (o || (mn u16M ((lsO 2 2 16777215 l s, lsS 2 2 16777215 l s, false) : PS)).2.2.2)] 120, .vec oa7 oc8 1 (List.flatMap fU16 xs9) 37], rfl, he16, by kernel_rfl, fun ac18 En19 Hv20 => ?_⟩
 refine d_e [2] [] En19 fun ac21 En22 => ?_
 refine then_normal ?_
 refine wp_ret ?_
 refine d_ret1 (t := 2) (v := .slice oa7 (List.length xs9) oc8) En22 (by kernel_rfl) (by kernel_rfl) ?_
 exact ⟨ta5, tc6, oa7, oc8, xs9, rfl, Hv20.pk [0, 1], hs10, hmn11, (Nat.le_trans hct12 (lsO_32 (by decide) _ _))⟩

theorem got_getlist (w : World) (a : Option Addr) (c : Nat) (l : Bs) (i : InB w [] a c l) : Calls Try.prog 145 #[.slice a (List.length l) c, .func (.func 146) #[] #[]] w fun e w' => ∃ oa oc xs, e = .returned (.tuple #[.slice oa (List.length xs) oc, .int .i64 (gotA (manyM u16M 2 2 l false false))]) ∧ Ev w [] w' [.vec oa oc 1 (List.flatMap fU16 xs) 37] ∧ List.map (fun y : RU16 => y) xs = gotV [] (manyM u16M 2 2 l false false) ∧ List.length xs ≤ 4294967296 := by
 refine d_0 [(0, .slice a (List.length l) c), (1, .func (.func 146) #[] #[])] 36 Go.Proofs.Try.func145 Go.Proofs.Try.ntmps145 (Heap.nil _) fun act0 En0 Hv0 => ?_
 refine d_s [0,1,4,5] [] En0 fun ac1 En2 => ?_
 refine d_s [0,1,4,5,6] [] En2 fun ac3 En4 => ?_
 refine wp_seq ?_
 refine region_from ?_
 refine d_k [1,4,5,6,10] [] 2 En4 fun ac5 En6 => ?_
 refine f_o ?_
 refine m_m 120 [.slice a (List.length l) c, .bool false, .bool false] En6 Hv0 fun ac8 wo9 bk7 En10 Hv11 => ?_
 refine d_e [1,4,5,6,7] [] En10 fun ac12 En13 => ?_
 refine then_normal ?_
 refine wp_seq ?_
 refine region_from ?_
 refine d_k [4,5,6,7,12,13] [] 2 En13 fun ac14 En15 => ?_
 refine f_o ?_
 refine c_l [0] (M := [.box bk7 [.slice a (List.length l) c, .bool false, .bool false] 120]) En15 Hv11 (fun hM24 => getlist1 _ bk7 a c l false false ((i.ev Hv11).pick [0] (by kernel_rfl)) hM24) ?_
 rintro _ wo25 ⟨ta16, tc17, oa20, oc21, xs22, rfl, he26, hs18, hpu19, hf23⟩
 refine ⟨_, _, [.box bk7 [.slice ta16 (List.length ((manyM u16M 2 2 l false false).2.1)) tc17, .bool ((manyM u16M 2 2 l false false).2.2.1), .bool ((manyM u16M 2 2 l false false).2.2.2)] 120, .vec oa20 oc21 1 (List.flatMap fU16 xs22) 37], rfl, he26, by kernel_rfl, fun ac28 En29 Hv30 => ?_⟩
 refine d_e [4,5,6,7,8] [] En29 fun ac31 En32 => ?_
 refine then_normal ?_
 refine wp_seq ?_
 refine wp_block ?_
 refine wp_seq ?_
 refine region_from ?_
 refine d_k [4,5,6,7,8,18] [] 3 En32 fun ac33 En34 => ?_
 refine f_o ?_
 refine m_l 0 En34 Hv30 fun ac35 En36 => ?_
 refine d_k [4,5,6,7,8,20] [] 5 En36 fun ac37 En38 => ?_
 rcases Bool.eq_false_or_eq_true ((manyM u16M 2 2 l false false).2.2.1) with hb39 | hb39
 ·
  have En40 := En38.fx (t := 20) (congrArg Value.bool hb39)
  have hp41 : (manyM u16M 2 2 l false false).2.2.1 = true := hb39
  refine d_e [4,5,6,7,8,15] [] En40 fun ac42 En43 => ?_
  refine then_normal ?_
  refine c_t En43 ?_
  refine d_s [4,5,6,7,8] [] En43 fun ac44 En45 => ?_
  refine wp_ret ?_
  refine block_ret ?_
  refine then_ret ?_
  refine d_ret2 (t := 4) (u := 5) (v := .slice none 0 0) (x := .int .i64 50) En45 (by kernel_rfl) (by kernel_rfl) (by kernel_rfl) ?_
  have eA : gotA (manyM u16M 2 2 l false false) = 50 := Eq.symm (by first | exact end_1 (by assumption) | exact end_2 (by omega) | exact end_3 (by assumption) (by omega) (by assumption))
  rw [gotV_n eA (by decide), eA]
  have Hv46 : Ev w [] wo25 [.box bk7 [.slice ta16 (List.length ((manyM u16M 2 2 l false false).2.1)) tc17, .bool ((manyM u16M 2 2 l false false).2.2.1), .bool ((manyM u16M 2 2 l false false).2.2.2)] 120, .vec oa20 oc21 1 (List.flatMap fU16 xs22) 37, .vec none 0 1 (List.flatMap fU16 []) 37] := Ev.nil (sz := 1) (T := 37) Hv30
  exact ⟨none, 0, [], rfl, Hv46.pk [2], rfl, (Nat.zero_le _)⟩
 ·
  have En47 := En38.fx (t := 20) (congrArg Value.bool hb39)
  have hp48 : ¬ ((manyM u16M 2 2 l false false).2.2.1 = true) := Bool.eq_false_iff.1 hb39
  refine d_k [4,5,6,7,8,20,23] [] 8 En47 fun ac49 En50 => ?_
  refine f_o ?_
  refine m_l 0 En50 Hv30 fun ac51 En52 => ?_
  refine d_e [4,5,6,7,8,15] [] En52 fun ac53 En54 => ?_
  refine then_normal ?_
  refine c_d (((List.length ((manyM u16M 2 2 l false false).2.1) : Nat) : Int) > (0 : Int)) En54 (fun hc55 => ?_) (fun hc55 => ?_)
  ·
   refine d_s [4,5,6,7,8] [] En54 fun ac56 En57 => ?_
   refine wp_ret ?_
   refine block_ret ?_
   refine then_ret ?_
   refine d_ret2 (t := 4) (u := 5) (v := .slice none 0 0) (x := .int .i64 50) En57 (by kernel_rfl) (by kernel_rfl) (by kernel_rfl) ?_
   have eA : gotA (manyM u16M 2 2 l false false) = 50 := Eq.symm (by first | exact end_1 (by assumption) | exact end_2 (by omega) | exact end_3 (by assumption) (by omega) (by assumption))
   rw [gotV_n eA (by decide), eA]
   have Hv58 : Ev w [] wo25 [.box bk7 [.slice ta16 (List.length ((manyM u16M 2 2 l false false).2.1)) tc17, .bool ((manyM u16M 2 2 l false false).2.2.1), .bool ((manyM u16M 2 2 l false false).2.2.2)] 120, .vec oa20 oc21 1 (List.flatMap fU16 xs22) 37, .vec none 0 1 (List.flatMap fU16 []) 37] := Ev.nil (sz := 1) (T := 37) Hv30
   exact ⟨none, 0, [], rfl, Hv58.pk [2], rfl, (Nat.zero_le _)⟩
  ·
   refine wp_seq ?_
   refine region_from ?_
   refine d_k [4,5,6,7,8,32] [] 3 En54 fun ac59 En60 => ?_
   refine f_o ?_
   refine m_l 0 En60 Hv30 fun ac61 En62 => ?_
   refine d_e [4,5,6,7,8,29] [] En62 fun ac63 En64 => ?_
   refine then_normal ?_
   refine cond_at En64 (t := (manyM u16M 2 2 l false false).2.2.2) (by kernel_rfl) (fun hc65 => ?_) (fun hc65 => ?_)
   ·
    replace hc65 : (manyM u16M 2 2 l false false).2.2.2 = true := hc65
    refine d_s [4,5,6,7,8] [] En64 fun ac66 En67 => ?_
    refine wp_ret ?_
    refine block_ret ?_
    refine then_ret ?_
    refine d_ret2 (t := 4) (u := 5) (v := .slice none 0 0) (x := .int .i64 47) En67 (by kernel_rfl) (by kernel_rfl) (by kernel_rfl) ?_
    have eA : gotA (manyM u16M 2 2 l false false) = 47 := Eq.symm (by first | exact end_1 (by assumption) | exact end_2 (by omega) | exact end_3 (by assumption) (by omega) (by assumption))
    rw [gotV_n eA (by decide), eA]
    have Hv68 : Ev w [] wo25 [.box bk7 [.slice ta16 (List.length ((manyM u16M 2 2 l false false).2.1)) tc17, .bool ((manyM u16M 2 2 l false false).2.2.1), .bool ((manyM u16M 2 2 l false false).2.2.2)] 120, .vec oa20 oc21 1 (List.flatMap fU16 xs22) 37, .vec none 0 1 (List.flatMap fU16 []) 37] := Ev.nil (sz := 1) (T := 37) Hv30
    exact ⟨none, 0, [], rfl, Hv68.pk [2], rfl, (Nat.zero_le _)⟩
   ·
    replace hc65 : ¬ ((manyM u16M 2 2 l false false).2.2.2 = true) := Bool.eq_false_iff.1 hc65
    refine wp_skip ?_
    refine block_normal ?_
    refine then_normal ?_
    refine d_s [4,5,6,7] [] En64 fun ac69 En70 => ?_
    refine wp_ret ?_
    refine d_ret2 (t := 4) (u := 5) (v := .slice oa20 (List.length xs22) oc21) (x := .int .i64 0) En70 (by kernel_rfl) (by kernel_rfl) (by kernel_rfl) ?_
    have eA : gotA (manyM u16M 2 2 l false false) = 0 := (end_4 (by assumption) (by omega) (by assumption)).symm
    rw [gotV_0 eA, eA]
    exact ⟨oa20, oc21, xs22, rfl, Hv30.pk [1], hpu19, hf23⟩

theorem getlist_go (w : World) (aq : Option Addr) (nq cq : Nat) (lq : List UInt8) (eq : nq = List.length lq) (iq : InB w [] aq cq lq) : Calls Try.prog 43 #[.slice aq nq cq] w fun e w' => ∃ oa oc xs, e = .returned (.tuple #[.slice oa (List.length xs) oc, .int .i64 (gotA (manyM u16M 2 2 lq false false))]) ∧ Ev w [] w' [.vec oa oc 1 (List.flatMap fU16 xs) 37] ∧ List.map (fun y : RU16 => y) xs = gotV [] (manyM u16M 2 2 lq false false) ∧ List.length xs ≤ 4294967296 := by
 subst eq
 refine d_0 [(0, .slice aq (List.length lq) cq)] 8 Go.Proofs.Try.func43 Go.Proofs.Try.ntmps43 (Heap.nil _) fun act0 En0 Hv0 => ?_
 refine d_s [0,2,3] [] En0 fun ac1 En2 => ?_
 refine wp_seq ?_
 refine region_from ?_
 refine d_k [2,3,4] [] 1 En2 fun ac3 En4 => ?_
 refine f_o ?_
 refine c_0 En4 Hv0 (got_getlist _ aq cq lq ((iq.ev Hv0).pick [] (by kernel_rfl))) ?_
 rintro _ wo11 ⟨oa5, oc6, xs7, rfl, he12, hpu8, hf9⟩
 refine ⟨_, _, _, rfl, he12, rfl, fun ac14 En15 Hv16 => ?_⟩
 refine d_e [2,3] [] En15 fun ac17 En18 => ?_
 refine then_normal ?_
 refine wp_ret ?_
 refine d_ret2 (t := 2) (u := 3) (v := .slice oa5 (List.length xs7) oc6) (x := .int .i64 (gotA (manyM u16M 2 2 lq false false))) En18 (by kernel_rfl) (by kernel_rfl) (by kernel_rfl) ?_
 exact ⟨oa5, oc6, xs7, rfl, Hv16.pk [0], hpu8, hf9⟩

end Go.Proofs.Ytofecellbfhnjaa

/- Layer 17: lists of numbers, as the document reads them; compared. -/

namespace Go.Proofs.Ytofecellbfhnjaa
open Go.Dbr
set_option maxRecDepth 100000
set_option maxHeartbeats 2000000
set_option linter.unusedVariables false
set_option linter.unusedSimpArgs false

theorem same_step {α β : Type} {f : α → β} {xs ys : List α} {i : Nat} {x y : α} (hx : xs[i]? = some x) (hy : ys[i]? = some y) (e : f x = f y) (h : List.take i (List.map f xs) = List.take i (List.map f ys)) : List.take (i + 1) (List.map f xs) = List.take (i + 1) (List.map f ys) := by
  rw [List.take_add_one, List.take_add_one, List.getElem?_map, List.getElem?_map, hx, hy, h]
  show _ ++ [f x] = _ ++ [f y]
  rw [e]
theorem same_no {α β : Type} [BEq β] [LawfulBEq β] {f : α → β} {xs ys : List α} {i : Nat} {x y : α} (hx : xs[i]? = some x) (hy : ys[i]? = some y) (e : ¬ f x = f y) : false = (List.map f xs == List.map f ys) := by
  refine (beq_false_of_ne fun g => e ?_).symm
  have := congrArg (fun l => l[i]?) g
  simp only [List.getElem?_map, hx, hy, Option.map_some, Option.some.injEq] at this
  exact this
theorem same_len {α β : Type} [BEq β] [LawfulBEq β] {f : α → β} {xs ys : List α} (e : ¬ xs.length = ys.length) : false = (List.map f xs == List.map f ys) := by
  refine (beq_false_of_ne fun g => e ?_).symm
  have := congrArg List.length g
  rwa [List.length_map, List.length_map] at this
theorem same_all {α β : Type} [BEq β] [LawfulBEq β] {f : α → β} {xs ys : List α} {i : Nat} (e : xs.length = ys.length) (hi : ¬ i < xs.length) (h : List.take i (List.map f xs) = List.take i (List.map f ys)) : true = (List.map f xs == List.map f ys) := by
  rw [List.take_of_length_le (by rw [List.length_map]; omega), List.take_of_length_le (by rw [List.length_map]; omega)] at h
  rw [h]
  exact (beq_self_eq_true _).symm
theorem u16_eq {x y : UInt16} (h : ((UInt16.toNat x : Nat) : Int) = ((UInt16.toNat y : Nat) : Int)) : x = y := UInt16.toNat_inj.1 (by omega)

theorem samenum_go (w : World) (ap : Option Addr) (cp : Nat) (xp : List RU16) (ip : InS fU16 2 (fun x : RU16 => True) w [] ap cp xp) (aq : Option Addr) (cq : Nat) (xq : List RU16) (iq : InS fU16 2 (fun x : RU16 => True) w [] aq cq xq) : Calls Try.prog 45 #[.slice ap (List.length xp) cp, .slice aq (List.length xq) cq] w fun e w' => e = .returned (.bool (List.map (fun y : RU16 => y) xp == List.map (fun y : RU16 => y) xq)) ∧ Ev w [] w' [] := by
 have hsp := ip.small
 refine d_0 [(0, .slice ap (List.length xp) cp), (1, .slice aq (List.length xq) cq)] 26 Go.Proofs.Try.func45 Go.Proofs.Try.ntmps45 (Heap.nil _) fun act0 En0 Hv0 => ?_
 refine d_s [0,1,4] [] En0 fun ac1 En2 => ?_
 refine wp_seq ?_
 refine d_s [0,1,4,10] [] En2 fun ac3 En4 => ?_
 refine c_n ((List.length xp : Nat) : Int) ((List.length xq : Nat) : Int) En4 (fun hc5 => ?_) (fun hc5 => ?_)
 ·
  refine d_s [0,1,4] [] En4 fun ac6 En7 => ?_
  refine wp_ret ?_
  refine then_ret ?_
  refine d_ret1 (t := 4) (v := .bool false) En7 (by kernel_rfl) (by kernel_rfl) ?_
  exact ⟨congrArg (fun b => Ending.returned (Value.bool b)) (same_len (by omega)), Hv0.pk []⟩
 ·
  refine wp_skip ?_
  refine then_normal ?_
  refine wp_seq ?_
  refine d_s [0,1,4,5] [] En4 fun ac8 En9 => ?_
  refine wp_block ?_
  refine loop_m (fun ms10 ac wo => ∃ (i : Nat), ms10 = (List.length xp + 1 - i : Nat) ∧ Env ac 26 [(0, .slice ap (List.length xp) cp), (1, .slice aq (List.length xq) cq), (5, ni i)] ∧ Ev w [] wo [] ∧ (List.take i (List.map (fun y : RU16 => y) xp) = List.take i (List.map (fun y : RU16 => y) xq))) ⟨_, 0, rfl, En9.sb, Hv0.pk [], rfl⟩ ?_
  rintro mm16 ac12 wo13 ⟨i, rfl, En14, Hv15, hp⟩
  refine wp_seq ?_
  refine d_s [0,1,5,14] [] En14 fun ac17 En18 => ?_
  refine c_d (((i : Nat) : Int) < ((List.length xp : Nat) : Int)) En18 (fun hc19 => ?_) (fun hc19 => ?_)
  ·
   refine wp_skip ?_
   refine then_normal ?_
   refine wp_seq ?_
   refine wp_block ?_
   refine wp_seq ?_
   have hb20 : i < List.length xp := by omega
   obtain ⟨x22, hx21⟩ : ∃ x, (xp)[i]? = some x := ⟨_, List.getElem?_eq_getElem hb20⟩
   obtain _ := ip.each _ (List.mem_of_getElem? hx21)
   obtain ⟨adp, hadp⟩ := some_of ip.nz (show i < List.length xp by omega)
   have hb23 : i < List.length xq := by omega
   obtain ⟨x25, hx24⟩ : ∃ x, (xq)[i]? = some x := ⟨_, List.getElem?_eq_getElem hb23⟩
   obtain _ := iq.each _ (List.mem_of_getElem? hx24)
   obtain ⟨adq, hadq⟩ := some_of iq.nz (show i < List.length xq by omega)
   refine r_c (fun ac wo => Env ac 26 [(0, .slice ap (List.length xp) cp), (1, .slice aq (List.length xq) cq), (5, ni i), (25, .bool (((UInt16.toNat x22 : Nat) : Int) != ((UInt16.toNat x25 : Nat) : Int)))] ∧ Ev w [] wo []) ?_ ?_
   ·
    refine s_g0 [(0, .slice ap (List.length xp) cp), (1, .slice aq (List.length xq) cq), (5, ni i)] [0,1,2,3,4,5,6,7,8] [(17, .slice ap (List.length xp) cp), (18, ni i), (19, .pointer (some (Addr.add adp i))), (20, uv16 x22), (21, .slice aq (List.length xq) cq), (22, ni i), (23, .pointer (some (Addr.add adq i))), (24, uv16 x25), (25, .bool (((UInt16.toNat x22 : Nat) : Int) != ((UInt16.toNat x25 : Nat) : Int)))] 0 [(0, .slice ap (List.length xp) cp), (1, .slice aq (List.length xq) cq), (5, ni i), (25, .bool (((UInt16.toNat x22 : Nat) : Int) != ((UInt16.toNat x25 : Nat) : Int)))] (En18.sb) (Hv15.trans (Ev.drew Hv15.heap)) ?_ fun ac60 wo61 En62 Hv63 => ?_
    ·
     refine s_p [] ?_
     refine s_p [] ?_
     have hb28 : i < List.length xp := (by omega)
     refine s_c (fun Mx29 ac30 wo31 En32 Hv33 => ?_) ?_
     ·
      refine q_v (x := Instr.indexAt 32 (.slice ap (List.length xp) cp) (ni i)) (v := .pointer (some (Addr.add adp i))) En32 (Go.Dbr.run_indexsl (e := 37) (sz := 1) (j := i) (jo := i) hadp (by kernel_rfl) (by kernel_rfl) (by omega) hb28 (Nat.mul_one _) _) fun ac34 En35 => ?_
      exact s_e En35 Hv33
     refine s_c (fun Mx36 ac37 wo38 En39 Hv40 => ?_) ?_
     ·
      refine op_loadf (d := some 20) (t := 37) (ad := adp) (ao := ap) (ys := List.flatMap fU16 xp) (o := i) (v := uv16 x22) En39 (by kernel_rfl) rfl (ip.ro.ev Hv40).reads hadp ((flat_get1 (fun _ _ => rfl) hx21).trans rfl) (by kernel_rfl) ?_
      intro ac41 En42
      exact s_e En42 Hv40
     refine s_p [] ?_
     refine s_p [] ?_
     have hb45 : i < List.length xq := (by omega)
     refine s_c (fun Mx46 ac47 wo48 En49 Hv50 => ?_) ?_
     ·
      refine q_v (x := Instr.indexAt 32 (.slice aq (List.length xq) cq) (ni i)) (v := .pointer (some (Addr.add adq i))) En49 (Go.Dbr.run_indexsl (e := 37) (sz := 1) (j := i) (jo := i) hadq (by kernel_rfl) (by kernel_rfl) (by omega) hb45 (Nat.mul_one _) _) fun ac51 En52 => ?_
      exact s_e En52 Hv50
     refine s_c (fun Mx53 ac54 wo55 En56 Hv57 => ?_) ?_
     ·
      refine op_loadf (d := some 24) (t := 37) (ad := adq) (ao := aq) (ys := List.flatMap fU16 xq) (o := i) (v := uv16 x25) En56 (by kernel_rfl) rfl (iq.ro.ev Hv57).reads hadq ((flat_get1 (fun _ _ => rfl) hx24).trans rfl) (by kernel_rfl) ?_
      intro ac58 En59
      exact s_e En59 Hv57
     refine s_p [] ?_
     exact s_n
    exact a_e ⟨En62.sb, Hv63.pk []⟩
   rintro ac64 wo65 ⟨En66, Hv67⟩
   refine then_normal ?_
   refine c_n ((UInt16.toNat x22 : Nat) : Int) ((UInt16.toNat x25 : Nat) : Int) En66 (fun hc68 => ?_) (fun hc68 => ?_)
   ·
    refine d_s [0,1,4,5] [] En66 fun ac69 En70 => ?_
    refine wp_ret ?_
    refine block_ret ?_
    refine then_ret ?_
    refine then_ret ?_
    refine block_ret ?_
    refine then_ret ?_
    refine d_ret1 (t := 4) (v := .bool false) En70 (by kernel_rfl) (by kernel_rfl) ?_
    exact ⟨congrArg (fun b => Ending.returned (Value.bool b)) (same_no hx21 hx24 (fun g => absurd (congrArg (fun z : UInt16 => ((UInt16.toNat z : Nat) : Int)) g) (by assumption))), Hv67.pk []⟩
   ·
    refine wp_skip ?_
    refine block_normal ?_
    refine then_normal ?_
    refine d_r [0,1,5] [(1, g_n (w_a i 1))] En66 fun ac71 En72 => ?_
    refine then_normal ?_
    refine ⟨_, ⟨i + 1, rfl, En72.sb, Hv67.pk [], (same_step hx21 hx24 (u16_eq (by first | assumption | exact Classical.not_not.1 (by assumption))) hp)⟩, ?_⟩
    omega
  ·
   refine wp_exit ?_
   refine then_exit ?_
   refine then_exit ?_
   refine block_exit ?_
   refine then_normal ?_
   refine d_s [0,1,4,5] [] En18 fun ac73 En74 => ?_
   refine wp_ret ?_
   refine d_ret1 (t := 4) (v := .bool true) En74 (by kernel_rfl) (by kernel_rfl) ?_
   exact ⟨congrArg (fun b => Ending.returned (Value.bool b)) (same_all (by omega) (by omega) hp), Hv15.pk []⟩

end Go.Proofs.Ytofecellbfhnjaa

/- []byte(s): over any program. -/


namespace Go.Dbr
open Go Go.RowKit
section
variable {P : Program} {ops : Array Oper} {Q : Exit → Act → World → Prop} {n i : Nat} {l : List (Nat × Value)} {a : Act} {w w0 : World} {L L0 : List Ent} {d : Option Tmp} {K : Act → World → Prop}
theorem bytesRow_size (s : List UInt8) (cap : Nat) (h : s.length ≤ cap) : (bytesRow (bstr s) cap).size = cap := by
  rw [bytesRow, Array.size_append, Array.size_map, Array.size_replicate, bstr_size]
  have : (bstr s).data.size = s.length := by simp [bstr]
  omega
theorem bytesRow_get (s : List UInt8) (cap j : Nat) (h : j < s.length) : (bytesRow (bstr s) cap)[j]? = (bys s)[j]? := by
  have e : (bstr s).data = s.toArray := by simp [bstr]
  rw [bytesRow, e, Array.getElem?_append_left (by simpa using h)]
  simp [bys]
  rfl
theorem op_bytes (E : Env a n l) {src dst e : TypeId} {s : List UInt8} (h : opAt ops n i l = some (.run d (nv (convert src dst (.string (bstr s)))))) (hs : P.underlying src = some .string) (hd : P.underlying dst = some (.slice e)) (he : P.underlying e = some (.int .u8)) (H : Ev w0 L0 w L) (hl : s.length ≤ maxLen)
    (next : ∀ a' w' b cap, Env a' n (putl d (.slice (some ⟨b, 0, none⟩) s.length cap) l) → Ev w0 L0 w' (L ++ [.vec (some ⟨b, 0, none⟩) cap 1 (bys s) e]) → s.length ≤ cap → K a' w') : wpOp P ops Q i K a w := by
  have hr := run_bytes_of_string (P := P) w src dst e (bstr s) hs hd he
  rw [bstr_size] at hr
  have hge := grownCap_ge w s.length 0 e
  have hle := grownCap_le_maxLen w s.length 0 e hl
  refine any_run E h (run_nv hr) fun a' E' => next a' _ w.heap.size _ E' ?_ hge
  refine H.trans ((Ev.drew H.heap).trans (Ev.add (Ev.drew H.heap).heap (chg_alloc _ _ _) ⟨rfl, hle, ?_, _, _, heap_alloc_new w.drew _, .inr (Nat.le_refl _), ?_, fun j hj => ?_⟩ (fun b hb => ?_)))
  · rw [bys_length, Nat.mul_one]; exact hge
  · rw [bytesRow_size _ _ hge, Nat.mul_one, Nat.zero_add]; exact Nat.le_refl _
  · rw [bys_length] at hj
    rw [Nat.zero_add]
    exact bytesRow_get _ _ _ hj
  · simp only [Ent.own, Option.map_some, Option.some.injEq] at hb
    have : w.drew.heap.size = w.heap.size := rfl
    omega
end
end Go.Dbr

/- Layer 17: writers. -/


namespace Go.Proofs.Ytofecellbfhnjaa
open Go.Dbr
set_option maxRecDepth 100000
set_option maxHeartbeats 2000000
set_option linter.unusedVariables false
set_option linter.unusedSimpArgs false

/-- so many bytes of a number, the highest first -/
def beN (n v : Nat) : Bs := (List.range n).map fun j => UInt8.ofNat (v / 256 ^ (n - 1 - j))
theorem beN_len (n v : Nat) : (beN n v).length = n := by simp [beN]
theorem beN_take {n v j : Nat} (h : j < n) : List.take (j + 1) (beN n v) = List.take j (beN n v) ++ [UInt8.ofNat (v / 256 ^ (n - 1 - j))] := by
  rw [List.take_add_one]
  congr 1
  simp [beN, h]
theorem p256 (i : Nat) : (2 : Nat) ^ (8 * i) = 256 ^ i := by rw [Nat.pow_mul]
theorem u64_byte {v : UInt64} {i : Nat} (h : i < 8) : UInt64.toUInt8 (v >>> UInt64.ofNat (8 * i)) = UInt8.ofNat (v.toNat / 256 ^ i) := by
  apply UInt8.toNat_inj.1
  rw [UInt64.toNat_toUInt8, UInt64.toNat_shiftRight, UInt8.toNat_ofNat']
  have h1 : (UInt64.ofNat (8 * i)).toNat = 8 * i := by rw [UInt64.toNat_ofNat']; omega
  rw [h1, Nat.mod_eq_of_lt (show 8 * i < 64 by omega), Nat.shiftRight_eq_div_pow, p256]
theorem wn_step {n v j : Nat} {m l : Bs} {b : UInt8} (hm : m = l ++ List.take j (beN n v)) (h : j < n) (hb : b = UInt8.ofNat (v / 256 ^ (n - 1 - j))) : m ++ [b] = l ++ List.take (j + 1) (beN n v) := by
  rw [beN_take h, hm, hb, List.append_assoc]
theorem wn_all {n v j : Nat} {m l : Bs} (hm : m = l ++ List.take j (beN n v)) (h : j = n) : m = l ++ beN n v := by
  rw [hm, List.take_of_length_le (by rw [beN_len, h]; exact Nat.le_refl _)]
def wbad (n x y k : Nat) (bad : Bool) : Bool := bad || (decide (k < x) || (decide (y < k) || decide (0 < k / 2 ^ (8 * n))))
theorem wb1 {n x y k : Nat} {bad : Bool} (h : bad = true) : true = wbad n x y k bad := by subst h; rfl
theorem wb2 {n x y k : Nat} {bad : Bool} (h : k < x) : true = wbad n x y k bad := by rw [wbad, decide_eq_true h, Bool.true_or, Bool.or_true]
theorem wb3 {n x y k : Nat} {bad : Bool} (h : y < k) : true = wbad n x y k bad := by rw [wbad, decide_eq_true h, Bool.true_or, Bool.or_true, Bool.or_true]
theorem wb4 {n x y k : Nat} {bad : Bool} (h : ¬ bad = true) (h1 : ¬ k < x) (h2 : ¬ y < k) : decide (((k / 2 ^ (8 * n) : Nat) : Int) > 0) = wbad n x y k bad := by
  rw [wbad, Bool.eq_false_iff.2 h, decide_eq_false h1, decide_eq_false h2, Bool.false_or, Bool.false_or, Bool.false_or]
  exact decide_eq_decide.2 (by omega)
/-- what a writer gives -/
def doneL (bad : Bool) (l : Bs) : Bs := bif bad then [] else l

theorem wnum_go (w : World) (bw : Nat) (a : Option Addr) (c : Nat) (l : Bs) (bad : Bool) (n : Nat) (hn : n ≤ 4) (v : UInt64) (hb : List.length l + n ≤ 200000000000000) (hH : Heap w [.box bw [.slice a (List.length l) c, .bool bad] 115, .vec a c 1 (bys l) 5]) : Calls Try.prog 126 #[pt bw, ni n, uv64 v] w fun e w' => ∃ a' c', e = .returned (.tuple #[]) ∧ Ev w [.box bw [.slice a (List.length l) c, .bool bad] 115, .vec a c 1 (bys l) 5] w' [.box bw [.slice a' (List.length (l ++ beN n v.toNat)) c', .bool bad] 115, .vec a' c' 1 (bys (l ++ beN n v.toNat)) 5] := by
 refine d_0 [(0, pt bw), (1, ni n), (2, uv64 v)] 27 Go.Proofs.Try.func126 Go.Proofs.Try.ntmps126 (hH) fun act0 En0 Hv0 => ?_
 refine d_s [0,2,6] [(1, g_n (w_r (e := ((n : Nat) : Int) - (1 : Int)) (x := ((n : Nat) : Int) - 1 - ((0 : Nat) : Int)) (by omega)))] En0 fun ac1 En2 => ?_
 refine wp_block ?_
 refine loop_m (fun ms3 ac wo => ∃ (j : Nat) (wa : Option Addr) (wc : Nat) (m : Bs), ms3 = (n - j : Nat) ∧ Env ac 27 [(0, pt bw), (2, uv64 v), (6, .int .i64 (((n : Nat) : Int) - 1 - ((j : Nat) : Int)))] ∧ Ev w [.box bw [.slice a (List.length l) c, .bool bad] 115, .vec a c 1 (bys l) 5] wo [.box bw [.slice wa (List.length m) wc, .bool bad] 115, .vec wa wc 1 (bys m) 5] ∧ (j ≤ n) ∧ (m = l ++ List.take j (beN n v.toNat)) ∧ (List.length m = List.length l + j)) ⟨_, 0, a, c, l, rfl, En2.sb, Hv0.pk [0, 1], (by omega), (by rw [List.take_zero, List.append_nil]), rfl⟩ ?_
 rintro mm9 ac5 wo6 ⟨j, wa, wc, m, rfl, En7, Hv8, hj, hm, hml⟩
 refine wp_seq ?_
 refine d_s [0,2,6,10] [] En7 fun ac10 En11 => ?_
 refine c_d (((n : Nat) : Int) - 1 - ((j : Nat) : Int) ≥ (0 : Int)) En11 (fun hc12 => ?_) (fun hc12 => ?_)
 ·
  refine wp_skip ?_
  refine then_normal ?_
  refine wp_seq ?_
  refine wp_block ?_
  have hjn : j < n := by omega
  refine r_c (fun ac wo => ∃ (ao77 : Option Addr) (cp78 : Nat), Env ac 27 [(0, pt bw), (2, uv64 v), (6, .int .i64 (((n : Nat) : Int) - 1 - ((j : Nat) : Int)))] ∧ Ev w [.box bw [.slice a (List.length l) c, .bool bad] 115, .vec a c 1 (bys l) 5] wo [.box bw [.slice ao77 (List.length (m ++ [UInt64.toUInt8 (v >>> UInt64.ofNat (8 * (n - 1 - j)))])) cp78, .bool bad] 115, .vec ao77 cp78 1 (bys (m ++ [UInt64.toUInt8 (v >>> UInt64.ofNat (8 * (n - 1 - j)))])) 5]) ?_ ?_
  ·
   refine h_s (fun wv => Ev w [.box bw [.slice a (List.length l) c, .bool bad] 115, .vec a c 1 (bys l) 5] wv [.box bw [.slice wa (List.length m) wc, .bool bad] 115]) [14] 15 ?_
   have wo13 := Hv8.trans (Ev.drew Hv8.heap)
   refine q_s [0,1,2,3] [] 11 En11 (wo13.pk [0]) fun ac91 En92 => ?_
   refine q_l 0 4 En92 (wo13.pk [0]) fun ac93 En94 => ?_
   refine q_s [5,6,7] [(6, g_i .i64 (show ((n : Nat) : Int) - 1 - ((j : Nat) : Int) = ((n - 1 - j : Nat) : Int) from by omega)), (7, g_n (w_m 8 (n - 1 - j)))] 7 En94 (wo13.pk [0]) fun ac95 En96 => ?_
   refine q_f 8 En96 (fun _ => Go.Dbr.run_shr_u64 v .i64 (8 * (n - 1 - j)) (by omega) _) (fun _ => wo13.pk [0]) fun ac97 En98 => ?_
   refine q_s [9] [(9, g_i .u8 (Go.Dbr.u64_to_u8 (x := v >>> UInt64.ofNat (8 * (n - 1 - j))) rfl))] 5 En98 (wo13.pk [0]) fun ac99 En100 => ?_
   refine q_t 10 ?_
   refine op_lit (d := some 23) (t := 23) (T := 5) (m := 1) (parts := #[(0, .int .u8 ((UInt8.toNat (UInt64.toUInt8 (v >>> UInt64.ofNat (8 * (n - 1 - j)))) : Nat) : Int))]) (xs := bys [UInt64.toUInt8 (v >>> UInt64.ofNat (8 * (n - 1 - j)))]) (sz := 1) En100 (by kernel_rfl) (by kernel_rfl) rfl (by decide) wo13 ?_
   intro ac102 wo103 bk101 En104 Hv105
   refine ⟨fun _ => Hv105.pk [0], ?_⟩
   refine q_t 11 ?_
   refine op_append (d := some 24) (t := 23) (tx := 23) (ty := 23) (k := 1) (p := List.length m) (m := 1) (x := .slice (some ⟨bk101, 0, none⟩) 1 1) (bytes := 1) En104 (by kernel_rfl) Hv105 rfl (bys_len _) (Reads.src (size := 1) (tx := 23) (e' := 5) (by kernel_rfl) (Hv105.heap.reads (k := 2) rfl) rfl (fun e => by cases e) (bys_one _)) (by kernel_rfl) (z := .int .u8 0) (by kernel_rfl) rfl (by decide) (by omega) (by unfold maxLen; omega) ?_
   intro ac110 wo111 ao106 cp107 En112 Hv113 hnz _
   clear hnz
   rw [← bys_append] at Hv113
   have ehz108 : (List.length m) + 1 = List.length (m ++ [UInt64.toUInt8 (v >>> UInt64.ofNat (8 * (n - 1 - j)))]) := (by first | (simp; done) | (simp; omega) | omega)
   rw [ehz108] at En112
   refine ⟨fun _ => Hv113.pk [0], ?_⟩
   refine q_s [12,13] [] 1 En112 (Hv113.pk [0]) fun ac114 En115 => ?_
   refine q_t 14 ?_
   refine m_s 0 [.box bw [.slice ao106 (List.length (m ++ [UInt64.toUInt8 (v >>> UInt64.ofNat (8 * (n - 1 - j)))])) cp107, .bool bad] 115, .vec ao106 cp107 1 (bys (m ++ [UInt64.toUInt8 (v >>> UInt64.ofNat (8 * (n - 1 - j)))])) 5, .vec (some ⟨bk101, 0, none⟩) 1 1 (bys [UInt64.toUInt8 (v >>> UInt64.ofNat (8 * (n - 1 - j)))]) 5] En115 Hv113 fun ac116 wo117 En118 Hv119 => ?_
   refine ⟨q_y, ?_⟩
   exact h_e ⟨ao106, cp107, En118.sb, Hv119.pk [0, 1]⟩
  rintro ac120 wo121 ⟨ao77, cp78, En122, Hv123⟩
  refine block_normal ?_
  refine then_normal ?_
  refine d_r [0,2,6] [(1, g_n (w_r (e := (((n : Nat) : Int) - 1 - ((j : Nat) : Int)) - (1 : Int)) (x := ((n : Nat) : Int) - 1 - ((j + 1 : Nat) : Int)) (by omega)))] En122 fun ac124 En125 => ?_
  refine then_normal ?_
  refine ⟨_, ⟨j + 1, ao77, cp78, (m ++ [UInt64.toUInt8 (v >>> UInt64.ofNat (8 * (n - 1 - j)))]), rfl, En125.sb, Hv123.pk [0, 1], (by omega), (wn_step hm (by omega) (u64_byte (by omega))), (by rw [List.length_append, hml]; rfl)⟩, ?_⟩
  omega
 ·
  refine wp_exit ?_
  refine then_exit ?_
  refine then_exit ?_
  refine block_exit ?_
  refine d_end0 En11 (by kernel_rfl) ?_
  have hme := wn_all hm (by omega)
  subst hme
  exact ⟨wa, wc, rfl, Hv8.pk [0, 1]⟩

end Go.Proofs.Ytofecellbfhnjaa

/- Layer 17: writers: lists, what they give; the document's. -/

namespace Go.Proofs.Ytofecellbfhnjaa
open Go.Dbr
set_option maxRecDepth 100000
set_option maxHeartbeats 2000000
set_option linter.unusedVariables false
set_option linter.unusedSimpArgs false

theorem ofNat_id {n : Nat} (h : n < 18446744073709551616) : (UInt64.ofNat n).toNat = n := by rw [UInt64.toNat_ofNat']; omega
def wput (n : Nat) (l b : Bs) : Bs := (l ++ beN n b.length) ++ b
def dbad (n x y k : Nat) : Bool := decide (k < x) || (decide (y < k) || decide (2 ^ (8 * n) ≤ k))
theorem wlist_go (w : World) (bw : Nat) (a : Option Addr) (c : Nat) (l : Bs) (bad : Bool) (n : Nat) (hn : n ≤ 4) (x y : Nat) (hx : x ≤ 4294967295) (hy : y ≤ 4294967295) (ab : Option Addr) (cb : Nat) (b : Bs) (ib : InB w [.box bw [.slice a (List.length l) c, .bool bad] 115, .vec a c 1 (bys l) 5] ab cb b) (hb : List.length l + n + List.length b ≤ 200000000000000) (hH : Heap w [.box bw [.slice a (List.length l) c, .bool bad] 115, .vec a c 1 (bys l) 5]) : Calls Try.prog 101 #[pt bw, ni n, ni x, ni y, .slice ab (List.length b) cb] w fun e w' => ∃ a' c', e = .returned (.tuple #[]) ∧ Ev w [.box bw [.slice a (List.length l) c, .bool bad] 115, .vec a c 1 (bys l) 5] w' [.box bw [.slice a' (List.length (wput n l b)) c', .bool (wbad n x y (List.length b) bad)] 115, .vec a' c' 1 (bys (wput n l b)) 5] := by
 have hbs := ib.small
 refine d_0 [(0, pt bw), (1, ni n), (2, ni x), (3, ni y), (4, .slice ab (List.length b) cb)] 52 Go.Proofs.Try.func101 Go.Proofs.Try.ntmps101 (hH) fun act0 En0 Hv0 => ?_
 refine wp_seq ?_
 refine region_cut (F := fun ac wo => ∃ (bd : Bool), Env ac 52 [(0, pt bw), (1, ni n), (2, ni x), (3, ni y), (4, .slice ab (List.length b) cb)] ∧ Ev w [.box bw [.slice a (List.length l) c, .bool bad] 115, .vec a c 1 (bys l) 5] wo [.box bw [.slice a (List.length l) c, .bool bd] 115, .vec a c 1 (bys l) 5] ∧ (bd = wbad n x y (List.length b) bad)) ?_ ?_
 ·
  refine region_from ?_
  refine d_k [0,1,2,3,4,10,13] [] 4 En0 fun ac1 En2 => ?_
  refine f_o ?_
  refine m_l 0 En2 Hv0 fun ac3 En4 => ?_
  refine d_k [0,1,2,3,4,10,15] [] 6 En4 fun ac5 En6 => ?_
  rcases Bool.eq_false_or_eq_true (bad) with hb7 | hb7
  ·
   have En8 := En6.fx (t := 15) (congrArg Value.bool hb7)
   have hp9 : bad = true := hb7
   refine d_k [0,1,2,3,4,34,36] [] 27 En8 fun ac10 En11 => ?_
   refine f_o ?_
   refine m_s 0 [.box bw [.slice a (List.length l) c, .bool true] 115, .vec a c 1 (bys l) 5] En11 Hv0 fun ac12 wo13 En14 Hv15 => ?_
   refine f_e ?_
   exact ⟨rfl, ⟨true, En14.sb, Hv15.pk [0, 1], (by first | exact wb1 (by assumption) | exact wb2 (by omega) | exact wb3 (by omega) | exact wb4 (by assumption) (by omega) (by omega))⟩⟩
  ·
   have En16 := En6.fx (t := 15) (congrArg Value.bool hb7)
   have hp17 : ¬ (bad = true) := Bool.eq_false_iff.1 hb7
   refine d_k [0,1,2,3,4,10,21] [] 12 En16 fun ac18 En19 => ?_
   rcases Bool.eq_false_or_eq_true (decide (((List.length b : Nat) : Int) < ((x : Nat) : Int))) with hb20 | hb20
   ·
    have En21 := En19.fx (t := 21) (congrArg Value.bool hb20)
    have hp22 : ((List.length b : Nat) : Int) < ((x : Nat) : Int) := of_decide_eq_true hb20
    refine d_k [0,1,2,3,4,34,36] [] 27 En21 fun ac23 En24 => ?_
    refine f_o ?_
    refine m_s 0 [.box bw [.slice a (List.length l) c, .bool true] 115, .vec a c 1 (bys l) 5] En24 Hv0 fun ac25 wo26 En27 Hv28 => ?_
    refine f_e ?_
    exact ⟨rfl, ⟨true, En27.sb, Hv28.pk [0, 1], (by first | exact wb1 (by assumption) | exact wb2 (by omega) | exact wb3 (by omega) | exact wb4 (by assumption) (by omega) (by omega))⟩⟩
   ·
    have En29 := En19.fx (t := 21) (congrArg Value.bool hb20)
    have hp30 : ¬ (((List.length b : Nat) : Int) < ((x : Nat) : Int)) := of_decide_eq_false hb20
    refine d_k [0,1,2,3,4,10,27] [] 18 En29 fun ac31 En32 => ?_
    rcases Bool.eq_false_or_eq_true (decide (((List.length b : Nat) : Int) > ((y : Nat) : Int))) with hb33 | hb33
    ·
     have En34 := En32.fx (t := 27) (congrArg Value.bool hb33)
     have hp35 : ((List.length b : Nat) : Int) > ((y : Nat) : Int) := of_decide_eq_true hb33
     refine d_k [0,1,2,3,4,34,36] [] 27 En34 fun ac36 En37 => ?_
     refine f_o ?_
     refine m_s 0 [.box bw [.slice a (List.length l) c, .bool true] 115, .vec a c 1 (bys l) 5] En37 Hv0 fun ac38 wo39 En40 Hv41 => ?_
     refine f_e ?_
     exact ⟨rfl, ⟨true, En40.sb, Hv41.pk [0, 1], (by first | exact wb1 (by assumption) | exact wb2 (by omega) | exact wb3 (by omega) | exact wb4 (by assumption) (by omega) (by omega))⟩⟩
    ·
     have En42 := En32.fx (t := 27) (congrArg Value.bool hb33)
     have hp43 : ¬ (((List.length b : Nat) : Int) > ((y : Nat) : Int)) := of_decide_eq_false hb33
     refine d_k [0,1,2,3,4,10,27,29,31] [(21, g_n (w_m 8 n))] 22 En42 fun ac44 En45 => ?_
     refine f_o ?_
     refine q_v En45 (Go.Dbr.run_shr_i64 (List.length b) .i64 (8 * n) (by omega) _) fun ac46 En47 => ?_
     refine d_k [0,1,2,3,4,34,36] [] 27 En47 fun ac48 En49 => ?_
     refine f_o ?_
     refine m_s 0 [.box bw [.slice a (List.length l) c, .bool (decide ((((List.length b) / 2 ^ (8 * n) : Nat) : Int) > (0 : Int)))] 115, .vec a c 1 (bys l) 5] En49 Hv0 fun ac50 wo51 En52 Hv53 => ?_
     refine f_e ?_
     exact ⟨rfl, ⟨(decide ((((List.length b) / 2 ^ (8 * n) : Nat) : Int) > (0 : Int))), En52.sb, Hv53.pk [0, 1], (by first | exact wb1 (by assumption) | exact wb2 (by omega) | exact wb3 (by omega) | exact wb4 (by assumption) (by omega) (by omega))⟩⟩
 ·
  rintro ac54 wo55 ⟨bd, En56, Hv57, hbd⟩
  refine then_normal ?_
  refine wp_seq ?_
  refine region_from ?_
  refine d_k [0,1,2,3,4,37,38,41] [(4, g_i .u64 (Go.Dbr.nat_to_u64 (a := ((List.length b : Nat) : Int)) (n := List.length b) rfl))] 5 En56 fun ac58 En59 => ?_
  refine f_o ?_
  refine c_l [0,1] (M := [.box bw [.slice a (List.length l) c, .bool bd] 115, .vec a c 1 (bys l) 5]) En59 Hv57 (fun hM62 => wnum_go _ bw a c l bd n (by omega) (UInt64.ofNat (List.length b)) (by first | omega | (simp; omega)) hM62) ?_
  rintro _ wo63 ⟨wa60, wc61, rfl, he64⟩
  refine ⟨_, _, [.box bw [.slice wa60 (List.length (l ++ beN n (UInt64.toNat (UInt64.ofNat (List.length b))))) wc61, .bool bd] 115, .vec wa60 wc61 1 (bys (l ++ beN n (UInt64.toNat (UInt64.ofNat (List.length b))))) 5], rfl, he64, by kernel_rfl, fun ac66 En67 Hv68 => ?_⟩
  refine f_e ?_
  refine then_normal ?_
  refine region_from ?_
  refine d_k [0,1,2,3,4,43,46] [] 4 En67 fun ac69 En70 => ?_
  refine f_o ?_
  refine m_l 0 En70 Hv68 fun ac71 En72 => ?_
  refine d_k [0,1,2,3,4,43,47,48] [] 6 En72 fun ac73 En74 => ?_
  refine f_o ?_
  have hsm75 := ib.small
  refine op_append (d := some 49) (t := 23) (tx := 23) (ty := 23) (k := 1) (p := List.length (l ++ beN n (UInt64.toNat (UInt64.ofNat (List.length b))))) (m := List.length b) (x := .slice ab (List.length b) cb) (bytes := 1) En74 (by kernel_rfl) Hv68 rfl (bys_len _) (Reads.src (size := 1) (tx := 23) (e' := 5) (by kernel_rfl) (ib.ev Hv68).reads (bys_len _) ib.nz (bys_one _)) (by kernel_rfl) (z := .int .u8 0) (by kernel_rfl) rfl (by decide) (by first | omega | (simp [beN_len]; done) | (simp [beN_len]; omega)) (by unfold maxLen; first | omega | (simp [beN_len]; done) | (simp [beN_len]; omega)) ?_
  intro ac80 wo81 ao76 cp77 En82 Hv83 hnz _
  clear hnz
  rw [← bys_append] at Hv83
  have ehz78 : (List.length (l ++ beN n (UInt64.toNat (UInt64.ofNat (List.length b))))) + (List.length b) = List.length ((l ++ beN n (UInt64.toNat (UInt64.ofNat (List.length b)))) ++ b) := (by first | (simp; done) | (simp; omega) | omega)
  rw [ehz78] at En82
  refine d_k [0,1,2,3,4,49,51] [] 9 En82 fun ac84 En85 => ?_
  refine f_o ?_
  refine m_s 0 [.box bw [.slice ao76 (List.length ((l ++ beN n (UInt64.toNat (UInt64.ofNat (List.length b)))) ++ b)) cp77, .bool bd] 115, .vec ao76 cp77 1 (bys ((l ++ beN n (UInt64.toNat (UInt64.ofNat (List.length b)))) ++ b)) 5] En85 Hv83 fun ac86 wo87 En88 Hv89 => ?_
  refine f_e ?_
  refine d_end0 En88 (by kernel_rfl) ?_
  rw [ofNat_id (by omega)] at Hv89
  subst hbd
  exact ⟨ao76, cp77, rfl, Hv89.pk [0, 1]⟩

theorem wdone_t (w : World) (bw : Nat) (a : Option Addr) (c : Nat) (l : Bs) (hH : Heap w [.box bw [.slice a (List.length l) c, .bool true] 115, .vec a c 1 (bys l) 5]) : Calls Try.prog 180 #[pt bw] w fun e w' => ∃ a' c', e = .returned (.slice a' (List.length (doneL true l)) c') ∧ Ev w [.box bw [.slice a (List.length l) c, .bool true] 115, .vec a c 1 (bys l) 5] w' [.vec a' c' 1 (bys (doneL true l)) 5] := by
 refine d_0 [(0, pt bw)] 11 Go.Proofs.Try.func180 Go.Proofs.Try.ntmps180 (hH) fun act0 En0 Hv0 => ?_
 refine d_s [0,2] [] En0 fun ac1 En2 => ?_
 refine wp_seq ?_
 refine wp_seq ?_
 refine region_from ?_
 refine d_k [0,2,5] [] 3 En2 fun ac3 En4 => ?_
 refine f_o ?_
 refine m_l 0 En4 Hv0 fun ac5 En6 => ?_
 refine f_e ?_
 refine then_normal ?_
 refine c_t En6 ?_
 refine d_s [0,2] [] En6 fun ac7 En8 => ?_
 refine wp_ret ?_
 refine then_ret ?_
 refine d_ret1 (t := 2) (v := .slice none 0 0) En8 (by kernel_rfl) (by kernel_rfl) ?_
 exact ⟨none, 0, rfl, (Ev.nil (sz := 1) (T := 5) Hv0).pk [2]⟩

theorem wdone_f (w : World) (bw : Nat) (a : Option Addr) (c : Nat) (l : Bs) (hH : Heap w [.box bw [.slice a (List.length l) c, .bool false] 115, .vec a c 1 (bys l) 5]) : Calls Try.prog 180 #[pt bw] w fun e w' => ∃ a' c', e = .returned (.slice a' (List.length (doneL false l)) c') ∧ Ev w [.box bw [.slice a (List.length l) c, .bool false] 115, .vec a c 1 (bys l) 5] w' [.vec a' c' 1 (bys (doneL false l)) 5] := by
 refine d_0 [(0, pt bw)] 11 Go.Proofs.Try.func180 Go.Proofs.Try.ntmps180 (hH) fun act0 En0 Hv0 => ?_
 refine d_s [0,2] [] En0 fun ac1 En2 => ?_
 refine wp_seq ?_
 refine wp_seq ?_
 refine region_from ?_
 refine d_k [0,2,5] [] 3 En2 fun ac3 En4 => ?_
 refine f_o ?_
 refine m_l 0 En4 Hv0 fun ac5 En6 => ?_
 refine f_e ?_
 refine then_normal ?_
 refine c_f En6 ?_
 refine wp_skip ?_
 refine then_normal ?_
 refine wp_seq ?_
 refine region_from ?_
 refine d_k [0,2,9] [] 3 En6 fun ac7 En8 => ?_
 refine f_o ?_
 refine m_l 0 En8 Hv0 fun ac9 En10 => ?_
 refine d_e [0,2] [] En10 fun ac11 En12 => ?_
 refine then_normal ?_
 refine wp_ret ?_
 refine d_ret1 (t := 2) (v := .slice a (List.length l) c) En12 (by kernel_rfl) (by kernel_rfl) ?_
 exact ⟨a, c, rfl, Hv0.pk [1]⟩

theorem wdone_go (w : World) (bw : Nat) (a : Option Addr) (c : Nat) (l : Bs) (bad : Bool) (hH : Heap w [.box bw [.slice a (List.length l) c, .bool bad] 115, .vec a c 1 (bys l) 5]) : Calls Try.prog 180 #[pt bw] w fun e w' => ∃ a' c', e = .returned (.slice a' (List.length (doneL bad l)) c') ∧ Ev w [.box bw [.slice a (List.length l) c, .bool bad] 115, .vec a c 1 (bys l) 5] w' [.vec a' c' 1 (bys (doneL bad l)) 5] := by
  cases bad
  · exact wdone_f w bw a c l hH
  · exact wdone_t w bw a c l hH

end Go.Proofs.Ytofecellbfhnjaa

/- Layer 17: frames. -/

namespace Go.Proofs.Ytofecellbfhnjaa
open Go.Dbr
set_option maxRecDepth 100000
set_option maxHeartbeats 2000000
set_option linter.unusedVariables false
set_option linter.unusedSimpArgs false

end Go.Proofs.Ytofecellbfhnjaa

/- Layer 17: the first message of a stream; the bytes that ask again. -/

namespace Go.Proofs.Ytofecellbfhnjaa
open Go.Dbr
set_option maxRecDepth 100000
set_option maxHeartbeats 2000000
set_option linter.unusedVariables false
set_option linter.unusedSimpArgs false

end Go.Proofs.Ytofecellbfhnjaa

/- Layer 17: parts are written as a list; a host's name; the head. -/

namespace Go.Proofs.Ytofecellbfhnjaa
open Go.Dbr
set_option maxRecDepth 100000
set_option maxHeartbeats 2000000
set_option linter.unusedVariables false
set_option linter.unusedSimpArgs false

abbrev RStr := List UInt8
abbrev fStr : RStr → List Value := (fun l : List UInt8 => [.string (bstr l)])
abbrev WS := Bs × Bool
/-- parts, one behind the other -/
def allM {β : Type} (F : WS → β → WS) (ps : List β) : WS := List.foldl F ([], false) ps
theorem allM_take {β γ : Type} {F : WS → β → WS} {f : γ → β} {xs : List γ} {i : Nat} {x : γ} (h : xs[i]? = some x) : allM F (List.take (i + 1) (List.map f xs)) = F (allM F (List.take i (List.map f xs))) (f x) := by
  rw [List.take_add_one, List.getElem?_map, h]
  show allM F (_ ++ [f x]) = _
  rw [allM, List.foldl_append]
  rfl
theorem allM_all {β γ : Type} {F : WS → β → WS} {f : γ → β} {xs : List γ} {i : Nat} (h : ¬ i < xs.length) : allM F (List.take i (List.map f xs)) = allM F (List.map f xs) := by
  rw [List.take_of_length_le (by rw [List.length_map]; omega)]
theorem wput_len (n : Nat) (l b : Bs) : (wput n l b).length = l.length + n + b.length := by rw [wput, List.length_append, List.length_append, beN_len]
theorem or_t {a b : Bool} (h : a = true) : true = (a || b) := by subst h; rfl
theorem or_f {a b : Bool} (h : ¬ a = true) : b = (a || b) := by rw [Bool.eq_false_iff.2 h]; rfl

def nmF (p : WS) (t : Bs) : WS := (wput 2 (p.1 ++ [0]) t, wbad 2 1 65535 t.length p.2)

theorem putname11 (w : World) (bw : Nat) (a : Option Addr) (c : Nat) (l : Bs) (bad : Bool) (t : Bs) (ht : List.length t ≤ 140737489403904) (hb : List.length l + 3 + List.length t ≤ 200000000000000) (hH : Heap w [.box bw [.slice a (List.length l) c, .bool bad] 115, .vec a c 1 (bys l) 5]) : Calls Try.prog 109 #[pt bw, .string (bstr t)] w fun e w' => ∃ a' c', e = .returned (.tuple #[]) ∧ Ev w [.box bw [.slice a (List.length l) c, .bool bad] 115, .vec a c 1 (bys l) 5] w' [.box bw [.slice a' (List.length ((nmF (l, bad) t).1)) c', .bool ((nmF (l, bad) t).2)] 115, .vec a' c' 1 (bys ((nmF (l, bad) t).1)) 5] := by
 refine d_0 [(0, pt bw), (1, .string (bstr t))] 17 Go.Proofs.Try.func109 Go.Proofs.Try.ntmps109 (hH) fun act0 En0 Hv0 => ?_
 refine wp_seq ?_
 refine region_from ?_
 refine d_k [0,1,4,7] [] 4 En0 fun ac1 En2 => ?_
 refine f_o ?_
 refine m_l 0 En2 Hv0 fun ac3 En4 => ?_
 refine f_o ?_
 refine op_lit (d := some 9) (t := 23) (T := 5) (m := 1) (parts := #[(0, .int .u8 0)]) (xs := bys [(0 : UInt8)]) (sz := 1) En4 (by kernel_rfl) (by kernel_rfl) rfl (by decide) Hv0 ?_
 intro ac6 wo7 bk5 En8 Hv9
 refine f_o ?_
 refine op_append (d := some 10) (t := 23) (tx := 23) (ty := 23) (k := 1) (p := List.length l) (m := 1) (x := .slice (some ⟨bk5, 0, none⟩) 1 1) (bytes := 1) En8 (by kernel_rfl) Hv9 rfl (bys_len _) (Reads.src (size := 1) (tx := 23) (e' := 5) (by kernel_rfl) (Hv9.heap.reads (k := 2) rfl) rfl (fun e => by cases e) (bys_one _)) (by kernel_rfl) (z := .int .u8 0) (by kernel_rfl) rfl (by decide) (by first | omega | (simp [beN_len]; done) | (simp [beN_len]; omega)) (by unfold maxLen; first | omega | (simp [beN_len]; done) | (simp [beN_len]; omega)) ?_
 intro ac14 wo15 ao10 cp11 En16 Hv17 hnz _
 clear hnz
 rw [← bys_append] at Hv17
 have ehz12 : (List.length l) + 1 = List.length (l ++ [(0 : UInt8)]) := (by first | (simp; done) | (simp; omega) | omega)
 rw [ehz12] at En16
 refine d_k [0,1,10,12] [] 9 En16 fun ac18 En19 => ?_
 refine f_o ?_
 refine m_s 0 [.box bw [.slice ao10 (List.length (l ++ [(0 : UInt8)])) cp11, .bool bad] 115, .vec ao10 cp11 1 (bys (l ++ [(0 : UInt8)])) 5, .vec (some ⟨bk5, 0, none⟩) 1 1 (bys [(0 : UInt8)]) 5] En19 Hv17 fun ac20 wo21 En22 Hv23 => ?_
 refine f_e ?_
 refine then_normal ?_
 refine region_from ?_
 refine d_k [0,13,14] [] 2 En22 fun ac24 En25 => ?_
 refine f_o ?_
 refine op_bytes (d := some 15) (src := 9) (dst := 23) (e := 5) (s := t) En25 (by kernel_rfl) (by kernel_rfl) (by kernel_rfl) (by kernel_rfl) Hv23 (by unfold maxLen; first | omega | (simp; omega)) ?_
 intro ac29 wo30 bk26 cp27 En31 Hv32 hcb28
 refine f_o ?_
 refine c_l [0,1] (M := [.box bw [.slice ao10 (List.length (l ++ [(0 : UInt8)])) cp11, .bool bad] 115, .vec ao10 cp11 1 (bys (l ++ [(0 : UInt8)])) 5]) En31 Hv32 (fun hM35 => wlist_go _ bw ao10 cp11 (l ++ [(0 : UInt8)]) bad 2 (by omega) 1 65535 (by omega) (by omega) (some ⟨bk26, 0, none⟩) cp27 t (bys_in Hv32.heap (k := 3) rfl [0, 1] (by kernel_rfl) rfl (by first | omega | (simp; done) | (simp; omega))) (by simp; omega) hM35) ?_
 rintro _ wo36 ⟨wa33, wc34, rfl, he37⟩
 refine ⟨_, _, [.box bw [.slice wa33 (List.length (wput 2 (l ++ [(0 : UInt8)]) t)) wc34, .bool (wbad 2 1 65535 (List.length t) bad)] 115, .vec wa33 wc34 1 (bys (wput 2 (l ++ [(0 : UInt8)]) t)) 5, .vec (some ⟨bk5, 0, none⟩) 1 1 (bys [(0 : UInt8)]) 5, .vec (some ⟨bk26, 0, none⟩) cp27 1 (bys t) 5], rfl, he37, by kernel_rfl, fun ac39 En40 Hv41 => ?_⟩
 refine f_e ?_
 refine d_end0 En40 (by kernel_rfl) ?_
 exact ⟨wa33, wc34, rfl, Hv41.pk [0, 1]⟩

theorem all_str (w : World) (bw : Nat) (a : Option Addr) (c : Nat) (l : Bs) (bad : Bool) (n : Nat) (hn : n ≤ 4) (x : Nat) (hx : x ≤ 4294967295) (al : Option Addr) (cl : Nat) (xs : List RStr) (il : InS fStr 16 (fun y : RStr => (List.length y ≤ 140737488351232)) w [.box bw [.slice a (List.length l) c, .bool bad] 115, .vec a c 1 (bys l) 5] al cl xs) (hfb : ∀ i, i ≤ List.length xs → List.length (allM nmF (List.take i (List.map (fun y : RStr => y) xs))).1 ≤ 140737489403904) (hb : List.length l + n + List.length (allM nmF (List.map (fun y : RStr => y) xs)).1 ≤ 200000000000000) (hH : Heap w [.box bw [.slice a (List.length l) c, .bool bad] 115, .vec a c 1 (bys l) 5]) : Calls Try.prog 108 #[pt bw, ni n, ni x, .slice al (List.length xs) cl, .func (.func 109) #[] #[]] w fun e w' => ∃ a' c', e = .returned (.tuple #[]) ∧ Ev w [.box bw [.slice a (List.length l) c, .bool bad] 115, .vec a c 1 (bys l) 5] w' [.box bw [.slice a' (List.length (wput n l (allM nmF (List.map (fun y : RStr => y) xs)).1)) c', .bool (wbad n x 16777215 (List.length (allM nmF (List.map (fun y : RStr => y) xs)).1) (bad || (allM nmF (List.map (fun y : RStr => y) xs)).2))] 115, .vec a' c' 1 (bys (wput n l (allM nmF (List.map (fun y : RStr => y) xs)).1)) 5] := by
 have hxs := il.small
 have hxc := il.cap
 refine d_0 [(0, pt bw), (1, ni n), (2, ni x), (3, .slice al (List.length xs) cl), (4, .func (.func 109) #[] #[])] 47 Go.Proofs.Try.func108 Go.Proofs.Try.ntmps108 (hH) fun act0 En0 Hv0 => ?_
 refine wp_seq ?_
 refine region_from ?_
 refine d_k [0,1,2,3,4,13] [] 1 En0 fun ac1 En2 => ?_
 refine f_o ?_
 refine m_m 115 [.slice none 0 0, .bool false] En2 Hv0 fun ac4 wo5 bk3 En6 Hv7 => ?_
 refine d_e [0,1,2,3,4,10] [] En6 fun ac8 En9 => ?_
 refine then_normal ?_
 refine wp_seq ?_
 refine wp_seq ?_
 refine d_r [0,1,2,4,10,15,16,17] [] En9 fun ac10 En11 => ?_
 refine then_normal ?_
 refine wp_block ?_
 have Hv12 : Ev w [.box bw [.slice a (List.length l) c, .bool bad] 115, .vec a c 1 (bys l) 5] wo5 [.box bw [.slice a (List.length l) c, .bool bad] 115, .vec a c 1 (bys l) 5, .box bk3 [.slice none 0 0, .bool false] 115, .vec none 0 1 (bys []) 5] := Ev.nil (sz := 1) (T := 5) Hv7
 refine loop_m (fun ms13 ac wo => ∃ (i : Nat) (wa : Option Addr) (wc : Nat) (m : Bs) (bd : Bool), ms13 = (List.length xs + 1 - i : Nat) ∧ Env ac 47 [(0, pt bw), (1, ni n), (2, ni x), (4, .func (.func 109) #[] #[]), (10, pt bk3), (15, .slice al (List.length xs) cl), (16, .int .i64 ((List.length xs : Nat) : Int)), (17, ni i)] ∧ Ev w [.box bw [.slice a (List.length l) c, .bool bad] 115, .vec a c 1 (bys l) 5] wo [.box bw [.slice a (List.length l) c, .bool bad] 115, .vec a c 1 (bys l) 5, .box bk3 [.slice wa (List.length m) wc, .bool bd] 115, .vec wa wc 1 (bys m) 5] ∧ ((m, bd) = allM nmF (List.take i (List.map (fun y : RStr => y) xs)))) ⟨_, 0, none, 0, [], false, rfl, En11.sb, Hv12.pk [0, 1, 2, 3], rfl⟩ ?_
 rintro mm19 ac15 wo16 ⟨i, wa, wc, m, bd, rfl, En17, Hv18, hfo⟩
 refine wp_seq ?_
 refine d_r [0,1,2,4,10,15,16,17,18] [] En17 fun ac20 En21 => ?_
 refine then_normal ?_
 refine wp_seq ?_
 refine c_d (((i : Nat) : Int) < ((List.length xs : Nat) : Int)) En21 (fun hc22 => ?_) (fun hc22 => ?_)
 ·
  refine wp_skip ?_
  refine then_normal ?_
  refine wp_seq ?_
  refine wp_block ?_
  refine wp_seq ?_
  have hb25 : i < List.length xs := (by omega)
  obtain ⟨adr23, had24⟩ := some_of il.nz hb25
  have hb26 : i < List.length xs := by omega
  obtain ⟨x28, hx27⟩ : ∃ x, (xs)[i]? = some x := ⟨_, List.getElem?_eq_getElem hb26⟩
  obtain s_x28 := il.each _ (List.mem_of_getElem? hx27)
  replace s_x28 : (List.length x28 ≤ 140737488351232) := s_x28
  refine region_from ?_
  refine f_o ?_
  refine q_v (x := Instr.indexAt 33 (.slice al (List.length xs) cl) (ni i)) (v := .pointer (some (Addr.add adr23 i))) En21 (Go.Dbr.run_indexsl (e := 9) (sz := 1) (j := i) (jo := i) had24 (by kernel_rfl) (by kernel_rfl) (by omega) hb25 (Nat.mul_one _) _) fun ac29 En30 => ?_
  refine f_o ?_
  refine op_loadf (d := some 20) (t := 9) (ad := adr23) (ao := al) (ys := List.flatMap fStr xs) (o := i) (v := .string (bstr x28)) En30 (by kernel_rfl) rfl (il.ro.ev Hv18).reads had24 ((flat_get1 (fun _ _ => rfl) hx27).trans rfl) (by kernel_rfl) ?_
  intro ac31 En32
  refine d_e [0,1,2,4,10,12,15,16,17] [] En32 fun ac33 En34 => ?_
  refine then_normal ?_
  have hnb := hfb (i + 1) (by omega)
  rw [allM_take hx27, ← hfo] at hnb
  have hnc := hnb
  simp only [nmF, wput_len, List.length_append, List.length_singleton] at hnc
  refine region_from ?_
  refine d_k [0,1,2,4,10,15,16,17,21,22,23] [] 3 En34 fun ac35 En36 => ?_
  refine f_o ?_
  refine c_l [2,3] (M := [.box bk3 [.slice wa (List.length m) wc, .bool bd] 115, .vec wa wc 1 (bys m) 5]) En36 Hv18 (fun hM39 => putname11 _ bk3 wa wc m bd x28 (by omega) (by omega) hM39) ?_
  rintro _ wo40 ⟨wa37, wc38, rfl, he41⟩
  refine ⟨_, _, [.box bk3 [.slice wa37 (List.length ((nmF (m, bd) x28).1)) wc38, .bool ((nmF (m, bd) x28).2)] 115, .vec wa37 wc38 1 (bys ((nmF (m, bd) x28).1)) 5, .box bw [.slice a (List.length l) c, .bool bad] 115, .vec a c 1 (bys l) 5], rfl, he41, by kernel_rfl, fun ac43 En44 Hv45 => ?_⟩
  refine f_e ?_
  refine block_normal ?_
  refine then_normal ?_
  refine d_r [0,1,2,4,10,15,16,17] [(0, g_n (w_a i 1))] En44 fun ac46 En47 => ?_
  refine then_normal ?_
  refine ⟨_, ⟨i + 1, wa37, wc38, ((nmF (m, bd) x28).1), ((nmF (m, bd) x28).2), rfl, En47.sb, Hv45.pk [2, 3, 0, 1], (by rw [allM_take hx27, ← hfo] <;> rfl)⟩, ?_⟩
  omega
 ·
  refine wp_exit ?_
  refine then_exit ?_
  refine then_exit ?_
  refine block_exit ?_
  refine then_normal ?_
  refine wp_seq ?_
  have hfe := allM_all (F := nmF) (f := (fun y : RStr => y)) (xs := xs) (i := i) (by omega)
  rw [← hfo] at hfe
  refine region_cut (F := fun ac wo => ∃ (b2 : Bool), Env ac 47 [(0, pt bw), (1, ni n), (2, ni x), (4, .func (.func 109) #[] #[]), (10, pt bk3), (15, .slice al (List.length xs) cl), (16, .int .i64 ((List.length xs : Nat) : Int)), (17, ni i)] ∧ Ev w [.box bw [.slice a (List.length l) c, .bool bad] 115, .vec a c 1 (bys l) 5] wo [.box bw [.slice a (List.length l) c, .bool b2] 115, .vec a c 1 (bys l) 5, .box bk3 [.slice wa (List.length m) wc, .bool bd] 115, .vec wa wc 1 (bys m) 5] ∧ (b2 = (bad || bd))) ?_ ?_
  ·
   refine region_from ?_
   refine d_k [0,1,2,4,10,15,16,17,26,29] [] 4 En21 fun ac48 En49 => ?_
   refine f_o ?_
   refine m_l 0 En49 Hv18 fun ac50 En51 => ?_
   refine d_k [0,1,2,4,10,15,16,17,26,31] [] 6 En51 fun ac52 En53 => ?_
   rcases Bool.eq_false_or_eq_true (bad) with hb54 | hb54
   ·
    have En55 := En53.fx (t := 31) (congrArg Value.bool hb54)
    have hp56 : bad = true := hb54
    refine d_k [0,1,2,4,10,15,16,17,36,38] [] 13 En55 fun ac57 En58 => ?_
    refine f_o ?_
    refine m_s 0 [.box bw [.slice a (List.length l) c, .bool true] 115, .vec a c 1 (bys l) 5, .box bk3 [.slice wa (List.length m) wc, .bool bd] 115, .vec wa wc 1 (bys m) 5] En58 Hv18 fun ac59 wo60 En61 Hv62 => ?_
    refine f_e ?_
    exact ⟨rfl, ⟨true, En61.sb, Hv62.pk [0, 1, 2, 3], (by first | exact or_t (by assumption) | exact or_f (by assumption))⟩⟩
   ·
    have En63 := En53.fx (t := 31) (congrArg Value.bool hb54)
    have hp64 : ¬ (bad = true) := Bool.eq_false_iff.1 hb54
    refine d_k [0,1,2,4,10,15,16,17,26,31,34] [] 9 En63 fun ac65 En66 => ?_
    refine f_o ?_
    refine m_l 2 En66 Hv18 fun ac67 En68 => ?_
    refine d_k [0,1,2,4,10,15,16,17,36,38] [] 13 En68 fun ac69 En70 => ?_
    refine f_o ?_
    refine m_s 0 [.box bw [.slice a (List.length l) c, .bool bd] 115, .vec a c 1 (bys l) 5, .box bk3 [.slice wa (List.length m) wc, .bool bd] 115, .vec wa wc 1 (bys m) 5] En70 Hv18 fun ac71 wo72 En73 Hv74 => ?_
    refine f_e ?_
    exact ⟨rfl, ⟨bd, En73.sb, Hv74.pk [0, 1, 2, 3], (by first | exact or_t (by assumption) | exact or_f (by assumption))⟩⟩
  ·
   rintro ac75 wo76 ⟨b2, En77, Hv78, hb2⟩
   refine then_normal ?_
   have hml := hfb (List.length xs) (Nat.le_refl _)
   rw [List.take_of_length_le (by rw [List.length_map]; exact Nat.le_refl _), ← hfe] at hml
   rw [← hfe] at hb
   refine region_from ?_
   refine d_k [0,4,10,15,16,17,39,40,41,44] [] 6 En77 fun ac79 En80 => ?_
   refine f_o ?_
   refine m_l 2 En80 Hv78 fun ac81 En82 => ?_
   refine f_o ?_
   refine c_l [0,1] (M := [.box bw [.slice a (List.length l) c, .bool b2] 115, .vec a c 1 (bys l) 5]) En82 Hv78 (fun hM85 => wlist_go _ bw a c l b2 n (by omega) x 16777215 (by omega) (by omega) wa wc m (bys_in Hv78.heap (k := 3) rfl [0, 1] (by kernel_rfl) rfl (by first | omega | (simp; done) | (simp; omega))) (by first | exact hb | omega) hM85) ?_
   rintro _ wo86 ⟨wa83, wc84, rfl, he87⟩
   refine ⟨_, _, [.box bw [.slice wa83 (List.length (wput n l m)) wc84, .bool (wbad n x 16777215 (List.length m) b2)] 115, .vec wa83 wc84 1 (bys (wput n l m)) 5, .box bk3 [.slice wa (List.length m) wc, .bool bd] 115, .vec wa wc 1 (bys m) 5], rfl, he87, by kernel_rfl, fun ac89 En90 Hv91 => ?_⟩
   refine f_e ?_
   refine d_end0 En90 (by kernel_rfl) ?_
   subst hb2
   rw [← hfe]
   exact ⟨wa83, wc84, rfl, Hv91.pk [0, 1]⟩

end Go.Proofs.Ytofecellbfhnjaa
