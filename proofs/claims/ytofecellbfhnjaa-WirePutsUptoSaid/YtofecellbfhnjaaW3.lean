/- Layer 17: many parts, one by one; numbers. -/
import Derived.Test.YtofecellbfhnjaaW2
import Derived.Test.YtofecellbfhnjaaSv
namespace Go.Proofs.Ytofecellbfhnjaa
open Go.Dbr
set_option maxRecDepth 100000
set_option maxHeartbeats 2000000
set_option linter.unusedVariables false
set_option linter.unusedSimpArgs false

abbrev RU16 := UInt16
abbrev fU16 : RU16 → List Value := (fun n : UInt16 => [uv16 n])
/-- readers' parts, as what they give and what is left -/
def takeM (n : Nat) (l : Bs) (s o : Bool) : Bs × PS := (tkO n l s, tkR n l s, tkS n l s, o)
def numM (n : Nat) (l : Bs) (s o : Bool) : Nat × PS := (nbV n l s, tkR n l s, tkS n l s, o)
def listM (n x y : Nat) (l : Bs) (s o : Bool) : Bs × PS := (lsO n x y l s, lsR n x y l s, lsS n x y l s, o)
def u16M (l : Bs) (s o : Bool) : UInt16 × PS := (UInt16.ofNat (nbV 2 l s), tkR 2 l s, tkS 2 l s, o)
def du16M (l : Bs) (s o : Bool) : UInt16 × PS := (UInt16.ofNat (nbV 2 l s), dkR 2 l s, tkS 2 l s, o)
theorem tk_lt {n : Nat} (hn : 0 < n) {l : Bs} (h : l ≠ []) : (tkR n l false).length < l.length := by
  have h0 : 0 < l.length := List.length_pos_iff.2 h
  unfold tkR
  cases tkS n l false with
  | true => exact h0
  | false => rw [Bool.cond_false, List.length_drop]; omega
theorem dk_lt {n : Nat} (hn : 0 < n) {l : Bs} (h : l ≠ []) (hs : tkS n l false = false) : (dkR n l false).length < l.length := by
  have h0 : 0 < l.length := List.length_pos_iff.2 h
  unfold dkR
  rw [hs, Bool.cond_false, List.length_drop]; omega
theorem u16_dec : Dec u16M := ⟨fun l _ h _ => tk_lt (by decide) h, fun l _ => tkR_len _ _ _⟩
theorem du16_dec : Dec du16M := ⟨fun l _ h hs => dk_lt (by decide) h hs, fun l _ => dkR_len _ _ _⟩

theorem u16_go (w : World) (br : Nat) (a : Option Addr) (c : Nat) (l : List UInt8) (s o : Bool) (i : InB w [.box br [.slice a (List.length l) c, .bool s, .bool o] 120] a c l) (hH : Heap w [.box br [.slice a (List.length l) c, .bool s, .bool o] 120]) : Calls Try.prog 148 #[pt br] w fun e w' => ∃ ta tc, e = .returned (.int .u16 ((UInt16.toNat (UInt16.ofNat (nbV 2 l s)) : Nat) : Int)) ∧ Ev w [.box br [.slice a (List.length l) c, .bool s, .bool o] 120] w' [.box br [.slice ta (List.length (tkR 2 l s)) tc, .bool (tkS 2 l s), .bool o] 120] ∧ Sub a c l ta tc (tkR 2 l s) := by
 refine d_0 [(0, pt br)] 6 Go.Proofs.Try.func148 Go.Proofs.Try.ntmps148 (hH) fun act0 En0 Hv0 => ?_
 refine d_s [0,2] [] En0 fun ac1 En2 => ?_
 refine wp_seq ?_
 refine region_from ?_
 refine d_k [2,3] [] 1 En2 fun ac3 En4 => ?_
 refine f_o ?_
 refine c_l [0] (M := [.box br [.slice a (List.length l) c, .bool s, .bool o] 120]) En4 Hv0 (fun hM8 => number_go _ br 2 (by omega) a c l s o ((i.ev Hv0).pick [0] (by kernel_rfl)) hM8) ?_
 rintro _ wo9 ⟨ta5, tc6, rfl, he10, hs7⟩
 refine ⟨_, _, [.box br [.slice ta5 (List.length (tkR 2 l s)) tc6, .bool (tkS 2 l s), .bool o] 120], rfl, he10, by kernel_rfl, fun ac12 En13 Hv14 => ?_⟩
 refine d_e [2] [(2, g_i .u16 (Go.Dbr.nat_to_u16 (a := ((nbV 2 l s : Nat) : Int)) (n := nbV 2 l s) rfl))] En13 fun ac15 En16 => ?_
 refine then_normal ?_
 refine wp_ret ?_
 refine d_ret1 (t := 2) (v := .int .u16 ((UInt16.toNat (UInt16.ofNat (nbV 2 l s)) : Nat) : Int)) En16 (by kernel_rfl) (by kernel_rfl) ?_
 exact ⟨ta5, tc6, rfl, Hv14.pk [0], hs7⟩

theorem dec_lt {α : Type} {one : Bs → Bool → Bool → α × PS} (D : Dec one) {l : Bs} {s o : Bool} (hs : s = false) (h0 : 0 < l.length) : (one l s o).2.2.1 = false → (one l s o).2.1.length < l.length := by
  subst hs
  exact D.lt l o (List.length_pos_iff.1 h0)
theorem dec_le {α : Type} {one : Bs → Bool → Bool → α × PS} (D : Dec one) {l : Bs} {s o : Bool} (hs : s = false) : (one l s o).2.1.length ≤ l.length := by
  subst hs
  exact D.le l o
theorem mn_mu {s1 s2 : Bool} {n m : Nat} (hs : s1 = false) (h0 : 0 < n) (h : s2 = false → m < n) : (bif s2 then 0 else m + 1) < (bif s1 then 0 else n + 1) := by
  subst hs
  cases s2 with
  | true => exact Nat.succ_pos _
  | false => exact Nat.succ_lt_succ (h rfl)
theorem mn_ct {α : Type} {xs : List α} {y : α} {s1 s2 : Bool} {n m N : Nat} (hs : s1 = false) (hc : xs.length + n ≤ N + (bif s1 then 1 else 0)) (h : s2 = false → m < n) (h2 : m ≤ n) (h0 : 0 < n) : (xs ++ [y]).length + m ≤ N + (bif s2 then 1 else 0) := by
  subst hs
  rw [List.length_append, List.length_singleton]
  cases s2 with
  | true => simp only [Bool.cond_true, Bool.cond_false] at *; omega
  | false => have := h rfl; simp only [Bool.cond_false] at *; omega
theorem mn_b1 (s : Bool) : (bif s then 1 else 0) ≤ 1 := by cases s <;> decide
theorem mn_c1 {n m N : Nat} {s1 : Bool} (h : n + m ≤ N + (bif s1 then 1 else 0)) : n ≤ N + 1 := by
  cases s1 with
  | true => simp only [Bool.cond_true] at h; omega
  | false => simp only [Bool.cond_false] at h; omega

theorem many_u16 (w : World) (br : Nat) (n : Nat) (hn : n ≤ 4) (x : Nat) (hx : x ≤ 4294967295) (a : Option Addr) (c : Nat) (l : List UInt8) (s o : Bool) (i : InB w [.box br [.slice a (List.length l) c, .bool s, .bool o] 120] a c l) (hH : Heap w [.box br [.slice a (List.length l) c, .bool s, .bool o] 120]) : Calls Try.prog 147 #[pt br, ni n, ni x, .func (.func 148) #[] #[]] w fun e w' => ∃ ta tc oa oc xs, e = .returned (.slice oa (List.length xs) oc) ∧ Ev w [.box br [.slice a (List.length l) c, .bool s, .bool o] 120] w' [.box br [.slice ta (List.length (lsR n x 16777215 l s)) tc, .bool (lsS n x 16777215 l s || (mn u16M ((lsO n x 16777215 l s, lsS n x 16777215 l s, false) : PS)).2.2.1), .bool (o || (mn u16M ((lsO n x 16777215 l s, lsS n x 16777215 l s, false) : PS)).2.2.2)] 120, .vec oa oc 1 (List.flatMap fU16 xs) 37] ∧ Sub a c l ta tc (lsR n x 16777215 l s) ∧ List.map (fun y : RU16 => y) xs = (mn u16M ((lsO n x 16777215 l s, lsS n x 16777215 l s, false) : PS)).1 ∧ List.length xs ≤ List.length (lsO n x 16777215 l s) + 1 := by
 refine d_0 [(0, pt br), (1, ni n), (2, ni x), (3, .func (.func 148) #[] #[])] 69 Go.Proofs.Try.func147 Go.Proofs.Try.ntmps147 (hH) fun act0 En0 Hv0 => ?_
 refine d_s [0,1,2,3,8] [] En0 fun ac1 En2 => ?_
 refine wp_seq ?_
 refine region_from ?_
 refine d_k [0,3,8,12,13,14] [] 3 En2 fun ac3 En4 => ?_
 refine f_o ?_
 refine c_l [0] (M := [.box br [.slice a (List.length l) c, .bool s, .bool o] 120]) En4 Hv0 (fun hM10 => list_go _ br n (by omega) x 16777215 (by omega) (by omega) a c l s o ((i.ev Hv0).pick [0] (by kernel_rfl)) hM10) ?_
 rintro _ wo11 ⟨ao5, cp6, ta7, tc8, rfl, he12, hs9⟩
 refine ⟨_, _, [.box br [.slice ta7 (List.length (lsR n x 16777215 l s)) tc8, .bool (lsS n x 16777215 l s), .bool o] 120, .vec ao5 cp6 1 (bys (lsO n x 16777215 l s)) 5], rfl, he12, by kernel_rfl, fun ac14 En15 Hv16 => ?_⟩
 refine d_e [0,3,8,9] [] En15 fun ac17 En18 => ?_
 refine then_normal ?_
 refine wp_seq ?_
 refine region_from ?_
 refine d_k [0,3,8,16,19] [] 4 En18 fun ac19 En20 => ?_
 refine f_o ?_
 refine m_l 0 En20 Hv16 fun ac21 En22 => ?_
 refine d_k [0,3,8,21] [] 6 En22 fun ac23 En24 => ?_
 refine f_o ?_
 refine m_m 120 [.slice ao5 (List.length (lsO n x 16777215 l s)) cp6, .bool (lsS n x 16777215 l s), .bool false] En24 Hv16 fun ac26 wo27 bk25 En28 Hv29 => ?_
 refine d_e [0,3,8,10] [] En28 fun ac30 En31 => ?_
 refine then_normal ?_
 refine d_s [0,3,8,10,11] [] En31 fun ac32 En33 => ?_
 refine wp_seq ?_
 refine region_cut (F := fun ac wo => ∃ (oa : Option Addr) (oc : Nat) (xs : List (RU16)) (ra : Option Addr) (rc : Nat) (rl : Bs) (s1 : Bool) (o1 : Bool), Env ac 69 [(0, pt br), (3, .func (.func 148) #[] #[]), (8, .slice none 0 0), (10, pt bk25), (11, .slice oa (List.length xs) oc)] ∧ Ev w [.box br [.slice a (List.length l) c, .bool s, .bool o] 120] wo [.box br [.slice ta7 (List.length (lsR n x 16777215 l s)) tc8, .bool (lsS n x 16777215 l s), .bool o] 120, .box bk25 [.slice ra (List.length rl) rc, .bool s1, .bool o1] 120, .vec oa oc 1 (List.flatMap fU16 xs) 37] ∧ (mn u16M ((lsO n x 16777215 l s, lsS n x 16777215 l s, false) : PS) = (List.map (fun y : RU16 => y) xs, rl, s1, o1)) ∧ (List.length xs ≤ List.length (lsO n x 16777215 l s) + 1)) ?_ ?_
 ·
  refine wp_block ?_
  have Hv34 : Ev w [.box br [.slice a (List.length l) c, .bool s, .bool o] 120] wo27 [.box br [.slice ta7 (List.length (lsR n x 16777215 l s)) tc8, .bool (lsS n x 16777215 l s), .bool o] 120, .vec ao5 cp6 1 (bys (lsO n x 16777215 l s)) 5, .box bk25 [.slice ao5 (List.length (lsO n x 16777215 l s)) cp6, .bool (lsS n x 16777215 l s), .bool false] 120, .vec none 0 1 (List.flatMap fU16 []) 37] := Ev.nil (sz := 1) (T := 37) Hv29
  have hO32 : List.length (lsO n x 16777215 l s) ≤ 4294967295 := Nat.le_trans (tkO_len _ _ _) (Nat.le_of_lt_succ (nbV_4 hn l s))
  refine loop_m (fun ms35 ac wo => ∃ (oa : Option Addr) (oc : Nat) (xs : List (RU16)) (ra : Option Addr) (rc : Nat) (rl : Bs) (s1 : Bool) (o1 : Bool), ms35 = (bif s1 then 0 else List.length rl + 1 : Nat) ∧ Env ac 69 [(0, pt br), (3, .func (.func 148) #[] #[]), (8, .slice none 0 0), (10, pt bk25), (11, .slice oa (List.length xs) oc)] ∧ Ev w [.box br [.slice a (List.length l) c, .bool s, .bool o] 120] wo [.box bk25 [.slice ra (List.length rl) rc, .bool s1, .bool o1] 120, .box br [.slice ta7 (List.length (lsR n x 16777215 l s)) tc8, .bool (lsS n x 16777215 l s), .bool o] 120, .vec ao5 cp6 1 (bys (lsO n x 16777215 l s)) 5, .vec oa oc 1 (List.flatMap fU16 xs) 37] ∧ (Sub ao5 cp6 (lsO n x 16777215 l s) ra rc rl) ∧ (mn u16M ((lsO n x 16777215 l s, lsS n x 16777215 l s, false) : PS) = (List.map (fun y : RU16 => y) xs ++ (mn u16M (rl, s1, o1)).1, (mn u16M (rl, s1, o1)).2)) ∧ (List.length xs + List.length rl ≤ List.length (lsO n x 16777215 l s) + (bif s1 then 1 else 0))) ⟨_, none, 0, [], ao5, cp6, (lsO n x 16777215 l s), (lsS n x 16777215 l s), false, rfl, En33.sb, Hv34.pk [2, 0, 1, 3], Sub.self, rfl, (by rw [List.length_nil, Nat.zero_add]; exact Nat.le_add_right _ _)⟩ ?_
  rintro mm41 ac37 wo38 ⟨oa, oc, xs, ra, rc, rl, s1, o1, rfl, En39, Hv40, hsu, hmn, hct⟩
  refine wp_seq ?_
  refine wp_seq ?_
  refine region_from ?_
  refine d_k [0,3,8,10,11,25] [] 3 En39 fun ac42 En43 => ?_
  refine f_o ?_
  refine m_l 0 En43 Hv40 fun ac44 En45 => ?_
  refine d_k [0,3,8,10,11,28] [] 6 En45 fun ac46 En47 => ?_
  rcases Bool.eq_false_or_eq_true (!s1) with hb48 | hb48
  ·
   have En49 := En47.fx (t := 28) (congrArg Value.bool hb48)
   have hp50 : ¬ (s1 = true) := by simpa using hb48
   refine d_k [0,3,8,10,11,28,31] [] 9 En49 fun ac51 En52 => ?_
   refine f_o ?_
   refine m_l 0 En52 Hv40 fun ac53 En54 => ?_
   refine d_e [0,3,8,10,11,35] [] En54 fun ac55 En56 => ?_
   refine then_normal ?_
   refine c_d (((List.length rl : Nat) : Int) > (0 : Int)) En56 (fun hc57 => ?_) (fun hc57 => ?_)
   ·
    refine wp_skip ?_
    refine then_normal ?_
    refine wp_block ?_
    refine region_from ?_
    refine d_k [0,3,8,10,11,36,37,38] [] 3 En56 fun ac58 En59 => ?_
    refine f_o ?_
    refine c_l [0] (M := [.box bk25 [.slice ra (List.length rl) rc, .bool s1, .bool o1] 120]) En59 Hv40 (fun hM63 => u16_go _ bk25 ra rc rl s1 o1 (hsu _ _ (bys_in Hv40.heap (k := 2) rfl [0] (by kernel_rfl) rfl (by first | omega | (simp; done) | (simp; omega)))) hM63) ?_
    rintro _ wo64 ⟨ta60, tc61, rfl, he65, hs62⟩
    refine ⟨_, _, [.box bk25 [.slice ta60 (List.length (tkR 2 rl s1)) tc61, .bool (tkS 2 rl s1), .bool o1] 120, .box br [.slice ta7 (List.length (lsR n x 16777215 l s)) tc8, .bool (lsS n x 16777215 l s), .bool o] 120, .vec ao5 cp6 1 (bys (lsO n x 16777215 l s)) 5, .vec oa oc 1 (List.flatMap fU16 xs) 37], rfl, he65, by kernel_rfl, fun ac67 En68 Hv69 => ?_⟩
    refine f_o ?_
    refine op_lit (d := some 40) (t := 32) (T := 37) (m := 1) (parts := #[(0, .int .u16 ((UInt16.toNat (UInt16.ofNat (nbV 2 rl s1)) : Nat) : Int))]) (xs := List.flatMap fU16 ([UInt16.ofNat (nbV 2 rl s1)] : List (RU16))) (sz := 1) En68 (by kernel_rfl) (by kernel_rfl) rfl (by decide) Hv69 ?_
    intro ac71 wo72 bk70 En73 Hv74
    refine f_o ?_
    refine op_append (d := some 41) (t := 32) (tx := 32) (ty := 32) (k := 3) (p := List.length xs) (m := 1) (x := .slice (some ⟨bk70, 0, none⟩) 1 1) (bytes := 2) En73 (by kernel_rfl) Hv74 rfl (sv_len (f := fU16) (sz := 1) (fun _ => rfl) _) (Reads.src (size := 1) (tx := 32) (e' := 37) (by kernel_rfl) (Hv74.heap.reads (k := 4) rfl) rfl (fun e => by cases e) (flat_one (f := fU16) (fun _ => one_all rfl) _)) (by kernel_rfl) (z := .int .u16 0) (by kernel_rfl) rfl (by decide) (by have hb1 := mn_b1 s1; omega) (by unfold maxLen; have hb1 := mn_b1 s1; omega) ?_
    intro ac79 wo80 ao75 cp76 En81 Hv82 hnz _
    clear hnz
    rw [← List.flatMap_append] at Hv82
    have ehz77 : (List.length xs) + 1 = List.length (xs ++ ([UInt16.ofNat (nbV 2 rl s1)] : List (RU16))) := (by first | (simp; done) | (simp; omega) | omega)
    rw [ehz77] at En81
    refine d_e [0,3,8,10,11] [] En81 fun ac83 En84 => ?_
    refine block_normal ?_
    refine then_normal ?_
    have hl0 : 0 < List.length rl := by omega
    refine ⟨_, ⟨ao75, cp76, (xs ++ ([UInt16.ofNat (nbV 2 rl s1)] : List (RU16))), ta60, tc61, (tkR 2 rl s1), (tkS 2 rl s1), o1, rfl, En84.sb, Hv82.pk [0, 1, 2, 3], (hsu.trans hs62), (by rw [hmn, mn_step u16_dec (Bool.eq_false_iff.2 hp50) hl0, List.map_append, List.append_assoc]; rfl), (mn_ct (Bool.eq_false_iff.2 hp50) hct (dec_lt (o := o1) u16_dec (Bool.eq_false_iff.2 hp50) hl0) (dec_le (o := o1) u16_dec (Bool.eq_false_iff.2 hp50)) hl0)⟩, ?_⟩
    exact mn_mu (Bool.eq_false_iff.2 hp50) hl0 (dec_lt (o := o1) u16_dec (Bool.eq_false_iff.2 hp50) hl0)
   ·
    refine wp_exit ?_
    refine then_exit ?_
    refine then_exit ?_
    refine block_exit ?_
    exact ⟨rfl, ⟨oa, oc, xs, ra, rc, rl, s1, o1, En56.sb, Hv40.pk [1, 0, 3], (by rw [hmn, mn_end (p := (rl, s1, o1)) (by first | exact .inl (by assumption) | exact .inr (show rl = [] from List.length_eq_zero_iff.1 (by omega))), List.append_nil]), (mn_c1 hct)⟩⟩
  ·
   have En85 := En47.fx (t := 28) (congrArg Value.bool hb48)
   have hp86 : s1 = true := by simpa using hb48
   refine d_e [0,3,8,10,11,35] [] En85 fun ac87 En88 => ?_
   refine then_normal ?_
   refine c_f En88 ?_
   refine wp_exit ?_
   refine then_exit ?_
   refine then_exit ?_
   refine block_exit ?_
   exact ⟨rfl, ⟨oa, oc, xs, ra, rc, rl, s1, o1, En88.sb, Hv40.pk [1, 0, 3], (by rw [hmn, mn_end (p := (rl, s1, o1)) (by first | exact .inl (by assumption) | exact .inr (show rl = [] from List.length_eq_zero_iff.1 (by omega))), List.append_nil]), (mn_c1 hct)⟩⟩
 ·
  rintro ac89 wo90 ⟨oa, oc, xs, ra, rc, rl, s1, o1, En91, Hv92, hmn, hct⟩
  refine then_normal ?_
  refine wp_seq ?_
  rcases Bool.eq_false_or_eq_true (lsS n x 16777215 l s) with hb93 | hb93
  ·
   have hb93p : lsS n x 16777215 l s = true := hb93
   rcases Bool.eq_false_or_eq_true (o) with hb94 | hb94
   ·
    have hb94p : o = true := hb94
    refine r_c (fun ac wo => Env ac 69 [(0, pt br), (3, .func (.func 148) #[] #[]), (8, .slice none 0 0), (10, pt bk25), (11, .slice oa (List.length xs) oc)] ∧ Ev w [.box br [.slice a (List.length l) c, .bool s, .bool o] 120] wo [.box br [.slice ta7 (List.length (lsR n x 16777215 l s)) tc8, .bool true, .bool true] 120, .box bk25 [.slice ra (List.length rl) rc, .bool s1, .bool o1] 120, .vec oa oc 1 (List.flatMap fU16 xs) 37]) ?_ ?_
    ·
     refine h_s (fun wv => Ev w [.box br [.slice a (List.length l) c, .bool s, .bool o] 120] wv [.box br [.slice ta7 (List.length (lsR n x 16777215 l s)) tc8, .bool (lsS n x 16777215 l s), .bool o] 120]) [24] 28 ?_
     have wo95 := Hv92.trans (Ev.drew Hv92.heap)
     refine q_s [0,1,2,3,4] [] 23 En91 (wo95.pk [0]) fun ac176 En177 => ?_
     refine q_l 0 5 En177 (wo95.pk [0]) fun ac178 En179 => ?_
     refine q_s [6] [] 21 En179 (wo95.pk [0]) fun ac180 En181 => ?_
     have En182 := En181.fx (t := 47) (congrArg Value.bool hb93)
     have En183 := En182.fx (t := 48) (congrArg Value.bool hb93)
     refine q_s [7,8,9,10,11,12,13,14] [] 13 En183 (wo95.pk [0]) fun ac184 En185 => ?_
     refine q_l 0 15 En185 (wo95.pk [0]) fun ac186 En187 => ?_
     refine q_s [16] [] 11 En187 (wo95.pk [0]) fun ac188 En189 => ?_
     have En190 := En189.fx (t := 57) (congrArg Value.bool hb94)
     have En191 := En190.fx (t := 58) (congrArg Value.bool hb94)
     refine q_s [17,18,19,20,21,22,23] [] 4 En191 (wo95.pk [0]) fun ac192 En193 => ?_
     refine q_t 24 ?_
     refine m_s 0 [.box br [.slice ta7 (List.length (lsR n x 16777215 l s)) tc8, .bool true, .bool o] 120, .box bk25 [.slice ra (List.length rl) rc, .bool s1, .bool o1] 120, .vec oa oc 1 (List.flatMap fU16 xs) 37] En193 wo95 fun ac194 wo195 En196 Hv197 => ?_
     refine ⟨q_y, ?_⟩
     refine q_n [25,26] [] 1 En196 fun ac198 En199 => ?_
     refine q_t 27 ?_
     refine m_s 0 [.box br [.slice ta7 (List.length (lsR n x 16777215 l s)) tc8, .bool true, .bool true] 120, .box bk25 [.slice ra (List.length rl) rc, .bool s1, .bool o1] 120, .vec oa oc 1 (List.flatMap fU16 xs) 37] En199 Hv197 fun ac200 wo201 En202 Hv203 => ?_
     refine ⟨q_y, ?_⟩
     exact h_e ⟨En202.sb, Hv203.pk [0, 1, 2]⟩
    rintro ac204 wo205 ⟨En206, Hv207⟩
    refine then_normal ?_
    refine d_s [0,3,8,10,11] [] En206 fun ac208 En209 => ?_
    refine wp_ret ?_
    refine d_ret1 (t := 8) (v := .slice oa (List.length xs) oc) En209 (by kernel_rfl) (by kernel_rfl) ?_
    have e1 : (lsS n x 16777215 l s || s1) = true := by rw [hb93]; rfl
    have e2 : (o || o1) = true := by rw [hb94]; rfl
    have hfin : Ev w [.box br [.slice a (List.length l) c, .bool s, .bool o] 120] wo205 [.box br [.slice ta7 (List.length (lsR n x 16777215 l s)) tc8, .bool (lsS n x 16777215 l s || s1), .bool (o || o1)] 120, .vec oa oc 1 (List.flatMap fU16 xs) 37] := by rw [e1, e2]; exact Hv207.pk [0, 2]
    exact ⟨ta7, tc8, oa, oc, xs, rfl, by rw [hmn]; exact hfin, hs9, by rw [hmn], hct⟩
   ·
    have hb94p : ¬ (o = true) := Bool.eq_false_iff.1 hb94
    refine r_c (fun ac wo => Env ac 69 [(0, pt br), (3, .func (.func 148) #[] #[]), (8, .slice none 0 0), (10, pt bk25), (11, .slice oa (List.length xs) oc)] ∧ Ev w [.box br [.slice a (List.length l) c, .bool s, .bool o] 120] wo [.box br [.slice ta7 (List.length (lsR n x 16777215 l s)) tc8, .bool true, .bool o1] 120, .box bk25 [.slice ra (List.length rl) rc, .bool s1, .bool o1] 120, .vec oa oc 1 (List.flatMap fU16 xs) 37]) ?_ ?_
    ·
     refine h_s (fun wv => Ev w [.box br [.slice a (List.length l) c, .bool s, .bool o] 120] wv [.box br [.slice ta7 (List.length (lsR n x 16777215 l s)) tc8, .bool (lsS n x 16777215 l s), .bool o] 120, .box bk25 [.slice ra (List.length rl) rc, .bool s1, .bool o1] 120]) [24] 28 ?_
     have wo210 := Hv92.trans (Ev.drew Hv92.heap)
     refine q_s [0,1,2,3,4] [] 23 En91 (wo210.pk [0, 1]) fun ac303 En304 => ?_
     refine q_l 0 5 En304 (wo210.pk [0, 1]) fun ac305 En306 => ?_
     refine q_s [6] [] 21 En306 (wo210.pk [0, 1]) fun ac307 En308 => ?_
     have En309 := En308.fx (t := 47) (congrArg Value.bool hb93)
     have En310 := En309.fx (t := 48) (congrArg Value.bool hb93)
     refine q_s [7,8,9,10,11,12,13,14] [] 13 En310 (wo210.pk [0, 1]) fun ac311 En312 => ?_
     refine q_l 0 15 En312 (wo210.pk [0, 1]) fun ac313 En314 => ?_
     refine q_s [16] [] 11 En314 (wo210.pk [0, 1]) fun ac315 En316 => ?_
     have En317 := En316.fx (t := 57) (congrArg Value.bool hb94)
     have En318 := En317.fx (t := 58) (congrArg Value.bool hb94)
     refine q_s [17,18,19] [] 8 En318 (wo210.pk [0, 1]) fun ac319 En320 => ?_
     refine q_l 1 20 En320 (wo210.pk [0, 1]) fun ac321 En322 => ?_
     refine q_s [21,22,23] [] 4 En322 (wo210.pk [0, 1]) fun ac323 En324 => ?_
     refine q_t 24 ?_
     refine m_s 0 [.box br [.slice ta7 (List.length (lsR n x 16777215 l s)) tc8, .bool true, .bool o] 120, .box bk25 [.slice ra (List.length rl) rc, .bool s1, .bool o1] 120, .vec oa oc 1 (List.flatMap fU16 xs) 37] En324 wo210 fun ac325 wo326 En327 Hv328 => ?_
     refine ⟨q_y, ?_⟩
     refine q_n [25,26] [] 1 En327 fun ac329 En330 => ?_
     refine q_t 27 ?_
     refine m_s 0 [.box br [.slice ta7 (List.length (lsR n x 16777215 l s)) tc8, .bool true, .bool o1] 120, .box bk25 [.slice ra (List.length rl) rc, .bool s1, .bool o1] 120, .vec oa oc 1 (List.flatMap fU16 xs) 37] En330 Hv328 fun ac331 wo332 En333 Hv334 => ?_
     refine ⟨q_y, ?_⟩
     exact h_e ⟨En333.sb, Hv334.pk [0, 1, 2]⟩
    rintro ac335 wo336 ⟨En337, Hv338⟩
    refine then_normal ?_
    refine d_s [0,3,8,10,11] [] En337 fun ac339 En340 => ?_
    refine wp_ret ?_
    refine d_ret1 (t := 8) (v := .slice oa (List.length xs) oc) En340 (by kernel_rfl) (by kernel_rfl) ?_
    have e1 : (lsS n x 16777215 l s || s1) = true := by rw [hb93]; rfl
    have e2 : (o || o1) = o1 := by rw [hb94]; rfl
    have hfin : Ev w [.box br [.slice a (List.length l) c, .bool s, .bool o] 120] wo336 [.box br [.slice ta7 (List.length (lsR n x 16777215 l s)) tc8, .bool (lsS n x 16777215 l s || s1), .bool (o || o1)] 120, .vec oa oc 1 (List.flatMap fU16 xs) 37] := by rw [e1, e2]; exact Hv338.pk [0, 2]
    exact ⟨ta7, tc8, oa, oc, xs, rfl, by rw [hmn]; exact hfin, hs9, by rw [hmn], hct⟩
  ·
   have hb93p : ¬ (lsS n x 16777215 l s = true) := Bool.eq_false_iff.1 hb93
   rcases Bool.eq_false_or_eq_true (o) with hb341 | hb341
   ·
    have hb341p : o = true := hb341
    refine r_c (fun ac wo => Env ac 69 [(0, pt br), (3, .func (.func 148) #[] #[]), (8, .slice none 0 0), (10, pt bk25), (11, .slice oa (List.length xs) oc)] ∧ Ev w [.box br [.slice a (List.length l) c, .bool s, .bool o] 120] wo [.box br [.slice ta7 (List.length (lsR n x 16777215 l s)) tc8, .bool s1, .bool true] 120, .box bk25 [.slice ra (List.length rl) rc, .bool s1, .bool o1] 120, .vec oa oc 1 (List.flatMap fU16 xs) 37]) ?_ ?_
    ·
     refine h_s (fun wv => Ev w [.box br [.slice a (List.length l) c, .bool s, .bool o] 120] wv [.box br [.slice ta7 (List.length (lsR n x 16777215 l s)) tc8, .bool (lsS n x 16777215 l s), .bool o] 120, .box bk25 [.slice ra (List.length rl) rc, .bool s1, .bool o1] 120]) [24] 28 ?_
     have wo342 := Hv92.trans (Ev.drew Hv92.heap)
     refine q_s [0,1,2,3,4] [] 23 En91 (wo342.pk [0, 1]) fun ac457 En458 => ?_
     refine q_l 0 5 En458 (wo342.pk [0, 1]) fun ac459 En460 => ?_
     refine q_s [6] [] 21 En460 (wo342.pk [0, 1]) fun ac461 En462 => ?_
     have En463 := En462.fx (t := 47) (congrArg Value.bool hb93)
     have En464 := En463.fx (t := 48) (congrArg Value.bool hb93)
     refine q_s [7,8,9] [] 18 En464 (wo342.pk [0, 1]) fun ac465 En466 => ?_
     refine q_l 1 10 En466 (wo342.pk [0, 1]) fun ac467 En468 => ?_
     refine q_s [11,12,13,14] [] 13 En468 (wo342.pk [0, 1]) fun ac469 En470 => ?_
     refine q_l 0 15 En470 (wo342.pk [0, 1]) fun ac471 En472 => ?_
     refine q_s [16] [] 11 En472 (wo342.pk [0, 1]) fun ac473 En474 => ?_
     have En475 := En474.fx (t := 57) (congrArg Value.bool hb341)
     have En476 := En475.fx (t := 58) (congrArg Value.bool hb341)
     refine q_s [17,18,19,20,21,22,23] [] 4 En476 (wo342.pk [0, 1]) fun ac477 En478 => ?_
     refine q_t 24 ?_
     refine m_s 0 [.box br [.slice ta7 (List.length (lsR n x 16777215 l s)) tc8, .bool s1, .bool o] 120, .box bk25 [.slice ra (List.length rl) rc, .bool s1, .bool o1] 120, .vec oa oc 1 (List.flatMap fU16 xs) 37] En478 wo342 fun ac479 wo480 En481 Hv482 => ?_
     refine ⟨q_y, ?_⟩
     refine q_n [25,26] [] 1 En481 fun ac483 En484 => ?_
     refine q_t 27 ?_
     refine m_s 0 [.box br [.slice ta7 (List.length (lsR n x 16777215 l s)) tc8, .bool s1, .bool true] 120, .box bk25 [.slice ra (List.length rl) rc, .bool s1, .bool o1] 120, .vec oa oc 1 (List.flatMap fU16 xs) 37] En484 Hv482 fun ac485 wo486 En487 Hv488 => ?_
     refine ⟨q_y, ?_⟩
     exact h_e ⟨En487.sb, Hv488.pk [0, 1, 2]⟩
    rintro ac489 wo490 ⟨En491, Hv492⟩
    refine then_normal ?_
    refine d_s [0,3,8,10,11] [] En491 fun ac493 En494 => ?_
    refine wp_ret ?_
    refine d_ret1 (t := 8) (v := .slice oa (List.length xs) oc) En494 (by kernel_rfl) (by kernel_rfl) ?_
    have e1 : (lsS n x 16777215 l s || s1) = s1 := by rw [hb93]; rfl
    have e2 : (o || o1) = true := by rw [hb341]; rfl
    have hfin : Ev w [.box br [.slice a (List.length l) c, .bool s, .bool o] 120] wo490 [.box br [.slice ta7 (List.length (lsR n x 16777215 l s)) tc8, .bool (lsS n x 16777215 l s || s1), .bool (o || o1)] 120, .vec oa oc 1 (List.flatMap fU16 xs) 37] := by rw [e1, e2]; exact Hv492.pk [0, 2]
    exact ⟨ta7, tc8, oa, oc, xs, rfl, by rw [hmn]; exact hfin, hs9, by rw [hmn], hct⟩
   ·
    have hb341p : ¬ (o = true) := Bool.eq_false_iff.1 hb341
    refine r_c (fun ac wo => Env ac 69 [(0, pt br), (3, .func (.func 148) #[] #[]), (8, .slice none 0 0), (10, pt bk25), (11, .slice oa (List.length xs) oc)] ∧ Ev w [.box br [.slice a (List.length l) c, .bool s, .bool o] 120] wo [.box br [.slice ta7 (List.length (lsR n x 16777215 l s)) tc8, .bool s1, .bool o1] 120, .box bk25 [.slice ra (List.length rl) rc, .bool s1, .bool o1] 120, .vec oa oc 1 (List.flatMap fU16 xs) 37]) ?_ ?_
    ·
     refine h_s (fun wv => Ev w [.box br [.slice a (List.length l) c, .bool s, .bool o] 120] wv [.box br [.slice ta7 (List.length (lsR n x 16777215 l s)) tc8, .bool (lsS n x 16777215 l s), .bool o] 120, .box bk25 [.slice ra (List.length rl) rc, .bool s1, .bool o1] 120]) [24] 28 ?_
     have wo495 := Hv92.trans (Ev.drew Hv92.heap)
     refine q_s [0,1,2,3,4] [] 23 En91 (wo495.pk [0, 1]) fun ac630 En631 => ?_
     refine q_l 0 5 En631 (wo495.pk [0, 1]) fun ac632 En633 => ?_
     refine q_s [6] [] 21 En633 (wo495.pk [0, 1]) fun ac634 En635 => ?_
     have En636 := En635.fx (t := 47) (congrArg Value.bool hb93)
     have En637 := En636.fx (t := 48) (congrArg Value.bool hb93)
     refine q_s [7,8,9] [] 18 En637 (wo495.pk [0, 1]) fun ac638 En639 => ?_
     refine q_l 1 10 En639 (wo495.pk [0, 1]) fun ac640 En641 => ?_
     refine q_s [11,12,13,14] [] 13 En641 (wo495.pk [0, 1]) fun ac642 En643 => ?_
     refine q_l 0 15 En643 (wo495.pk [0, 1]) fun ac644 En645 => ?_
     refine q_s [16] [] 11 En645 (wo495.pk [0, 1]) fun ac646 En647 => ?_
     have En648 := En647.fx (t := 57) (congrArg Value.bool hb341)
     have En649 := En648.fx (t := 58) (congrArg Value.bool hb341)
     refine q_s [17,18,19] [] 8 En649 (wo495.pk [0, 1]) fun ac650 En651 => ?_
     refine q_l 1 20 En651 (wo495.pk [0, 1]) fun ac652 En653 => ?_
     refine q_s [21,22,23] [] 4 En653 (wo495.pk [0, 1]) fun ac654 En655 => ?_
     refine q_t 24 ?_
     refine m_s 0 [.box br [.slice ta7 (List.length (lsR n x 16777215 l s)) tc8, .bool s1, .bool o] 120, .box bk25 [.slice ra (List.length rl) rc, .bool s1, .bool o1] 120, .vec oa oc 1 (List.flatMap fU16 xs) 37] En655 wo495 fun ac656 wo657 En658 Hv659 => ?_
     refine ⟨q_y, ?_⟩
     refine q_n [25,26] [] 1 En658 fun ac660 En661 => ?_
     refine q_t 27 ?_
     refine m_s 0 [.box br [.slice ta7 (List.length (lsR n x 16777215 l s)) tc8, .bool s1, .bool o1] 120, .box bk25 [.slice ra (List.length rl) rc, .bool s1, .bool o1] 120, .vec oa oc 1 (List.flatMap fU16 xs) 37] En661 Hv659 fun ac662 wo663 En664 Hv665 => ?_
     refine ⟨q_y, ?_⟩
     exact h_e ⟨En664.sb, Hv665.pk [0, 1, 2]⟩
    rintro ac666 wo667 ⟨En668, Hv669⟩
    refine then_normal ?_
    refine d_s [0,3,8,10,11] [] En668 fun ac670 En671 => ?_
    refine wp_ret ?_
    refine d_ret1 (t := 8) (v := .slice oa (List.length xs) oc) En671 (by kernel_rfl) (by kernel_rfl) ?_
    have e1 : (lsS n x 16777215 l s || s1) = s1 := by rw [hb93]; rfl
    have e2 : (o || o1) = o1 := by rw [hb341]; rfl
    have hfin : Ev w [.box br [.slice a (List.length l) c, .bool s, .bool o] 120] wo667 [.box br [.slice ta7 (List.length (lsR n x 16777215 l s)) tc8, .bool (lsS n x 16777215 l s || s1), .bool (o || o1)] 120, .vec oa oc 1 (List.flatMap fU16 xs) 37] := by rw [e1, e2]; exact Hv669.pk [0, 2]
    exact ⟨ta7, tc8, oa, oc, xs, rfl, by rw [hmn]; exact hfin, hs9, by rw [hmn], hct⟩

end Go.Proofs.Ytofecellbfhnjaa
