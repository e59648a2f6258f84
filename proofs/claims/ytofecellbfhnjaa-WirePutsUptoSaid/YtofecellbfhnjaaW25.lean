/- Layer 17: lists of parts are written by the program. -/
import Derived.Test.YtofecellbfhnjaaW24
namespace Go.Proofs.Ytofecellbfhnjaa
open Go.Dbr
set_option maxRecDepth 100000
set_option maxHeartbeats 2000000
set_option linter.unusedVariables false
set_option linter.unusedSimpArgs false

theorem all_u16 (w : World) (bw : Nat) (a : Option Addr) (c : Nat) (l : Bs) (bad : Bool) (n : Nat) (hn : n ≤ 4) (x : Nat) (hx : x ≤ 4294967295) (al : Option Addr) (cl : Nat) (xs : List RU16) (il : InS fU16 2 (fun y : RU16 => True) w [.box bw [.slice a (List.length l) c, .bool bad] 115, .vec a c 1 (bys l) 5] al cl xs) (hfb : ∀ i, i ≤ List.length xs → List.length (allM u16F (List.take i (List.map (fun y : RU16 => y) xs))).1 ≤ 140737489403904) (hb : List.length l + n + List.length (allM u16F (List.map (fun y : RU16 => y) xs)).1 ≤ 200000000000000) (hH : Heap w [.box bw [.slice a (List.length l) c, .bool bad] 115, .vec a c 1 (bys l) 5]) : Calls Try.prog 112 #[pt bw, ni n, ni x, .slice al (List.length xs) cl, .func (.func 113) #[] #[]] w fun e w' => ∃ a' c', e = .returned (.tuple #[]) ∧ Ev w [.box bw [.slice a (List.length l) c, .bool bad] 115, .vec a c 1 (bys l) 5] w' [.box bw [.slice a' (List.length (wput n l (allM u16F (List.map (fun y : RU16 => y) xs)).1)) c', .bool (wbad n x 16777215 (List.length (allM u16F (List.map (fun y : RU16 => y) xs)).1) (bad || (allM u16F (List.map (fun y : RU16 => y) xs)).2))] 115, .vec a' c' 1 (bys (wput n l (allM u16F (List.map (fun y : RU16 => y) xs)).1)) 5] := by
 have hxs := il.small
 have hxc := il.cap
 refine d_0 [(0, pt bw), (1, ni n), (2, ni x), (3, .slice al (List.length xs) cl), (4, .func (.func 113) #[] #[])] 47 Go.Proofs.Try.func112 Go.Proofs.Try.ntmps112 (hH) fun act0 En0 Hv0 => ?_
 refine wp_seq ?_
 refine region_from ?_
 refine d_k [0,1,2,3,4,13] [] 1 En0 fun ac1 En2 => ?_
 refine f_o ?_
 refine m_m 115 [.slice none 0 0, .bool false] En2 Hv0 fun ac4 wo5 bk3 En6 Hv7 => ?_
 refine d_e [0,1,2,3,4,10] [] En6 fun ac8 En9 => ?_
 refine then_normal ?_
 refine wp_seq ?_
 refine wp_seq ?_
 refine d_r [0,1,2,4,10,15,16,17] [] En9 fun ac10 En11 => ?_
 refine then_normal ?_
 refine wp_block ?_
 have Hv12 : Ev w [.box bw [.slice a (List.length l) c, .bool bad] 115, .vec a c 1 (bys l) 5] wo5 [.box bw [.slice a (List.length l) c, .bool bad] 115, .vec a c 1 (bys l) 5, .box bk3 [.slice none 0 0, .bool false] 115, .vec none 0 1 (bys []) 5] := Ev.nil (sz := 1) (T := 5) Hv7
 refine loop_m (fun ms13 ac wo => ∃ (i : Nat) (wa : Option Addr) (wc : Nat) (m : Bs) (bd : Bool), ms13 = (List.length xs + 1 - i : Nat) ∧ Env ac 47 [(0, pt bw), (1, ni n), (2, ni x), (4, .func (.func 113) #[] #[]), (10, pt bk3), (15, .slice al (List.length xs) cl), (16, .int .i64 ((List.length xs : Nat) : Int)), (17, ni i)] ∧ Ev w [.box bw [.slice a (List.length l) c, .bool bad] 115, .vec a c 1 (bys l) 5] wo [.box bw [.slice a (List.length l) c, .bool bad] 115, .vec a c 1 (bys l) 5, .box bk3 [.slice wa (List.length m) wc, .bool bd] 115, .vec wa wc 1 (bys m) 5] ∧ ((m, bd) = allM u16F (List.take i (List.map (fun y : RU16 => y) xs)))) ⟨_, 0, none, 0, [], false, rfl, En11.sb, Hv12.pk [0, 1, 2, 3], rfl⟩ ?_
 rintro mm19 ac15 wo16 ⟨i, wa, wc, m, bd, rfl, En17, Hv18, hfo⟩
 refine wp_seq ?_
 refine d_r [0,1,2,4,10,15,16,17,18] [] En17 fun ac20 En21 => ?_
 refine then_normal ?_
 refine wp_seq ?_
 refine c_d (((i : Nat) : Int) < ((List.length xs : Nat) : Int)) En21 (fun hc22 => ?_) (fun hc22 => ?_)
 ·
  refine wp_skip ?_
  refine then_normal ?_
  refine wp_seq ?_
  refine wp_block ?_
  refine wp_seq ?_
  have hb25 : i < List.length xs := (by omega)
  obtain ⟨adr23, had24⟩ := some_of il.nz hb25
  have hb26 : i < List.length xs := by omega
  obtain ⟨x28, hx27⟩ : ∃ x, (xs)[i]? = some x := ⟨_, List.getElem?_eq_getElem hb26⟩
  obtain _ := il.each _ (List.mem_of_getElem? hx27)
  refine region_from ?_
  refine f_o ?_
  refine q_v (x := Instr.indexAt 32 (.slice al (List.length xs) cl) (ni i)) (v := .pointer (some (Addr.add adr23 i))) En21 (Go.Dbr.run_indexsl (e := 37) (sz := 1) (j := i) (jo := i) had24 (by kernel_rfl) (by kernel_rfl) (by omega) hb25 (Nat.mul_one _) _) fun ac29 En30 => ?_
  refine f_o ?_
  refine op_loadf (d := some 20) (t := 37) (ad := adr23) (ao := al) (ys := List.flatMap fU16 xs) (o := i) (v := uv16 x28) En30 (by kernel_rfl) rfl (il.ro.ev Hv18).reads had24 ((flat_get1 (fun _ _ => rfl) hx27).trans rfl) (by kernel_rfl) ?_
  intro ac31 En32
  refine d_e [0,1,2,4,10,12,15,16,17] [] En32 fun ac33 En34 => ?_
  refine then_normal ?_
  have hnb := hfb (i + 1) (by omega)
  rw [allM_take hx27, ← hfo] at hnb
  have hnc := hnb
  simp only [u16F, List.length_append, beN_len] at hnc
  refine region_from ?_
  refine d_k [0,1,2,4,10,15,16,17,21,22,23] [] 3 En34 fun ac35 En36 => ?_
  refine f_o ?_
  refine c_l [2,3] (M := [.box bk3 [.slice wa (List.length m) wc, .bool bd] 115, .vec wa wc 1 (bys m) 5]) En36 Hv18 (fun hM39 => wu16_go _ bk3 wa wc m bd x28 (by first | omega | (simp [wput_len, beN_len]; done) | (simp [wput_len, beN_len]; omega)) hM39) ?_
  rintro _ wo40 ⟨wa37, wc38, rfl, he41⟩
  refine ⟨_, _, [.box bk3 [.slice wa37 (List.length ((u16F (m, bd) x28).1)) wc38, .bool ((u16F (m, bd) x28).2)] 115, .vec wa37 wc38 1 (bys ((u16F (m, bd) x28).1)) 5, .box bw [.slice a (List.length l) c, .bool bad] 115, .vec a c 1 (bys l) 5], rfl, he41, by kernel_rfl, fun ac43 En44 Hv45 => ?_⟩
  refine f_e ?_
  refine block_normal ?_
  refine then_normal ?_
  refine d_r [0,1,2,4,10,15,16,17] [(0, g_n (w_a i 1))] En44 fun ac46 En47 => ?_
  refine then_normal ?_
  refine ⟨_, ⟨i + 1, wa37, wc38, ((u16F (m, bd) x28).1), ((u16F (m, bd) x28).2), rfl, En47.sb, Hv45.pk [2, 3, 0, 1], (by rw [allM_take hx27, ← hfo] <;> rfl)⟩, ?_⟩
  omega
 ·
  refine wp_exit ?_
  refine then_exit ?_
  refine then_exit ?_
  refine block_exit ?_
  refine then_normal ?_
  refine wp_seq ?_
  have hfe := allM_all (F := u16F) (f := (fun y : RU16 => y)) (xs := xs) (i := i) (by omega)
  rw [← hfo] at hfe
  refine region_cut (F := fun ac wo => ∃ (b2 : Bool), Env ac 47 [(0, pt bw), (1, ni n), (2, ni x), (4, .func (.func 113) #[] #[]), (10, pt bk3), (15, .slice al (List.length xs) cl), (16, .int .i64 ((List.length xs : Nat) : Int)), (17, ni i)] ∧ Ev w [.box bw [.slice a (List.length l) c, .bool bad] 115, .vec a c 1 (bys l) 5] wo [.box bw [.slice a (List.length l) c, .bool b2] 115, .vec a c 1 (bys l) 5, .box bk3 [.slice wa (List.length m) wc, .bool bd] 115, .vec wa wc 1 (bys m) 5] ∧ (b2 = (bad || bd))) ?_ ?_
  ·
   refine region_from ?_
   refine d_k [0,1,2,4,10,15,16,17,26,29] [] 4 En21 fun ac48 En49 => ?_
   refine f_o ?_
   refine m_l 0 En49 Hv18 fun ac50 En51 => ?_
   refine d_k [0,1,2,4,10,15,16,17,26,31] [] 6 En51 fun ac52 En53 => ?_
   rcases Bool.eq_false_or_eq_true (bad) with hb54 | hb54
   ·
    have En55 := En53.fx (t := 31) (congrArg Value.bool hb54)
    have hp56 : bad = true := hb54
    refine d_k [0,1,2,4,10,15,16,17,36,38] [] 13 En55 fun ac57 En58 => ?_
    refine f_o ?_
    refine m_s 0 [.box bw [.slice a (List.length l) c, .bool true] 115, .vec a c 1 (bys l) 5, .box bk3 [.slice wa (List.length m) wc, .bool bd] 115, .vec wa wc 1 (bys m) 5] En58 Hv18 fun ac59 wo60 En61 Hv62 => ?_
    refine f_e ?_
    exact ⟨rfl, ⟨true, En61.sb, Hv62.pk [0, 1, 2, 3], (by first | exact or_t (by assumption) | exact or_f (by assumption))⟩⟩
   ·
    have En63 := En53.fx (t := 31) (congrArg Value.bool hb54)
    have hp64 : ¬ (bad = true) := Bool.eq_false_iff.1 hb54
    refine d_k [0,1,2,4,10,15,16,17,26,31,34] [] 9 En63 fun ac65 En66 => ?_
    refine f_o ?_
    refine m_l 2 En66 Hv18 fun ac67 En68 => ?_
    refine d_k [0,1,2,4,10,15,16,17,36,38] [] 13 En68 fun ac69 En70 => ?_
    refine f_o ?_
    refine m_s 0 [.box bw [.slice a (List.length l) c, .bool bd] 115, .vec a c 1 (bys l) 5, .box bk3 [.slice wa (List.length m) wc, .bool bd] 115, .vec wa wc 1 (bys m) 5] En70 Hv18 fun ac71 wo72 En73 Hv74 => ?_
    refine f_e ?_
    exact ⟨rfl, ⟨bd, En73.sb, Hv74.pk [0, 1, 2, 3], (by first | exact or_t (by assumption) | exact or_f (by assumption))⟩⟩
  ·
   rintro ac75 wo76 ⟨b2, En77, Hv78, hb2⟩
   refine then_normal ?_
   have hml := hfb (List.length xs) (Nat.le_refl _)
   rw [List.take_of_length_le (by rw [List.length_map]; exact Nat.le_refl _), ← hfe] at hml
   rw [← hfe] at hb
   refine region_from ?_
   refine d_k [0,4,10,15,16,17,39,40,41,44] [] 6 En77 fun ac79 En80 => ?_
   refine f_o ?_
   refine m_l 2 En80 Hv78 fun ac81 En82 => ?_
   refine f_o ?_
   refine c_l [0,1] (M := [.box bw [.slice a (List.length l) c, .bool b2] 115, .vec a c 1 (bys l) 5]) En82 Hv78 (fun hM85 => wlist_go _ bw a c l b2 n (by omega) x 16777215 (by omega) (by omega) wa wc m (bys_in Hv78.heap (k := 3) rfl [0, 1] (by kernel_rfl) rfl (by first | omega | (simp; done) | (simp; omega))) (by first | exact hb | omega) hM85) ?_
   rintro _ wo86 ⟨wa83, wc84, rfl, he87⟩
   refine ⟨_, _, [.box bw [.slice wa83 (List.length (wput n l m)) wc84, .bool (wbad n x 16777215 (List.length m) b2)] 115, .vec wa83 wc84 1 (bys (wput n l m)) 5, .box bk3 [.slice wa (List.length m) wc, .bool bd] 115, .vec wa wc 1 (bys m) 5], rfl, he87, by kernel_rfl, fun ac89 En90 Hv91 => ?_⟩
   refine f_e ?_
   refine d_end0 En90 (by kernel_rfl) ?_
   subst hb2
   rw [← hfe]
   exact ⟨wa83, wc84, rfl, Hv91.pk [0, 1]⟩

theorem all_alpn (w : World) (bw : Nat) (a : Option Addr) (c : Nat) (l : Bs) (bad : Bool) (n : Nat) (hn : n ≤ 4) (x : Nat) (hx : x ≤ 4294967295) (al : Option Addr) (cl : Nat) (xs : List RStr) (il : InS fStr 16 (fun y : RStr => (List.length y ≤ 140737488351232)) w [.box bw [.slice a (List.length l) c, .bool bad] 115, .vec a c 1 (bys l) 5] al cl xs) (hfb : ∀ i, i ≤ List.length xs → List.length (allM alF (List.take i (List.map (fun y : RStr => y) xs))).1 ≤ 140737489403904) (hb : List.length l + n + List.length (allM alF (List.map (fun y : RStr => y) xs)).1 ≤ 200000000000000) (hH : Heap w [.box bw [.slice a (List.length l) c, .bool bad] 115, .vec a c 1 (bys l) 5]) : Calls Try.prog 108 #[pt bw, ni n, ni x, .slice al (List.length xs) cl, .func (.func 117) #[] #[]] w fun e w' => ∃ a' c', e = .returned (.tuple #[]) ∧ Ev w [.box bw [.slice a (List.length l) c, .bool bad] 115, .vec a c 1 (bys l) 5] w' [.box bw [.slice a' (List.length (wput n l (allM alF (List.map (fun y : RStr => y) xs)).1)) c', .bool (wbad n x 16777215 (List.length (allM alF (List.map (fun y : RStr => y) xs)).1) (bad || (allM alF (List.map (fun y : RStr => y) xs)).2))] 115, .vec a' c' 1 (bys (wput n l (allM alF (List.map (fun y : RStr => y) xs)).1)) 5] := by
 have hxs := il.small
 have hxc := il.cap
 refine d_0 [(0, pt bw), (1, ni n), (2, ni x), (3, .slice al (List.length xs) cl), (4, .func (.func 117) #[] #[])] 47 Go.Proofs.Try.func108 Go.Proofs.Try.ntmps108 (hH) fun act0 En0 Hv0 => ?_
 refine wp_seq ?_
 refine region_from ?_
 refine d_k [0,1,2,3,4,13] [] 1 En0 fun ac1 En2 => ?_
 refine f_o ?_
 refine m_m 115 [.slice none 0 0, .bool false] En2 Hv0 fun ac4 wo5 bk3 En6 Hv7 => ?_
 refine d_e [0,1,2,3,4,10] [] En6 fun ac8 En9 => ?_
 refine then_normal ?_
 refine wp_seq ?_
 refine wp_seq ?_
 refine d_r [0,1,2,4,10,15,16,17] [] En9 fun ac10 En11 => ?_
 refine then_normal ?_
 refine wp_block ?_
 have Hv12 : Ev w [.box bw [.slice a (List.length l) c, .bool bad] 115, .vec a c 1 (bys l) 5] wo5 [.box bw [.slice a (List.length l) c, .bool bad] 115, .vec a c 1 (bys l) 5, .box bk3 [.slice none 0 0, .bool false] 115, .vec none 0 1 (bys []) 5] := Ev.nil (sz := 1) (T := 5) Hv7
 refine loop_m (fun ms13 ac wo => ∃ (i : Nat) (wa : Option Addr) (wc : Nat) (m : Bs) (bd : Bool), ms13 = (List.length xs + 1 - i : Nat) ∧ Env ac 47 [(0, pt bw), (1, ni n), (2, ni x), (4, .func (.func 117) #[] #[]), (10, pt bk3), (15, .slice al (List.length xs) cl), (16, .int .i64 ((List.length xs : Nat) : Int)), (17, ni i)] ∧ Ev w [.box bw [.slice a (List.length l) c, .bool bad] 115, .vec a c 1 (bys l) 5] wo [.box bw [.slice a (List.length l) c, .bool bad] 115, .vec a c 1 (bys l) 5, .box bk3 [.slice wa (List.length m) wc, .bool bd] 115, .vec wa wc 1 (bys m) 5] ∧ ((m, bd) = allM alF (List.take i (List.map (fun y : RStr => y) xs)))) ⟨_, 0, none, 0, [], false, rfl, En11.sb, Hv12.pk [0, 1, 2, 3], rfl⟩ ?_
 rintro mm19 ac15 wo16 ⟨i, wa, wc, m, bd, rfl, En17, Hv18, hfo⟩
 refine wp_seq ?_
 refine d_r [0,1,2,4,10,15,16,17,18] [] En17 fun ac20 En21 => ?_
 refine then_normal ?_
 refine wp_seq ?_
 refine c_d (((i : Nat) : Int) < ((List.length xs : Nat) : Int)) En21 (fun hc22 => ?_) (fun hc22 => ?_)
 ·
  refine wp_skip ?_
  refine then_normal ?_
  refine wp_seq ?_
  refine wp_block ?_
  refine wp_seq ?_
  have hb25 : i < List.length xs := (by omega)
  obtain ⟨adr23, had24⟩ := some_of il.nz hb25
  have hb26 : i < List.length xs := by omega
  obtain ⟨x28, hx27⟩ : ∃ x, (xs)[i]? = some x := ⟨_, List.getElem?_eq_getElem hb26⟩
  obtain s_x28 := il.each _ (List.mem_of_getElem? hx27)
  replace s_x28 : (List.length x28 ≤ 140737488351232) := s_x28
  refine region_from ?_
  refine f_o ?_
  refine q_v (x := Instr.indexAt 33 (.slice al (List.length xs) cl) (ni i)) (v := .pointer (some (Addr.add adr23 i))) En21 (Go.Dbr.run_indexsl (e := 9) (sz := 1) (j := i) (jo := i) had24 (by kernel_rfl) (by kernel_rfl) (by omega) hb25 (Nat.mul_one _) _) fun ac29 En30 => ?_
  refine f_o ?_
  refine op_loadf (d := some 20) (t := 9) (ad := adr23) (ao := al) (ys := List.flatMap fStr xs) (o := i) (v := .string (bstr x28)) En30 (by kernel_rfl) rfl (il.ro.ev Hv18).reads had24 ((flat_get1 (fun _ _ => rfl) hx27).trans rfl) (by kernel_rfl) ?_
  intro ac31 En32
  refine d_e [0,1,2,4,10,12,15,16,17] [] En32 fun ac33 En34 => ?_
  refine then_normal ?_
  have hnb := hfb (i + 1) (by omega)
  rw [allM_take hx27, ← hfo] at hnb
  have hnc := hnb
  simp only [alF, wput_len] at hnc
  refine region_from ?_
  refine d_k [0,1,2,4,10,15,16,17,21,22,23] [] 3 En34 fun ac35 En36 => ?_
  refine f_o ?_
  refine c_l [2,3] (M := [.box bk3 [.slice wa (List.length m) wc, .bool bd] 115, .vec wa wc 1 (bys m) 5]) En36 Hv18 (fun hM39 => walpn_go _ bk3 wa wc m bd x28 (by first | assumption | omega) (by first | omega | (simp [wput_len, beN_len]; done) | (simp [wput_len, beN_len]; omega)) hM39) ?_
  rintro _ wo40 ⟨wa37, wc38, rfl, he41⟩
  refine ⟨_, _, [.box bk3 [.slice wa37 (List.length ((alF (m, bd) x28).1)) wc38, .bool ((alF (m, bd) x28).2)] 115, .vec wa37 wc38 1 (bys ((alF (m, bd) x28).1)) 5, .box bw [.slice a (List.length l) c, .bool bad] 115, .vec a c 1 (bys l) 5], rfl, he41, by kernel_rfl, fun ac43 En44 Hv45 => ?_⟩
  refine f_e ?_
  refine block_normal ?_
  refine then_normal ?_
  refine d_r [0,1,2,4,10,15,16,17] [(0, g_n (w_a i 1))] En44 fun ac46 En47 => ?_
  refine then_normal ?_
  refine ⟨_, ⟨i + 1, wa37, wc38, ((alF (m, bd) x28).1), ((alF (m, bd) x28).2), rfl, En47.sb, Hv45.pk [2, 3, 0, 1], (by rw [allM_take hx27, ← hfo] <;> rfl)⟩, ?_⟩
  omega
 ·
  refine wp_exit ?_
  refine then_exit ?_
  refine then_exit ?_
  refine block_exit ?_
  refine then_normal ?_
  refine wp_seq ?_
  have hfe := allM_all (F := alF) (f := (fun y : RStr => y)) (xs := xs) (i := i) (by omega)
  rw [← hfo] at hfe
  refine region_cut (F := fun ac wo => ∃ (b2 : Bool), Env ac 47 [(0, pt bw), (1, ni n), (2, ni x), (4, .func (.func 117) #[] #[]), (10, pt bk3), (15, .slice al (List.length xs) cl), (16, .int .i64 ((List.length xs : Nat) : Int)), (17, ni i)] ∧ Ev w [.box bw [.slice a (List.length l) c, .bool bad] 115, .vec a c 1 (bys l) 5] wo [.box bw [.slice a (List.length l) c, .bool b2] 115, .vec a c 1 (bys l) 5, .box bk3 [.slice wa (List.length m) wc, .bool bd] 115, .vec wa wc 1 (bys m) 5] ∧ (b2 = (bad || bd))) ?_ ?_
  ·
   refine region_from ?_
   refine d_k [0,1,2,4,10,15,16,17,26,29] [] 4 En21 fun ac48 En49 => ?_
   refine f_o ?_
   refine m_l 0 En49 Hv18 fun ac50 En51 => ?_
   refine d_k [0,1,2,4,10,15,16,17,26,31] [] 6 En51 fun ac52 En53 => ?_
   rcases Bool.eq_false_or_eq_true (bad) with hb54 | hb54
   ·
    have En55 := En53.fx (t := 31) (congrArg Value.bool hb54)
    have hp56 : bad = true := hb54
    refine d_k [0,1,2,4,10,15,16,17,36,38] [] 13 En55 fun ac57 En58 => ?_
    refine f_o ?_
    refine m_s 0 [.box bw [.slice a (List.length l) c, .bool true] 115, .vec a c 1 (bys l) 5, .box bk3 [.slice wa (List.length m) wc, .bool bd] 115, .vec wa wc 1 (bys m) 5] En58 Hv18 fun ac59 wo60 En61 Hv62 => ?_
    refine f_e ?_
    exact ⟨rfl, ⟨true, En61.sb, Hv62.pk [0, 1, 2, 3], (by first | exact or_t (by assumption) | exact or_f (by assumption))⟩⟩
   ·
    have En63 := En53.fx (t := 31) (congrArg Value.bool hb54)
    have hp64 : ¬ (bad = true) := Bool.eq_false_iff.1 hb54
    refine d_k [0,1,2,4,10,15,16,17,26,31,34] [] 9 En63 fun ac65 En66 => ?_
    refine f_o ?_
    refine m_l 2 En66 Hv18 fun ac67 En68 => ?_
    refine d_k [0,1,2,4,10,15,16,17,36,38] [] 13 En68 fun ac69 En70 => ?_
    refine f_o ?_
    refine m_s 0 [.box bw [.slice a (List.length l) c, .bool bd] 115, .vec a c 1 (bys l) 5, .box bk3 [.slice wa (List.length m) wc, .bool bd] 115, .vec wa wc 1 (bys m) 5] En70 Hv18 fun ac71 wo72 En73 Hv74 => ?_
    refine f_e ?_
    exact ⟨rfl, ⟨bd, En73.sb, Hv74.pk [0, 1, 2, 3], (by first | exact or_t (by assumption) | exact or_f (by assumption))⟩⟩
  ·
   rintro ac75 wo76 ⟨b2, En77, Hv78, hb2⟩
   refine then_normal ?_
   have hml := hfb (List.length xs) (Nat.le_refl _)
   rw [List.take_of_length_le (by rw [List.length_map]; exact Nat.le_refl _), ← hfe] at hml
   rw [← hfe] at hb
   refine region_from ?_
   refine d_k [0,4,10,15,16,17,39,40,41,44] [] 6 En77 fun ac79 En80 => ?_
   refine f_o ?_
   refine m_l 2 En80 Hv78 fun ac81 En82 => ?_
   refine f_o ?_
   refine c_l [0,1] (M := [.box bw [.slice a (List.length l) c, .bool b2] 115, .vec a c 1 (bys l) 5]) En82 Hv78 (fun hM85 => wlist_go _ bw a c l b2 n (by omega) x 16777215 (by omega) (by omega) wa wc m (bys_in Hv78.heap (k := 3) rfl [0, 1] (by kernel_rfl) rfl (by first | omega | (simp; done) | (simp; omega))) (by first | exact hb | omega) hM85) ?_
   rintro _ wo86 ⟨wa83, wc84, rfl, he87⟩
   refine ⟨_, _, [.box bw [.slice wa83 (List.length (wput n l m)) wc84, .bool (wbad n x 16777215 (List.length m) b2)] 115, .vec wa83 wc84 1 (bys (wput n l m)) 5, .box bk3 [.slice wa (List.length m) wc, .bool bd] 115, .vec wa wc 1 (bys m) 5], rfl, he87, by kernel_rfl, fun ac89 En90 Hv91 => ?_⟩
   refine f_e ?_
   refine d_end0 En90 (by kernel_rfl) ?_
   subst hb2
   rw [← hfe]
   exact ⟨wa83, wc84, rfl, Hv91.pk [0, 1]⟩

theorem all_sha (w : World) (bw : Nat) (a : Option Addr) (c : Nat) (l : Bs) (bad : Bool) (n : Nat) (hn : n ≤ 4) (x : Nat) (hx : x ≤ 4294967295) (al : Option Addr) (cl : Nat) (xs : List RSha) (il : InS fSha 32 (fun y : RSha => (True ∧ (InB w [.box bw [.slice a (List.length l) c, .bool bad] 115, .vec a c 1 (bys l) 5] y.2.1.a y.2.1.c y.2.1.l ∧ (True)))) w [.box bw [.slice a (List.length l) c, .bool bad] 115, .vec a c 1 (bys l) 5] al cl xs) (hfb : ∀ i, i ≤ List.length xs → List.length (allM shF (List.take i (List.map (fun y : RSha => (y.1, y.2.1.l)) xs))).1 ≤ 140737489403904) (hb : List.length l + n + List.length (allM shF (List.map (fun y : RSha => (y.1, y.2.1.l)) xs)).1 ≤ 200000000000000) (hH : Heap w [.box bw [.slice a (List.length l) c, .bool bad] 115, .vec a c 1 (bys l) 5]) : Calls Try.prog 120 #[pt bw, ni n, ni x, .slice al (List.length xs) cl, .func (.func 121) #[] #[]] w fun e w' => ∃ a' c', e = .returned (.tuple #[]) ∧ Ev w [.box bw [.slice a (List.length l) c, .bool bad] 115, .vec a c 1 (bys l) 5] w' [.box bw [.slice a' (List.length (wput n l (allM shF (List.map (fun y : RSha => (y.1, y.2.1.l)) xs)).1)) c', .bool (wbad n x 16777215 (List.length (allM shF (List.map (fun y : RSha => (y.1, y.2.1.l)) xs)).1) (bad || (allM shF (List.map (fun y : RSha => (y.1, y.2.1.l)) xs)).2))] 115, .vec a' c' 1 (bys (wput n l (allM shF (List.map (fun y : RSha => (y.1, y.2.1.l)) xs)).1)) 5] := by
 have hxs := il.small
 have hxc := il.cap
 refine d_0 [(0, pt bw), (1, ni n), (2, ni x), (3, .slice al (List.length xs) cl), (4, .func (.func 121) #[] #[])] 47 Go.Proofs.Try.func120 Go.Proofs.Try.ntmps120 (hH) fun act0 En0 Hv0 => ?_
 refine wp_seq ?_
 refine region_from ?_
 refine d_k [0,1,2,3,4,13] [] 1 En0 fun ac1 En2 => ?_
 refine f_o ?_
 refine m_m 115 [.slice none 0 0, .bool false] En2 Hv0 fun ac4 wo5 bk3 En6 Hv7 => ?_
 refine d_e [0,1,2,3,4,10] [] En6 fun ac8 En9 => ?_
 refine then_normal ?_
 refine wp_seq ?_
 refine wp_seq ?_
 refine d_r [0,1,2,4,10,15,16,17] [] En9 fun ac10 En11 => ?_
 refine then_normal ?_
 refine wp_block ?_
 have Hv12 : Ev w [.box bw [.slice a (List.length l) c, .bool bad] 115, .vec a c 1 (bys l) 5] wo5 [.box bw [.slice a (List.length l) c, .bool bad] 115, .vec a c 1 (bys l) 5, .box bk3 [.slice none 0 0, .bool false] 115, .vec none 0 1 (bys []) 5] := Ev.nil (sz := 1) (T := 5) Hv7
 refine loop_m (fun ms13 ac wo => ∃ (i : Nat) (wa : Option Addr) (wc : Nat) (m : Bs) (bd : Bool), ms13 = (List.length xs + 1 - i : Nat) ∧ Env ac 47 [(0, pt bw), (1, ni n), (2, ni x), (4, .func (.func 121) #[] #[]), (10, pt bk3), (15, .slice al (List.length xs) cl), (16, .int .i64 ((List.length xs : Nat) : Int)), (17, ni i)] ∧ Ev w [.box bw [.slice a (List.length l) c, .bool bad] 115, .vec a c 1 (bys l) 5] wo [.box bw [.slice a (List.length l) c, .bool bad] 115, .vec a c 1 (bys l) 5, .box bk3 [.slice wa (List.length m) wc, .bool bd] 115, .vec wa wc 1 (bys m) 5] ∧ ((m, bd) = allM shF (List.take i (List.map (fun y : RSha => (y.1, y.2.1.l)) xs)))) ⟨_, 0, none, 0, [], false, rfl, En11.sb, Hv12.pk [0, 1, 2, 3], rfl⟩ ?_
 rintro mm19 ac15 wo16 ⟨i, wa, wc, m, bd, rfl, En17, Hv18, hfo⟩
 refine wp_seq ?_
 refine d_r [0,1,2,4,10,15,16,17,18] [] En17 fun ac20 En21 => ?_
 refine then_normal ?_
 refine wp_seq ?_
 refine c_d (((i : Nat) : Int) < ((List.length xs : Nat) : Int)) En21 (fun hc22 => ?_) (fun hc22 => ?_)
 ·
  refine wp_skip ?_
  refine then_normal ?_
  refine wp_seq ?_
  refine wp_block ?_
  refine wp_seq ?_
  have hb25 : i < List.length xs := (by omega)
  obtain ⟨adr23, had24⟩ := some_of il.nz hb25
  have hb26 : i < List.length xs := by omega
  obtain ⟨⟨x28a, ⟨a_x28b, c_x28b, x28b⟩, _⟩, hx27⟩ : ∃ x, (xs)[i]? = some x := ⟨_, List.getElem?_eq_getElem hb26⟩
  obtain ⟨_, i_x28b, _⟩ := il.each _ (List.mem_of_getElem? hx27)
  replace i_x28b : InB w [.box bw [.slice a (List.length l) c, .bool bad] 115, .vec a c 1 (bys l) 5] a_x28b c_x28b x28b := i_x28b
  refine region_from ?_
  refine f_o ?_
  refine q_v (x := Instr.indexAt 34 (.slice al (List.length xs) cl) (ni i)) (v := .pointer (some (Addr.add adr23 (i * 2)))) En21 (Go.Dbr.run_indexsl (e := 49) (sz := 2) (j := i) (jo := i * 2) had24 (by kernel_rfl) (by kernel_rfl) (by omega) hb25 rfl _) fun ac29 En30 => ?_
  refine f_o ?_
  refine op_loadaggat (d := some 20) (t := 49) (ad := adr23) (ao := al) (ys := List.flatMap fSha xs) (o := i * 2) (m := 2) (xs := [uv16 x28a, .slice a_x28b (List.length x28b) c_x28b]) En30 (by kernel_rfl) rfl (il.ro.ev Hv18).reads had24 (fun j hj => ?_) rfl (by kernel_rfl) (by kernel_rfl) ?_
  ·
   exact flat_sub (sz := 2) (off := 0) (m := 2) (fun _ _ => rfl) hx27 (by decide) rfl j hj
  intro ac31 En32
  refine f_o ?_
  refine m_z 49 [.int .u16 0, .slice none 0 0] En32 Hv18 fun ac34 wo35 bk33 En36 Hv37 => ?_
  refine f_o ?_
  refine m_g 4 0 2 [uv16 x28a, .slice a_x28b (List.length x28b) c_x28b] [uv16 x28a, .slice a_x28b (List.length x28b) c_x28b] [.box bw [.slice a (List.length l) c, .bool bad] 115, .vec a c 1 (bys l) 5, .box bk3 [.slice wa (List.length m) wc, .bool bd] 115, .vec wa wc 1 (bys m) 5, .box bk33 [uv16 x28a, .slice a_x28b (List.length x28b) c_x28b] 49] En36 Hv37 rfl rfl (by simp) (one_all (by kernel_rfl)) rfl rfl fun ac38 wo39 En40 Hv41 => ?_
  refine f_e ?_
  refine then_normal ?_
  have hnb := hfb (i + 1) (by omega)
  rw [allM_take hx27, ← hfo] at hnb
  have hnc := hnb
  simp only [shF, wput_len, List.length_append, beN_len] at hnc
  refine region_from ?_
  refine d_k [0,1,2,4,10,12,15,16,17,21,22] [] 2 En40 fun ac42 En43 => ?_
  refine f_o ?_
  refine m_a 4 0 2 [uv16 x28a, .slice a_x28b (List.length x28b) c_x28b] En43 Hv41 rfl rfl rfl fun ac44 En45 => ?_
  refine f_o ?_
  refine c_l [2,3] (M := [.box bk3 [.slice wa (List.length m) wc, .bool bd] 115, .vec wa wc 1 (bys m) 5]) En45 Hv41 (fun hM48 => wshare_go _ bk3 wa wc m bd x28a a_x28b c_x28b x28b ((i_x28b.ev Hv41).pick [2, 3] (by kernel_rfl)) (by first | omega | (simp [wput_len, beN_len]; done) | (simp [wput_len, beN_len]; omega)) hM48) ?_
  rintro _ wo49 ⟨wa46, wc47, rfl, he50⟩
  refine ⟨_, _, [.box bk3 [.slice wa46 (List.length ((shF (m, bd) (x28a, x28b)).1)) wc47, .bool ((shF (m, bd) (x28a, x28b)).2)] 115, .vec wa46 wc47 1 (bys ((shF (m, bd) (x28a, x28b)).1)) 5, .box bw [.slice a (List.length l) c, .bool bad] 115, .vec a c 1 (bys l) 5, .box bk33 [uv16 x28a, .slice a_x28b (List.length x28b) c_x28b] 49], rfl, he50, by kernel_rfl, fun ac52 En53 Hv54 => ?_⟩
  refine f_e ?_
  refine block_normal ?_
  refine then_normal ?_
  refine d_r [0,1,2,4,10,12,15,16,17] [(0, g_n (w_a i 1))] En53 fun ac55 En56 => ?_
  refine then_normal ?_
  refine ⟨_, ⟨i + 1, wa46, wc47, ((shF (m, bd) (x28a, x28b)).1), ((shF (m, bd) (x28a, x28b)).2), rfl, En56.sb, Hv54.pk [2, 3, 0, 1], (by rw [allM_take hx27, ← hfo] <;> rfl)⟩, ?_⟩
  omega
 ·
  refine wp_exit ?_
  refine then_exit ?_
  refine then_exit ?_
  refine block_exit ?_
  refine then_normal ?_
  refine wp_seq ?_
  have hfe := allM_all (F := shF) (f := (fun y : RSha => (y.1, y.2.1.l))) (xs := xs) (i := i) (by omega)
  rw [← hfo] at hfe
  refine region_cut (F := fun ac wo => ∃ (b2 : Bool), Env ac 47 [(0, pt bw), (1, ni n), (2, ni x), (4, .func (.func 121) #[] #[]), (10, pt bk3), (15, .slice al (List.length xs) cl), (16, .int .i64 ((List.length xs : Nat) : Int)), (17, ni i)] ∧ Ev w [.box bw [.slice a (List.length l) c, .bool bad] 115, .vec a c 1 (bys l) 5] wo [.box bw [.slice a (List.length l) c, .bool b2] 115, .vec a c 1 (bys l) 5, .box bk3 [.slice wa (List.length m) wc, .bool bd] 115, .vec wa wc 1 (bys m) 5] ∧ (b2 = (bad || bd))) ?_ ?_
  ·
   refine region_from ?_
   refine d_k [0,1,2,4,10,15,16,17,26,29] [] 4 En21 fun ac57 En58 => ?_
   refine f_o ?_
   refine m_l 0 En58 Hv18 fun ac59 En60 => ?_
   refine d_k [0,1,2,4,10,15,16,17,26,31] [] 6 En60 fun ac61 En62 => ?_
   rcases Bool.eq_false_or_eq_true (bad) with hb63 | hb63
   ·
    have En64 := En62.fx (t := 31) (congrArg Value.bool hb63)
    have hp65 : bad = true := hb63
    refine d_k [0,1,2,4,10,15,16,17,36,38] [] 13 En64 fun ac66 En67 => ?_
    refine f_o ?_
    refine m_s 0 [.box bw [.slice a (List.length l) c, .bool true] 115, .vec a c 1 (bys l) 5, .box bk3 [.slice wa (List.length m) wc, .bool bd] 115, .vec wa wc 1 (bys m) 5] En67 Hv18 fun ac68 wo69 En70 Hv71 => ?_
    refine f_e ?_
    exact ⟨rfl, ⟨true, En70.sb, Hv71.pk [0, 1, 2, 3], (by first | exact or_t (by assumption) | exact or_f (by assumption))⟩⟩
   ·
    have En72 := En62.fx (t := 31) (congrArg Value.bool hb63)
    have hp73 : ¬ (bad = true) := Bool.eq_false_iff.1 hb63
    refine d_k [0,1,2,4,10,15,16,17,26,31,34] [] 9 En72 fun ac74 En75 => ?_
    refine f_o ?_
    refine m_l 2 En75 Hv18 fun ac76 En77 => ?_
    refine d_k [0,1,2,4,10,15,16,17,36,38] [] 13 En77 fun ac78 En79 => ?_
    refine f_o ?_
    refine m_s 0 [.box bw [.slice a (List.length l) c, .bool bd] 115, .vec a c 1 (bys l) 5, .box bk3 [.slice wa (List.length m) wc, .bool bd] 115, .vec wa wc 1 (bys m) 5] En79 Hv18 fun ac80 wo81 En82 Hv83 => ?_
    refine f_e ?_
    exact ⟨rfl, ⟨bd, En82.sb, Hv83.pk [0, 1, 2, 3], (by first | exact or_t (by assumption) | exact or_f (by assumption))⟩⟩
  ·
   rintro ac84 wo85 ⟨b2, En86, Hv87, hb2⟩
   refine then_normal ?_
   have hml := hfb (List.length xs) (Nat.le_refl _)
   rw [List.take_of_length_le (by rw [List.length_map]; exact Nat.le_refl _), ← hfe] at hml
   rw [← hfe] at hb
   refine region_from ?_
   refine d_k [0,4,10,15,16,17,39,40,41,44] [] 6 En86 fun ac88 En89 => ?_
   refine f_o ?_
   refine m_l 2 En89 Hv87 fun ac90 En91 => ?_
   refine f_o ?_
   refine c_l [0,1] (M := [.box bw [.slice a (List.length l) c, .bool b2] 115, .vec a c 1 (bys l) 5]) En91 Hv87 (fun hM94 => wlist_go _ bw a c l b2 n (by omega) x 16777215 (by omega) (by omega) wa wc m (bys_in Hv87.heap (k := 3) rfl [0, 1] (by kernel_rfl) rfl (by first | omega | (simp; done) | (simp; omega))) (by first | exact hb | omega) hM94) ?_
   rintro _ wo95 ⟨wa92, wc93, rfl, he96⟩
   refine ⟨_, _, [.box bw [.slice wa92 (List.length (wput n l m)) wc93, .bool (wbad n x 16777215 (List.length m) b2)] 115, .vec wa92 wc93 1 (bys (wput n l m)) 5, .box bk3 [.slice wa (List.length m) wc, .bool bd] 115, .vec wa wc 1 (bys m) 5], rfl, he96, by kernel_rfl, fun ac98 En99 Hv100 => ?_⟩
   refine f_e ?_
   refine d_end0 En99 (by kernel_rfl) ?_
   subst hb2
   rw [← hfe]
   exact ⟨wa92, wc93, rfl, Hv100.pk [0, 1]⟩

theorem all_psk1 (w : World) (bw : Nat) (a : Option Addr) (c : Nat) (l : Bs) (bad : Bool) (n : Nat) (hn : n ≤ 4) (x : Nat) (hx : x ≤ 4294967295) (al : Option Addr) (cl : Nat) (xs : List RPsk) (il : InS fPsk 56 (fun y : RPsk => (InB w [.box bw [.slice a (List.length l) c, .bool bad] 115, .vec a c 1 (bys l) 5] y.1.a y.1.c y.1.l ∧ (True ∧ (InB w [.box bw [.slice a (List.length l) c, .bool bad] 115, .vec a c 1 (bys l) 5] y.2.2.1.a y.2.2.1.c y.2.2.1.l ∧ (True))))) w [.box bw [.slice a (List.length l) c, .bool bad] 115, .vec a c 1 (bys l) 5] al cl xs) (hfb : ∀ i, i ≤ List.length xs → List.length (allM k1F (List.take i (List.map puPsk xs))).1 ≤ 140737489403904) (hb : List.length l + n + List.length (allM k1F (List.map puPsk xs)).1 ≤ 200000000000000) (hH : Heap w [.box bw [.slice a (List.length l) c, .bool bad] 115, .vec a c 1 (bys l) 5]) : Calls Try.prog 124 #[pt bw, ni n, ni x, .slice al (List.length xs) cl, .func (.func 125) #[] #[]] w fun e w' => ∃ a' c', e = .returned (.tuple #[]) ∧ Ev w [.box bw [.slice a (List.length l) c, .bool bad] 115, .vec a c 1 (bys l) 5] w' [.box bw [.slice a' (List.length (wput n l (allM k1F (List.map puPsk xs)).1)) c', .bool (wbad n x 16777215 (List.length (allM k1F (List.map puPsk xs)).1) (bad || (allM k1F (List.map puPsk xs)).2))] 115, .vec a' c' 1 (bys (wput n l (allM k1F (List.map puPsk xs)).1)) 5] := by
 have hxs := il.small
 have hxc := il.cap
 refine d_0 [(0, pt bw), (1, ni n), (2, ni x), (3, .slice al (List.length xs) cl), (4, .func (.func 125) #[] #[])] 47 Go.Proofs.Try.func124 Go.Proofs.Try.ntmps124 (hH) fun act0 En0 Hv0 => ?_
 refine wp_seq ?_
 refine region_from ?_
 refine d_k [0,1,2,3,4,13] [] 1 En0 fun ac1 En2 => ?_
 refine f_o ?_
 refine m_m 115 [.slice none 0 0, .bool false] En2 Hv0 fun ac4 wo5 bk3 En6 Hv7 => ?_
 refine d_e [0,1,2,3,4,10] [] En6 fun ac8 En9 => ?_
 refine then_normal ?_
 refine wp_seq ?_
 refine wp_seq ?_
 refine d_r [0,1,2,4,10,15,16,17] [] En9 fun ac10 En11 => ?_
 refine then_normal ?_
 refine wp_block ?_
 have Hv12 : Ev w [.box bw [.slice a (List.length l) c, .bool bad] 115, .vec a c 1 (bys l) 5] wo5 [.box bw [.slice a (List.length l) c, .bool bad] 115, .vec a c 1 (bys l) 5, .box bk3 [.slice none 0 0, .bool false] 115, .vec none 0 1 (bys []) 5] := Ev.nil (sz := 1) (T := 5) Hv7
 refine loop_m (fun ms13 ac wo => ∃ (i : Nat) (wa : Option Addr) (wc : Nat) (m : Bs) (bd : Bool), ms13 = (List.length xs + 1 - i : Nat) ∧ Env ac 47 [(0, pt bw), (1, ni n), (2, ni x), (4, .func (.func 125) #[] #[]), (10, pt bk3), (15, .slice al (List.length xs) cl), (16, .int .i64 ((List.length xs : Nat) : Int)), (17, ni i)] ∧ Ev w [.box bw [.slice a (List.length l) c, .bool bad] 115, .vec a c 1 (bys l) 5] wo [.box bw [.slice a (List.length l) c, .bool bad] 115, .vec a c 1 (bys l) 5, .box bk3 [.slice wa (List.length m) wc, .bool bd] 115, .vec wa wc 1 (bys m) 5] ∧ ((m, bd) = allM k1F (List.take i (List.map puPsk xs)))) ⟨_, 0, none, 0, [], false, rfl, En11.sb, Hv12.pk [0, 1, 2, 3], rfl⟩ ?_
 rintro mm19 ac15 wo16 ⟨i, wa, wc, m, bd, rfl, En17, Hv18, hfo⟩
 refine wp_seq ?_
 refine d_r [0,1,2,4,10,15,16,17,18] [] En17 fun ac20 En21 => ?_
 refine then_normal ?_
 refine wp_seq ?_
 refine c_d (((i : Nat) : Int) < ((List.length xs : Nat) : Int)) En21 (fun hc22 => ?_) (fun hc22 => ?_)
 ·
  refine wp_skip ?_
  refine then_normal ?_
  refine wp_seq ?_
  refine wp_block ?_
  refine wp_seq ?_
  have hb25 : i < List.length xs := (by omega)
  obtain ⟨adr23, had24⟩ := some_of il.nz hb25
  have hb26 : i < List.length xs := by omega
  obtain ⟨⟨⟨a_x28a, c_x28a, x28a⟩, x28b, ⟨a_x28c, c_x28c, x28c⟩, _⟩, hx27⟩ : ∃ x, (xs)[i]? = some x := ⟨_, List.getElem?_eq_getElem hb26⟩
  obtain ⟨i_x28a, _, i_x28c, _⟩ := il.each _ (List.mem_of_getElem? hx27)
  replace i_x28a : InB w [.box bw [.slice a (List.length l) c, .bool bad] 115, .vec a c 1 (bys l) 5] a_x28a c_x28a x28a := i_x28a
  replace i_x28c : InB w [.box bw [.slice a (List.length l) c, .bool bad] 115, .vec a c 1 (bys l) 5] a_x28c c_x28c x28c := i_x28c
  refine region_from ?_
  refine f_o ?_
  refine q_v (x := Instr.indexAt 35 (.slice al (List.length xs) cl) (ni i)) (v := .pointer (some (Addr.add adr23 (i * 3)))) En21 (Go.Dbr.run_indexsl (e := 140) (sz := 3) (j := i) (jo := i * 3) had24 (by kernel_rfl) (by kernel_rfl) (by omega) hb25 rfl _) fun ac29 En30 => ?_
  refine f_o ?_
  refine op_loadaggat (d := some 20) (t := 140) (ad := adr23) (ao := al) (ys := List.flatMap fPsk xs) (o := i * 3) (m := 3) (xs := [.slice a_x28a (List.length x28a) c_x28a, uv32 x28b, .slice a_x28c (List.length x28c) c_x28c]) En30 (by kernel_rfl) rfl (il.ro.ev Hv18).reads had24 (fun j hj => ?_) rfl (by kernel_rfl) (by kernel_rfl) ?_
  ·
   exact flat_sub (sz := 3) (off := 0) (m := 3) (fun _ _ => rfl) hx27 (by decide) rfl j hj
  intro ac31 En32
  refine f_o ?_
  refine m_z 140 [.slice none 0 0, .int .u32 0, .slice none 0 0] En32 Hv18 fun ac34 wo35 bk33 En36 Hv37 => ?_
  refine f_o ?_
  refine m_g 4 0 3 [.slice a_x28a (List.length x28a) c_x28a, uv32 x28b, .slice a_x28c (List.length x28c) c_x28c] [.slice a_x28a (List.length x28a) c_x28a, uv32 x28b, .slice a_x28c (List.length x28c) c_x28c] [.box bw [.slice a (List.length l) c, .bool bad] 115, .vec a c 1 (bys l) 5, .box bk3 [.slice wa (List.length m) wc, .bool bd] 115, .vec wa wc 1 (bys m) 5, .box bk33 [.slice a_x28a (List.length x28a) c_x28a, uv32 x28b, .slice a_x28c (List.length x28c) c_x28c] 140] En36 Hv37 rfl rfl (by simp) (one_all (by kernel_rfl)) rfl rfl fun ac38 wo39 En40 Hv41 => ?_
  refine f_e ?_
  refine then_normal ?_
  have hnb := hfb (i + 1) (by omega)
  rw [allM_take hx27, ← hfo] at hnb
  have hnc := hnb
  simp only [k1F, puPsk, wput_len, List.length_append, beN_len] at hnc
  refine region_from ?_
  refine d_k [0,1,2,4,10,12,15,16,17,21,22] [] 2 En40 fun ac42 En43 => ?_
  refine f_o ?_
  refine m_a 4 0 3 [.slice a_x28a (List.length x28a) c_x28a, uv32 x28b, .slice a_x28c (List.length x28c) c_x28c] En43 Hv41 rfl rfl rfl fun ac44 En45 => ?_
  refine f_o ?_
  refine c_l [2,3] (M := [.box bk3 [.slice wa (List.length m) wc, .bool bd] 115, .vec wa wc 1 (bys m) 5]) En45 Hv41 (fun hM48 => wpsk1_go _ bk3 wa wc m bd a_x28a c_x28a x28a ((i_x28a.ev Hv41).pick [2, 3] (by kernel_rfl)) x28b a_x28c c_x28c x28c ((i_x28c.ev Hv41).pick [2, 3] (by kernel_rfl)) (by first | omega | (simp [wput_len, beN_len]; done) | (simp [wput_len, beN_len]; omega)) hM48) ?_
  rintro _ wo49 ⟨wa46, wc47, rfl, he50⟩
  refine ⟨_, _, [.box bk3 [.slice wa46 (List.length ((k1F (m, bd) ((x28a, x28b, x28c) : PK)).1)) wc47, .bool ((k1F (m, bd) ((x28a, x28b, x28c) : PK)).2)] 115, .vec wa46 wc47 1 (bys ((k1F (m, bd) ((x28a, x28b, x28c) : PK)).1)) 5, .box bw [.slice a (List.length l) c, .bool bad] 115, .vec a c 1 (bys l) 5, .box bk33 [.slice a_x28a (List.length x28a) c_x28a, uv32 x28b, .slice a_x28c (List.length x28c) c_x28c] 140], rfl, he50, by kernel_rfl, fun ac52 En53 Hv54 => ?_⟩
  refine f_e ?_
  refine block_normal ?_
  refine then_normal ?_
  refine d_r [0,1,2,4,10,12,15,16,17] [(0, g_n (w_a i 1))] En53 fun ac55 En56 => ?_
  refine then_normal ?_
  refine ⟨_, ⟨i + 1, wa46, wc47, ((k1F (m, bd) ((x28a, x28b, x28c) : PK)).1), ((k1F (m, bd) ((x28a, x28b, x28c) : PK)).2), rfl, En56.sb, Hv54.pk [2, 3, 0, 1], (by rw [allM_take hx27, ← hfo] <;> rfl)⟩, ?_⟩
  omega
 ·
  refine wp_exit ?_
  refine then_exit ?_
  refine then_exit ?_
  refine block_exit ?_
  refine then_normal ?_
  refine wp_seq ?_
  have hfe := allM_all (F := k1F) (f := puPsk) (xs := xs) (i := i) (by omega)
  rw [← hfo] at hfe
  refine region_cut (F := fun ac wo => ∃ (b2 : Bool), Env ac 47 [(0, pt bw), (1, ni n), (2, ni x), (4, .func (.func 125) #[] #[]), (10, pt bk3), (15, .slice al (List.length xs) cl), (16, .int .i64 ((List.length xs : Nat) : Int)), (17, ni i)] ∧ Ev w [.box bw [.slice a (List.length l) c, .bool bad] 115, .vec a c 1 (bys l) 5] wo [.box bw [.slice a (List.length l) c, .bool b2] 115, .vec a c 1 (bys l) 5, .box bk3 [.slice wa (List.length m) wc, .bool bd] 115, .vec wa wc 1 (bys m) 5] ∧ (b2 = (bad || bd))) ?_ ?_
  ·
   refine region_from ?_
   refine d_k [0,1,2,4,10,15,16,17,26,29] [] 4 En21 fun ac57 En58 => ?_
   refine f_o ?_
   refine m_l 0 En58 Hv18 fun ac59 En60 => ?_
   refine d_k [0,1,2,4,10,15,16,17,26,31] [] 6 En60 fun ac61 En62 => ?_
   rcases Bool.eq_false_or_eq_true (bad) with hb63 | hb63
   ·
    have En64 := En62.fx (t := 31) (congrArg Value.bool hb63)
    have hp65 : bad = true := hb63
    refine d_k [0,1,2,4,10,15,16,17,36,38] [] 13 En64 fun ac66 En67 => ?_
    refine f_o ?_
    refine m_s 0 [.box bw [.slice a (List.length l) c, .bool true] 115, .vec a c 1 (bys l) 5, .box bk3 [.slice wa (List.length m) wc, .bool bd] 115, .vec wa wc 1 (bys m) 5] En67 Hv18 fun ac68 wo69 En70 Hv71 => ?_
    refine f_e ?_
    exact ⟨rfl, ⟨true, En70.sb, Hv71.pk [0, 1, 2, 3], (by first | exact or_t (by assumption) | exact or_f (by assumption))⟩⟩
   ·
    have En72 := En62.fx (t := 31) (congrArg Value.bool hb63)
    have hp73 : ¬ (bad = true) := Bool.eq_false_iff.1 hb63
    refine d_k [0,1,2,4,10,15,16,17,26,31,34] [] 9 En72 fun ac74 En75 => ?_
    refine f_o ?_
    refine m_l 2 En75 Hv18 fun ac76 En77 => ?_
    refine d_k [0,1,2,4,10,15,16,17,36,38] [] 13 En77 fun ac78 En79 => ?_
    refine f_o ?_
    refine m_s 0 [.box bw [.slice a (List.length l) c, .bool bd] 115, .vec a c 1 (bys l) 5, .box bk3 [.slice wa (List.length m) wc, .bool bd] 115, .vec wa wc 1 (bys m) 5] En79 Hv18 fun ac80 wo81 En82 Hv83 => ?_
    refine f_e ?_
    exact ⟨rfl, ⟨bd, En82.sb, Hv83.pk [0, 1, 2, 3], (by first | exact or_t (by assumption) | exact or_f (by assumption))⟩⟩
  ·
   rintro ac84 wo85 ⟨b2, En86, Hv87, hb2⟩
   refine then_normal ?_
   have hml := hfb (List.length xs) (Nat.le_refl _)
   rw [List.take_of_length_le (by rw [List.length_map]; exact Nat.le_refl _), ← hfe] at hml
   rw [← hfe] at hb
   refine region_from ?_
   refine d_k [0,4,10,15,16,17,39,40,41,44] [] 6 En86 fun ac88 En89 => ?_
   refine f_o ?_
   refine m_l 2 En89 Hv87 fun ac90 En91 => ?_
   refine f_o ?_
   refine c_l [0,1] (M := [.box bw [.slice a (List.length l) c, .bool b2] 115, .vec a c 1 (bys l) 5]) En91 Hv87 (fun hM94 => wlist_go _ bw a c l b2 n (by omega) x 16777215 (by omega) (by omega) wa wc m (bys_in Hv87.heap (k := 3) rfl [0, 1] (by kernel_rfl) rfl (by first | omega | (simp; done) | (simp; omega))) (by first | exact hb | omega) hM94) ?_
   rintro _ wo95 ⟨wa92, wc93, rfl, he96⟩
   refine ⟨_, _, [.box bw [.slice wa92 (List.length (wput n l m)) wc93, .bool (wbad n x 16777215 (List.length m) b2)] 115, .vec wa92 wc93 1 (bys (wput n l m)) 5, .box bk3 [.slice wa (List.length m) wc, .bool bd] 115, .vec wa wc 1 (bys m) 5], rfl, he96, by kernel_rfl, fun ac98 En99 Hv100 => ?_⟩
   refine f_e ?_
   refine d_end0 En99 (by kernel_rfl) ?_
   subst hb2
   rw [← hfe]
   exact ⟨wa92, wc93, rfl, Hv100.pk [0, 1]⟩

theorem all_psk2 (w : World) (bw : Nat) (a : Option Addr) (c : Nat) (l : Bs) (bad : Bool) (n : Nat) (hn : n ≤ 4) (x : Nat) (hx : x ≤ 4294967295) (al : Option Addr) (cl : Nat) (xs : List RPsk) (il : InS fPsk 56 (fun y : RPsk => (InB w [.box bw [.slice a (List.length l) c, .bool bad] 115, .vec a c 1 (bys l) 5] y.1.a y.1.c y.1.l ∧ (True ∧ (InB w [.box bw [.slice a (List.length l) c, .bool bad] 115, .vec a c 1 (bys l) 5] y.2.2.1.a y.2.2.1.c y.2.2.1.l ∧ (True))))) w [.box bw [.slice a (List.length l) c, .bool bad] 115, .vec a c 1 (bys l) 5] al cl xs) (hfb : ∀ i, i ≤ List.length xs → List.length (allM k2F (List.take i (List.map puPsk xs))).1 ≤ 140737489403904) (hb : List.length l + n + List.length (allM k2F (List.map puPsk xs)).1 ≤ 200000000000000) (hH : Heap w [.box bw [.slice a (List.length l) c, .bool bad] 115, .vec a c 1 (bys l) 5]) : Calls Try.prog 124 #[pt bw, ni n, ni x, .slice al (List.length xs) cl, .func (.func 127) #[] #[]] w fun e w' => ∃ a' c', e = .returned (.tuple #[]) ∧ Ev w [.box bw [.slice a (List.length l) c, .bool bad] 115, .vec a c 1 (bys l) 5] w' [.box bw [.slice a' (List.length (wput n l (allM k2F (List.map puPsk xs)).1)) c', .bool (wbad n x 16777215 (List.length (allM k2F (List.map puPsk xs)).1) (bad || (allM k2F (List.map puPsk xs)).2))] 115, .vec a' c' 1 (bys (wput n l (allM k2F (List.map puPsk xs)).1)) 5] := by
 have hxs := il.small
 have hxc := il.cap
 refine d_0 [(0, pt bw), (1, ni n), (2, ni x), (3, .slice al (List.length xs) cl), (4, .func (.func 127) #[] #[])] 47 Go.Proofs.Try.func124 Go.Proofs.Try.ntmps124 (hH) fun act0 En0 Hv0 => ?_
 refine wp_seq ?_
 refine region_from ?_
 refine d_k [0,1,2,3,4,13] [] 1 En0 fun ac1 En2 => ?_
 refine f_o ?_
 refine m_m 115 [.slice none 0 0, .bool false] En2 Hv0 fun ac4 wo5 bk3 En6 Hv7 => ?_
 refine d_e [0,1,2,3,4,10] [] En6 fun ac8 En9 => ?_
 refine then_normal ?_
 refine wp_seq ?_
 refine wp_seq ?_
 refine d_r [0,1,2,4,10,15,16,17] [] En9 fun ac10 En11 => ?_
 refine then_normal ?_
 refine wp_block ?_
 have Hv12 : Ev w [.box bw [.slice a (List.length l) c, .bool bad] 115, .vec a c 1 (bys l) 5] wo5 [.box bw [.slice a (List.length l) c, .bool bad] 115, .vec a c 1 (bys l) 5, .box bk3 [.slice none 0 0, .bool false] 115, .vec none 0 1 (bys []) 5] := Ev.nil (sz := 1) (T := 5) Hv7
 refine loop_m (fun ms13 ac wo => ∃ (i : Nat) (wa : Option Addr) (wc : Nat) (m : Bs) (bd : Bool), ms13 = (List.length xs + 1 - i : Nat) ∧ Env ac 47 [(0, pt bw), (1, ni n), (2, ni x), (4, .func (.func 127) #[] #[]), (10, pt bk3), (15, .slice al (List.length xs) cl), (16, .int .i64 ((List.length xs : Nat) : Int)), (17, ni i)] ∧ Ev w [.box bw [.slice a (List.length l) c, .bool bad] 115, .vec a c 1 (bys l) 5] wo [.box bw [.slice a (List.length l) c, .bool bad] 115, .vec a c 1 (bys l) 5, .box bk3 [.slice wa (List.length m) wc, .bool bd] 115, .vec wa wc 1 (bys m) 5] ∧ ((m, bd) = allM k2F (List.take i (List.map puPsk xs)))) ⟨_, 0, none, 0, [], false, rfl, En11.sb, Hv12.pk [0, 1, 2, 3], rfl⟩ ?_
 rintro mm19 ac15 wo16 ⟨i, wa, wc, m, bd, rfl, En17, Hv18, hfo⟩
 refine wp_seq ?_
 refine d_r [0,1,2,4,10,15,16,17,18] [] En17 fun ac20 En21 => ?_
 refine then_normal ?_
 refine wp_seq ?_
 refine c_d (((i : Nat) : Int) < ((List.length xs : Nat) : Int)) En21 (fun hc22 => ?_) (fun hc22 => ?_)
 ·
  refine wp_skip ?_
  refine then_normal ?_
  refine wp_seq ?_
  refine wp_block ?_
  refine wp_seq ?_
  have hb25 : i < List.length xs := (by omega)
  obtain ⟨adr23, had24⟩ := some_of il.nz hb25
  have hb26 : i < List.length xs := by omega
  obtain ⟨⟨⟨a_x28a, c_x28a, x28a⟩, x28b, ⟨a_x28c, c_x28c, x28c⟩, _⟩, hx27⟩ : ∃ x, (xs)[i]? = some x := ⟨_, List.getElem?_eq_getElem hb26⟩
  obtain ⟨i_x28a, _, i_x28c, _⟩ := il.each _ (List.mem_of_getElem? hx27)
  replace i_x28a : InB w [.box bw [.slice a (List.length l) c, .bool bad] 115, .vec a c 1 (bys l) 5] a_x28a c_x28a x28a := i_x28a
  replace i_x28c : InB w [.box bw [.slice a (List.length l) c, .bool bad] 115, .vec a c 1 (bys l) 5] a_x28c c_x28c x28c := i_x28c
  refine region_from ?_
  refine f_o ?_
  refine q_v (x := Instr.indexAt 35 (.slice al (List.length xs) cl) (ni i)) (v := .pointer (some (Addr.add adr23 (i * 3)))) En21 (Go.Dbr.run_indexsl (e := 140) (sz := 3) (j := i) (jo := i * 3) had24 (by kernel_rfl) (by kernel_rfl) (by omega) hb25 rfl _) fun ac29 En30 => ?_
  refine f_o ?_
  refine op_loadaggat (d := some 20) (t := 140) (ad := adr23) (ao := al) (ys := List.flatMap fPsk xs) (o := i * 3) (m := 3) (xs := [.slice a_x28a (List.length x28a) c_x28a, uv32 x28b, .slice a_x28c (List.length x28c) c_x28c]) En30 (by kernel_rfl) rfl (il.ro.ev Hv18).reads had24 (fun j hj => ?_) rfl (by kernel_rfl) (by kernel_rfl) ?_
  ·
   exact flat_sub (sz := 3) (off := 0) (m := 3) (fun _ _ => rfl) hx27 (by decide) rfl j hj
  intro ac31 En32
  refine f_o ?_
  refine m_z 140 [.slice none 0 0, .int .u32 0, .slice none 0 0] En32 Hv18 fun ac34 wo35 bk33 En36 Hv37 => ?_
  refine f_o ?_
  refine m_g 4 0 3 [.slice a_x28a (List.length x28a) c_x28a, uv32 x28b, .slice a_x28c (List.length x28c) c_x28c] [.slice a_x28a (List.length x28a) c_x28a, uv32 x28b, .slice a_x28c (List.length x28c) c_x28c] [.box bw [.slice a (List.length l) c, .bool bad] 115, .vec a c 1 (bys l) 5, .box bk3 [.slice wa (List.length m) wc, .bool bd] 115, .vec wa wc 1 (bys m) 5, .box bk33 [.slice a_x28a (List.length x28a) c_x28a, uv32 x28b, .slice a_x28c (List.length x28c) c_x28c] 140] En36 Hv37 rfl rfl (by simp) (one_all (by kernel_rfl)) rfl rfl fun ac38 wo39 En40 Hv41 => ?_
  refine f_e ?_
  refine then_normal ?_
  have hnb := hfb (i + 1) (by omega)
  rw [allM_take hx27, ← hfo] at hnb
  have hnc := hnb
  simp only [k2F, puPsk, wput_len] at hnc
  refine region_from ?_
  refine d_k [0,1,2,4,10,12,15,16,17,21,22] [] 2 En40 fun ac42 En43 => ?_
  refine f_o ?_
  refine m_a 4 0 3 [.slice a_x28a (List.length x28a) c_x28a, uv32 x28b, .slice a_x28c (List.length x28c) c_x28c] En43 Hv41 rfl rfl rfl fun ac44 En45 => ?_
  refine f_o ?_
  refine c_l [2,3] (M := [.box bk3 [.slice wa (List.length m) wc, .bool bd] 115, .vec wa wc 1 (bys m) 5]) En45 Hv41 (fun hM48 => wpsk2_go _ bk3 wa wc m bd a_x28a c_x28a x28a ((i_x28a.ev Hv41).pick [2, 3] (by kernel_rfl)) x28b a_x28c c_x28c x28c ((i_x28c.ev Hv41).pick [2, 3] (by kernel_rfl)) (by first | omega | (simp [wput_len, beN_len]; done) | (simp [wput_len, beN_len]; omega)) hM48) ?_
  rintro _ wo49 ⟨wa46, wc47, rfl, he50⟩
  refine ⟨_, _, [.box bk3 [.slice wa46 (List.length ((k2F (m, bd) ((x28a, x28b, x28c) : PK)).1)) wc47, .bool ((k2F (m, bd) ((x28a, x28b, x28c) : PK)).2)] 115, .vec wa46 wc47 1 (bys ((k2F (m, bd) ((x28a, x28b, x28c) : PK)).1)) 5, .box bw [.slice a (List.length l) c, .bool bad] 115, .vec a c 1 (bys l) 5, .box bk33 [.slice a_x28a (List.length x28a) c_x28a, uv32 x28b, .slice a_x28c (List.length x28c) c_x28c] 140], rfl, he50, by kernel_rfl, fun ac52 En53 Hv54 => ?_⟩
  refine f_e ?_
  refine block_normal ?_
  refine then_normal ?_
  refine d_r [0,1,2,4,10,12,15,16,17] [(0, g_n (w_a i 1))] En53 fun ac55 En56 => ?_
  refine then_normal ?_
  refine ⟨_, ⟨i + 1, wa46, wc47, ((k2F (m, bd) ((x28a, x28b, x28c) : PK)).1), ((k2F (m, bd) ((x28a, x28b, x28c) : PK)).2), rfl, En56.sb, Hv54.pk [2, 3, 0, 1], (by rw [allM_take hx27, ← hfo] <;> rfl)⟩, ?_⟩
  omega
 ·
  refine wp_exit ?_
  refine then_exit ?_
  refine then_exit ?_
  refine block_exit ?_
  refine then_normal ?_
  refine wp_seq ?_
  have hfe := allM_all (F := k2F) (f := puPsk) (xs := xs) (i := i) (by omega)
  rw [← hfo] at hfe
  refine region_cut (F := fun ac wo => ∃ (b2 : Bool), Env ac 47 [(0, pt bw), (1, ni n), (2, ni x), (4, .func (.func 127) #[] #[]), (10, pt bk3), (15, .slice al (List.length xs) cl), (16, .int .i64 ((List.length xs : Nat) : Int)), (17, ni i)] ∧ Ev w [.box bw [.slice a (List.length l) c, .bool bad] 115, .vec a c 1 (bys l) 5] wo [.box bw [.slice a (List.length l) c, .bool b2] 115, .vec a c 1 (bys l) 5, .box bk3 [.slice wa (List.length m) wc, .bool bd] 115, .vec wa wc 1 (bys m) 5] ∧ (b2 = (bad || bd))) ?_ ?_
  ·
   refine region_from ?_
   refine d_k [0,1,2,4,10,15,16,17,26,29] [] 4 En21 fun ac57 En58 => ?_
   refine f_o ?_
   refine m_l 0 En58 Hv18 fun ac59 En60 => ?_
   refine d_k [0,1,2,4,10,15,16,17,26,31] [] 6 En60 fun ac61 En62 => ?_
   rcases Bool.eq_false_or_eq_true (bad) with hb63 | hb63
   ·
    have En64 := En62.fx (t := 31) (congrArg Value.bool hb63)
    have hp65 : bad = true := hb63
    refine d_k [0,1,2,4,10,15,16,17,36,38] [] 13 En64 fun ac66 En67 => ?_
    refine f_o ?_
    refine m_s 0 [.box bw [.slice a (List.length l) c, .bool true] 115, .vec a c 1 (bys l) 5, .box bk3 [.slice wa (List.length m) wc, .bool bd] 115, .vec wa wc 1 (bys m) 5] En67 Hv18 fun ac68 wo69 En70 Hv71 => ?_
    refine f_e ?_
    exact ⟨rfl, ⟨true, En70.sb, Hv71.pk [0, 1, 2, 3], (by first | exact or_t (by assumption) | exact or_f (by assumption))⟩⟩
   ·
    have En72 := En62.fx (t := 31) (congrArg Value.bool hb63)
    have hp73 : ¬ (bad = true) := Bool.eq_false_iff.1 hb63
    refine d_k [0,1,2,4,10,15,16,17,26,31,34] [] 9 En72 fun ac74 En75 => ?_
    refine f_o ?_
    refine m_l 2 En75 Hv18 fun ac76 En77 => ?_
    refine d_k [0,1,2,4,10,15,16,17,36,38] [] 13 En77 fun ac78 En79 => ?_
    refine f_o ?_
    refine m_s 0 [.box bw [.slice a (List.length l) c, .bool bd] 115, .vec a c 1 (bys l) 5, .box bk3 [.slice wa (List.length m) wc, .bool bd] 115, .vec wa wc 1 (bys m) 5] En79 Hv18 fun ac80 wo81 En82 Hv83 => ?_
    refine f_e ?_
    exact ⟨rfl, ⟨bd, En82.sb, Hv83.pk [0, 1, 2, 3], (by first | exact or_t (by assumption) | exact or_f (by assumption))⟩⟩
  ·
   rintro ac84 wo85 ⟨b2, En86, Hv87, hb2⟩
   refine then_normal ?_
   have hml := hfb (List.length xs) (Nat.le_refl _)
   rw [List.take_of_length_le (by rw [List.length_map]; exact Nat.le_refl _), ← hfe] at hml
   rw [← hfe] at hb
   refine region_from ?_
   refine d_k [0,4,10,15,16,17,39,40,41,44] [] 6 En86 fun ac88 En89 => ?_
   refine f_o ?_
   refine m_l 2 En89 Hv87 fun ac90 En91 => ?_
   refine f_o ?_
   refine c_l [0,1] (M := [.box bw [.slice a (List.length l) c, .bool b2] 115, .vec a c 1 (bys l) 5]) En91 Hv87 (fun hM94 => wlist_go _ bw a c l b2 n (by omega) x 16777215 (by omega) (by omega) wa wc m (bys_in Hv87.heap (k := 3) rfl [0, 1] (by kernel_rfl) rfl (by first | omega | (simp; done) | (simp; omega))) (by first | exact hb | omega) hM94) ?_
   rintro _ wo95 ⟨wa92, wc93, rfl, he96⟩
   refine ⟨_, _, [.box bw [.slice wa92 (List.length (wput n l m)) wc93, .bool (wbad n x 16777215 (List.length m) b2)] 115, .vec wa92 wc93 1 (bys (wput n l m)) 5, .box bk3 [.slice wa (List.length m) wc, .bool bd] 115, .vec wa wc 1 (bys m) 5], rfl, he96, by kernel_rfl, fun ac98 En99 Hv100 => ?_⟩
   refine f_e ?_
   refine d_end0 En99 (by kernel_rfl) ?_
   subst hb2
   rw [← hfe]
   exact ⟨wa92, wc93, rfl, Hv100.pk [0, 1]⟩

end Go.Proofs.Ytofecellbfhnjaa
