import Derived.Test.YtofecellbfhnjaaHb5
import Derived.Test.YtofecellbfhnjaaHb4
/- Layer 17: lists of parts are written by the program. -/

namespace Go.Proofs.Ytofecellbfhnjaa
open Go.Dbr
set_option maxRecDepth 100000
set_option maxHeartbeats 2000000
set_option linter.unusedVariables false
set_option linter.unusedSimpArgs false

theorem all_u16 (w : World) (bw : Nat) (a : Option Addr) (c : Nat) (l : Bs) (bad : Bool) (n : Nat) (hn : n ≤ 4) (x : Nat) (hx : x ≤ 4294967295) (al : Option Addr) (cl : Nat) (xs : List RU16) (il : InS fU16 2 (fun y : RU16 => True) w [.box bw [.slice a (List.length l) c, .bool bad] 115, .vec a c 1 (bys l) 5] al cl xs) (hfb : ∀ i, i ≤ List.length xs → List.length (allM u16F (List.take i (List.map (fun y : RU16 => y) xs))).1 ≤ 140737489403904) (hb : List.length l + n + List.length (allM u16F (List.map (fun y : RU16 => y) xs)).1 ≤ 200000000000000) (hH : Heap w [.box bw [.slice a (List.length l) c, .bool bad] 115, .vec a c 1 (bys l) 5]) : Calls Try.prog 112 #[pt bw, ni n, ni x, .slice al (List.length xs) cl, .func (.func 113) #[] #[]] w fun e w' => ∃ a' c', e = .returned (.tuple #[]) ∧ Ev w [.box bw [.slice a (List.length l) c, .bool bad] 115, .vec a c 1 (bys l) 5] w' [.box bw [.slice a' (List.length (wput n l (allM u16F (List.map (fun y : RU16 => y) xs)).1)) c', .bool (wbad n x 16777215 (List.length (allM u16F (List.map (fun y : RU16 => y) xs)).1) (bad || (allM u16F (List.map (fun y : RU16 => y) xs)).2))] 115, .vec a' c' 1 (bys (wput n l (allM u16F (List.map (fun y : RU16 => y) xs)).1)) 5] := by
 have hxs := il.small
 have hxc := il.cap
 refine d_0 [(0, pt bw), (1, ni n), (2, ni x), (3, .slice al (List.length xs) cl), (4, .func (.func 113) #[] #[])] 47 Go.Proofs.Try.func112 Go.Proofs.Try.ntmps112 (hH) fun act0 En0 Hv0 => ?_
 refine wp_seq ?_
 refine region_from ?_
 refine d_k [0,1,2,3,4,13] [] 1 En0 fun ac1 En2 => ?_
 refine f_o ?_
 refine m_m 115 [.slice none 0 0, .bool false] En2 Hv0 fun ac4 wo5 bk3 En6 Hv7 => ?_
 refine d_e [0,1,2,3,4,10] [] En6 fun ac8 En9 => ?_
 refine then_normal ?_
 refine wp_seq ?_
 refine wp_seq ?_
 refine d_r [0,1,2,4,10,15,16,17] [] En9 fun ac10 En11 => ?_
 refine then_normal ?_
 refine wp_block ?_
 have Hv12 : Ev w [.box bw [.slice a (List.length l) c, .bool bad] 115, .vec a c 1 (bys l) 5] wo5 [.box bw [.slice a (List.length l) c, .bool bad] 115, .vec a c 1 (bys l) 5, .box bk3 [.slice none 0 0, .bool false] 115, .vec none 0 1 (bys []) 5] := Ev.nil (sz := 1) (T := 5) Hv7
 refine loop_m (fun ms13 ac wo => ∃ (i : Nat) (wa : Option Addr) (wc : Nat) (m : Bs) (bd : Bool), ms13 = (List.length xs + 1 - i : Nat) ∧ Env ac 47 [(0, pt bw), (1, ni n), (2, ni x), (4, .func (.func 113) #[] #[]), (10, pt bk3), (15, .slice al (List.length xs) cl), (16, .int .i64 ((List.length xs : Nat) : Int)), (17, ni i)] ∧ Ev w [.box bw [.slice a (List.length l) c, .bool bad] 115, .vec a c 1 (bys l) 5] wo [.box bw [.slice a (List.length l) c, .bool bad] 115, .vec a c 1 (bys l) 5, .box bk3 [.slice wa (List.length m) wc, .bool bd] 115, .vec wa wc 1 (bys m) 5] ∧ ((m, bd) = allM u16F (List.take i (List.map (fun y : RU16 => y) xs)))) ⟨_, 0, none, 0, [], false, rfl, En11.sb, Hv12.pk [0, 1, 2, 3], rfl⟩ ?_
 rintro mm19 ac15 wo16 ⟨i, wa, wc, m, bd, rfl, En17, Hv18, hfo⟩
 refine wp_seq ?_
 refine d_r [0,1,2,4,10,15,16,17,18] [] En17 fun ac20 En21 => ?_
 refine then_normal ?_
 refine wp_seq ?_
 refine c_d (((i : Nat) : Int) < ((List.length xs : Nat) : Int)) En21 (fun hc22 => ?_) (fun hc22 => ?_)
 ·
  refine wp_skip ?_
  refine then_normal ?_
  refine wp_seq ?_
  refine wp_block ?_
  refine wp_seq ?_
  have hb25 : i < List.length xs := (by omega)
  obtain ⟨adr23, had24⟩ := some_of il.nz hb25
  have hb26 : i < List.length xs := by omega
  obtain ⟨x28, hx27⟩ : ∃ x, (xs)[i]? = some x := ⟨_, List.getElem?_eq_getElem hb26⟩
  obtain _ := il.each _ (List.mem_of_getElem? hx27)
  refine region_from ?_
  refine f_o ?_
  refine q_v (x := Instr.indexAt 32 (.slice al (List.length xs) cl) (ni i)) (v := .pointer (some (Addr.add adr23 i))) En21 (Go.Dbr.run_indexsl (e := 37) (sz := 1) (j := i) (jo := i) had24 (by kernel_rfl) (by kernel_rfl) (by omega) hb25 (Nat.mul_one _) _) fun ac29 En30 => ?_
  refine f_o ?_
  refine op_loadf (d := some 20) (t := 37) (ad := adr23) (ao := al) (ys := List.flatMap fU16 xs) (o := i) (v := uv16 x28) En30 (by kernel_rfl) rfl (il.ro.ev Hv18).reads had24 ((flat_get1 (fun _ _ => rfl) hx27).trans rfl) (by kernel_rfl) ?_
  intro ac31 En32
  refine d_e [0,1,2,4,10,12,15,16,17] [] En32 fun ac33 En34 => ?_
  refine then_normal ?_
  have hnb := hfb (i + 1) (by omega)
  rw [allM_take hx27, ← hfo] at hnb
  have hnc := hnb
  simp only [u16F, List.length_append, beN_len] at hnc
  refine region_from ?_
  refine d_k [0,1,2,4,10,15,16,17,21,22,23] [] 3 En34 fun ac35 En36 => ?_
  refine f_o ?_
  refine c_l [2,3] (M := [.box bk3 [.slice wa (List.length m) wc, .bool bd] 115, .vec wa wc 1 (bys m) 5]) En36 Hv18 (fun hM39 => wu16_go _ bk3 wa wc m bd x28 (by first | omega | (simp [wput_len, beN_len]; done) | (simp [wput_len, beN_len]; omega)) hM39) ?_
  rintro _ wo40 ⟨wa37, wc38, rfl, he41⟩
  refine ⟨_, _, [.box bk3 [.slice wa37 (List.length ((u16F (m, bd) x28).1)) wc38, .bool ((u16F (m, bd) x28).2)] 115, .vec wa37 wc38 1 (bys ((u16F (m, bd) x28).1)) 5, .box bw [.slice a (List.length l) c, .bool bad] 115, .vec a c 1 (bys l) 5], rfl, he41, by kernel_rfl, fun ac43 En44 Hv45 => ?_⟩
  refine f_e ?_
  refine block_normal ?_
  refine then_normal ?_
  refine d_r [0,1,2,4,10,15,16,17] [(0, g_n (w_a i 1))] En44 fun ac46 En47 => ?_
  refine then_normal ?_
  refine ⟨_, ⟨i + 1, wa37, wc38, ((u16F (m, bd) x28).1), ((u16F (m, bd) x28).2), rfl, En47.sb, Hv45.pk [2, 3, 0, 1], (by rw [allM_take hx27, ← hfo] <;> rfl)⟩, ?_⟩
  omega
 ·
  refine wp_exit ?_
  refine then_exit ?_
  refine then_exit ?_
  refine block_exit ?_
  refine then_normal ?_
  refine wp_seq ?_
  have hfe := allM_all (F := u16F) (f := (fun y : RU16 => y)) (xs := xs) (i := i) (by omega)
  rw [← hfo] at hfe
  refine region_cut (F := fun ac wo => ∃ (b2 : Bool), Env ac 47 [(0, pt bw), (1, ni n), (2, ni x), (4, .func (.func 113) #[] #[]), (10, pt bk3), (15, .slice al (List.length xs) cl), (16, .int .i64 ((List.length xs : Nat) : Int)), (17, ni i)] ∧ Ev w [.box bw [.slice a (List.length l) c, .bool bad] 115, .vec a c 1 (bys l) 5] wo [.box bw [.slice a (List.length l) c, .bool b2] 115, .vec a c 1 (bys l) 5, .box bk3 [.slice wa (List.length m) wc, .bool bd] 115, .vec wa wc 1 (bys m) 5] ∧ (b2 = (bad || bd))) ?_ ?_
  ·
   refine region_from ?_
   refine d_k [0,1,2,4,10,15,16,17,26,29] [] 4 En21 fun ac48 En49 => ?_
   refine f_o ?_
   refine m_l 0 En49 Hv18 fun ac50 En51 => ?_
   refine d_k [0,1,2,4,10,15,16,17,26,31] [] 6 En51 fun ac52 En53 => ?_
   rcases Bool.eq_false_or_eq_true (bad) with hb54 | hb54
   ·
    have En55 := En53.fx (t := 31) (congrArg Value.bool hb54)
    have hp56 : bad = true := hb54
    refine d_k [0,1,2,4,10,15,16,17,36,38] [] 13 En55 fun ac57 En58 => ?_
    refine f_o ?_
    refine m_s 0 [.box bw [.slice a (List.length l) c, .bool true] 115, .vec a c 1 (bys l) 5, .box bk3 [.slice wa (List.length m) wc, .bool bd] 115, .vec wa wc 1 (bys m) 5] En58 Hv18 fun ac59 wo60 En61 Hv62 => ?_
    refine f_e ?_
    exact ⟨rfl, ⟨true, En61.sb, Hv62.pk [0, 1, 2, 3], (by first | exact or_t (by assumption) | exact or_f (by assumption))⟩⟩
   ·
    have En63 := En53.fx (t := 31) (congrArg Value.bool hb54)
    have hp64 : ¬ (bad = true) := Bool.eq_false_iff.1 hb54
    refine d_k [0,1,2,4,10,15,16,17,26,31,34] [] 9 En63 fun ac65 En66 => ?_
    refine f_o ?_
    refine m_l 2 En66 Hv18 fun ac67 En68 => ?_
    refine d_k [0,1,2,4,10,15,16,17,36,38] [] 13 En68 fun ac69 En70 => ?_
    refine f_o ?_
    refine m_s 0 [.box bw [.slice a (List.length l) c, .bool bd] 115, .vec a c 1 (bys l) 5, .box bk3 [.slice wa (List.length m) wc, .bool bd] 115, .vec wa wc 1 (bys m) 5] En70 Hv18 fun ac71 wo72 En73 Hv74 => ?_
    refine f_e ?_
    exact ⟨rfl, ⟨bd, En73.sb, Hv74.pk [0, 1, 2, 3], (by first | exact or_t (by assumption) | exact or_f (by assumption))⟩⟩
  ·
   rintro ac75 wo76 ⟨b2, En77, Hv78, hb2⟩
   refine then_normal ?_
   have hml := hfb (List.length xs) (Nat.le_refl _)
   rw [List.take_of_length_le (by rw [List.length_map]; exact Nat.le_refl _), ← hfe] at hml
   rw [← hfe] at hb
   refine region_from ?_
   refine d_k [0,4,10,15,16,17,39,40,41,44] [] 6 En77 fun ac79 En80 => ?_
   refine f_o ?_
   refine m_l 2 En80 Hv78 fun ac81 En82 => ?_
   refine f_o ?_
   refine c_l [0,1] (M := [.box bw [.slice a (List.length l) c, .bool b2] 115, .vec a c 1 (bys l) 5]) En82 Hv78 (fun hM85 => wlist_go _ bw a c l b2 n (by omega) x 16777215 (by omega) (by omega) wa wc m (bys_in Hv78.heap (k := 3) rfl [0, 1] (by kernel_rfl) rfl (by first | omega | (simp; done) | (simp; omega))) (by first | exact hb | omega) hM85) ?_
   rintro _ wo86 ⟨wa83, wc84, rfl, he87⟩
   refine ⟨_, _, [.box bw [.slice wa83 (List.length (wput n l m)) wc84, .bool (wbad n x 16777215 (List.length m) b2)] 115, .vec wa83 wc84 1 (bys (wput n l m)) 5, .box bk3 [.slice wa (List.length m) wc, .bool bd] 115, .vec wa wc 1 (bys m) 5], rfl, he87, by kernel_rfl, fun ac89 En90 Hv91 => ?_⟩
   refine f_e ?_
   refine d_end0 En90 (by kernel_rfl) ?_
   subst hb2
   rw [← hfe]
   exact ⟨wa83, wc84, rfl, Hv91.pk [0, 1]⟩

end Go.Proofs.Ytofecellbfhnjaa

/- Layer 17: extensions' data are written by the program. -/

namespace Go.Proofs.Ytofecellbfhnjaa
open Go.Dbr
set_option maxRecDepth 100000
set_option maxHeartbeats 2000000
set_option linter.unusedVariables false
set_option linter.unusedSimpArgs false

end Go.Proofs.Ytofecellbfhnjaa

/- Layer 17: the document writes parts. -/

namespace Go.Proofs.Ytofecellbfhnjaa
open Go.Dbr
set_option maxRecDepth 100000
set_option maxHeartbeats 2000000
set_option linter.unusedVariables false
set_option linter.unusedSimpArgs false

theorem dput_len (n x y : Nat) (l b : Bs) : (dput n x y l b).length ≤ l.length + n + b.length := by
  rw [dput]
  cases dbad n x y b.length with
  | true => rw [Bool.cond_true]; omega
  | false => rw [Bool.cond_false, wput_len]; exact Nat.le_refl _
theorem dpartw_go (w : World) (bw : Nat) (a : Option Addr) (c : Nat) (l : Bs) (bad : Bool) (bp : Nat) (a2 : Option Addr) (c2 : Nat) (l2 : Bs) (bad2 : Bool) (n : Nat) (hn : n ≤ 4) (x : Nat) (hx : x ≤ 4294967295) (hb : List.length l + n + List.length l2 ≤ 140737489403904) (hH : Heap w [.box bw [.slice a (List.length l) c, .bool bad] 126, .vec a c 1 (bys l) 5, .box bp [.slice a2 (List.length l2) c2, .bool bad2] 126, .vec a2 c2 1 (bys l2) 5]) : Calls Try.prog 110 #[pt bw, ni n, ni x, pt bp] w fun e w' => ∃ a' c', e = .returned (.tuple #[]) ∧ Ev w [.box bw [.slice a (List.length l) c, .bool bad] 126, .vec a c 1 (bys l) 5, .box bp [.slice a2 (List.length l2) c2, .bool bad2] 126, .vec a2 c2 1 (bys l2) 5] w' [.box bw [.slice a' (List.length (dput n x 16777215 l l2)) c', .bool ((bad || bad2) || dbad n x 16777215 (List.length l2))] 126, .vec a' c' 1 (bys (dput n x 16777215 l l2)) 5, .box bp [.slice a2 (List.length l2) c2, .bool bad2] 126, .vec a2 c2 1 (bys l2) 5] := by
 refine d_0 [(0, pt bw), (1, ni n), (2, ni x), (3, pt bp)] 29 Go.Proofs.Try.func110 Go.Proofs.Try.ntmps110 (hH) fun act0 En0 Hv0 => ?_
 refine wp_seq ?_
 refine region_cut (F := fun ac wo => ∃ (b2 : Bool), Env ac 29 [(0, pt bw), (1, ni n), (2, ni x), (3, pt bp)] ∧ Ev w [.box bw [.slice a (List.length l) c, .bool bad] 126, .vec a c 1 (bys l) 5, .box bp [.slice a2 (List.length l2) c2, .bool bad2] 126, .vec a2 c2 1 (bys l2) 5] wo [.box bw [.slice a (List.length l) c, .bool b2] 126, .vec a c 1 (bys l) 5, .box bp [.slice a2 (List.length l2) c2, .bool bad2] 126, .vec a2 c2 1 (bys l2) 5] ∧ (b2 = (bad || bad2))) ?_ ?_
 ·
  refine region_from ?_
  refine d_k [0,1,2,3,8,11] [] 4 En0 fun ac1 En2 => ?_
  refine f_o ?_
  refine m_l 0 En2 Hv0 fun ac3 En4 => ?_
  refine d_k [0,1,2,3,8,13] [] 6 En4 fun ac5 En6 => ?_
  rcases Bool.eq_false_or_eq_true (bad) with hb7 | hb7
  ·
   have En8 := En6.fx (t := 13) (congrArg Value.bool hb7)
   have hp9 : bad = true := hb7
   refine d_k [0,1,2,3,18,20] [] 13 En8 fun ac10 En11 => ?_
   refine f_o ?_
   refine m_s 0 [.box bw [.slice a (List.length l) c, .bool true] 126, .vec a c 1 (bys l) 5, .box bp [.slice a2 (List.length l2) c2, .bool bad2] 126, .vec a2 c2 1 (bys l2) 5] En11 Hv0 fun ac12 wo13 En14 Hv15 => ?_
   refine f_e ?_
   exact ⟨rfl, ⟨true, En14.sb, Hv15.pk [0, 1, 2, 3], (by first | exact or_t (by assumption) | exact or_f (by assumption))⟩⟩
  ·
   have En16 := En6.fx (t := 13) (congrArg Value.bool hb7)
   have hp17 : ¬ (bad = true) := Bool.eq_false_iff.1 hb7
   refine d_k [0,1,2,3,8,13,16] [] 9 En16 fun ac18 En19 => ?_
   refine f_o ?_
   refine m_l 2 En19 Hv0 fun ac20 En21 => ?_
   refine d_k [0,1,2,3,18,20] [] 13 En21 fun ac22 En23 => ?_
   refine f_o ?_
   refine m_s 0 [.box bw [.slice a (List.length l) c, .bool bad2] 126, .vec a c 1 (bys l) 5, .box bp [.slice a2 (List.length l2) c2, .bool bad2] 126, .vec a2 c2 1 (bys l2) 5] En23 Hv0 fun ac24 wo25 En26 Hv27 => ?_
   refine f_e ?_
   exact ⟨rfl, ⟨bad2, En26.sb, Hv27.pk [0, 1, 2, 3], (by first | exact or_t (by assumption) | exact or_f (by assumption))⟩⟩
 ·
  rintro ac28 wo29 ⟨b2, En30, Hv31, hb2⟩
  refine then_normal ?_
  refine region_from ?_
  refine d_k [0,3,21,22,23,26] [] 6 En30 fun ac32 En33 => ?_
  refine f_o ?_
  refine m_l 2 En33 Hv31 fun ac34 En35 => ?_
  refine f_o ?_
  refine c_l [0,1] (M := [.box bw [.slice a (List.length l) c, .bool b2] 126, .vec a c 1 (bys l) 5]) En35 Hv31 (fun hM38 => dwlist_go _ bw a c l b2 n (by omega) x 16777215 (by omega) (by omega) a2 c2 l2 (bys_in Hv31.heap (k := 3) rfl [0, 1] (by kernel_rfl) rfl (by first | omega | (simp; done) | (simp; omega))) (by first | omega | (simp [wput_len, beN_len]; done) | (simp [wput_len, beN_len]; omega)) hM38) ?_
  rintro _ wo39 ⟨wa36, wc37, rfl, he40⟩
  refine ⟨_, _, [.box bw [.slice wa36 (List.length (dput n x 16777215 l l2)) wc37, .bool (b2 || dbad n x 16777215 (List.length l2))] 126, .vec wa36 wc37 1 (bys (dput n x 16777215 l l2)) 5, .box bp [.slice a2 (List.length l2) c2, .bool bad2] 126, .vec a2 c2 1 (bys l2) 5], rfl, he40, by kernel_rfl, fun ac42 En43 Hv44 => ?_⟩
  refine f_e ?_
  refine d_end0 En43 (by kernel_rfl) ?_
  subst hb2
  exact ⟨wa36, wc37, rfl, Hv44.pk [0, 1, 2, 3]⟩

end Go.Proofs.Ytofecellbfhnjaa

/- Layer 17: extensions' data are written by the document. -/


namespace Go.Proofs.Ytofecellbfhnjaa
open Go.Dbr
set_option maxRecDepth 100000
set_option maxHeartbeats 2000000
set_option linter.unusedVariables false
set_option linter.unusedSimpArgs false

end Go.Proofs.Ytofecellbfhnjaa

/- Layer 17: lists of parts are written by the document. -/

namespace Go.Proofs.Ytofecellbfhnjaa
open Go.Dbr
set_option maxRecDepth 100000
set_option maxHeartbeats 2000000
set_option linter.unusedVariables false
set_option linter.unusedSimpArgs false

end Go.Proofs.Ytofecellbfhnjaa

/- Layer 17: extensions are found, by both. -/

namespace Go.Proofs.Ytofecellbfhnjaa
open Go.Dbr
set_option maxRecDepth 100000
set_option maxHeartbeats 2000000
set_option linter.unusedVariables false
set_option linter.unusedSimpArgs false

abbrev RExt := (UInt16) × (Sl UInt8) × Unit
abbrev fExt : RExt → List Value := (fun p : (UInt16) × (Sl UInt8) × Unit => (fun n : UInt16 => [uv16 n]) p.1 ++ (fun p : (Sl UInt8) × Unit => (fun s : Sl UInt8 => s.f) p.1 ++ (fun _ : Unit => []) p.2) p.2)
abbrev EX := UInt16 × Bs
def fdN (t : UInt16) : List EX → Nat
  | [] => 0
  | p :: r => if p.1 = t then 0 else fdN t r + 1
def fdP (t : UInt16) : List EX → Bs × Bool
  | [] => ([], false)
  | p :: r => if p.1 = t then (p.2, true) else fdP t r
def fdI (t : UInt16) (ps : List EX) : Int := if fdN t ps < ps.length then (fdN t ps : Int) else -1
theorem fd_get {t : UInt16} : ∀ {ps : List EX} {p : EX}, ps[fdN t ps]? = some p → fdP t ps = (p.2, true)
  | [], _, h => by simp [fdN] at h
  | q :: r, p, h => by
    by_cases e : q.1 = t
    · rw [fdN, if_pos e, List.getElem?_cons_zero] at h
      rw [fdP, if_pos e, Option.some.inj h]
    · rw [fdN, if_neg e, List.getElem?_cons_succ] at h
      rw [fdP, if_neg e]
      exact fd_get h
theorem fd_hit {α : Type} {t : UInt16} {f : α → EX} {xs : List α} {i : Nat} {x : α} (hi : fdN t (List.map f xs) = i + fdN t (List.drop i (List.map f xs))) (hx : xs[i]? = some x) (e : (f x).1 = t) : fdN t (List.map f xs) = i ∧ fdP t (List.map f xs) = ((f x).2, true) := by
  have hp : (List.map f xs)[i]? = some (f x) := by rw [List.getElem?_map, hx]; rfl
  obtain ⟨hl, hg⟩ := List.getElem?_eq_some_iff.1 hp
  have hd : List.drop i (List.map f xs) = f x :: List.drop (i + 1) (List.map f xs) := by rw [List.drop_eq_getElem_cons hl, hg]
  have h1 : fdN t (List.map f xs) = i := by rw [hi, hd, fdN, if_pos e, Nat.add_zero]
  exact ⟨h1, fd_get (by rw [h1]; exact hp)⟩
theorem fd_go {α : Type} {t : UInt16} {f : α → EX} {xs : List α} {i : Nat} {x : α} (hi : fdN t (List.map f xs) = i + fdN t (List.drop i (List.map f xs))) (hx : xs[i]? = some x) (e : ¬ (f x).1 = t) : fdN t (List.map f xs) = i + 1 + fdN t (List.drop (i + 1) (List.map f xs)) := by
  have hp : (List.map f xs)[i]? = some (f x) := by rw [List.getElem?_map, hx]; rfl
  obtain ⟨hl, hg⟩ := List.getElem?_eq_some_iff.1 hp
  have hd : List.drop i (List.map f xs) = f x :: List.drop (i + 1) (List.map f xs) := by rw [List.drop_eq_getElem_cons hl, hg]
  rw [hi, hd, fdN, if_neg e]
  omega
theorem fd_end {α : Type} {t : UInt16} {f : α → EX} {xs : List α} {i : Nat} (hi : fdN t (List.map f xs) = i + fdN t (List.drop i (List.map f xs))) (h : ¬ i < xs.length) : ¬ fdN t (List.map f xs) < (List.map f xs).length := by
  rw [hi, List.length_map]
  omega
theorem fdI_n {t : UInt16} {ps : List EX} (h : ¬ fdN t ps < ps.length) : fdI t ps = -1 := by rw [fdI, if_neg h]
theorem fdI_y {t : UInt16} {ps : List EX} (h : fdN t ps < ps.length) : fdI t ps = (fdN t ps : Int) := by rw [fdI, if_pos h]
end Go.Proofs.Ytofecellbfhnjaa

/- Layer 17: both write the same; how much is written. -/

namespace Go.Proofs.Ytofecellbfhnjaa
open Go.Dbr
set_option maxRecDepth 100000
set_option maxHeartbeats 2000000
set_option linter.unusedVariables false
set_option linter.unusedSimpArgs false

theorem wd_eq (n x y k : Nat) (bad : Bool) : wbad n x y k bad = (bad || dbad n x y k) := by
  have hm : 0 < 2 ^ (8 * n) := Nat.pow_pos (by decide)
  have h : decide (0 < k / 2 ^ (8 * n)) = decide (2 ^ (8 * n) ≤ k) := decide_eq_decide.2 ⟨fun g => by
    rcases Nat.lt_or_ge k (2 ^ (8 * n)) with g2 | g2
    · rw [Nat.div_eq_of_lt g2] at g; exact absurd g (by decide)
    · exact g2, fun g => Nat.div_pos g hm⟩
  rw [wbad, dbad, h]
theorem dput_f {n x y : Nat} {l b : Bs} (h : dbad n x y b.length = false) : dput n x y l b = wput n l b := by rw [dput, h]; rfl
def LikeW (p d : WS) : Prop := p.2 = d.2 ∧ (p.2 = false → p.1 = d.1)
theorem likeW_one {n x y : Nat} {p d : WS} {b : Bs} (h : LikeW p d) (s : Bs → Bs) : LikeW (wput n (s p.1) b, wbad n x y b.length p.2) (dput n x y (s d.1) b, d.2 || dbad n x y b.length) := by
  refine ⟨by show wbad n x y b.length p.2 = (d.2 || dbad n x y b.length); rw [wd_eq, h.1], fun g => ?_⟩
  have g : wbad n x y b.length p.2 = false := g
  rw [wd_eq, Bool.or_eq_false_iff] at g
  show wput n (s p.1) b = dput n x y (s d.1) b
  rw [dput_f g.2, h.2 g.1]
theorem u16_likeW (p d : WS) (t : UInt16) (h : LikeW p d) : LikeW (u16F p t) (u16F d t) := ⟨h.1, fun g => congrArg (· ++ beN 2 t.toNat) (h.2 g)⟩
theorem foldl_like {β : Type} {F G : WS → β → WS} (hF : ∀ p d x, LikeW p d → LikeW (F p x) (G d x)) : ∀ (ps : List β) (p d : WS), LikeW p d → LikeW (List.foldl F p ps) (List.foldl G d ps)
  | [], _, _, h => h
  | x :: r, p, d, h => foldl_like hF r _ _ (hF p d x h)
theorem allM_like {β : Type} {F G : WS → β → WS} (hF : ∀ p d x, LikeW p d → LikeW (F p x) (G d x)) (ps : List β) : LikeW (allM F ps) (allM G ps) := foldl_like hF ps _ _ ⟨rfl, fun _ => rfl⟩
/-! how much -/
theorem foldl_len {β : Type} {F : WS → β → WS} {g : β → Nat} (h : ∀ p x, (F p x).1.length ≤ p.1.length + 8 * (g x + 1)) : ∀ (ps : List β) (p : WS), (List.foldl F p ps).1.length ≤ p.1.length + 8 * (List.map (fun x => g x + 1) ps).sum
  | [], _ => Nat.le_add_right _ _
  | x :: r, p => by
    have h1 := foldl_len h r (F p x)
    have h2 := h p x
    rw [List.foldl_cons, List.map_cons, List.sum_cons]
    omega
theorem sum_le {α β : Type} {g : β → Nat} {pu : α → β} {m : α → Nat} (hg : ∀ y, g (pu y) + 1 ≤ m y) : ∀ (xs : List α) (i : Nat), (List.map (fun x => g x + 1) (List.take i (List.map pu xs))).sum ≤ (List.map m xs).sum
  | [], i => by simp
  | x :: r, 0 => by simp
  | x :: r, i + 1 => by
    have h1 := sum_le hg r i
    have h2 := hg x
    rw [List.map_cons, List.take_succ_cons, List.map_cons, List.sum_cons, List.map_cons, List.sum_cons]
    omega
theorem allB_of {α β : Type} {F : WS → β → WS} {g : β → Nat} (h : ∀ p x, (F p x).1.length ≤ p.1.length + 8 * (g x + 1)) {pu : α → β} {m : α → Nat} (hg : ∀ y, g (pu y) + 1 ≤ m y) {xs : List α} (hs : (List.map m xs).sum ≤ 1048576) : allB F (List.map pu xs) := fun i => by
  have h1 := foldl_len h (List.take i (List.map pu xs)) ([], false)
  have h2 := sum_le hg xs i
  rw [allM]
  simp only [List.length_nil, Nat.zero_add] at h1
  omega
theorem u16F_l (p : WS) (x : UInt16) : (u16F p x).1.length ≤ p.1.length + 8 * (0 + 1) := by rw [u16F, List.length_append, beN_len]; omega
end Go.Proofs.Ytofecellbfhnjaa

/- Layer 17: extensions are read by the program. -/


namespace Go.Proofs.Ytofecellbfhnjaa
open Go.Dbr
set_option maxRecDepth 100000
set_option maxHeartbeats 2000000
set_option linter.unusedVariables false
set_option linter.unusedSimpArgs false

def innExt (y : RExt) : List Inn := [(y.2.1.a, y.2.1.c, 1, bys y.2.1.l, 5)]
def extM (l : Bs) (s o : Bool) : EX × PS := ((UInt16.ofNat (nbV 2 l s), lsO 2 0 65535 (tkR 2 l s) (tkS 2 l s)), lsR 2 0 65535 (tkR 2 l s) (tkS 2 l s), lsS 2 0 65535 (tkR 2 l s) (tkS 2 l s), o)
theorem ext_dec : Dec extM := ⟨fun l o h hs => Nat.lt_of_le_of_lt (lsR_len _ _ _ _ _) (tk_lt (by decide) h), fun l o => Nat.le_trans (lsR_len _ _ _ _ _) (tkR_len _ _ _)⟩
def hasE (t : UInt16) (ps : List EX) : Bool := decide (fdN t ps < ps.length)

theorem ext_go (w : World) (br : Nat) (a : Option Addr) (c : Nat) (l : List UInt8) (s o : Bool) (i : InB w [.box br [.slice a (List.length l) c, .bool s, .bool o] 120] a c l) (hH : Heap w [.box br [.slice a (List.length l) c, .bool s, .bool o] 120]) : Calls Try.prog 210 #[pt br] w fun e w' => ∃ ta tc gv oa oc bl, e = .returned (.agg #[uv16 gv, .slice oa (List.length bl) oc]) ∧ Ev w [.box br [.slice a (List.length l) c, .bool s, .bool o] 120] w' [.box br [.slice ta (List.length ((extM l s o).2.1)) tc, .bool ((extM l s o).2.2.1), .bool ((extM l s o).2.2.2)] 120, .vec oa oc 1 (bys bl) 5] ∧ Sub a c l ta tc (extM l s o).2.1 ∧ (gv, bl) = (extM l s o).1 ∧ List.length bl ≤ 4294967296 := by
 refine d_0 [(0, pt br)] 10 Go.Proofs.Try.func210 Go.Proofs.Try.ntmps210 (hH) fun act0 En0 Hv0 => ?_
 refine wp_seq ?_
 refine region_from ?_
 refine f_o ?_
 refine m_z 147 [.int .u16 0, .slice none 0 0] En0 Hv0 fun ac2 wo3 bk1 En4 Hv5 => ?_
 refine f_e ?_
 refine then_normal ?_
 refine wp_seq ?_
 refine region_from ?_
 refine d_k [0,2,4] [] 1 En4 fun ac6 En7 => ?_
 refine f_o ?_
 refine c_l [0] (M := [.box br [.slice a (List.length l) c, .bool s, .bool o] 120]) En7 Hv5 (fun hM11 => u16_go _ br a c l s o ((i.ev Hv5).pick [0] (by kernel_rfl)) hM11) ?_
 rintro _ wo12 ⟨ta8, tc9, rfl, he13, hs10⟩
 refine ⟨_, _, [.box br [.slice ta8 (List.length (tkR 2 l s)) tc9, .bool (tkS 2 l s), .bool o] 120, .box bk1 [.int .u16 0, .slice none 0 0] 147], rfl, he13, by kernel_rfl, fun ac15 En16 Hv17 => ?_⟩
 refine d_e [0,2,3] [] En16 fun ac18 En19 => ?_
 refine then_normal ?_
 refine wp_seq ?_
 refine region_from ?_
 refine d_k [0,2,6,7] [] 2 En19 fun ac20 En21 => ?_
 refine f_o ?_
 refine c_l [0] (M := [.box br [.slice ta8 (List.length (tkR 2 l s)) tc9, .bool (tkS 2 l s), .bool o] 120]) En21 Hv17 (fun hM27 => list_go _ br 2 (by omega) 0 65535 (by omega) (by omega) ta8 tc9 (tkR 2 l s) (tkS 2 l s) o (hs10 _ _ ((i.ev Hv17).pick [0] (by kernel_rfl))) hM27) ?_
 rintro _ wo28 ⟨ao22, cp23, ta24, tc25, rfl, he29, hs26⟩
 refine ⟨_, _, [.box br [.slice ta24 (List.length (lsR 2 0 65535 (tkR 2 l s) (tkS 2 l s))) tc25, .bool (lsS 2 0 65535 (tkR 2 l s) (tkS 2 l s)), .bool o] 120, .vec ao22 cp23 1 (bys (lsO 2 0 65535 (tkR 2 l s) (tkS 2 l s))) 5, .box bk1 [.int .u16 0, .slice none 0 0] 147], rfl, he29, by kernel_rfl, fun ac31 En32 Hv33 => ?_⟩
 refine d_k [0,2,9] [] 4 En32 fun ac34 En35 => ?_
 refine f_o ?_
 refine m_g 2 0 2 [.int .u16 ((UInt16.toNat (UInt16.ofNat (nbV 2 l s)) : Nat) : Int), .slice ao22 (List.length (lsO 2 0 65535 (tkR 2 l s) (tkS 2 l s))) cp23] [.int .u16 ((UInt16.toNat (UInt16.ofNat (nbV 2 l s)) : Nat) : Int), .slice ao22 (List.length (lsO 2 0 65535 (tkR 2 l s) (tkS 2 l s))) cp23] [.box br [.slice ta24 (List.length (lsR 2 0 65535 (tkR 2 l s) (tkS 2 l s))) tc25, .bool (lsS 2 0 65535 (tkR 2 l s) (tkS 2 l s)), .bool o] 120, .vec ao22 cp23 1 (bys (lsO 2 0 65535 (tkR 2 l s) (tkS 2 l s))) 5, .box bk1 [.int .u16 ((UInt16.toNat (UInt16.ofNat (nbV 2 l s)) : Nat) : Int), .slice ao22 (List.length (lsO 2 0 65535 (tkR 2 l s) (tkS 2 l s))) cp23] 147] En35 Hv33 rfl rfl (by simp) (one_all (by kernel_rfl)) rfl rfl fun ac36 wo37 En38 Hv39 => ?_
 refine f_e ?_
 refine then_normal ?_
 refine wp_ret ?_
 refine d_cell1 (v := .agg #[.int .u16 ((UInt16.toNat (UInt16.ofNat (nbV 2 l s)) : Nat) : Int), .slice ao22 (List.length (lsO 2 0 65535 (tkR 2 l s) (tkS 2 l s))) cp23]) (t := 2) (T := 147) (ad := ⟨bk1, 0, none⟩) En38 (by kernel_rfl) (by kernel_rfl) (Ev.cellAgg (t := 147) (k := 2) (off := 0) (m := 2) (xs := [.int .u16 ((UInt16.toNat (UInt16.ofNat (nbV 2 l s)) : Nat) : Int), .slice ao22 (List.length (lsO 2 0 65535 (tkR 2 l s) (tkS 2 l s))) cp23]) Hv39 rfl rfl rfl (by kernel_rfl) (by kernel_rfl)) ?_
 exact ⟨ta24, tc25, (UInt16.ofNat (nbV 2 l s)), ao22, cp23, (lsO 2 0 65535 (tkR 2 l s) (tkS 2 l s)), rfl, Hv39.pk [0, 1], (hs10.trans hs26), rfl, (Nat.le_of_succ_le (lsO_32 (by decide) _ _))⟩

theorem many_ext (w : World) (br : Nat) (n : Nat) (hn : n ≤ 4) (x : Nat) (hx : x ≤ 4294967295) (a : Option Addr) (c : Nat) (l : List UInt8) (s o : Bool) (i : InB w [.box br [.slice a (List.length l) c, .bool s, .bool o] 120] a c l) (hH : Heap w [.box br [.slice a (List.length l) c, .bool s, .bool o] 120]) : Calls Try.prog 209 #[pt br, ni n, ni x, .func (.func 210) #[] #[]] w fun e w' => ∃ ta tc oa oc xs, e = .returned (.slice oa (List.length xs) oc) ∧ Ev w [.box br [.slice a (List.length l) c, .bool s, .bool o] 120] w' [.box br [.slice ta (List.length (lsR n x 16777215 l s)) tc, .bool (lsS n x 16777215 l s || (mn extM ((lsO n x 16777215 l s, lsS n x 16777215 l s, false) : PS)).2.2.1), .bool (o || (mn extM ((lsO n x 16777215 l s, lsS n x 16777215 l s, false) : PS)).2.2.2)] 120, .vec oa oc 2 (List.flatMap fExt xs) 147, .grp (List.flatMap innExt xs)] ∧ Sub a c l ta tc (lsR n x 16777215 l s) ∧ List.map (fun y : RExt => (y.1, y.2.1.l)) xs = (mn extM ((lsO n x 16777215 l s, lsS n x 16777215 l s, false) : PS)).1 ∧ List.length xs ≤ List.length (lsO n x 16777215 l s) + 1 ∧ ∀ y ∈ xs, List.length y.2.1.l ≤ 140737488351232 := by
 refine d_0 [(0, pt br), (1, ni n), (2, ni x), (3, .func (.func 210) #[] #[])] 69 Go.Proofs.Try.func209 Go.Proofs.Try.ntmps209 (hH) fun act0 En0 Hv0 => ?_
 refine d_s [0,1,2,3,8] [] En0 fun ac1 En2 => ?_
 refine wp_seq ?_
 refine region_from ?_
 refine d_k [0,3,8,12,13,14] [] 3 En2 fun ac3 En4 => ?_
 refine f_o ?_
 refine c_l [0] (M := [.box br [.slice a (List.length l) c, .bool s, .bool o] 120]) En4 Hv0 (fun hM10 => list_go _ br n (by omega) x 16777215 (by omega) (by omega) a c l s o ((i.ev Hv0).pick [0] (by kernel_rfl)) hM10) ?_
 rintro _ wo11 ⟨ao5, cp6, ta7, tc8, rfl, he12, hs9⟩
 refine ⟨_, _, [.box br [.slice ta7 (List.length (lsR n x 16777215 l s)) tc8, .bool (lsS n x 16777215 l s), .bool o] 120, .vec ao5 cp6 1 (bys (lsO n x 16777215 l s)) 5], rfl, he12, by kernel_rfl, fun ac14 En15 Hv16 => ?_⟩
 refine d_e [0,3,8,9] [] En15 fun ac17 En18 => ?_
 refine then_normal ?_
 refine wp_seq ?_
 refine region_from ?_
 refine d_k [0,3,8,16,19] [] 4 En18 fun ac19 En20 => ?_
 refine f_o ?_
 refine m_l 0 En20 Hv16 fun ac21 En22 => ?_
 refine d_k [0,3,8,21] [] 6 En22 fun ac23 En24 => ?_
 refine f_o ?_
 refine m_m 120 [.slice ao5 (List.length (lsO n x 16777215 l s)) cp6, .bool (lsS n x 16777215 l s), .bool false] En24 Hv16 fun ac26 wo27 bk25 En28 Hv29 => ?_
 refine d_e [0,3,8,10] [] En28 fun ac30 En31 => ?_
 refine then_normal ?_
 refine d_s [0,3,8,10,11] [] En31 fun ac32 En33 => ?_
 refine wp_seq ?_
 refine region_cut (F := fun ac wo => ∃ (oa : Option Addr) (oc : Nat) (xs : List (RExt)) (ra : Option Addr) (rc : Nat) (rl : Bs) (s1 : Bool) (o1 : Bool), Env ac 69 [(0, pt br), (3, .func (.func 210) #[] #[]), (8, .slice none 0 0), (10, pt bk25), (11, .slice oa (List.length xs) oc)] ∧ Ev w [.box br [.slice a (List.length l) c, .bool s, .bool o] 120] wo [.box br [.slice ta7 (List.length (lsR n x 16777215 l s)) tc8, .bool (lsS n x 16777215 l s), .bool o] 120, .box bk25 [.slice ra (List.length rl) rc, .bool s1, .bool o1] 120, .vec oa oc 2 (List.flatMap fExt xs) 147, .grp (List.flatMap innExt xs)] ∧ (mn extM ((lsO n x 16777215 l s, lsS n x 16777215 l s, false) : PS) = (List.map (fun y : RExt => (y.1, y.2.1.l)) xs, rl, s1, o1)) ∧ (List.length xs ≤ List.length (lsO n x 16777215 l s) + 1) ∧ (∀ y ∈ xs, List.length y.2.1.l ≤ 140737488351232)) ?_ ?_
 ·
  refine wp_block ?_
  have Hv34 : Ev w [.box br [.slice a (List.length l) c, .bool s, .bool o] 120] wo27 [.box br [.slice ta7 (List.length (lsR n x 16777215 l s)) tc8, .bool (lsS n x 16777215 l s), .bool o] 120, .vec ao5 cp6 1 (bys (lsO n x 16777215 l s)) 5, .box bk25 [.slice ao5 (List.length (lsO n x 16777215 l s)) cp6, .bool (lsS n x 16777215 l s), .bool false] 120, .vec none 0 2 (List.flatMap fExt []) 147] := Ev.nil (sz := 2) (T := 147) Hv29
  have Hv35 : Ev w [.box br [.slice a (List.length l) c, .bool s, .bool o] 120] wo27 [.box br [.slice ta7 (List.length (lsR n x 16777215 l s)) tc8, .bool (lsS n x 16777215 l s), .bool o] 120, .vec ao5 cp6 1 (bys (lsO n x 16777215 l s)) 5, .box bk25 [.slice ao5 (List.length (lsO n x 16777215 l s)) cp6, .bool (lsS n x 16777215 l s), .bool false] 120, .vec none 0 2 (List.flatMap fExt []) 147, .grp (List.flatMap innExt [])] := Ev.grp0 Hv34
  have hO32 : List.length (lsO n x 16777215 l s) ≤ 4294967295 := Nat.le_trans (tkO_len _ _ _) (Nat.le_of_lt_succ (nbV_4 hn l s))
  refine loop_m (fun ms36 ac wo => ∃ (oa : Option Addr) (oc : Nat) (xs : List (RExt)) (ra : Option Addr) (rc : Nat) (rl : Bs) (s1 : Bool) (o1 : Bool), ms36 = (bif s1 then 0 else List.length rl + 1 : Nat) ∧ Env ac 69 [(0, pt br), (3, .func (.func 210) #[] #[]), (8, .slice none 0 0), (10, pt bk25), (11, .slice oa (List.length xs) oc)] ∧ Ev w [.box br [.slice a (List.length l) c, .bool s, .bool o] 120] wo [.box bk25 [.slice ra (List.length rl) rc, .bool s1, .bool o1] 120, .box br [.slice ta7 (List.length (lsR n x 16777215 l s)) tc8, .bool (lsS n x 16777215 l s), .bool o] 120, .vec ao5 cp6 1 (bys (lsO n x 16777215 l s)) 5, .vec oa oc 2 (List.flatMap fExt xs) 147, .grp (List.flatMap innExt xs)] ∧ (Sub ao5 cp6 (lsO n x 16777215 l s) ra rc rl) ∧ (mn extM ((lsO n x 16777215 l s, lsS n x 16777215 l s, false) : PS) = (List.map (fun y : RExt => (y.1, y.2.1.l)) xs ++ (mn extM (rl, s1, o1)).1, (mn extM (rl, s1, o1)).2)) ∧ (List.length xs + List.length rl ≤ List.length (lsO n x 16777215 l s) + (bif s1 then 1 else 0)) ∧ (∀ y ∈ xs, List.length y.2.1.l ≤ 140737488351232)) ⟨_, none, 0, [], ao5, cp6, (lsO n x 16777215 l s), (lsS n x 16777215 l s), false, rfl, En33.sb, Hv35.pk [2, 0, 1, 3, 4], Sub.self, rfl, (by rw [List.length_nil, Nat.zero_add]; exact Nat.le_add_right _ _), (fun y hy => by cases hy)⟩ ?_
  rintro mm42 ac38 wo39 ⟨oa, oc, xs, ra, rc, rl, s1, o1, rfl, En40, Hv41, hsu, hmn, hct, hsm⟩
  refine wp_seq ?_
  refine wp_seq ?_
  refine region_from ?_
  refine d_k [0,3,8,10,11,25] [] 3 En40 fun ac43 En44 => ?_
  refine f_o ?_
  refine m_l 0 En44 Hv41 fun ac45 En46 => ?_
  refine d_k [0,3,8,10,11,28] [] 6 En46 fun ac47 En48 => ?_
  rcases Bool.eq_false_or_eq_true (!s1) with hb49 | hb49
  ·
   have En50 := En48.fx (t := 28) (congrArg Value.bool hb49)
   have hp51 : ¬ (s1 = true) := by simpa using hb49
   refine d_k [0,3,8,10,11,28,31] [] 9 En50 fun ac52 En53 => ?_
   refine f_o ?_
   refine m_l 0 En53 Hv41 fun ac54 En55 => ?_
   refine d_e [0,3,8,10,11,35] [] En55 fun ac56 En57 => ?_
   refine then_normal ?_
   refine c_d (((List.length rl : Nat) : Int) > (0 : Int)) En57 (fun hc58 => ?_) (fun hc58 => ?_)
   ·
    refine wp_skip ?_
    refine then_normal ?_
    refine wp_block ?_
    refine region_from ?_
    refine d_k [0,3,8,10,11,36,37,38] [] 3 En57 fun ac59 En60 => ?_
    refine f_o ?_
    refine c_l [0] (M := [.box bk25 [.slice ra (List.length rl) rc, .bool s1, .bool o1] 120]) En60 Hv41 (fun hM70 => ext_go _ bk25 ra rc rl s1 o1 (hsu _ _ (bys_in Hv41.heap (k := 2) rfl [0] (by kernel_rfl) rfl (by first | omega | (simp; done) | (simp; omega)))) hM70) ?_
    rintro _ wo71 ⟨ta61, tc62, gv65, oa66, oc67, bl68, rfl, he72, hs63, hpu64, hf69⟩
    refine ⟨_, _, [.box bk25 [.slice ta61 (List.length ((extM rl s1 o1).2.1)) tc62, .bool ((extM rl s1 o1).2.2.1), .bool ((extM rl s1 o1).2.2.2)] 120, .vec oa66 oc67 1 (bys bl68) 5, .box br [.slice ta7 (List.length (lsR n x 16777215 l s)) tc8, .bool (lsS n x 16777215 l s), .bool o] 120, .vec ao5 cp6 1 (bys (lsO n x 16777215 l s)) 5, .vec oa oc 2 (List.flatMap fExt xs) 147, .grp (List.flatMap innExt xs)], rfl, he72, by kernel_rfl, fun ac74 En75 Hv76 => ?_⟩
    refine f_o ?_
    refine op_lit (d := some 40) (t := 36) (T := 147) (m := 1) (parts := #[(0, .agg #[uv16 gv65, .slice oa66 (List.length bl68) oc67])]) (xs := List.flatMap fExt ([(gv65, ⟨oa66, oc67, bl68⟩, ())] : List (RExt))) (sz := 2) En75 (by kernel_rfl) (by kernel_rfl) rfl (by decide) Hv76 ?_
    intro ac78 wo79 bk77 En80 Hv81
    refine f_o ?_
    refine op_append (d := some 41) (t := 36) (tx := 36) (ty := 36) (k := 4) (p := List.length xs) (m := 1) (x := .slice (some ⟨bk77, 0, none⟩) 1 1) (bytes := 32) En80 (by kernel_rfl) Hv81 rfl (sv_len (f := fExt) (sz := 2) (fun _ => rfl) _) (Reads.src (size := 2) (tx := 36) (e' := 147) (by kernel_rfl) (Hv81.heap.reads (k := 6) rfl) rfl (fun e => by cases e) (flat_one (f := fExt) (fun _ => one_all rfl) _)) (by kernel_rfl) (z := .agg #[.int .u16 0, .slice none 0 0]) (by kernel_rfl) rfl (by decide) (by have hb1 := mn_b1 s1; omega) (by unfold maxLen; have hb1 := mn_b1 s1; omega) ?_
    intro ac86 wo87 ao82 cp83 En88 Hv89 hnz _
    clear hnz
    rw [← List.flatMap_append] at Hv89
    have ehz84 : (List.length xs) + 1 = List.length (xs ++ ([(gv65, ⟨oa66, oc67, bl68⟩, ())] : List (RExt))) := (by first | (simp; done) | (simp; omega) | omega)
    rw [ehz84] at En88
    refine d_e [0,3,8,10,11] [] En88 fun ac90 En91 => ?_
    have Hv92 : Ev w [.box br [.slice a (List.length l) c, .bool s, .bool o] 120] wo87 [.box bk25 [.slice ta61 (List.length ((extM rl s1 o1).2.1)) tc62, .bool ((extM rl s1 o1).2.2.1), .bool ((extM rl s1 o1).2.2.2)] 120, .box br [.slice ta7 (List.length (lsR n x 16777215 l s)) tc8, .bool (lsS n x 16777215 l s), .bool o] 120, .vec ao5 cp6 1 (bys (lsO n x 16777215 l s)) 5, .vec ao82 cp83 2 (List.flatMap fExt (xs ++ ([(gv65, ⟨oa66, oc67, bl68⟩, ())] : List (RExt)))) 147, .vec (some ⟨bk77, 0, none⟩) 1 2 (List.flatMap fExt ([(gv65, ⟨oa66, oc67, bl68⟩, ())] : List (RExt))) 147, .grp (List.flatMap innExt (xs ++ ([(gv65, ⟨oa66, oc67, bl68⟩, ())] : List (RExt))))] := Ev.group (M := [.box bk25 [.slice ta61 (List.length ((extM rl s1 o1).2.1)) tc62, .bool ((extM rl s1 o1).2.2.1), .bool ((extM rl s1 o1).2.2.2)] 120, .box br [.slice ta7 (List.length (lsR n x 16777215 l s)) tc8, .bool (lsS n x 16777215 l s), .bool o] 120, .vec ao5 cp6 1 (bys (lsO n x 16777215 l s)) 5, .vec ao82 cp83 2 (List.flatMap fExt (xs ++ ([(gv65, ⟨oa66, oc67, bl68⟩, ())] : List (RExt)))) 147, .vec (some ⟨bk77, 0, none⟩) 1 2 (List.flatMap fExt ([(gv65, ⟨oa66, oc67, bl68⟩, ())] : List (RExt))) 147]) Hv89 [0,2,3,4,6] [5,1] (by kernel_rfl) (by rw [List.flatMap_append]; rfl) (by decide)
    refine block_normal ?_
    refine then_normal ?_
    have hl0 : 0 < List.length rl := by omega
    refine ⟨_, ⟨ao82, cp83, (xs ++ ([(gv65, ⟨oa66, oc67, bl68⟩, ())] : List (RExt))), ta61, tc62, ((extM rl s1 o1).2.1), ((extM rl s1 o1).2.2.1), ((extM rl s1 o1).2.2.2), rfl, En91.sb, Hv92.pk [0, 1, 2, 3, 5], (hsu.trans hs63), (by rw [hmn, mn_step ext_dec (Bool.eq_false_iff.2 hp51) hl0, ← hpu64, List.map_append, List.append_assoc]; rfl), (mn_ct (Bool.eq_false_iff.2 hp51) hct (dec_lt (o := o1) ext_dec (Bool.eq_false_iff.2 hp51) hl0) (dec_le (o := o1) ext_dec (Bool.eq_false_iff.2 hp51)) hl0), (all_snoc hsm (Nat.le_trans hf69 (by decide)))⟩, ?_⟩
    exact mn_mu (Bool.eq_false_iff.2 hp51) hl0 (dec_lt (o := o1) ext_dec (Bool.eq_false_iff.2 hp51) hl0)
   ·
    refine wp_exit ?_
    refine then_exit ?_
    refine then_exit ?_
    refine block_exit ?_
    exact ⟨rfl, ⟨oa, oc, xs, ra, rc, rl, s1, o1, En57.sb, Hv41.pk [1, 0, 3, 4], (by rw [hmn, mn_end (p := (rl, s1, o1)) (by first | exact .inl (by assumption) | exact .inr (show rl = [] from List.length_eq_zero_iff.1 (by omega))), List.append_nil]), (mn_c1 hct), hsm⟩⟩
  ·
   have En93 := En48.fx (t := 28) (congrArg Value.bool hb49)
   have hp94 : s1 = true := by simpa using hb49
   refine d_e [0,3,8,10,11,35] [] En93 fun ac95 En96 => ?_
   refine then_normal ?_
   refine c_f En96 ?_
   refine wp_exit ?_
   refine then_exit ?_
   refine then_exit ?_
   refine block_exit ?_
   exact ⟨rfl, ⟨oa, oc, xs, ra, rc, rl, s1, o1, En96.sb, Hv41.pk [1, 0, 3, 4], (by rw [hmn, mn_end (p := (rl, s1, o1)) (by first | exact .inl (by assumption) | exact .inr (show rl = [] from List.length_eq_zero_iff.1 (by omega))), List.append_nil]), (mn_c1 hct), hsm⟩⟩
 ·
  rintro ac97 wo98 ⟨oa, oc, xs, ra, rc, rl, s1, o1, En99, Hv100, hmn, hct, hsm⟩
  refine then_normal ?_
  refine wp_seq ?_
  rcases Bool.eq_false_or_eq_true (lsS n x 16777215 l s) with hb101 | hb101
  ·
   have hb101p : lsS n x 16777215 l s = true := hb101
   rcases Bool.eq_false_or_eq_true (o) with hb102 | hb102
   ·
    have hb102p : o = true := hb102
    refine r_c (fun ac wo => Env ac 69 [(0, pt br), (3, .func (.func 210) #[] #[]), (8, .slice none 0 0), (10, pt bk25), (11, .slice oa (List.length xs) oc)] ∧ Ev w [.box br [.slice a (List.length l) c, .bool s, .bool o] 120] wo [.box br [.slice ta7 (List.length (lsR n x 16777215 l s)) tc8, .bool true, .bool true] 120, .box bk25 [.slice ra (List.length rl) rc, .bool s1, .bool o1] 120, .vec oa oc 2 (List.flatMap fExt xs) 147, .grp (List.flatMap innExt xs)]) ?_ ?_
    ·
     refine h_s (fun wv => Ev w [.box br [.slice a (List.length l) c, .bool s, .bool o] 120] wv [.box br [.slice ta7 (List.length (lsR n x 16777215 l s)) tc8, .bool (lsS n x 16777215 l s), .bool o] 120]) [24] 28 ?_
     have wo103 := Hv100.trans (Ev.drew Hv100.heap)
     refine q_s [0,1,2,3,4] [] 23 En99 (wo103.pk [0]) fun ac184 En185 => ?_
     refine q_l 0 5 En185 (wo103.pk [0]) fun ac186 En187 => ?_
     refine q_s [6] [] 21 En187 (wo103.pk [0]) fun ac188 En189 => ?_
     have En190 := En189.fx (t := 47) (congrArg Value.bool hb101)
     have En191 := En190.fx (t := 48) (congrArg Value.bool hb101)
     refine q_s [7,8,9,10,11,12,13,14] [] 13 En191 (wo103.pk [0]) fun ac192 En193 => ?_
     refine q_l 0 15 En193 (wo103.pk [0]) fun ac194 En195 => ?_
     refine q_s [16] [] 11 En195 (wo103.pk [0]) fun ac196 En197 => ?_
     have En198 := En197.fx (t := 57) (congrArg Value.bool hb102)
     have En199 := En198.fx (t := 58) (congrArg Value.bool hb102)
     refine q_s [17,18,19,20,21,22,23] [] 4 En199 (wo103.pk [0]) fun ac200 En201 => ?_
     refine q_t 24 ?_
     refine m_s 0 [.box br [.slice ta7 (List.length (lsR n x 16777215 l s)) tc8, .bool true, .bool o] 120, .box bk25 [.slice ra (List.length rl) rc, .bool s1, .bool o1] 120, .vec oa oc 2 (List.flatMap fExt xs) 147, .grp (List.flatMap innExt xs)] En201 wo103 fun ac202 wo203 En204 Hv205 => ?_
     refine ⟨q_y, ?_⟩
     refine q_n [25,26] [] 1 En204 fun ac206 En207 => ?_
     refine q_t 27 ?_
     refine m_s 0 [.box br [.slice ta7 (List.length (lsR n x 16777215 l s)) tc8, .bool true, .bool true] 120, .box bk25 [.slice ra (List.length rl) rc, .bool s1, .bool o1] 120, .vec oa oc 2 (List.flatMap fExt xs) 147, .grp (List.flatMap innExt xs)] En207 Hv205 fun ac208 wo209 En210 Hv211 => ?_
     refine ⟨q_y, ?_⟩
     exact h_e ⟨En210.sb, Hv211.pk [0, 1, 2, 3]⟩
    rintro ac212 wo213 ⟨En214, Hv215⟩
    refine then_normal ?_
    refine d_s [0,3,8,10,11] [] En214 fun ac216 En217 => ?_
    refine wp_ret ?_
    refine d_ret1 (t := 8) (v := .slice oa (List.length xs) oc) En217 (by kernel_rfl) (by kernel_rfl) ?_
    have e1 : (lsS n x 16777215 l s || s1) = true := by rw [hb101]; rfl
    have e2 : (o || o1) = true := by rw [hb102]; rfl
    have hfin : Ev w [.box br [.slice a (List.length l) c, .bool s, .bool o] 120] wo213 [.box br [.slice ta7 (List.length (lsR n x 16777215 l s)) tc8, .bool (lsS n x 16777215 l s || s1), .bool (o || o1)] 120, .vec oa oc 2 (List.flatMap fExt xs) 147, .grp (List.flatMap innExt xs)] := by rw [e1, e2]; exact Hv215.pk [0, 2, 3]
    exact ⟨ta7, tc8, oa, oc, xs, rfl, by rw [hmn]; exact hfin, hs9, by rw [hmn], hct, hsm⟩
   ·
    have hb102p : ¬ (o = true) := Bool.eq_false_iff.1 hb102
    refine r_c (fun ac wo => Env ac 69 [(0, pt br), (3, .func (.func 210) #[] #[]), (8, .slice none 0 0), (10, pt bk25), (11, .slice oa (List.length xs) oc)] ∧ Ev w [.box br [.slice a (List.length l) c, .bool s, .bool o] 120] wo [.box br [.slice ta7 (List.length (lsR n x 16777215 l s)) tc8, .bool true, .bool o1] 120, .box bk25 [.slice ra (List.length rl) rc, .bool s1, .bool o1] 120, .vec oa oc 2 (List.flatMap fExt xs) 147, .grp (List.flatMap innExt xs)]) ?_ ?_
    ·
     refine h_s (fun wv => Ev w [.box br [.slice a (List.length l) c, .bool s, .bool o] 120] wv [.box br [.slice ta7 (List.length (lsR n x 16777215 l s)) tc8, .bool (lsS n x 16777215 l s), .bool o] 120, .box bk25 [.slice ra (List.length rl) rc, .bool s1, .bool o1] 120]) [24] 28 ?_
     have wo218 := Hv100.trans (Ev.drew Hv100.heap)
     refine q_s [0,1,2,3,4] [] 23 En99 (wo218.pk [0, 1]) fun ac311 En312 => ?_
     refine q_l 0 5 En312 (wo218.pk [0, 1]) fun ac313 En314 => ?_
     refine q_s [6] [] 21 En314 (wo218.pk [0, 1]) fun ac315 En316 => ?_
     have En317 := En316.fx (t := 47) (congrArg Value.bool hb101)
     have En318 := En317.fx (t := 48) (congrArg Value.bool hb101)
     refine q_s [7,8,9,10,11,12,13,14] [] 13 En318 (wo218.pk [0, 1]) fun ac319 En320 => ?_
     refine q_l 0 15 En320 (wo218.pk [0, 1]) fun ac321 En322 => ?_
     refine q_s [16] [] 11 En322 (wo218.pk [0, 1]) fun ac323 En324 => ?_
     have En325 := En324.fx (t := 57) (congrArg Value.bool hb102)
     have En326 := En325.fx (t := 58) (congrArg Value.bool hb102)
     refine q_s [17,18,19] [] 8 En326 (wo218.pk [0, 1]) fun ac327 En328 => ?_
     refine q_l 1 20 En328 (wo218.pk [0, 1]) fun ac329 En330 => ?_
     refine q_s [21,22,23] [] 4 En330 (wo218.pk [0, 1]) fun ac331 En332 => ?_
     refine q_t 24 ?_
     refine m_s 0 [.box br [.slice ta7 (List.length (lsR n x 16777215 l s)) tc8, .bool true, .bool o] 120, .box bk25 [.slice ra (List.length rl) rc, .bool s1, .bool o1] 120, .vec oa oc 2 (List.flatMap fExt xs) 147, .grp (List.flatMap innExt xs)] En332 wo218 fun ac333 wo334 En335 Hv336 => ?_
     refine ⟨q_y, ?_⟩
     refine q_n [25,26] [] 1 En335 fun ac337 En338 => ?_
     refine q_t 27 ?_
     refine m_s 0 [.box br [.slice ta7 (List.length (lsR n x 16777215 l s)) tc8, .bool true, .bool o1] 120, .box bk25 [.slice ra (List.length rl) rc, .bool s1, .bool o1] 120, .vec oa oc 2 (List.flatMap fExt xs) 147, .grp (List.flatMap innExt xs)] En338 Hv336 fun ac339 wo340 En341 Hv342 => ?_
     refine ⟨q_y, ?_⟩
     exact h_e ⟨En341.sb, Hv342.pk [0, 1, 2, 3]⟩
    rintro ac343 wo344 ⟨En345, Hv346⟩
    refine then_normal ?_
    refine d_s [0,3,8,10,11] [] En345 fun ac347 En348 => ?_
    refine wp_ret ?_
    refine d_ret1 (t := 8) (v := .slice oa (List.length xs) oc) En348 (by kernel_rfl) (by kernel_rfl) ?_
    have e1 : (lsS n x 16777215 l s || s1) = true := by rw [hb101]; rfl
    have e2 : (o || o1) = o1 := by rw [hb102]; rfl
    have hfin : Ev w [.box br [.slice a (List.length l) c, .bool s, .bool o] 120] wo344 [.box br [.slice ta7 (List.length (lsR n x 16777215 l s)) tc8, .bool (lsS n x 16777215 l s || s1), .bool (o || o1)] 120, .vec oa oc 2 (List.flatMap fExt xs) 147, .grp (List.flatMap innExt xs)] := by rw [e1, e2]; exact Hv346.pk [0, 2, 3]
    exact ⟨ta7, tc8, oa, oc, xs, rfl, by rw [hmn]; exact hfin, hs9, by rw [hmn], hct, hsm⟩
  ·
   have hb101p : ¬ (lsS n x 16777215 l s = true) := Bool.eq_false_iff.1 hb101
   rcases Bool.eq_false_or_eq_true (o) with hb349 | hb349
   ·
    have hb349p : o = true := hb349
    refine r_c (fun ac wo => Env ac 69 [(0, pt br), (3, .func (.func 210) #[] #[]), (8, .slice none 0 0), (10, pt bk25), (11, .slice oa (List.length xs) oc)] ∧ Ev w [.box br [.slice a (List.length l) c, .bool s, .bool o] 120] wo [.box br [.slice ta7 (List.length (lsR n x 16777215 l s)) tc8, .bool s1, .bool true] 120, .box bk25 [.slice ra (List.length rl) rc, .bool s1, .bool o1] 120, .vec oa oc 2 (List.flatMap fExt xs) 147, .grp (List.flatMap innExt xs)]) ?_ ?_
    ·
     refine h_s (fun wv => Ev w [.box br [.slice a (List.length l) c, .bool s, .bool o] 120] wv [.box br [.slice ta7 (List.length (lsR n x 16777215 l s)) tc8, .bool (lsS n x 16777215 l s), .bool o] 120, .box bk25 [.slice ra (List.length rl) rc, .bool s1, .bool o1] 120]) [24] 28 ?_
     have wo350 := Hv100.trans (Ev.drew Hv100.heap)
     refine q_s [0,1,2,3,4] [] 23 En99 (wo350.pk [0, 1]) fun ac465 En466 => ?_
     refine q_l 0 5 En466 (wo350.pk [0, 1]) fun ac467 En468 => ?_
     refine q_s [6] [] 21 En468 (wo350.pk [0, 1]) fun ac469 En470 => ?_
     have En471 := En470.fx (t := 47) (congrArg Value.bool hb101)
     have En472 := En471.fx (t := 48) (congrArg Value.bool hb101)
     refine q_s [7,8,9] [] 18 En472 (wo350.pk [0, 1]) fun ac473 En474 => ?_
     refine q_l 1 10 En474 (wo350.pk [0, 1]) fun ac475 En476 => ?_
     refine q_s [11,12,13,14] [] 13 En476 (wo350.pk [0, 1]) fun ac477 En478 => ?_
     refine q_l 0 15 En478 (wo350.pk [0, 1]) fun ac479 En480 => ?_
     refine q_s [16] [] 11 En480 (wo350.pk [0, 1]) fun ac481 En482 => ?_
     have En483 := En482.fx (t := 57) (congrArg Value.bool hb349)
     have En484 := En483.fx (t := 58) (congrArg Value.bool hb349)
     refine q_s [17,18,19,20,21,22,23] [] 4 En484 (wo350.pk [0, 1]) fun ac485 En486 => ?_
     refine q_t 24 ?_
     refine m_s 0 [.box br [.slice ta7 (List.length (lsR n x 16777215 l s)) tc8, .bool s1, .bool o] 120, .box bk25 [.slice ra (List.length rl) rc, .bool s1, .bool o1] 120, .vec oa oc 2 (List.flatMap fExt xs) 147, .grp (List.flatMap innExt xs)] En486 wo350 fun ac487 wo488 En489 Hv490 => ?_
     refine ⟨q_y, ?_⟩
     refine q_n [25,26] [] 1 En489 fun ac491 En492 => ?_
     refine q_t 27 ?_
     refine m_s 0 [.box br [.slice ta7 (List.length (lsR n x 16777215 l s)) tc8, .bool s1, .bool true] 120, .box bk25 [.slice ra (List.length rl) rc, .bool s1, .bool o1] 120, .vec oa oc 2 (List.flatMap fExt xs) 147, .grp (List.flatMap innExt xs)] En492 Hv490 fun ac493 wo494 En495 Hv496 => ?_
     refine ⟨q_y, ?_⟩
     exact h_e ⟨En495.sb, Hv496.pk [0, 1, 2, 3]⟩
    rintro ac497 wo498 ⟨En499, Hv500⟩
    refine then_normal ?_
    refine d_s [0,3,8,10,11] [] En499 fun ac501 En502 => ?_
    refine wp_ret ?_
    refine d_ret1 (t := 8) (v := .slice oa (List.length xs) oc) En502 (by kernel_rfl) (by kernel_rfl) ?_
    have e1 : (lsS n x 16777215 l s || s1) = s1 := by rw [hb101]; rfl
    have e2 : (o || o1) = true := by rw [hb349]; rfl
    have hfin : Ev w [.box br [.slice a (List.length l) c, .bool s, .bool o] 120] wo498 [.box br [.slice ta7 (List.length (lsR n x 16777215 l s)) tc8, .bool (lsS n x 16777215 l s || s1), .bool (o || o1)] 120, .vec oa oc 2 (List.flatMap fExt xs) 147, .grp (List.flatMap innExt xs)] := by rw [e1, e2]; exact Hv500.pk [0, 2, 3]
    exact ⟨ta7, tc8, oa, oc, xs, rfl, by rw [hmn]; exact hfin, hs9, by rw [hmn], hct, hsm⟩
   ·
    have hb349p : ¬ (o = true) := Bool.eq_false_iff.1 hb349
    refine r_c (fun ac wo => Env ac 69 [(0, pt br), (3, .func (.func 210) #[] #[]), (8, .slice none 0 0), (10, pt bk25), (11, .slice oa (List.length xs) oc)] ∧ Ev w [.box br [.slice a (List.length l) c, .bool s, .bool o] 120] wo [.box br [.slice ta7 (List.length (lsR n x 16777215 l s)) tc8, .bool s1, .bool o1] 120, .box bk25 [.slice ra (List.length rl) rc, .bool s1, .bool o1] 120, .vec oa oc 2 (List.flatMap fExt xs) 147, .grp (List.flatMap innExt xs)]) ?_ ?_
    ·
     refine h_s (fun wv => Ev w [.box br [.slice a (List.length l) c, .bool s, .bool o] 120] wv [.box br [.slice ta7 (List.length (lsR n x 16777215 l s)) tc8, .bool (lsS n x 16777215 l s), .bool o] 120, .box bk25 [.slice ra (List.length rl) rc, .bool s1, .bool o1] 120]) [24] 28 ?_
     have wo503 := Hv100.trans (Ev.drew Hv100.heap)
     refine q_s [0,1,2,3,4] [] 23 En99 (wo503.pk [0, 1]) fun ac638 En639 => ?_
     refine q_l 0 5 En639 (wo503.pk [0, 1]) fun ac640 En641 => ?_
     refine q_s [6] [] 21 En641 (wo503.pk [0, 1]) fun ac642 En643 => ?_
     have En644 := En643.fx (t := 47) (congrArg Value.bool hb101)
     have En645 := En644.fx (t := 48) (congrArg Value.bool hb101)
     refine q_s [7,8,9] [] 18 En645 (wo503.pk [0, 1]) fun ac646 En647 => ?_
     refine q_l 1 10 En647 (wo503.pk [0, 1]) fun ac648 En649 => ?_
     refine q_s [11,12,13,14] [] 13 En649 (wo503.pk [0, 1]) fun ac650 En651 => ?_
     refine q_l 0 15 En651 (wo503.pk [0, 1]) fun ac652 En653 => ?_
     refine q_s [16] [] 11 En653 (wo503.pk [0, 1]) fun ac654 En655 => ?_
     have En656 := En655.fx (t := 57) (congrArg Value.bool hb349)
     have En657 := En656.fx (t := 58) (congrArg Value.bool hb349)
     refine q_s [17,18,19] [] 8 En657 (wo503.pk [0, 1]) fun ac658 En659 => ?_
     refine q_l 1 20 En659 (wo503.pk [0, 1]) fun ac660 En661 => ?_
     refine q_s [21,22,23] [] 4 En661 (wo503.pk [0, 1]) fun ac662 En663 => ?_
     refine q_t 24 ?_
     refine m_s 0 [.box br [.slice ta7 (List.length (lsR n x 16777215 l s)) tc8, .bool s1, .bool o] 120, .box bk25 [.slice ra (List.length rl) rc, .bool s1, .bool o1] 120, .vec oa oc 2 (List.flatMap fExt xs) 147, .grp (List.flatMap innExt xs)] En663 wo503 fun ac664 wo665 En666 Hv667 => ?_
     refine ⟨q_y, ?_⟩
     refine q_n [25,26] [] 1 En666 fun ac668 En669 => ?_
     refine q_t 27 ?_
     refine m_s 0 [.box br [.slice ta7 (List.length (lsR n x 16777215 l s)) tc8, .bool s1, .bool o1] 120, .box bk25 [.slice ra (List.length rl) rc, .bool s1, .bool o1] 120, .vec oa oc 2 (List.flatMap fExt xs) 147, .grp (List.flatMap innExt xs)] En669 Hv667 fun ac670 wo671 En672 Hv673 => ?_
     refine ⟨q_y, ?_⟩
     exact h_e ⟨En672.sb, Hv673.pk [0, 1, 2, 3]⟩
    rintro ac674 wo675 ⟨En676, Hv677⟩
    refine then_normal ?_
    refine d_s [0,3,8,10,11] [] En676 fun ac678 En679 => ?_
    refine wp_ret ?_
    refine d_ret1 (t := 8) (v := .slice oa (List.length xs) oc) En679 (by kernel_rfl) (by kernel_rfl) ?_
    have e1 : (lsS n x 16777215 l s || s1) = s1 := by rw [hb101]; rfl
    have e2 : (o || o1) = o1 := by rw [hb349]; rfl
    have hfin : Ev w [.box br [.slice a (List.length l) c, .bool s, .bool o] 120] wo675 [.box br [.slice ta7 (List.length (lsR n x 16777215 l s)) tc8, .bool (lsS n x 16777215 l s || s1), .bool (o || o1)] 120, .vec oa oc 2 (List.flatMap fExt xs) 147, .grp (List.flatMap innExt xs)] := by rw [e1, e2]; exact Hv677.pk [0, 2, 3]
    exact ⟨ta7, tc8, oa, oc, xs, rfl, by rw [hmn]; exact hfin, hs9, by rw [hmn], hct, hsm⟩

theorem sameext_go (w : World) (ap : Option Addr) (cp : Nat) (xp : List RExt) (ip : InS fExt 32 (fun x : RExt => (True ∧ (InB w [] x.2.1.a x.2.1.c x.2.1.l ∧ (True)))) w [] ap cp xp) (aq : Option Addr) (cq : Nat) (xq : List RExt) (iq : InS fExt 32 (fun x : RExt => (True ∧ (InB w [] x.2.1.a x.2.1.c x.2.1.l ∧ (True)))) w [] aq cq xq) : Calls Try.prog 78 #[.slice ap (List.length xp) cp, .slice aq (List.length xq) cq] w fun e w' => e = .returned (.bool (List.map (fun y : RExt => (y.1, y.2.1.l)) xp == List.map (fun y : RExt => (y.1, y.2.1.l)) xq)) ∧ Ev w [] w' [] := by
 have hsp := ip.small
 refine d_0 [(0, .slice ap (List.length xp) cp), (1, .slice aq (List.length xq) cq)] 43 Go.Proofs.Try.func78 Go.Proofs.Try.ntmps78 (Heap.nil _) fun act0 En0 Hv0 => ?_
 refine d_s [0,1,4] [] En0 fun ac1 En2 => ?_
 refine wp_seq ?_
 refine d_s [0,1,4,10] [] En2 fun ac3 En4 => ?_
 refine c_n ((List.length xp : Nat) : Int) ((List.length xq : Nat) : Int) En4 (fun hc5 => ?_) (fun hc5 => ?_)
 ·
  refine d_s [0,1,4] [] En4 fun ac6 En7 => ?_
  refine wp_ret ?_
  refine then_ret ?_
  refine d_ret1 (t := 4) (v := .bool false) En7 (by kernel_rfl) (by kernel_rfl) ?_
  exact ⟨congrArg (fun b => Ending.returned (Value.bool b)) (same_len (by omega)), Hv0.pk []⟩
 ·
  refine wp_skip ?_
  refine then_normal ?_
  refine wp_seq ?_
  refine d_s [0,1,4,5] [] En4 fun ac8 En9 => ?_
  refine wp_block ?_
  refine loop_m (fun ms10 ac wo => ∃ (i : Nat), ms10 = (List.length xp + 1 - i : Nat) ∧ Env ac 43 [(0, .slice ap (List.length xp) cp), (1, .slice aq (List.length xq) cq), (5, ni i)] ∧ Ev w [] wo [] ∧ (List.take i (List.map (fun y : RExt => (y.1, y.2.1.l)) xp) = List.take i (List.map (fun y : RExt => (y.1, y.2.1.l)) xq))) ⟨_, 0, rfl, En9.sb, Hv0.pk [], rfl⟩ ?_
  rintro mm16 ac12 wo13 ⟨i, rfl, En14, Hv15, hp⟩
  refine wp_seq ?_
  refine d_s [0,1,5,14] [] En14 fun ac17 En18 => ?_
  refine c_d (((i : Nat) : Int) < ((List.length xp : Nat) : Int)) En18 (fun hc19 => ?_) (fun hc19 => ?_)
  ·
   refine wp_skip ?_
   refine then_normal ?_
   refine wp_seq ?_
   refine wp_block ?_
   refine wp_seq ?_
   have hb20 : i < List.length xp := by omega
   obtain ⟨⟨x22a, ⟨a_x22b, c_x22b, x22b⟩, _⟩, hx21⟩ : ∃ x, (xp)[i]? = some x := ⟨_, List.getElem?_eq_getElem hb20⟩
   obtain ⟨_, i_x22b, _⟩ := ip.each _ (List.mem_of_getElem? hx21)
   replace i_x22b : InB w [] a_x22b c_x22b x22b := i_x22b
   obtain ⟨adp, hadp⟩ := some_of ip.nz (show i < List.length xp by omega)
   have hb23 : i < List.length xq := by omega
   obtain ⟨⟨x25a, ⟨a_x25b, c_x25b, x25b⟩, _⟩, hx24⟩ : ∃ x, (xq)[i]? = some x := ⟨_, List.getElem?_eq_getElem hb23⟩
   obtain ⟨_, i_x25b, _⟩ := iq.each _ (List.mem_of_getElem? hx24)
   replace i_x25b : InB w [] a_x25b c_x25b x25b := i_x25b
   obtain ⟨adq, hadq⟩ := some_of iq.nz (show i < List.length xq by omega)
   rcases Bool.eq_false_or_eq_true (((UInt16.toNat x22a : Nat) : Int) != ((UInt16.toNat x25a : Nat) : Int)) with hb26 | hb26
   ·
    have hb26p : ¬ (((UInt16.toNat x22a : Nat) : Int) = ((UInt16.toNat x25a : Nat) : Int)) := by simpa using hb26
    refine r_c (fun ac wo => Env ac 43 [(0, .slice ap (List.length xp) cp), (1, .slice aq (List.length xq) cq), (5, ni i), (42, .bool true)] ∧ Ev w [] wo []) ?_ ?_
    ·
     refine s_g0 [(0, .slice ap (List.length xp) cp), (1, .slice aq (List.length xq) cq), (5, ni i)] [0,1,2,3,4,5,6,7,8,9,10,11] [(17, .slice ap (List.length xp) cp), (18, ni i), (19, .pointer (some (Addr.add adp (i * 2)))), (20, .pointer (some (Addr.add adp (i * 2)))), (21, uv16 x22a), (22, .slice aq (List.length xq) cq), (23, ni i), (24, .pointer (some (Addr.add adq (i * 2)))), (25, .pointer (some (Addr.add adq (i * 2)))), (26, uv16 x25a), (27, .bool (((UInt16.toNat x22a : Nat) : Int) != ((UInt16.toNat x25a : Nat) : Int))), (28, .bool (((UInt16.toNat x22a : Nat) : Int) != ((UInt16.toNat x25a : Nat) : Int)))] 14 [(0, .slice ap (List.length xp) cp), (1, .slice aq (List.length xq) cq), (5, ni i), (28, .bool (((UInt16.toNat x22a : Nat) : Int) != ((UInt16.toNat x25a : Nat) : Int)))] (En18.sb) (Hv15.trans (Ev.drew Hv15.heap)) ?_ fun ac61 wo62 En63 Hv64 => ?_
     ·
      refine s_p [] ?_
      refine s_p [] ?_
      have hb29 : i < List.length xp := (by omega)
      refine s_c (fun Mx30 ac31 wo32 En33 Hv34 => ?_) ?_
      ·
       refine q_v (x := Instr.indexAt 36 (.slice ap (List.length xp) cp) (ni i)) (v := .pointer (some (Addr.add adp (i * 2)))) En33 (Go.Dbr.run_indexsl (e := 147) (sz := 2) (j := i) (jo := i * 2) hadp (by kernel_rfl) (by kernel_rfl) (by omega) hb29 rfl _) fun ac35 En36 => ?_
       exact s_e En36 Hv34
      refine s_p [] ?_
      refine s_c (fun Mx37 ac38 wo39 En40 Hv41 => ?_) ?_
      ·
       refine op_loadf (d := some 21) (t := 37) (ad := adp) (ao := ap) (ys := List.flatMap fExt xp) (o := i * 2) (v := uv16 x22a) En40 (by kernel_rfl) rfl (ip.ro.ev Hv41).reads hadp ((flat_get (sz := 2) (j := 0) (fun _ _ => rfl) hx21 (by decide)).trans rfl) (by kernel_rfl) ?_
       intro ac42 En43
       exact s_e En43 Hv41
      refine s_p [] ?_
      refine s_p [] ?_
      have hb46 : i < List.length xq := (by omega)
      refine s_c (fun Mx47 ac48 wo49 En50 Hv51 => ?_) ?_
      ·
       refine q_v (x := Instr.indexAt 36 (.slice aq (List.length xq) cq) (ni i)) (v := .pointer (some (Addr.add adq (i * 2)))) En50 (Go.Dbr.run_indexsl (e := 147) (sz := 2) (j := i) (jo := i * 2) hadq (by kernel_rfl) (by kernel_rfl) (by omega) hb46 rfl _) fun ac52 En53 => ?_
       exact s_e En53 Hv51
      refine s_p [] ?_
      refine s_c (fun Mx54 ac55 wo56 En57 Hv58 => ?_) ?_
      ·
       refine op_loadf (d := some 26) (t := 37) (ad := adq) (ao := aq) (ys := List.flatMap fExt xq) (o := i * 2) (v := uv16 x25a) En57 (by kernel_rfl) rfl (iq.ro.ev Hv58).reads hadq ((flat_get (sz := 2) (j := 0) (fun _ _ => rfl) hx24 (by decide)).trans rfl) (by kernel_rfl) ?_
       intro ac59 En60
       exact s_e En60 Hv58
      refine s_p [] ?_
      refine s_p [] ?_
      exact s_n
     have En68 := En63.fx (t := 28) (congrArg Value.bool hb26)
     refine q_a [12,13,14,15,16,17,18,19,20,21,22,23,24,25] [] 0 En68 fun ac69 En70 => ?_
     exact a_e ⟨En70.sb, Hv64.pk []⟩
    rintro ac71 wo72 ⟨En73, Hv74⟩
    refine then_normal ?_
    refine c_t En73 ?_
    refine d_s [0,1,4,5] [] En73 fun ac75 En76 => ?_
    refine wp_ret ?_
    refine block_ret ?_
    refine then_ret ?_
    refine then_ret ?_
    refine block_ret ?_
    refine then_ret ?_
    refine d_ret1 (t := 4) (v := .bool false) En76 (by kernel_rfl) (by kernel_rfl) ?_
    exact ⟨congrArg (fun b => Ending.returned (Value.bool b)) (same_no hx21 hx24 (fun g => by first | exact absurd (congrArg (fun z : UInt16 × Bs => ((UInt16.toNat z.1 : Nat) : Int)) g) (by assumption) | exact absurd (congrArg Prod.snd g) (by assumption))), Hv74.pk []⟩
   ·
    have hb26p : ((UInt16.toNat x22a : Nat) : Int) = ((UInt16.toNat x25a : Nat) : Int) := by simpa using hb26
    refine r_c (fun ac wo => Env ac 43 [(0, .slice ap (List.length xp) cp), (1, .slice aq (List.length xq) cq), (5, ni i), (42, .bool (!(x22b == x25b)))] ∧ Ev w [] wo []) ?_ ?_
    ·
     refine s_g0 [(0, .slice ap (List.length xp) cp), (1, .slice aq (List.length xq) cq), (5, ni i)] [0,1,2,3,4,5,6,7,8,9,10,11] [(17, .slice ap (List.length xp) cp), (18, ni i), (19, .pointer (some (Addr.add adp (i * 2)))), (20, .pointer (some (Addr.add adp (i * 2)))), (21, uv16 x22a), (22, .slice aq (List.length xq) cq), (23, ni i), (24, .pointer (some (Addr.add adq (i * 2)))), (25, .pointer (some (Addr.add adq (i * 2)))), (26, uv16 x25a), (27, .bool (((UInt16.toNat x22a : Nat) : Int) != ((UInt16.toNat x25a : Nat) : Int))), (28, .bool (((UInt16.toNat x22a : Nat) : Int) != ((UInt16.toNat x25a : Nat) : Int)))] 14 [(0, .slice ap (List.length xp) cp), (1, .slice aq (List.length xq) cq), (5, ni i), (28, .bool (((UInt16.toNat x22a : Nat) : Int) != ((UInt16.toNat x25a : Nat) : Int)))] (En18.sb) (Hv15.trans (Ev.drew Hv15.heap)) ?_ fun ac111 wo112 En113 Hv114 => ?_
     ·
      refine s_p [] ?_
      refine s_p [] ?_
      have hb79 : i < List.length xp := (by omega)
      refine s_c (fun Mx80 ac81 wo82 En83 Hv84 => ?_) ?_
      ·
       refine q_v (x := Instr.indexAt 36 (.slice ap (List.length xp) cp) (ni i)) (v := .pointer (some (Addr.add adp (i * 2)))) En83 (Go.Dbr.run_indexsl (e := 147) (sz := 2) (j := i) (jo := i * 2) hadp (by kernel_rfl) (by kernel_rfl) (by omega) hb79 rfl _) fun ac85 En86 => ?_
       exact s_e En86 Hv84
      refine s_p [] ?_
      refine s_c (fun Mx87 ac88 wo89 En90 Hv91 => ?_) ?_
      ·
       refine op_loadf (d := some 21) (t := 37) (ad := adp) (ao := ap) (ys := List.flatMap fExt xp) (o := i * 2) (v := uv16 x22a) En90 (by kernel_rfl) rfl (ip.ro.ev Hv91).reads hadp ((flat_get (sz := 2) (j := 0) (fun _ _ => rfl) hx21 (by decide)).trans rfl) (by kernel_rfl) ?_
       intro ac92 En93
       exact s_e En93 Hv91
      refine s_p [] ?_
      refine s_p [] ?_
      have hb96 : i < List.length xq := (by omega)
      refine s_c (fun Mx97 ac98 wo99 En100 Hv101 => ?_) ?_
      ·
       refine q_v (x := Instr.indexAt 36 (.slice aq (List.length xq) cq) (ni i)) (v := .pointer (some (Addr.add adq (i * 2)))) En100 (Go.Dbr.run_indexsl (e := 147) (sz := 2) (j := i) (jo := i * 2) hadq (by kernel_rfl) (by kernel_rfl) (by omega) hb96 rfl _) fun ac102 En103 => ?_
       exact s_e En103 Hv101
      refine s_p [] ?_
      refine s_c (fun Mx104 ac105 wo106 En107 Hv108 => ?_) ?_
      ·
       refine op_loadf (d := some 26) (t := 37) (ad := adq) (ao := aq) (ys := List.flatMap fExt xq) (o := i * 2) (v := uv16 x25a) En107 (by kernel_rfl) rfl (iq.ro.ev Hv108).reads hadq ((flat_get (sz := 2) (j := 0) (fun _ _ => rfl) hx24 (by decide)).trans rfl) (by kernel_rfl) ?_
       intro ac109 En110
       exact s_e En110 Hv108
      refine s_p [] ?_
      refine s_p [] ?_
      exact s_n
     refine any_name fun G hG => ?_
     have nd168 : ∀ (ac : Act) (wo : World), Env ac 43 [(0, .slice ap (List.length xp) cp), (1, .slice aq (List.length xq) cq), (5, ni i), (28, .bool false), (34, .string (bstr x22b)), (39, .slice a_x25b (List.length x25b) c_x25b)] → Ev w [] wo [] → G 3 #[true, true, true, true, true, true, true, true, true, true, true, true, true, true, true, true, true, true, true, true, true, true, true, false, false, false] ac wo := by
      intro ac169 wo170 En171 Hv172
      refine any_from hG ?_
      refine q_u 23 ?_
      refine op_str (d := some 40) (src := 23) (dst := 9) (e := 5) (ao := a_x25b) (cap := c_x25b) (p := List.length x25b) (bs := x25b) En171 (by kernel_rfl) rfl (by kernel_rfl) (by kernel_rfl) (by kernel_rfl) (i_x25b.ev Hv172).reads i_x25b.nz ?_
      intro ac173 En174
      refine q_a [24,25] [(24, g_v (show (.bool (!(ByteArray.toList (bstr x22b) == ByteArray.toList (bstr x25b))) : Value) = .bool (!(x22b == x25b)) by rw [Go.Dbr.bstr_eq x22b x25b] <;> rfl))] 0 En174 fun ac175 En176 => ?_
      exact a_e ⟨En176.sb, Hv172.pk []⟩
     have nd177 : ∀ (ac : Act) (wo : World), Env ac 43 [(0, .slice ap (List.length xp) cp), (1, .slice aq (List.length xq) cq), (5, ni i), (28, .bool false), (33, .slice a_x22b (List.length x22b) c_x22b), (40, .string (bstr x25b))] → Ev w [] wo [] → G 3 #[true, true, true, true, true, true, true, true, true, true, true, true, true, true, true, true, true, false, true, true, true, true, true, true, false, false] ac wo := by
      intro ac178 wo179 En180 Hv181
      refine any_from hG ?_
      refine q_u 17 ?_
      refine op_str (d := some 34) (src := 23) (dst := 9) (e := 5) (ao := a_x22b) (cap := c_x22b) (p := List.length x22b) (bs := x22b) En180 (by kernel_rfl) rfl (by kernel_rfl) (by kernel_rfl) (by kernel_rfl) (i_x22b.ev Hv181).reads i_x22b.nz ?_
      intro ac182 En183
      refine q_a [24,25] [(24, g_v (show (.bool (!(ByteArray.toList (bstr x22b) == ByteArray.toList (bstr x25b))) : Value) = .bool (!(x22b == x25b)) by rw [Go.Dbr.bstr_eq x22b x25b] <;> rfl))] 0 En183 fun ac184 En185 => ?_
      exact a_e ⟨En185.sb, Hv181.pk []⟩
     have nd186 : ∀ (ac : Act) (wo : World), Env ac 43 [(0, .slice ap (List.length xp) cp), (1, .slice aq (List.length xq) cq), (5, ni i), (28, .bool false), (34, .string (bstr x22b)), (38, .pointer (some (Addr.add (Addr.add adq (i * 2)) 1)))] → Ev w [] wo [] → G 4 #[true, true, true, true, true, true, true, true, true, true, true, true, true, true, true, true, true, true, true, true, true, true, false, false, false, false] ac wo := by
      intro ac187 wo188 En189 Hv190
      refine any_from hG ?_
      refine q_u 22 ?_
      refine op_loadf (d := some 39) (t := 23) (ad := adq) (ao := aq) (ys := List.flatMap fExt xq) (o := i * 2 + 1) (v := .slice a_x25b (List.length x25b) c_x25b) En189 (by kernel_rfl) (Deep.add_add _ _ _) (iq.ro.ev Hv190).reads hadq ((flat_get (sz := 2) (j := 1) (fun _ _ => rfl) hx24 (by decide)).trans rfl) (by kernel_rfl) ?_
      intro ac191 En192
      refine q_u 23 ?_
      refine op_str (d := some 40) (src := 23) (dst := 9) (e := 5) (ao := a_x25b) (cap := c_x25b) (p := List.length x25b) (bs := x25b) En192 (by kernel_rfl) rfl (by kernel_rfl) (by kernel_rfl) (by kernel_rfl) (i_x25b.ev Hv190).reads i_x25b.nz ?_
      intro ac193 En194
      refine q_a [24,25] [(24, g_v (show (.bool (!(ByteArray.toList (bstr x22b) == ByteArray.toList (bstr x25b))) : Value) = .bool (!(x22b == x25b)) by rw [Go.Dbr.bstr_eq x22b x25b] <;> rfl))] 0 En194 fun ac195 En196 => ?_
      exact a_e ⟨En196.sb, Hv190.pk []⟩
     have nd197 : ∀ (ac : Act) (wo : World), Env ac 43 [(0, .slice ap (List.length xp) cp), (1, .slice aq (List.length xq) cq), (5, ni i), (28, .bool false), (33, .slice a_x22b (List.length x22b) c_x22b), (39, .slice a_x25b (List.length x25b) c_x25b)] → Ev w [] wo [] → G 4 #[true, true, true, true, true, true, true, true, true, true, true, true, true, true, true, true, true, false, true, true, true, true, true, false, false, false] ac wo := by
      intro ac198 wo199 En200 Hv201
      refine any_from hG ?_
      refine any_two 17 23 (by kernel_rfl) ?_ ?_
      ·
       rintro _ rfl
       refine op_str (d := some 34) (src := 23) (dst := 9) (e := 5) (ao := a_x22b) (cap := c_x22b) (p := List.length x22b) (bs := x22b) En200 (by kernel_rfl) rfl (by kernel_rfl) (by kernel_rfl) (by kernel_rfl) (i_x22b.ev Hv201).reads i_x22b.nz ?_
       intro ac202 En203
       exact any_to hG (by kernel_rfl) (nd168 _ _ (En203.sb) (Hv201.pk []))
      ·
       rintro _ rfl
       refine op_str (d := some 40) (src := 23) (dst := 9) (e := 5) (ao := a_x25b) (cap := c_x25b) (p := List.length x25b) (bs := x25b) En200 (by kernel_rfl) rfl (by kernel_rfl) (by kernel_rfl) (by kernel_rfl) (i_x25b.ev Hv201).reads i_x25b.nz ?_
       intro ac204 En205
       exact any_to hG (by kernel_rfl) (nd177 _ _ (En205.sb) (Hv201.pk []))
     have nd206 : ∀ (ac : Act) (wo : World), Env ac 43 [(0, .slice ap (List.length xp) cp), (1, .slice aq (List.length xq) cq), (5, ni i), (28, .bool false), (32, .pointer (some (Addr.add (Addr.add adp (i * 2)) 1))), (40, .string (bstr x25b))] → Ev w [] wo [] → G 4 #[true, true, true, true, true, true, true, true, true, true, true, true, true, true, true, true, false, false, true, true, true, true, true, true, false, false] ac wo := by
      intro ac207 wo208 En209 Hv210
      refine any_from hG ?_
      refine q_u 16 ?_
      refine op_loadf (d := some 33) (t := 23) (ad := adp) (ao := ap) (ys := List.flatMap fExt xp) (o := i * 2 + 1) (v := .slice a_x22b (List.length x22b) c_x22b) En209 (by kernel_rfl) (Deep.add_add _ _ _) (ip.ro.ev Hv210).reads hadp ((flat_get (sz := 2) (j := 1) (fun _ _ => rfl) hx21 (by decide)).trans rfl) (by kernel_rfl) ?_
      intro ac211 En212
      refine q_u 17 ?_
      refine op_str (d := some 34) (src := 23) (dst := 9) (e := 5) (ao := a_x22b) (cap := c_x22b) (p := List.length x22b) (bs := x22b) En212 (by kernel_rfl) rfl (by kernel_rfl) (by kernel_rfl) (by kernel_rfl) (i_x22b.ev Hv210).reads i_x22b.nz ?_
      intro ac213 En214
      refine q_a [24,25] [(24, g_v (show (.bool (!(ByteArray.toList (bstr x22b) == ByteArray.toList (bstr x25b))) : Value) = .bool (!(x22b == x25b)) by rw [Go.Dbr.bstr_eq x22b x25b] <;> rfl))] 0 En214 fun ac215 En216 => ?_
      exact a_e ⟨En216.sb, Hv210.pk []⟩
     have nd217 : ∀ (ac : Act) (wo : World), Env ac 43 [(0, .slice ap (List.length xp) cp), (1, .slice aq (List.length xq) cq), (5, ni i), (28, .bool false), (33, .slice a_x22b (List.length x22b) c_x22b), (38, .pointer (some (Addr.add (Addr.add adq (i * 2)) 1)))] → Ev w [] wo [] → G 5 #[true, true, true, true, true, true, true, true, true, true, true, true, true, true, true, true, true, false, true, true, true, true, false, false, false, false] ac wo := by
      intro ac218 wo219 En220 Hv221
      refine any_from hG ?_
      refine any_two 17 22 (by kernel_rfl) ?_ ?_
      ·
       rintro _ rfl
       refine op_str (d := some 34) (src := 23) (dst := 9) (e := 5) (ao := a_x22b) (cap := c_x22b) (p := List.length x22b) (bs := x22b) En220 (by kernel_rfl) rfl (by kernel_rfl) (by kernel_rfl) (by kernel_rfl) (i_x22b.ev Hv221).reads i_x22b.nz ?_
       intro ac222 En223
       exact any_to hG (by kernel_rfl) (nd186 _ _ (En223.sb) (Hv221.pk []))
      ·
       rintro _ rfl
       refine op_loadf (d := some 39) (t := 23) (ad := adq) (ao := aq) (ys := List.flatMap fExt xq) (o := i * 2 + 1) (v := .slice a_x25b (List.length x25b) c_x25b) En220 (by kernel_rfl) (Deep.add_add _ _ _) (iq.ro.ev Hv221).reads hadq ((flat_get (sz := 2) (j := 1) (fun _ _ => rfl) hx24 (by decide)).trans rfl) (by kernel_rfl) ?_
       intro ac224 En225
       exact any_to hG (by kernel_rfl) (nd197 _ _ (En225.sb) (Hv221.pk []))
     have nd226 : ∀ (ac : Act) (wo : World), Env ac 43 [(0, .slice ap (List.length xp) cp), (1, .slice aq (List.length xq) cq), (5, ni i), (28, .bool false), (32, .pointer (some (Addr.add (Addr.add adp (i * 2)) 1))), (39, .slice a_x25b (List.length x25b) c_x25b)] → Ev w [] wo [] → G 5 #[true, true, true, true, true, true, true, true, true, true, true, true, true, true, true, true, false, false, true, true, true, true, true, false, false, false] ac wo := by
      intro ac227 wo228 En229 Hv230
      refine any_from hG ?_
      refine any_two 16 23 (by kernel_rfl) ?_ ?_
      ·
       rintro _ rfl
       refine op_loadf (d := some 33) (t := 23) (ad := adp) (ao := ap) (ys := List.flatMap fExt xp) (o := i * 2 + 1) (v := .slice a_x22b (List.length x22b) c_x22b) En229 (by kernel_rfl) (Deep.add_add _ _ _) (ip.ro.ev Hv230).reads hadp ((flat_get (sz := 2) (j := 1) (fun _ _ => rfl) hx21 (by decide)).trans rfl) (by kernel_rfl) ?_
       intro ac231 En232
       exact any_to hG (by kernel_rfl) (nd197 _ _ (En232.sb) (Hv230.pk []))
      ·
       rintro _ rfl
       refine op_str (d := some 40) (src := 23) (dst := 9) (e := 5) (ao := a_x25b) (cap := c_x25b) (p := List.length x25b) (bs := x25b) En229 (by kernel_rfl) rfl (by kernel_rfl) (by kernel_rfl) (by kernel_rfl) (i_x25b.ev Hv230).reads i_x25b.nz ?_
       intro ac233 En234
       exact any_to hG (by kernel_rfl) (nd206 _ _ (En234.sb) (Hv230.pk []))
     refine any_from hG ?_
     have En235 := En113.fx (t := 28) (congrArg Value.bool hb26)
     have hb238 : i < List.length xp := (by omega)
     refine q_a [12,13] [] 12 En235 fun ac239 En240 => ?_
     refine q_g 14 (s := Instr.indexAt 36 (.slice ap (List.length xp) cp) (ni i)) (v := .pointer (some (Addr.add adp (i * 2)))) En240 (fun _ => Go.Dbr.run_indexsl (e := 147) (sz := 2) (j := i) (jo := i * 2) hadp (by kernel_rfl) (by kernel_rfl) (by omega) hb238 rfl _) fun ac241 En242 => ?_
     have hb245 : i < List.length xq := (by omega)
     refine q_a [15,18,19] [] 8 En242 fun ac246 En247 => ?_
     refine q_g 20 (s := Instr.indexAt 36 (.slice aq (List.length xq) cq) (ni i)) (v := .pointer (some (Addr.add adq (i * 2)))) En247 (fun _ => Go.Dbr.run_indexsl (e := 147) (sz := 2) (j := i) (jo := i * 2) hadq (by kernel_rfl) (by kernel_rfl) (by omega) hb245 rfl _) fun ac248 En249 => ?_
     refine q_a [21] [] 6 En249 fun ac250 En251 => ?_
     refine any_two 16 22 (by kernel_rfl) ?_ ?_
     ·
      rintro _ rfl
      refine op_loadf (d := some 33) (t := 23) (ad := adp) (ao := ap) (ys := List.flatMap fExt xp) (o := i * 2 + 1) (v := .slice a_x22b (List.length x22b) c_x22b) En251 (by kernel_rfl) (Deep.add_add _ _ _) (ip.ro.ev Hv114).reads hadp ((flat_get (sz := 2) (j := 1) (fun _ _ => rfl) hx21 (by decide)).trans rfl) (by kernel_rfl) ?_
      intro ac252 En253
      exact any_to hG (by kernel_rfl) (nd217 _ _ (En253.sb) (Hv114.pk []))
     ·
      rintro _ rfl
      refine op_loadf (d := some 39) (t := 23) (ad := adq) (ao := aq) (ys := List.flatMap fExt xq) (o := i * 2 + 1) (v := .slice a_x25b (List.length x25b) c_x25b) En251 (by kernel_rfl) (Deep.add_add _ _ _) (iq.ro.ev Hv114).reads hadq ((flat_get (sz := 2) (j := 1) (fun _ _ => rfl) hx24 (by decide)).trans rfl) (by kernel_rfl) ?_
      intro ac254 En255
      exact any_to hG (by kernel_rfl) (nd226 _ _ (En255.sb) (Hv114.pk []))
    rintro ac256 wo257 ⟨En258, Hv259⟩
    refine then_normal ?_
    refine cond_at En258 (t := !(x22b == x25b)) (by kernel_rfl) (fun hc260 => ?_) (fun hc260 => ?_)
    ·
     replace hc260 : x22b ≠ x25b := by simpa using hc260
     refine d_s [0,1,4,5] [] En258 fun ac261 En262 => ?_
     refine wp_ret ?_
     refine block_ret ?_
     refine then_ret ?_
     refine then_ret ?_
     refine block_ret ?_
     refine then_ret ?_
     refine d_ret1 (t := 4) (v := .bool false) En262 (by kernel_rfl) (by kernel_rfl) ?_
     exact ⟨congrArg (fun b => Ending.returned (Value.bool b)) (same_no hx21 hx24 (fun g => by first | exact absurd (congrArg (fun z : UInt16 × Bs => ((UInt16.toNat z.1 : Nat) : Int)) g) (by assumption) | exact absurd (congrArg Prod.snd g) (by assumption))), Hv259.pk []⟩
    ·
     replace hc260 : ¬ (x22b ≠ x25b) := by simpa using hc260
     refine wp_skip ?_
     refine block_normal ?_
     refine then_normal ?_
     refine d_r [0,1,5] [(1, g_n (w_a i 1))] En258 fun ac263 En264 => ?_
     refine then_normal ?_
     refine ⟨_, ⟨i + 1, rfl, En264.sb, Hv259.pk [], (same_step hx21 hx24 (pair_eq (u16_eq (x := x22a) (y := x25a) (by omega)) (Classical.not_not.1 (by assumption))) hp)⟩, ?_⟩
     omega
  ·
   refine wp_exit ?_
   refine then_exit ?_
   refine then_exit ?_
   refine block_exit ?_
   refine then_normal ?_
   refine d_s [0,1,4,5] [] En18 fun ac265 En266 => ?_
   refine wp_ret ?_
   refine d_ret1 (t := 4) (v := .bool true) En266 (by kernel_rfl) (by kernel_rfl) ?_
   exact ⟨congrArg (fun b => Ending.returned (Value.bool b)) (same_all (by omega) (by omega) hp), Hv15.pk []⟩

end Go.Proofs.Ytofecellbfhnjaa

/- Slices of structs that are made: nil ones, room. -/

namespace Go.Dbr
open Go Go.RowKit
section
variable {α : Type}
theorem sv_nz {f : α → List Value} {sz : Nat} {w : World} {L : List Ent} (h : Heap w L) {k : Nat} {a : Option Addr} {cap : Nat} {xs : List α} {T : TypeId} (hk : L[k]? = some (.vec a cap sz (xs.flatMap f) T)) (hf : ∀ x, (f x).length = sz) (h1 : 0 < sz) : a = none → xs.length = 0 := fun ha => by
  have h0 : Ent.holds0 w (.vec a cap sz (xs.flatMap f) T) := h.holds k _ hk
  subst ha
  obtain ⟨_, h2⟩ := h0
  have := sv_len hf xs
  rw [h2] at this
  rcases Nat.eq_zero_or_pos xs.length with e | e
  · exact e
  · have := Nat.mul_pos e h1; simp at *; omega
theorem sv_vcap {f : α → List Value} {sz : Nat} {w : World} {L : List Ent} (h : Heap w L) {k : Nat} {a : Option Addr} {cap : Nat} {xs : List α} {T : TypeId} (hk : L[k]? = some (.vec a cap sz (xs.flatMap f) T)) (hf : ∀ x, (f x).length = sz) (h1 : 0 < sz) : xs.length ≤ cap := by
  have hn := sv_nz h hk hf h1
  have h0 : Ent.holds0 w (.vec a cap sz (xs.flatMap f) T) := h.holds k _ hk
  cases a with
  | none => rw [hn rfl]; exact Nat.zero_le _
  | some ad =>
    obtain ⟨_, _, h3, _⟩ := h0
    rw [sv_len hf] at h3
    exact Nat.le_of_mul_le_mul_right h3 h1
end
end Go.Dbr
