import Derived.Test.YtofecellbfhnjaaBk10
import Derived.Test.YtofecellbfhnjaaBk7
import Derived.Test.YtofecellbfhnjaaBk8
import Derived.Test.YtofecellbfhnjaaBk5
/- Layer 17: offered tickets are read by the program: all of a body. -/

namespace Go.Proofs.Ytofecellbfhnjaa
open Go.Dbr
set_option maxRecDepth 100000
set_option maxHeartbeats 2000000
set_option linter.unusedVariables false
set_option linter.unusedSimpArgs false

theorem got_getpsks (w : World) (bn : Nat) (v0 : Int) (a : Option Addr) (c : Nat) (l : Bs) (i : InB w [.box bn [.int .i64 v0] 3] a c l) (hH : Heap w [.box bn [.int .i64 v0] 3]) : Calls Try.prog 164 #[.slice a (List.length l) c, .func (.func 165) #[] #[pt bn]] w fun e w' => ∃ oa oc xs, e = .returned (.tuple #[.slice oa (List.length xs) oc, .int .i64 (gotA (pskM l false false))]) ∧ Ev w [.box bn [.int .i64 v0] 3] w' [.box bn [.int .i64 ((List.length (pskO l false false).2.1 : Nat) : Int)] 3, .vec oa oc 3 (List.flatMap fPsk xs) 140, .grp (List.flatMap innPsk xs)] ∧ List.map puPsk xs = gotV [] (pskM l false false) ∧ List.length xs ≤ 4294967296 ∧ ∀ y ∈ xs, (List.length y.1.l ≤ 140737488351232 ∧ List.length y.2.2.1.l ≤ 140737488351232) := by
 refine d_0 [(0, .slice a (List.length l) c), (1, .func (.func 165) #[] #[pt bn])] 36 Go.Proofs.Try.func164 Go.Proofs.Try.ntmps164 (hH) fun act0 En0 Hv0 => ?_
 refine d_s [0,1,4,5] [] En0 fun ac1 En2 => ?_
 refine d_s [0,1,4,5,6] [] En2 fun ac3 En4 => ?_
 refine wp_seq ?_
 refine region_from ?_
 refine d_k [1,4,5,6,10] [] 2 En4 fun ac5 En6 => ?_
 refine f_o ?_
 refine m_m 120 [.slice a (List.length l) c, .bool false, .bool false] En6 Hv0 fun ac8 wo9 bk7 En10 Hv11 => ?_
 refine d_e [1,4,5,6,7] [] En10 fun ac12 En13 => ?_
 refine then_normal ?_
 refine wp_seq ?_
 refine region_from ?_
 refine d_k [4,5,6,7,12,13] [] 2 En13 fun ac14 En15 => ?_
 refine f_o ?_
 refine c_l [1,0] (M := [.box bk7 [.slice a (List.length l) c, .bool false, .bool false] 120, .box bn [.int .i64 v0] 3]) En15 Hv11 (fun hM25 => getpsks1 _ bk7 bn v0 a c l false false ((i.ev Hv11).pick [1, 0] (by kernel_rfl)) hM25) ?_
 rintro _ wo26 ⟨ta16, tc17, oa20, oc21, xs22, rfl, he27, hs18, hpu19, hf23, hf24⟩
 refine ⟨_, _, [.box bk7 [.slice ta16 (List.length ((pskM l false false).2.1)) tc17, .bool ((pskM l false false).2.2.1), .bool ((pskM l false false).2.2.2)] 120, .box bn [.int .i64 ((List.length (pskO l false false).2.1 : Nat) : Int)] 3, .vec oa20 oc21 3 (List.flatMap fPsk xs22) 140, .grp (List.flatMap innPsk xs22)], rfl, he27, by kernel_rfl, fun ac29 En30 Hv31 => ?_⟩
 refine d_e [4,5,6,7,8] [] En30 fun ac32 En33 => ?_
 refine then_normal ?_
 refine wp_seq ?_
 refine wp_block ?_
 refine wp_seq ?_
 refine region_from ?_
 refine d_k [4,5,6,7,8,18] [] 3 En33 fun ac34 En35 => ?_
 refine f_o ?_
 refine m_l 0 En35 Hv31 fun ac36 En37 => ?_
 refine d_k [4,5,6,7,8,20] [] 5 En37 fun ac38 En39 => ?_
 rcases Bool.eq_false_or_eq_true ((pskM l false false).2.2.1) with hb40 | hb40
 ·
  have En41 := En39.fx (t := 20) (congrArg Value.bool hb40)
  have hp42 : (pskM l false false).2.2.1 = true := hb40
  refine d_e [4,5,6,7,8,15] [] En41 fun ac43 En44 => ?_
  refine then_normal ?_
  refine c_t En44 ?_
  refine d_s [4,5,6,7,8] [] En44 fun ac45 En46 => ?_
  refine wp_ret ?_
  refine block_ret ?_
  refine then_ret ?_
  refine d_ret2 (t := 4) (u := 5) (v := .slice none 0 0) (x := .int .i64 50) En46 (by kernel_rfl) (by kernel_rfl) (by kernel_rfl) ?_
  have eA : gotA (pskM l false false) = 50 := Eq.symm (by first | exact end_1 (by assumption) | exact end_2 (by omega) | exact end_3 (by assumption) (by omega) (by assumption))
  rw [gotV_n eA (by decide), eA]
  have Hv47 : Ev w [.box bn [.int .i64 v0] 3] wo26 [.box bk7 [.slice ta16 (List.length ((pskM l false false).2.1)) tc17, .bool ((pskM l false false).2.2.1), .bool ((pskM l false false).2.2.2)] 120, .box bn [.int .i64 ((List.length (pskO l false false).2.1 : Nat) : Int)] 3, .vec oa20 oc21 3 (List.flatMap fPsk xs22) 140, .grp (List.flatMap innPsk xs22), .vec none 0 3 (List.flatMap fPsk []) 140] := Ev.nil (sz := 3) (T := 140) Hv31
  have Hv48 : Ev w [.box bn [.int .i64 v0] 3] wo26 [.box bk7 [.slice ta16 (List.length ((pskM l false false).2.1)) tc17, .bool ((pskM l false false).2.2.1), .bool ((pskM l false false).2.2.2)] 120, .box bn [.int .i64 ((List.length (pskO l false false).2.1 : Nat) : Int)] 3, .vec oa20 oc21 3 (List.flatMap fPsk xs22) 140, .grp (List.flatMap innPsk xs22), .vec none 0 3 (List.flatMap fPsk []) 140, .grp (List.flatMap innPsk [])] := Ev.grp0 Hv47
  exact ⟨none, 0, [], rfl, Hv48.pk [1, 4, 5], rfl, (Nat.zero_le _), (fun y hy => by cases hy)⟩
 ·
  have En49 := En39.fx (t := 20) (congrArg Value.bool hb40)
  have hp50 : ¬ ((pskM l false false).2.2.1 = true) := Bool.eq_false_iff.1 hb40
  refine d_k [4,5,6,7,8,20,23] [] 8 En49 fun ac51 En52 => ?_
  refine f_o ?_
  refine m_l 0 En52 Hv31 fun ac53 En54 => ?_
  refine d_e [4,5,6,7,8,15] [] En54 fun ac55 En56 => ?_
  refine then_normal ?_
  refine c_d (((List.length ((pskM l false false).2.1) : Nat) : Int) > (0 : Int)) En56 (fun hc57 => ?_) (fun hc57 => ?_)
  ·
   refine d_s [4,5,6,7,8] [] En56 fun ac58 En59 => ?_
   refine wp_ret ?_
   refine block_ret ?_
   refine then_ret ?_
   refine d_ret2 (t := 4) (u := 5) (v := .slice none 0 0) (x := .int .i64 50) En59 (by kernel_rfl) (by kernel_rfl) (by kernel_rfl) ?_
   have eA : gotA (pskM l false false) = 50 := Eq.symm (by first | exact end_1 (by assumption) | exact end_2 (by omega) | exact end_3 (by assumption) (by omega) (by assumption))
   rw [gotV_n eA (by decide), eA]
   have Hv60 : Ev w [.box bn [.int .i64 v0] 3] wo26 [.box bk7 [.slice ta16 (List.length ((pskM l false false).2.1)) tc17, .bool ((pskM l false false).2.2.1), .bool ((pskM l false false).2.2.2)] 120, .box bn [.int .i64 ((List.length (pskO l false false).2.1 : Nat) : Int)] 3, .vec oa20 oc21 3 (List.flatMap fPsk xs22) 140, .grp (List.flatMap innPsk xs22), .vec none 0 3 (List.flatMap fPsk []) 140] := Ev.nil (sz := 3) (T := 140) Hv31
   have Hv61 : Ev w [.box bn [.int .i64 v0] 3] wo26 [.box bk7 [.slice ta16 (List.length ((pskM l false false).2.1)) tc17, .bool ((pskM l false false).2.2.1), .bool ((pskM l false false).2.2.2)] 120, .box bn [.int .i64 ((List.length (pskO l false false).2.1 : Nat) : Int)] 3, .vec oa20 oc21 3 (List.flatMap fPsk xs22) 140, .grp (List.flatMap innPsk xs22), .vec none 0 3 (List.flatMap fPsk []) 140, .grp (List.flatMap innPsk [])] := Ev.grp0 Hv60
   exact ⟨none, 0, [], rfl, Hv61.pk [1, 4, 5], rfl, (Nat.zero_le _), (fun y hy => by cases hy)⟩
  ·
   refine wp_seq ?_
   refine region_from ?_
   refine d_k [4,5,6,7,8,32] [] 3 En56 fun ac62 En63 => ?_
   refine f_o ?_
   refine m_l 0 En63 Hv31 fun ac64 En65 => ?_
   refine d_e [4,5,6,7,8,29] [] En65 fun ac66 En67 => ?_
   refine then_normal ?_
   refine cond_at En67 (t := (pskM l false false).2.2.2) (by kernel_rfl) (fun hc68 => ?_) (fun hc68 => ?_)
   ·
    replace hc68 : (pskM l false false).2.2.2 = true := hc68
    refine d_s [4,5,6,7,8] [] En67 fun ac69 En70 => ?_
    refine wp_ret ?_
    refine block_ret ?_
    refine then_ret ?_
    refine d_ret2 (t := 4) (u := 5) (v := .slice none 0 0) (x := .int .i64 47) En70 (by kernel_rfl) (by kernel_rfl) (by kernel_rfl) ?_
    have eA : gotA (pskM l false false) = 47 := Eq.symm (by first | exact end_1 (by assumption) | exact end_2 (by omega) | exact end_3 (by assumption) (by omega) (by assumption))
    rw [gotV_n eA (by decide), eA]
    have Hv71 : Ev w [.box bn [.int .i64 v0] 3] wo26 [.box bk7 [.slice ta16 (List.length ((pskM l false false).2.1)) tc17, .bool ((pskM l false false).2.2.1), .bool ((pskM l false false).2.2.2)] 120, .box bn [.int .i64 ((List.length (pskO l false false).2.1 : Nat) : Int)] 3, .vec oa20 oc21 3 (List.flatMap fPsk xs22) 140, .grp (List.flatMap innPsk xs22), .vec none 0 3 (List.flatMap fPsk []) 140] := Ev.nil (sz := 3) (T := 140) Hv31
    have Hv72 : Ev w [.box bn [.int .i64 v0] 3] wo26 [.box bk7 [.slice ta16 (List.length ((pskM l false false).2.1)) tc17, .bool ((pskM l false false).2.2.1), .bool ((pskM l false false).2.2.2)] 120, .box bn [.int .i64 ((List.length (pskO l false false).2.1 : Nat) : Int)] 3, .vec oa20 oc21 3 (List.flatMap fPsk xs22) 140, .grp (List.flatMap innPsk xs22), .vec none 0 3 (List.flatMap fPsk []) 140, .grp (List.flatMap innPsk [])] := Ev.grp0 Hv71
    exact ⟨none, 0, [], rfl, Hv72.pk [1, 4, 5], rfl, (Nat.zero_le _), (fun y hy => by cases hy)⟩
   ·
    replace hc68 : ¬ ((pskM l false false).2.2.2 = true) := Bool.eq_false_iff.1 hc68
    refine wp_skip ?_
    refine block_normal ?_
    refine then_normal ?_
    refine d_s [4,5,6,7] [] En67 fun ac73 En74 => ?_
    refine wp_ret ?_
    refine d_ret2 (t := 4) (u := 5) (v := .slice oa20 (List.length xs22) oc21) (x := .int .i64 0) En74 (by kernel_rfl) (by kernel_rfl) (by kernel_rfl) ?_
    have eA : gotA (pskM l false false) = 0 := (end_4 (by assumption) (by omega) (by assumption)).symm
    rw [gotV_0 eA, eA]
    exact ⟨oa20, oc21, xs22, rfl, Hv31.pk [1, 2, 3], hpu19, hf23, hf24⟩

theorem gotN_0 {α : Type} {q : α × PS} {n : Nat} (h : gotA q = 0) : gotN q n = n := by rw [gotN, if_pos h]
theorem gotN_n {α : Type} {q : α × PS} {n : Nat} (h : ¬ gotA q = 0) : gotN q n = 0 := by rw [gotN, if_neg h]
theorem gotV_m {α : Type} {z : α} {q : α × PS} (h : ¬ gotA q = 0) : gotV z q = z := by rw [gotV, if_neg h]

theorem getpsks_go (w : World) (aq : Option Addr) (nq cq : Nat) (lq : List UInt8) (eq : nq = List.length lq) (iq : InB w [] aq cq lq) : Calls Try.prog 60 #[.slice aq nq cq] w fun e w' => ∃ oa oc xs, e = .returned (.tuple #[.slice oa (List.length xs) oc, .int .i64 ((gotN (pskM lq false false) (List.length (pskO lq false false).2.1) : Nat) : Int), .int .i64 (gotA (pskM lq false false))]) ∧ Ev w [] w' [.vec oa oc 3 (List.flatMap fPsk xs) 140, .grp (List.flatMap innPsk xs)] ∧ List.map puPsk xs = gotV [] (pskM lq false false) ∧ List.length xs ≤ 4294967296 ∧ ∀ y ∈ xs, (List.length y.1.l ≤ 140737488351232 ∧ List.length y.2.2.1.l ≤ 140737488351232) := by
 subst eq
 refine d_0 [(0, .slice aq (List.length lq) cq)] 20 Go.Proofs.Try.func60 Go.Proofs.Try.ntmps60 (Heap.nil _) fun act0 En0 Hv0 => ?_
 refine d_s [0,2,3,4] [] En0 fun ac1 En2 => ?_
 refine wp_seq ?_
 refine region_from ?_
 refine f_o ?_
 refine m_z 3 [.int .i64 0] En2 Hv0 fun ac4 wo5 bk3 En6 Hv7 => ?_
 refine f_o ?_
 refine m_s 0 [.box bk3 [.int .i64 0] 3] En6 Hv7 fun ac8 wo9 En10 Hv11 => ?_
 refine f_e ?_
 refine then_normal ?_
 refine wp_seq ?_
 refine region_from ?_
 refine d_k [2,3,4,5,9,10] [] 2 En10 fun ac12 En13 => ?_
 refine f_o ?_
 refine c_l [0] (M := [.box bk3 [.int .i64 0] 3]) En13 Hv11 (fun hM20 => got_getpsks _ bk3 (0 : Int) aq cq lq ((iq.ev Hv11).pick [0] (by kernel_rfl)) hM20) ?_
 rintro _ wo21 ⟨oa14, oc15, xs16, rfl, he22, hpu17, hf18, hf19⟩
 refine ⟨_, _, [.box bk3 [.int .i64 ((List.length (pskO lq false false).2.1 : Nat) : Int)] 3, .vec oa14 oc15 3 (List.flatMap fPsk xs16) 140, .grp (List.flatMap innPsk xs16)], rfl, he22, by kernel_rfl, fun ac24 En25 Hv26 => ?_⟩
 refine d_e [2,3,4,5,6,7] [] En25 fun ac27 En28 => ?_
 refine then_normal ?_
 refine wp_seq ?_
 refine d_s [2,3,4,5,6,7,15] [] En28 fun ac29 En30 => ?_
 refine c_n (gotA (pskM lq false false)) (0 : Int) En30 (fun hc31 => ?_) (fun hc31 => ?_)
 ·
  refine d_s [2,3,4,5,6,7] [] En30 fun ac32 En33 => ?_
  refine wp_ret ?_
  refine then_ret ?_
  refine d_ret3 (t := 2) (u := 3) (s := 4) (v := .slice none 0 0) (x := .int .i64 0) (y := .int .i64 (gotA (pskM lq false false))) En33 (by kernel_rfl) (by kernel_rfl) (by kernel_rfl) (by kernel_rfl) ?_
  have hA : ¬ gotA (pskM lq false false) = 0 := by assumption
  rw [gotV_m hA, gotN_n hA]
  have Hv34 : Ev w [] wo21 [.box bk3 [.int .i64 ((List.length (pskO lq false false).2.1 : Nat) : Int)] 3, .vec oa14 oc15 3 (List.flatMap fPsk xs16) 140, .grp (List.flatMap innPsk xs16), .vec none 0 3 (List.flatMap fPsk []) 140] := Ev.nil (sz := 3) (T := 140) Hv26
  have Hv35 : Ev w [] wo21 [.box bk3 [.int .i64 ((List.length (pskO lq false false).2.1 : Nat) : Int)] 3, .vec oa14 oc15 3 (List.flatMap fPsk xs16) 140, .grp (List.flatMap innPsk xs16), .vec none 0 3 (List.flatMap fPsk []) 140, .grp (List.flatMap innPsk [])] := Ev.grp0 Hv34
  exact ⟨none, 0, [], rfl, Hv35.pk [3, 4], rfl, (Nat.zero_le _), (fun y hy => by cases hy)⟩
 ·
  refine wp_skip ?_
  refine then_normal ?_
  refine wp_seq ?_
  refine r_c (fun ac wo => Env ac 20 [(2, .slice oa14 (List.length xs16) oc15), (3, .int .i64 ((List.length (pskO lq false false).2.1 : Nat) : Int)), (4, .int .i64 (gotA (pskM lq false false))), (5, pt bk3), (7, .int .i64 (gotA (pskM lq false false)))] ∧ Ev w [] wo [.box bk3 [.int .i64 ((List.length (pskO lq false false).2.1 : Nat) : Int)] 3, .vec oa14 oc15 3 (List.flatMap fPsk xs16) 140, .grp (List.flatMap innPsk xs16)]) ?_ ?_
  ·
   refine draw_any (by kernel_rfl) 6 (by kernel_rfl) ?_
   have wo36 := Hv26.trans (Ev.drew Hv26.heap)
   refine q_a [0,2,3] [] 3 En30 fun ac43 En44 => ?_
   refine q_u 1 ?_
   refine m_l 0 En44 wo36 fun ac45 En46 => ?_
   refine q_a [4,5] [] 0 En46 fun ac47 En48 => ?_
   exact a_e ⟨En48.sb, wo36.pk [0, 1, 2]⟩
  rintro ac49 wo50 ⟨En51, Hv52⟩
  refine then_normal ?_
  refine wp_ret ?_
  refine d_ret3 (t := 2) (u := 3) (s := 4) (v := .slice oa14 (List.length xs16) oc15) (x := .int .i64 ((List.length (pskO lq false false).2.1 : Nat) : Int)) (y := .int .i64 (gotA (pskM lq false false))) En51 (by kernel_rfl) (by kernel_rfl) (by kernel_rfl) (by kernel_rfl) ?_
  have hA : gotA (pskM lq false false) = 0 := by first | assumption | exact Classical.not_not.1 (by assumption)
  rw [gotN_0 hA]
  exact ⟨oa14, oc15, xs16, rfl, Hv52.pk [1, 2], hpu17, hf18, hf19⟩

theorem trip_eq {α β γ : Type} {a c : α} {b d : β} {e f : γ} (h : a = c) (h2 : b = d) (h3 : e = f) : (a, b, e) = (c, d, f) := by rw [h, h2, h3]

theorem samepsk_go (w : World) (ap : Option Addr) (cp : Nat) (xp : List RPsk) (ip : InS fPsk 56 (fun x : RPsk => (InB w [] x.1.a x.1.c x.1.l ∧ (True ∧ (InB w [] x.2.2.1.a x.2.2.1.c x.2.2.1.l ∧ (True))))) w [] ap cp xp) (aq : Option Addr) (cq : Nat) (xq : List RPsk) (iq : InS fPsk 56 (fun x : RPsk => (InB w [] x.1.a x.1.c x.1.l ∧ (True ∧ (InB w [] x.2.2.1.a x.2.2.1.c x.2.2.1.l ∧ (True))))) w [] aq cq xq) : Calls Try.prog 62 #[.slice ap (List.length xp) cp, .slice aq (List.length xq) cq] w fun e w' => e = .returned (.bool (List.map puPsk xp == List.map puPsk xq)) ∧ Ev w [] w' [] := by
 have hsp := ip.small
 refine d_0 [(0, .slice ap (List.length xp) cp), (1, .slice aq (List.length xq) cq)] 58 Go.Proofs.Try.func62 Go.Proofs.Try.ntmps62 (Heap.nil _) fun act0 En0 Hv0 => ?_
 refine d_s [0,1,4] [] En0 fun ac1 En2 => ?_
 refine wp_seq ?_
 refine d_s [0,1,4,10] [] En2 fun ac3 En4 => ?_
 refine c_n ((List.length xp : Nat) : Int) ((List.length xq : Nat) : Int) En4 (fun hc5 => ?_) (fun hc5 => ?_)
 ·
  refine d_s [0,1,4] [] En4 fun ac6 En7 => ?_
  refine wp_ret ?_
  refine then_ret ?_
  refine d_ret1 (t := 4) (v := .bool false) En7 (by kernel_rfl) (by kernel_rfl) ?_
  exact ⟨congrArg (fun b => Ending.returned (Value.bool b)) (same_len (by omega)), Hv0.pk []⟩
 ·
  refine wp_skip ?_
  refine then_normal ?_
  refine wp_seq ?_
  refine d_s [0,1,4,5] [] En4 fun ac8 En9 => ?_
  refine wp_block ?_
  refine loop_m (fun ms10 ac wo => ∃ (i : Nat), ms10 = (List.length xp + 1 - i : Nat) ∧ Env ac 58 [(0, .slice ap (List.length xp) cp), (1, .slice aq (List.length xq) cq), (5, ni i)] ∧ Ev w [] wo [] ∧ (List.take i (List.map puPsk xp) = List.take i (List.map puPsk xq))) ⟨_, 0, rfl, En9.sb, Hv0.pk [], rfl⟩ ?_
  rintro mm16 ac12 wo13 ⟨i, rfl, En14, Hv15, hp⟩
  refine wp_seq ?_
  refine d_s [0,1,5,14] [] En14 fun ac17 En18 => ?_
  refine c_d (((i : Nat) : Int) < ((List.length xp : Nat) : Int)) En18 (fun hc19 => ?_) (fun hc19 => ?_)
  ·
   refine wp_skip ?_
   refine then_normal ?_
   refine wp_seq ?_
   refine wp_block ?_
   refine wp_seq ?_
   have hb20 : i < List.length xp := by omega
   obtain ⟨⟨⟨a_x22a, c_x22a, x22a⟩, x22b, ⟨a_x22c, c_x22c, x22c⟩, _⟩, hx21⟩ : ∃ x, (xp)[i]? = some x := ⟨_, List.getElem?_eq_getElem hb20⟩
   obtain ⟨i_x22a, _, i_x22c, _⟩ := ip.each _ (List.mem_of_getElem? hx21)
   replace i_x22a : InB w [] a_x22a c_x22a x22a := i_x22a
   replace i_x22c : InB w [] a_x22c c_x22c x22c := i_x22c
   obtain ⟨adp, hadp⟩ := some_of ip.nz (show i < List.length xp by omega)
   have hb23 : i < List.length xq := by omega
   obtain ⟨⟨⟨a_x25a, c_x25a, x25a⟩, x25b, ⟨a_x25c, c_x25c, x25c⟩, _⟩, hx24⟩ : ∃ x, (xq)[i]? = some x := ⟨_, List.getElem?_eq_getElem hb23⟩
   obtain ⟨i_x25a, _, i_x25c, _⟩ := iq.each _ (List.mem_of_getElem? hx24)
   replace i_x25a : InB w [] a_x25a c_x25a x25a := i_x25a
   replace i_x25c : InB w [] a_x25c c_x25c x25c := i_x25c
   obtain ⟨adq, hadq⟩ := some_of iq.nz (show i < List.length xq by omega)
   rcases Bool.eq_false_or_eq_true (!(x22a == x25a)) with hb26 | hb26
   ·
    have hb26p : x22a ≠ x25a := by simpa using hb26
    refine r_c (fun ac wo => Env ac 58 [(0, .slice ap (List.length xp) cp), (1, .slice aq (List.length xq) cq), (5, ni i), (57, .bool true)] ∧ Ev w [] wo []) ?_ ?_
    ·
     refine h_s (fun wv => Ev w [] wv []) [] 41 ?_
     have wo27 := Hv15.trans (Ev.drew Hv15.heap)
     have hb130 : i < List.length xp := (by omega)
     refine q_s [0,1] [] 39 En18 (wo27.pk []) fun ac131 En132 => ?_
     refine q_f 2 (s := Instr.indexAt 35 (.slice ap (List.length xp) cp) (ni i)) (v := .pointer (some (Addr.add adp (i * 3)))) En132 (fun _ => Go.Dbr.run_indexsl (e := 140) (sz := 3) (j := i) (jo := i * 3) hadp (by kernel_rfl) (by kernel_rfl) (by omega) hb130 rfl _) (fun _ => wo27.pk []) fun ac133 En134 => ?_
     refine q_s [3] [] 37 En134 (wo27.pk []) fun ac135 En136 => ?_
     refine q_r 4 (s := Instr.loadAt 23 (.pointer (some (Addr.add adp (i * 3))))) (v := .slice a_x22a (List.length x22a) c_x22a) En136 (fun w hS => run_loadel (ad := adp) (o := i * 3) rfl (ip.ro.ev hS).reads hadp ((flat_get (sz := 3) (j := 0) (fun _ _ => rfl) hx21 (by decide)).trans rfl) (by kernel_rfl)) (wo27.pk []) fun ac137 En138 => ?_
     refine q_r 5 (s := convert 23 9 (.slice a_x22a (List.length x22a) c_x22a)) (v := .string (bstr x22a)) En138 (fun w hS => run_str2 (e := 5) (bs := x22a) rfl (by kernel_rfl) (by kernel_rfl) (by kernel_rfl) (i_x22a.ev hS).reads i_x22a.nz) (wo27.pk []) fun ac139 En140 => ?_
     have hb143 : i < List.length xq := (by omega)
     refine q_s [6,7] [] 33 En140 (wo27.pk []) fun ac144 En145 => ?_
     refine q_f 8 (s := Instr.indexAt 35 (.slice aq (List.length xq) cq) (ni i)) (v := .pointer (some (Addr.add adq (i * 3)))) En145 (fun _ => Go.Dbr.run_indexsl (e := 140) (sz := 3) (j := i) (jo := i * 3) hadq (by kernel_rfl) (by kernel_rfl) (by omega) hb143 rfl _) (fun _ => wo27.pk []) fun ac146 En147 => ?_
     refine q_s [9] [] 31 En147 (wo27.pk []) fun ac148 En149 => ?_
     refine q_r 10 (s := Instr.loadAt 23 (.pointer (some (Addr.add adq (i * 3))))) (v := .slice a_x25a (List.length x25a) c_x25a) En149 (fun w hS => run_loadel (ad := adq) (o := i * 3) rfl (iq.ro.ev hS).reads hadq ((flat_get (sz := 3) (j := 0) (fun _ _ => rfl) hx24 (by decide)).trans rfl) (by kernel_rfl)) (wo27.pk []) fun ac150 En151 => ?_
     refine q_r 11 (s := convert 23 9 (.slice a_x25a (List.length x25a) c_x25a)) (v := .string (bstr x25a)) En151 (fun w hS => run_str2 (e := 5) (bs := x25a) rfl (by kernel_rfl) (by kernel_rfl) (by kernel_rfl) (i_x25a.ev hS).reads i_x25a.nz) (wo27.pk []) fun ac152 En153 => ?_
     refine q_s [12,13] [(12, g_v (show (.bool (!(ByteArray.toList (bstr x22a) == ByteArray.toList (bstr x25a))) : Value) = .bool (!(x22a == x25a)) by rw [Go.Dbr.bstr_eq x22a x25a] <;> rfl))] 27 En153 (wo27.pk []) fun ac154 En155 => ?_
     have En156 := En155.fx (t := 29) (congrArg Value.bool hb26)
     have En157 := En156.fx (t := 30) (congrArg Value.bool hb26)
     refine q_s [14,15,16,17,18,19,20,21,22,23,24,25,26,27,28,29,30,31,32,33,34,35,36,37,38,39,40] [] 0 En157 (wo27.pk []) fun ac158 En159 => ?_
     exact h_e ⟨En159.sb, wo27.pk []⟩
    rintro ac160 wo161 ⟨En162, Hv163⟩
    refine then_normal ?_
    refine c_t En162 ?_
    refine d_s [0,1,4,5] [] En162 fun ac164 En165 => ?_
    refine wp_ret ?_
    refine block_ret ?_
    refine then_ret ?_
    refine then_ret ?_
    refine block_ret ?_
    refine then_ret ?_
    refine d_ret1 (t := 4) (v := .bool false) En165 (by kernel_rfl) (by kernel_rfl) ?_
    exact ⟨congrArg (fun b => Ending.returned (Value.bool b)) (same_no hx21 hx24 (fun g => by first | exact absurd (congrArg Prod.fst g) (by assumption) | exact absurd (congrArg (fun z : PK => ((UInt32.toNat z.2.1 : Nat) : Int)) g) (by assumption) | exact absurd (congrArg (fun z : PK => z.2.2) g) (by assumption))), Hv163.pk []⟩
   ·
    have hb26p : ¬ (x22a ≠ x25a) := by simpa using hb26
    rcases Bool.eq_false_or_eq_true (((UInt32.toNat x22b : Nat) : Int) != ((UInt32.toNat x25b : Nat) : Int)) with hb166 | hb166
    ·
     have hb166p : ¬ (((UInt32.toNat x22b : Nat) : Int) = ((UInt32.toNat x25b : Nat) : Int)) := by simpa using hb166
     refine r_c (fun ac wo => Env ac 58 [(0, .slice ap (List.length xp) cp), (1, .slice aq (List.length xq) cq), (5, ni i), (57, .bool true)] ∧ Ev w [] wo []) ?_ ?_
     ·
      refine h_s (fun wv => Ev w [] wv []) [] 41 ?_
      have wo167 := Hv15.trans (Ev.drew Hv15.heap)
      have hb387 : i < List.length xp := (by omega)
      refine q_s [0,1] [] 39 En18 (wo167.pk []) fun ac388 En389 => ?_
      refine q_f 2 (s := Instr.indexAt 35 (.slice ap (List.length xp) cp) (ni i)) (v := .pointer (some (Addr.add adp (i * 3)))) En389 (fun _ => Go.Dbr.run_indexsl (e := 140) (sz := 3) (j := i) (jo := i * 3) hadp (by kernel_rfl) (by kernel_rfl) (by omega) hb387 rfl _) (fun _ => wo167.pk []) fun ac390 En391 => ?_
      refine q_s [3] [] 37 En391 (wo167.pk []) fun ac392 En393 => ?_
      refine q_r 4 (s := Instr.loadAt 23 (.pointer (some (Addr.add adp (i * 3))))) (v := .slice a_x22a (List.length x22a) c_x22a) En393 (fun w hS => run_loadel (ad := adp) (o := i * 3) rfl (ip.ro.ev hS).reads hadp ((flat_get (sz := 3) (j := 0) (fun _ _ => rfl) hx21 (by decide)).trans rfl) (by kernel_rfl)) (wo167.pk []) fun ac394 En395 => ?_
      refine q_r 5 (s := convert 23 9 (.slice a_x22a (List.length x22a) c_x22a)) (v := .string (bstr x22a)) En395 (fun w hS => run_str2 (e := 5) (bs := x22a) rfl (by kernel_rfl) (by kernel_rfl) (by kernel_rfl) (i_x22a.ev hS).reads i_x22a.nz) (wo167.pk []) fun ac396 En397 => ?_
      have hb400 : i < List.length xq := (by omega)
      refine q_s [6,7] [] 33 En397 (wo167.pk []) fun ac401 En402 => ?_
      refine q_f 8 (s := Instr.indexAt 35 (.slice aq (List.length xq) cq) (ni i)) (v := .pointer (some (Addr.add adq (i * 3)))) En402 (fun _ => Go.Dbr.run_indexsl (e := 140) (sz := 3) (j := i) (jo := i * 3) hadq (by kernel_rfl) (by kernel_rfl) (by omega) hb400 rfl _) (fun _ => wo167.pk []) fun ac403 En404 => ?_
      refine q_s [9] [] 31 En404 (wo167.pk []) fun ac405 En406 => ?_
      refine q_r 10 (s := Instr.loadAt 23 (.pointer (some (Addr.add adq (i * 3))))) (v := .slice a_x25a (List.length x25a) c_x25a) En406 (fun w hS => run_loadel (ad := adq) (o := i * 3) rfl (iq.ro.ev hS).reads hadq ((flat_get (sz := 3) (j := 0) (fun _ _ => rfl) hx24 (by decide)).trans rfl) (by kernel_rfl)) (wo167.pk []) fun ac407 En408 => ?_
      refine q_r 11 (s := convert 23 9 (.slice a_x25a (List.length x25a) c_x25a)) (v := .string (bstr x25a)) En408 (fun w hS => run_str2 (e := 5) (bs := x25a) rfl (by kernel_rfl) (by kernel_rfl) (by kernel_rfl) (i_x25a.ev hS).reads i_x25a.nz) (wo167.pk []) fun ac409 En410 => ?_
      refine q_s [12,13] [(12, g_v (show (.bool (!(ByteArray.toList (bstr x22a) == ByteArray.toList (bstr x25a))) : Value) = .bool (!(x22a == x25a)) by rw [Go.Dbr.bstr_eq x22a x25a] <;> rfl))] 27 En410 (wo167.pk []) fun ac411 En412 => ?_
      have En413 := En412.fx (t := 29) (congrArg Value.bool hb26)
      have En414 := En413.fx (t := 30) (congrArg Value.bool hb26)
      have hb417 : i < List.length xp := (by omega)
      refine q_s [14,15] [] 25 En414 (wo167.pk []) fun ac418 En419 => ?_
      refine q_f 16 (s := Instr.indexAt 35 (.slice ap (List.length xp) cp) (ni i)) (v := .pointer (some (Addr.add adp (i * 3)))) En419 (fun _ => Go.Dbr.run_indexsl (e := 140) (sz := 3) (j := i) (jo := i * 3) hadp (by kernel_rfl) (by kernel_rfl) (by omega) hb417 rfl _) (fun _ => wo167.pk []) fun ac420 En421 => ?_
      refine q_s [17] [] 23 En421 (wo167.pk []) fun ac422 En423 => ?_
      refine q_r 18 (s := Instr.loadAt 84 (.pointer (some (Addr.add (Addr.add adp (i * 3)) 1)))) (v := uv32 x22b) En423 (fun w hS => run_loadel (ad := adp) (o := i * 3 + 1) (Deep.add_add _ _ _) (ip.ro.ev hS).reads hadp ((flat_get (sz := 3) (j := 1) (fun _ _ => rfl) hx21 (by decide)).trans rfl) (by kernel_rfl)) (wo167.pk []) fun ac424 En425 => ?_
      have hb428 : i < List.length xq := (by omega)
      refine q_s [19,20] [] 20 En425 (wo167.pk []) fun ac429 En430 => ?_
      refine q_f 21 (s := Instr.indexAt 35 (.slice aq (List.length xq) cq) (ni i)) (v := .pointer (some (Addr.add adq (i * 3)))) En430 (fun _ => Go.Dbr.run_indexsl (e := 140) (sz := 3) (j := i) (jo := i * 3) hadq (by kernel_rfl) (by kernel_rfl) (by omega) hb428 rfl _) (fun _ => wo167.pk []) fun ac431 En432 => ?_
      refine q_s [22] [] 18 En432 (wo167.pk []) fun ac433 En434 => ?_
      refine q_r 23 (s := Instr.loadAt 84 (.pointer (some (Addr.add (Addr.add adq (i * 3)) 1)))) (v := uv32 x25b) En434 (fun w hS => run_loadel (ad := adq) (o := i * 3 + 1) (Deep.add_add _ _ _) (iq.ro.ev hS).reads hadq ((flat_get (sz := 3) (j := 1) (fun _ _ => rfl) hx24 (by decide)).trans rfl) (by kernel_rfl)) (wo167.pk []) fun ac435 En436 => ?_
      refine q_s [24,25,26] [] 14 En436 (wo167.pk []) fun ac437 En438 => ?_
      have En439 := En438.fx (t := 41) (congrArg Value.bool hb166)
      have En440 := En439.fx (t := 42) (congrArg Value.bool hb166)
      have En441 := En440.fx (t := 43) (congrArg Value.bool hb166)
      refine q_s [27,28,29,30,31,32,33,34,35,36,37,38,39,40] [] 0 En441 (wo167.pk []) fun ac442 En443 => ?_
      exact h_e ⟨En443.sb, wo167.pk []⟩
     rintro ac444 wo445 ⟨En446, Hv447⟩
     refine then_normal ?_
     refine c_t En446 ?_
     refine d_s [0,1,4,5] [] En446 fun ac448 En449 => ?_
     refine wp_ret ?_
     refine block_ret ?_
     refine then_ret ?_
     refine then_ret ?_
     refine block_ret ?_
     refine then_ret ?_
     refine d_ret1 (t := 4) (v := .bool false) En449 (by kernel_rfl) (by kernel_rfl) ?_
     exact ⟨congrArg (fun b => Ending.returned (Value.bool b)) (same_no hx21 hx24 (fun g => by first | exact absurd (congrArg Prod.fst g) (by assumption) | exact absurd (congrArg (fun z : PK => ((UInt32.toNat z.2.1 : Nat) : Int)) g) (by assumption) | exact absurd (congrArg (fun z : PK => z.2.2) g) (by assumption))), Hv447.pk []⟩
    ·
     have hb166p : ((UInt32.toNat x22b : Nat) : Int) = ((UInt32.toNat x25b : Nat) : Int) := by simpa using hb166
     refine r_c (fun ac wo => Env ac 58 [(0, .slice ap (List.length xp) cp), (1, .slice aq (List.length xq) cq), (5, ni i), (57, .bool (!(x22c == x25c)))] ∧ Ev w [] wo []) ?_ ?_
     ·
      refine h_s (fun wv => Ev w [] wv []) [] 41 ?_
      have wo450 := Hv15.trans (Ev.drew Hv15.heap)
      have hb764 : i < List.length xp := (by omega)
      refine q_s [0,1] [] 39 En18 (wo450.pk []) fun ac765 En766 => ?_
      refine q_f 2 (s := Instr.indexAt 35 (.slice ap (List.length xp) cp) (ni i)) (v := .pointer (some (Addr.add adp (i * 3)))) En766 (fun _ => Go.Dbr.run_indexsl (e := 140) (sz := 3) (j := i) (jo := i * 3) hadp (by kernel_rfl) (by kernel_rfl) (by omega) hb764 rfl _) (fun _ => wo450.pk []) fun ac767 En768 => ?_
      refine q_s [3] [] 37 En768 (wo450.pk []) fun ac769 En770 => ?_
      refine q_r 4 (s := Instr.loadAt 23 (.pointer (some (Addr.add adp (i * 3))))) (v := .slice a_x22a (List.length x22a) c_x22a) En770 (fun w hS => run_loadel (ad := adp) (o := i * 3) rfl (ip.ro.ev hS).reads hadp ((flat_get (sz := 3) (j := 0) (fun _ _ => rfl) hx21 (by decide)).trans rfl) (by kernel_rfl)) (wo450.pk []) fun ac771 En772 => ?_
      refine q_r 5 (s := convert 23 9 (.slice a_x22a (List.length x22a) c_x22a)) (v := .string (bstr x22a)) En772 (fun w hS => run_str2 (e := 5) (bs := x22a) rfl (by kernel_rfl) (by kernel_rfl) (by kernel_rfl) (i_x22a.ev hS).reads i_x22a.nz) (wo450.pk []) fun ac773 En774 => ?_
      have hb777 : i < List.length xq := (by omega)
      refine q_s [6,7] [] 33 En774 (wo450.pk []) fun ac778 En779 => ?_
      refine q_f 8 (s := Instr.indexAt 35 (.slice aq (List.length xq) cq) (ni i)) (v := .pointer (some (Addr.add adq (i * 3)))) En779 (fun _ => Go.Dbr.run_indexsl (e := 140) (sz := 3) (j := i) (jo := i * 3) hadq (by kernel_rfl) (by kernel_rfl) (by omega) hb777 rfl _) (fun _ => wo450.pk []) fun ac780 En781 => ?_
      refine q_s [9] [] 31 En781 (wo450.pk []) fun ac782 En783 => ?_
      refine q_r 10 (s := Instr.loadAt 23 (.pointer (some (Addr.add adq (i * 3))))) (v := .slice a_x25a (List.length x25a) c_x25a) En783 (fun w hS => run_loadel (ad := adq) (o := i * 3) rfl (iq.ro.ev hS).reads hadq ((flat_get (sz := 3) (j := 0) (fun _ _ => rfl) hx24 (by decide)).trans rfl) (by kernel_rfl)) (wo450.pk []) fun ac784 En785 => ?_
      refine q_r 11 (s := convert 23 9 (.slice a_x25a (List.length x25a) c_x25a)) (v := .string (bstr x25a)) En785 (fun w hS => run_str2 (e := 5) (bs := x25a) rfl (by kernel_rfl) (by kernel_rfl) (by kernel_rfl) (i_x25a.ev hS).reads i_x25a.nz) (wo450.pk []) fun ac786 En787 => ?_
      refine q_s [12,13] [(12, g_v (show (.bool (!(ByteArray.toList (bstr x22a) == ByteArray.toList (bstr x25a))) : Value) = .bool (!(x22a == x25a)) by rw [Go.Dbr.bstr_eq x22a x25a] <;> rfl))] 27 En787 (wo450.pk []) fun ac788 En789 => ?_
      have En790 := En789.fx (t := 29) (congrArg Value.bool hb26)
      have En791 := En790.fx (t := 30) (congrArg Value.bool hb26)
      have hb794 : i < List.length xp := (by omega)
      refine q_s [14,15] [] 25 En791 (wo450.pk []) fun ac795 En796 => ?_
      refine q_f 16 (s := Instr.indexAt 35 (.slice ap (List.length xp) cp) (ni i)) (v := .pointer (some (Addr.add adp (i * 3)))) En796 (fun _ => Go.Dbr.run_indexsl (e := 140) (sz := 3) (j := i) (jo := i * 3) hadp (by kernel_rfl) (by kernel_rfl) (by omega) hb794 rfl _) (fun _ => wo450.pk []) fun ac797 En798 => ?_
      refine q_s [17] [] 23 En798 (wo450.pk []) fun ac799 En800 => ?_
      refine q_r 18 (s := Instr.loadAt 84 (.pointer (some (Addr.add (Addr.add adp (i * 3)) 1)))) (v := uv32 x22b) En800 (fun w hS => run_loadel (ad := adp) (o := i * 3 + 1) (Deep.add_add _ _ _) (ip.ro.ev hS).reads hadp ((flat_get (sz := 3) (j := 1) (fun _ _ => rfl) hx21 (by decide)).trans rfl) (by kernel_rfl)) (wo450.pk []) fun ac801 En802 => ?_
      have hb805 : i < List.length xq := (by omega)
      refine q_s [19,20] [] 20 En802 (wo450.pk []) fun ac806 En807 => ?_
      refine q_f 21 (s := Instr.indexAt 35 (.slice aq (List.length xq) cq) (ni i)) (v := .pointer (some (Addr.add adq (i * 3)))) En807 (fun _ => Go.Dbr.run_indexsl (e := 140) (sz := 3) (j := i) (jo := i * 3) hadq (by kernel_rfl) (by kernel_rfl) (by omega) hb805 rfl _) (fun _ => wo450.pk []) fun ac808 En809 => ?_
      refine q_s [22] [] 18 En809 (wo450.pk []) fun ac810 En811 => ?_
      refine q_r 23 (s := Instr.loadAt 84 (.pointer (some (Addr.add (Addr.add adq (i * 3)) 1)))) (v := uv32 x25b) En811 (fun w hS => run_loadel (ad := adq) (o := i * 3 + 1) (Deep.add_add _ _ _) (iq.ro.ev hS).reads hadq ((flat_get (sz := 3) (j := 1) (fun _ _ => rfl) hx24 (by decide)).trans rfl) (by kernel_rfl)) (wo450.pk []) fun ac812 En813 => ?_
      refine q_s [24,25,26] [] 14 En813 (wo450.pk []) fun ac814 En815 => ?_
      have En816 := En815.fx (t := 41) (congrArg Value.bool hb166)
      have En817 := En816.fx (t := 42) (congrArg Value.bool hb166)
      have En818 := En817.fx (t := 43) (congrArg Value.bool hb166)
      have hb821 : i < List.length xp := (by omega)
      refine q_s [27,28] [] 12 En818 (wo450.pk []) fun ac822 En823 => ?_
      refine q_f 29 (s := Instr.indexAt 35 (.slice ap (List.length xp) cp) (ni i)) (v := .pointer (some (Addr.add adp (i * 3)))) En823 (fun _ => Go.Dbr.run_indexsl (e := 140) (sz := 3) (j := i) (jo := i * 3) hadp (by kernel_rfl) (by kernel_rfl) (by omega) hb821 rfl _) (fun _ => wo450.pk []) fun ac824 En825 => ?_
      refine q_s [30] [] 10 En825 (wo450.pk []) fun ac826 En827 => ?_
      refine q_r 31 (s := Instr.loadAt 23 (.pointer (some (Addr.add (Addr.add adp (i * 3)) 2)))) (v := .slice a_x22c (List.length x22c) c_x22c) En827 (fun w hS => run_loadel (ad := adp) (o := i * 3 + 2) (Deep.add_add _ _ _) (ip.ro.ev hS).reads hadp ((flat_get (sz := 3) (j := 2) (fun _ _ => rfl) hx21 (by decide)).trans rfl) (by kernel_rfl)) (wo450.pk []) fun ac828 En829 => ?_
      refine q_r 32 (s := convert 23 9 (.slice a_x22c (List.length x22c) c_x22c)) (v := .string (bstr x22c)) En829 (fun w hS => run_str2 (e := 5) (bs := x22c) rfl (by kernel_rfl) (by kernel_rfl) (by kernel_rfl) (i_x22c.ev hS).reads i_x22c.nz) (wo450.pk []) fun ac830 En831 => ?_
      have hb834 : i < List.length xq := (by omega)
      refine q_s [33,34] [] 6 En831 (wo450.pk []) fun ac835 En836 => ?_
      refine q_f 35 (s := Instr.indexAt 35 (.slice aq (List.length xq) cq) (ni i)) (v := .pointer (some (Addr.add adq (i * 3)))) En836 (fun _ => Go.Dbr.run_indexsl (e := 140) (sz := 3) (j := i) (jo := i * 3) hadq (by kernel_rfl) (by kernel_rfl) (by omega) hb834 rfl _) (fun _ => wo450.pk []) fun ac837 En838 => ?_
      refine q_s [36] [] 4 En838 (wo450.pk []) fun ac839 En840 => ?_
      refine q_r 37 (s := Instr.loadAt 23 (.pointer (some (Addr.add (Addr.add adq (i * 3)) 2)))) (v := .slice a_x25c (List.length x25c) c_x25c) En840 (fun w hS => run_loadel (ad := adq) (o := i * 3 + 2) (Deep.add_add _ _ _) (iq.ro.ev hS).reads hadq ((flat_get (sz := 3) (j := 2) (fun _ _ => rfl) hx24 (by decide)).trans rfl) (by kernel_rfl)) (wo450.pk []) fun ac841 En842 => ?_
      refine q_r 38 (s := convert 23 9 (.slice a_x25c (List.length x25c) c_x25c)) (v := .string (bstr x25c)) En842 (fun w hS => run_str2 (e := 5) (bs := x25c) rfl (by kernel_rfl) (by kernel_rfl) (by kernel_rfl) (i_x25c.ev hS).reads i_x25c.nz) (wo450.pk []) fun ac843 En844 => ?_
      refine q_s [39,40] [(39, g_v (show (.bool (!(ByteArray.toList (bstr x22c) == ByteArray.toList (bstr x25c))) : Value) = .bool (!(x22c == x25c)) by rw [Go.Dbr.bstr_eq x22c x25c] <;> rfl))] 0 En844 (wo450.pk []) fun ac845 En846 => ?_
      exact h_e ⟨En846.sb, wo450.pk []⟩
     rintro ac847 wo848 ⟨En849, Hv850⟩
     refine then_normal ?_
     refine cond_at En849 (t := !(x22c == x25c)) (by kernel_rfl) (fun hc851 => ?_) (fun hc851 => ?_)
     ·
      replace hc851 : x22c ≠ x25c := by simpa using hc851
      refine d_s [0,1,4,5] [] En849 fun ac852 En853 => ?_
      refine wp_ret ?_
      refine block_ret ?_
      refine then_ret ?_
      refine then_ret ?_
      refine block_ret ?_
      refine then_ret ?_
      refine d_ret1 (t := 4) (v := .bool false) En853 (by kernel_rfl) (by kernel_rfl) ?_
      exact ⟨congrArg (fun b => Ending.returned (Value.bool b)) (same_no hx21 hx24 (fun g => by first | exact absurd (congrArg Prod.fst g) (by assumption) | exact absurd (congrArg (fun z : PK => ((UInt32.toNat z.2.1 : Nat) : Int)) g) (by assumption) | exact absurd (congrArg (fun z : PK => z.2.2) g) (by assumption))), Hv850.pk []⟩
     ·
      replace hc851 : ¬ (x22c ≠ x25c) := by simpa using hc851
      refine wp_skip ?_
      refine block_normal ?_
      refine then_normal ?_
      refine d_r [0,1,5] [(1, g_n (w_a i 1))] En849 fun ac854 En855 => ?_
      refine then_normal ?_
      refine ⟨_, ⟨i + 1, rfl, En855.sb, Hv850.pk [], (same_step hx21 hx24 (trip_eq (show x22a = x25a from (by first | assumption | exact Classical.not_not.1 (by assumption))) (UInt32.toNat_inj.1 (show UInt32.toNat x22b = UInt32.toNat x25b by omega)) (show x22c = x25c from (by first | assumption | exact Classical.not_not.1 (by assumption)))) hp)⟩, ?_⟩
      omega
  ·
   refine wp_exit ?_
   refine then_exit ?_
   refine then_exit ?_
   refine block_exit ?_
   refine then_normal ?_
   refine d_s [0,1,4,5] [] En18 fun ac856 En857 => ?_
   refine wp_ret ?_
   refine d_ret1 (t := 4) (v := .bool true) En857 (by kernel_rfl) (by kernel_rfl) ?_
   exact ⟨congrArg (fun b => Ending.returned (Value.bool b)) (same_all (by omega) (by omega) hp), Hv15.pk []⟩

end Go.Proofs.Ytofecellbfhnjaa

/- Layer 17: offered tickets are read by the document. -/

namespace Go.Proofs.Ytofecellbfhnjaa
open Go.Dbr
set_option maxRecDepth 100000
set_option maxHeartbeats 2000000
set_option linter.unusedVariables false
set_option linter.unusedSimpArgs false

end Go.Proofs.Ytofecellbfhnjaa

/- Layer 17: both readers find the same. -/

namespace Go.Proofs.Ytofecellbfhnjaa
open Go.Dbr
set_option maxRecDepth 100000
set_option maxHeartbeats 2000000
set_option linter.unusedVariables false
set_option linter.unusedSimpArgs false

section
variable {α : Type}
end
theorem tkS_t (n : Nat) (l : Bs) : tkS n l true = true := rfl
theorem lsS_t (n x y : Nat) (l : Bs) : lsS n x y l true = true := by rw [lsS, lsT, tkS_t, Bool.true_or, tkS_t]
end Go.Proofs.Ytofecellbfhnjaa

/- Layer 17: messages with extensions: both read and write the same. -/




namespace Go.Proofs.Ytofecellbfhnjaa
open Go.Dbr
set_option maxRecDepth 100000
set_option maxHeartbeats 2000000
set_option linter.unusedVariables false
set_option linter.unusedSimpArgs false

/-- a list of structs within others, read alone -/
theorem innL {w : World} {L : List Ent} {α : Type} {f : α → List Value} {sz by_ : Nat} {ok : α → Prop} (h : Heap w L) {M : List Ent} {k : Nat} {D : List Inn} {a : Option Addr} {cap : Nat} {xs : List α} {T : TypeId} (hk : L[k]? = some (.grp D)) (hd : (a, cap, sz, xs.flatMap f, T) ∈ D) (hf : ∀ x, (f x).length = sz) (h1 : 0 < sz) (is : List Nat) (hm : M.map some = is.map (fun i => L[i]?)) (hn : is.contains k = false) (hs : xs.length * by_ ≤ 140737488351232) (ho : ∀ x ∈ xs, ok x) : InS f by_ ok w M a cap xs := by
  have h0 : Ent.holds0 w (.vec a cap sz (xs.flatMap f) T) := h.holds k _ hk _ hd
  have one : Heap w [Ent.vec a cap sz (xs.flatMap f) T] := by
    have at0 : ∀ (i : Nat) (f' : Ent), [Ent.vec a cap sz (xs.flatMap f) T][i]? = some f' → i = 0 ∧ f' = .vec a cap sz (xs.flatMap f) T := fun i f' hi => by
      cases i with
      | zero => exact ⟨rfl, by simpa using hi.symm⟩
      | succ i => simp at hi
    exact ⟨fun i j f' g b hi hj _ _ => by rw [(at0 i f' hi).1, (at0 j g hj).1], fun i f' hi => by rw [(at0 i f' hi).2]; exact h0⟩
  have q : InS f by_ ok w [] a cap xs := one.innS (k := 0) rfl hf h1 [] rfl rfl hs ho
  exact ⟨h.innRo hk hd is hm hn, q.nz, q.cap, hs, ho⟩
theorem bor_t {a : Bool} (b : Bool) (h : a = true) : (a || b) = true := by rw [h, Bool.true_or]
theorem exts_t (l : Bs) (o : Bool) : (extsM l true o).2.2.1 = true := bor_t (a := lsS 2 0 16777215 l true) (mn extM (lsO 2 0 16777215 l true, lsS 2 0 16777215 l true, false)).2.2.1 (lsS_t _ _ _ _)
theorem many_t {α : Type} (one : Bs → Bool → Bool → α × PS) (n x : Nat) (l : Bs) (o : Bool) : (manyM one n x l true o).2.2.1 = true := bor_t (a := lsS n x 16777215 l true) (mn one (lsO n x 16777215 l true, lsS n x 16777215 l true, false)).2.2.1 (lsS_t _ _ _ _)
theorem ss_f {n : Nat} {l : Bs} {s : Bool} (h : tkS n l s = false) : s = false := by rw [tkS, Bool.or_eq_false_iff] at h; exact h.1
/-! how much -/
theorem exF_l (p : WS) (x : EX) : (exF p x).1.length ≤ p.1.length + 8 * (x.2.length + 1) := by rw [exF, wput_len, List.length_append, beN_len]; omega
end Go.Proofs.Ytofecellbfhnjaa

/- Layer 17: what was written is read back. -/

namespace Go.Proofs.Ytofecellbfhnjaa
open Go.Dbr
set_option maxRecDepth 100000
set_option maxHeartbeats 2000000
set_option linter.unusedVariables false
set_option linter.unusedSimpArgs false

theorem beN_succ (n v : Nat) : beN (n + 1) v = beN n (v / 256) ++ [UInt8.ofNat v] := by
  rw [beN, beN, List.range_succ, List.map_append]
  congr 1
  · apply List.map_congr_left
    intro j hj
    have hj := List.mem_range.1 hj
    rw [show n + 1 - 1 - j = (n - 1 - j) + 1 by omega, Nat.pow_succ, Nat.mul_comm, ← Nat.div_div_eq_div_mul]
  · simp
theorem beV_beN : ∀ (n v : Nat), v < 256 ^ n → beV (beN n v) = v
  | 0, v, h => by
    have : v = 0 := by simpa using h
    subst this
    rfl
  | n + 1, v, h => by
    have hd : v / 256 < 256 ^ n := Nat.div_lt_of_lt_mul (by rw [Nat.pow_succ, Nat.mul_comm] at h; exact h)
    rw [beN_succ, beV_snoc, beV_beN n _ hd, UInt8.toNat_ofNat']
    omega
theorem tk_back {n : Nat} {b : Bs} (r : Bs) (h : b.length = n) : tkO n (b ++ r) false = b ∧ tkR n (b ++ r) false = r ∧ tkS n (b ++ r) false = false := by
  have hs : tkS n (b ++ r) false = false := by rw [tkS, Bool.false_or]; exact decide_eq_false (by rw [List.length_append]; omega)
  refine ⟨?_, ?_, hs⟩
  · rw [tkO, hs, Bool.cond_false, List.take_left' h]
  · rw [tkR, hs, Bool.cond_false, List.drop_left' h]
theorem nb_back {n v : Nat} (r : Bs) (h : v < 256 ^ n) : nbV n (beN n v ++ r) false = v := by rw [nbV, (tk_back r (beN_len n v)).1, beV_beN n v h]
theorem wput_0 (n : Nat) (l b : Bs) : wput n l b = l ++ wput n [] b := by simp [wput, List.append_assoc]
theorem ls_back {n x y : Nat} {b : Bs} (r : Bs) (h : dbad n x y b.length = false) : lsO n x y (wput n [] b ++ r) false = b ∧ lsR n x y (wput n [] b ++ r) false = r ∧ lsS n x y (wput n [] b ++ r) false = false := by
  rw [dbad, Bool.or_eq_false_iff, Bool.or_eq_false_iff, decide_eq_false_iff_not, decide_eq_false_iff_not, decide_eq_false_iff_not] at h
  have hp : b.length < 256 ^ n := by
    have e : (256 : Nat) ^ n = 2 ^ (8 * n) := by rw [Nat.pow_mul]
    omega
  have e : wput n [] b ++ r = beN n b.length ++ (b ++ r) := by simp [wput, List.append_assoc]
  have hk := tk_back (b ++ r) (beN_len n b.length)
  have hn := nb_back (b ++ r) hp
  have ht : lsT n x y (wput n [] b ++ r) false = false := by rw [lsT, e, hn, hk.2.2, decide_eq_false h.1, decide_eq_false h.2.1]; rfl
  have hb := tk_back (n := b.length) r rfl
  refine ⟨?_, ?_, ?_⟩
  · rw [lsO, ht, e, hn, hk.2.1]; exact hb.1
  · rw [lsR, ht, e, hn, hk.2.1]; exact hb.2.1
  · rw [lsS, ht, e, hn, hk.2.1]; exact hb.2.2
/-- what a step writes; is it bad? -/
def Enc {β : Type} (F : WS → β → WS) (e : β → Bs) (b : β → Bool) : Prop := ∀ p x, F p x = (p.1 ++ e x, p.2 || b x)
def Back {β : Type} (one : Bs → Bool → Bool → β × PS) (e : β → Bs) (b : β → Bool) : Prop := ∀ x r o, b x = false → one (e x ++ r) false o = (x, r, false, o)
theorem enc_all {β : Type} {F : WS → β → WS} {e : β → Bs} {b : β → Bool} (h : Enc F e b) (ps : List β) : allM F ps = (List.flatMap e ps, List.any ps b) := by
  have key : ∀ (ps : List β) (p : WS), List.foldl F p ps = (p.1 ++ List.flatMap e ps, p.2 || List.any ps b) := by
    intro ps
    induction ps with
    | nil => intro p; simp
    | cons x r ih => intro p; rw [List.foldl_cons, ih, h]; simp [Bool.or_assoc]
  rw [allM, key]
  simp
theorem mnf_back {β : Type} {one : Bs → Bool → Bool → β × PS} {e : β → Bs} {b : β → Bool} (h : Back one e b) (hne : ∀ x, e x ≠ []) (o : Bool) : ∀ (ps : List β) (f : Nat), ps.length ≤ f → List.any ps b = false → mnf one f (List.flatMap e ps, false, o) = (ps, [], false, o)
  | [], f, _, _ => mnf_end (.inr rfl) f
  | x :: r, 0, hf, _ => absurd hf (by simp)
  | x :: r, f + 1, hf, hb => by
    rw [List.any_cons, Bool.or_eq_false_iff] at hb
    have hp : ¬ ((List.flatMap e (x :: r), false, o) : PS).2.1 = true ∧ ¬ ((List.flatMap e (x :: r), false, o) : PS).1 = [] := by
      refine ⟨(by simp), fun g => hne x ?_⟩
      have g : e x ++ List.flatMap e r = [] := g
      exact (List.append_eq_nil_iff.1 g).1
    have h1 : one (List.flatMap e (x :: r)) false o = (x, List.flatMap e r, false, o) := by rw [List.flatMap_cons]; exact h x _ o hb.1
    rw [mnf, if_neg (by rintro (g | g); exact hp.1 g; exact hp.2 g)]
    show ((one (List.flatMap e (x :: r)) false o).1 :: _, _) = _
    rw [h1, mnf_back h hne o r f (by simpa using hf) hb.2]
theorem flat_ge {β : Type} {e : β → Bs} (hne : ∀ x, e x ≠ []) : ∀ ps : List β, ps.length ≤ (List.flatMap e ps).length
  | [] => Nat.zero_le _
  | x :: r => by
    have h := flat_ge hne r
    have h2 := List.length_pos_iff.2 (hne x)
    rw [List.flatMap_cons, List.length_append, List.length_cons]; omega
theorem many_back {β : Type} {one : Bs → Bool → Bool → β × PS} {e : β → Bs} {b : β → Bool} (h : Back one e b) (hne : ∀ x, e x ≠ []) {n x : Nat} {ps : List β} (r : Bs) (o : Bool) (hb : List.any ps b = false) (hd : dbad n x 16777215 (List.flatMap e ps).length = false) : manyM one n x (wput n [] (List.flatMap e ps) ++ r) false o = (ps, r, false, o) := by
  have hl := ls_back r hd
  have hm : mn one ((List.flatMap e ps, false, false) : PS) = (ps, [], false, false) := mnf_back h hne false ps _ (flat_ge hne ps) hb
  rw [manyM, hl.1, hl.2.1, hl.2.2, hm]
  simp
theorem doneL_pos {bad : Bool} {l : Bs} (h : 0 < (doneL bad l).length) : bad = false ∧ doneL bad l = l := by
  cases bad with
  | true => exact absurd h (by simp [doneL])
  | false => exact ⟨rfl, rfl⟩
theorem got_back {α : Type} {z : α} {q : α × PS} {x : α} (h : q = (x, [], false, false)) : gotA q = 0 ∧ gotV z q = x := by
  have hA : gotA q = 0 := by rw [h]; rfl
  exact ⟨hA, by rw [gotV_0 hA, h]⟩
/-! extensions -/
def eX (x : EX) : Bs := beN 2 x.1.toNat ++ wput 2 [] x.2
theorem exF_enc : Enc exF eX (fun x => dbad 2 0 65535 x.2.length) := fun p x => by rw [exF, wd_eq, wput_0, eX, List.append_assoc]
theorem u16_256 (v : UInt16) : v.toNat < 256 ^ 2 := v.toNat_lt
theorem ext_back : Back extM eX (fun x => dbad 2 0 65535 x.2.length) := fun x r o h => by
  have e : eX x ++ r = beN 2 x.1.toNat ++ (wput 2 [] x.2 ++ r) := by rw [eX, List.append_assoc]
  have hk := tk_back (wput 2 [] x.2 ++ r) (beN_len 2 x.1.toNat)
  have hl := ls_back (x := 0) (y := 65535) r h
  rw [extM, e, nb_back _ (u16_256 _), hk.2.1, hk.2.2, hl.1, hl.2.1, hl.2.2, UInt16.ofNat_toNat]
theorem eX_ne (x : EX) : eX x ≠ [] := fun g => by
  have := congrArg List.length g
  rw [eX, List.length_append, beN_len] at this
  simp at this
def eXs (ps : List EX) : Bs := wput 2 [] (List.flatMap eX ps)
def bXs (ps : List EX) : Bool := (dupA ps || List.any ps (fun x => dbad 2 0 65535 x.2.length)) || dbad 2 0 16777215 (List.flatMap eX ps).length
theorem wexF_enc : Enc wexF eXs bXs := fun p ps => by rw [wexF, wd_eq, enc_all exF_enc, wput_0, eXs, bXs, Bool.or_assoc, Bool.or_assoc, Bool.or_assoc]
theorem exts_back : Back extsM eXs bXs := fun ps r o h => by
  rw [bXs, Bool.or_eq_false_iff, Bool.or_eq_false_iff] at h
  have hm := many_back (n := 2) (x := 0) ext_back eX_ne r o h.1.2 h.2
  rw [extsM, eXs, hm, h.1.1, Bool.or_false]
def eCr (x : CE) : Bs := wput 3 [] x.1 ++ eXs x.2
def bCr (x : CE) : Bool := dbad 3 1 16777215 x.1.length || bXs x.2
theorem crF_enc : Enc crF eCr bCr := fun p x => by rw [crF, wexF_enc, wd_eq, wput_0, eCr, bCr, List.append_assoc, Bool.or_assoc]
def eCm (x : Bs × List CE) : Bs := wput 1 [] x.1 ++ wput 3 [] (List.flatMap eCr x.2)
def bCm (x : Bs × List CE) : Bool := (dbad 1 0 255 x.1.length || List.any x.2 bCr) || dbad 3 0 16777215 (List.flatMap eCr x.2).length
theorem certF_enc : Enc certF eCm bCm := fun p x => by rw [certF, wd_eq, wd_eq, enc_all crF_enc, wput_0, wput_0 1, eCm, bCm, List.append_assoc, Bool.or_assoc, Bool.or_assoc, Bool.or_assoc]
theorem u32_256 (v : UInt32) : v.toNat < 256 ^ 4 := v.toNat_lt
theorem al_ne (x : Bs) : wput 1 [] x ≠ [] := fun g => by
  have := congrArg List.length g
  rw [wput_len] at this
  simp at this
end Go.Proofs.Ytofecellbfhnjaa

/- Layer 17: greetings are begun; the question of the last one. -/


namespace Go.Proofs.Ytofecellbfhnjaa
open Go.Dbr
set_option maxRecDepth 100000
set_option maxHeartbeats 2000000
set_option linter.unusedVariables false
set_option linter.unusedSimpArgs false

/-- so many bytes, noughts behind -/
def pad32 (l : Bs) : Bs := l ++ List.drop l.length (List.replicate 32 0)
theorem pad32_len {l : Bs} (h : l.length ≤ 32) : (pad32 l).length = 32 := by rw [pad32, List.length_append, List.length_drop, List.length_replicate]; omega
theorem copy_midl {ys old : Bs} {n : Nat} (h : old.length = n) (g : ys.length ≤ n) : (ys ++ List.drop ys.length old).length = n := by rw [List.length_append, List.length_drop]; omega
theorem copy_mid {pre post : List Value} {old ys : Bs} {o m : Nat} (hp : pre.length = o) (hm : m ≤ old.length) : List.take o (pre ++ (bys old ++ post)) ++ bys ys ++ List.drop (o + m) (pre ++ (bys old ++ post)) = pre ++ (bys (ys ++ List.drop m old) ++ post) := by
  have e : bys (ys ++ List.drop m old) = bys ys ++ List.drop m (bys old) := by simp [bys, List.map_append, List.map_drop]
  rw [← List.drop_drop, List.take_left' hp, List.drop_left' hp, List.drop_append_of_le_length (by rw [bys_length]; exact hm), e]
  simp [List.append_assoc]
def begM (l : Bs) (s o : Bool) : (UInt16 × Bs × Bs) × PS := ((UInt16.ofNat (nbV 2 l s), pad32 (tkO 32 (tkR 2 l s) (tkS 2 l s)), lsO 1 0 32 (tkR 32 (tkR 2 l s) (tkS 2 l s)) (tkS 32 (tkR 2 l s) (tkS 2 l s))), lsR 1 0 32 (tkR 32 (tkR 2 l s) (tkS 2 l s)) (tkS 32 (tkR 2 l s) (tkS 2 l s)), lsS 1 0 32 (tkR 32 (tkR 2 l s) (tkS 2 l s)) (tkS 32 (tkR 2 l s) (tkS 2 l s)), o)

theorem begun_go (w : World) (br : Nat) (a : Option Addr) (c : Nat) (l : List UInt8) (s o : Bool) (i : InB w [.box br [.slice a (List.length l) c, .bool s, .bool o] 120] a c l) (hH : Heap w [.box br [.slice a (List.length l) c, .bool s, .bool o] 120]) : Calls Try.prog 203 #[pt br] w fun e w' => ∃ ta tc xva alb oac occ blc, e = .returned (.agg (List.toArray (([uv16 xva] : List Value) ++ ((bys alb) ++ ([.slice oac (List.length blc) occ, .slice none 0 0, .slice none 0 0] : List Value))))) ∧ Ev w [.box br [.slice a (List.length l) c, .bool s, .bool o] 120] w' [.box br [.slice ta (List.length ((begM l s o).2.1)) tc, .bool ((begM l s o).2.2.1), .bool ((begM l s o).2.2.2)] 120, .vec oac occ 1 (bys blc) 5] ∧ Sub a c l ta tc (begM l s o).2.1 ∧ (xva, alb, blc) = (begM l s o).1 ∧ List.length alb = 32 ∧ List.length blc ≤ 4294967296 := by
 refine d_0 [(0, pt br)] 16 Go.Proofs.Try.func203 Go.Proofs.Try.ntmps203 (hH) fun act0 En0 Hv0 => ?_
 refine wp_seq ?_
 refine region_from ?_
 refine f_o ?_
 refine m_z 75 (([.int .u16 0] : List Value) ++ ((bys (List.replicate 32 0)) ++ ([.slice none 0 0, .slice none 0 0, .slice none 0 0] : List Value))) En0 Hv0 fun ac2 wo3 bk1 En4 Hv5 => ?_
 refine f_e ?_
 refine then_normal ?_
 refine wp_seq ?_
 refine region_from ?_
 refine d_k [0,2,4] [] 1 En4 fun ac6 En7 => ?_
 refine f_o ?_
 refine c_l [0] (M := [.box br [.slice a (List.length l) c, .bool s, .bool o] 120]) En7 Hv5 (fun hM11 => u16_go _ br a c l s o ((i.ev Hv5).pick [0] (by kernel_rfl)) hM11) ?_
 rintro _ wo12 ⟨ta8, tc9, rfl, he13, hs10⟩
 refine ⟨_, _, [.box br [.slice ta8 (List.length (tkR 2 l s)) tc9, .bool (tkS 2 l s), .bool o] 120, .box bk1 (([.int .u16 0] : List Value) ++ ((bys (List.replicate 32 0)) ++ ([.slice none 0 0, .slice none 0 0, .slice none 0 0] : List Value))) 75], rfl, he13, by kernel_rfl, fun ac15 En16 Hv17 => ?_⟩
 refine d_k [0,2,6] [] 3 En16 fun ac18 En19 => ?_
 refine f_o ?_
 refine m_z 75 (([.int .u16 0] : List Value) ++ ((bys (List.replicate 32 0)) ++ ([.slice none 0 0, .slice none 0 0, .slice none 0 0] : List Value))) En19 Hv17 fun ac21 wo22 bk20 En23 Hv24 => ?_
 refine f_o ?_
 refine m_g 2 0 36 (([.int .u16 ((UInt16.toNat (UInt16.ofNat (nbV 2 l s)) : Nat) : Int)] : List Value) ++ ((bys (List.replicate 32 0)) ++ ([.slice none 0 0, .slice none 0 0, .slice none 0 0] : List Value))) (([.int .u16 ((UInt16.toNat (UInt16.ofNat (nbV 2 l s)) : Nat) : Int)] : List Value) ++ ((bys (List.replicate 32 0)) ++ ([.slice none 0 0, .slice none 0 0, .slice none 0 0] : List Value))) [.box br [.slice ta8 (List.length (tkR 2 l s)) tc9, .bool (tkS 2 l s), .bool o] 120, .box bk1 (([.int .u16 0] : List Value) ++ ((bys (List.replicate 32 0)) ++ ([.slice none 0 0, .slice none 0 0, .slice none 0 0] : List Value))) 75, .box bk20 (([.int .u16 ((UInt16.toNat (UInt16.ofNat (nbV 2 l s)) : Nat) : Int)] : List Value) ++ ((bys (List.replicate 32 0)) ++ ([.slice none 0 0, .slice none 0 0, .slice none 0 0] : List Value))) 75] En23 Hv24 rfl (len_app rfl (len_app (bys_lenh (List.length_replicate)) rfl)) (by rw [(len_app rfl (len_app (bys_lenh (List.length_replicate)) rfl))]; first | decide | (simp; done)) (one_app (one_all (by kernel_rfl)) (one_app (bys_one _) (one_all (by kernel_rfl)))) (store_whole (len_app rfl (len_app (bys_lenh (List.length_replicate)) rfl))) rfl fun ac25 wo26 En27 Hv28 => ?_
 refine f_e ?_
 refine then_normal ?_
 refine wp_seq ?_
 refine r_c (fun ac wo => ∃ (ta78 : _) (tc79 : _), Env ac 16 [(0, pt br), (2, pt bk1), (3, pt bk20)] ∧ Ev w [.box br [.slice a (List.length l) c, .bool s, .bool o] 120] wo [.box br [.slice ta78 (List.length (tkR 32 (tkR 2 l s) (tkS 2 l s))) tc79, .bool (tkS 32 (tkR 2 l s) (tkS 2 l s)), .bool o] 120, .box bk1 (([.int .u16 0] : List Value) ++ ((bys (List.replicate 32 0)) ++ ([.slice none 0 0, .slice none 0 0, .slice none 0 0] : List Value))) 75, .box bk20 (([.int .u16 ((UInt16.toNat (UInt16.ofNat (nbV 2 l s)) : Nat) : Int)] : List Value) ++ ((bys ((tkO 32 (tkR 2 l s) (tkS 2 l s)) ++ List.drop (List.length (tkO 32 (tkR 2 l s) (tkS 2 l s))) (List.replicate 32 0))) ++ ([.slice none 0 0, .slice none 0 0, .slice none 0 0] : List Value))) 75] ∧ (Sub ta8 tc9 (tkR 2 l s) ta78 tc79 (tkR 32 (tkR 2 l s) (tkS 2 l s)))) ?_ ?_
 ·
  refine h_s (fun wv => Ev w [.box br [.slice a (List.length l) c, .bool s, .bool o] 120] wv [.box bk20 (([.int .u16 ((UInt16.toNat (UInt16.ofNat (nbV 2 l s)) : Nat) : Int)] : List Value) ++ ((bys (List.replicate 32 0)) ++ ([.slice none 0 0, .slice none 0 0, .slice none 0 0] : List Value))) 75]) [4] 5 ?_
  have wo29 := Hv28.trans (Ev.drew Hv28.heap)
  refine h_name fun G hG => ?_
  have nd114 : ∀ (ac : Act) (wo : World), Env ac 16 [(0, pt br), (2, pt bk1), (3, pt bk20), (8, .slice (some ⟨bk20, 1, none⟩) 32 32), (9, pt br)] → Ev w [.box br [.slice a (List.length l) c, .bool s, .bool o] 120] wo [.box br [.slice ta8 (List.length (tkR 2 l s)) tc9, .bool (tkS 2 l s), .bool o] 120, .box bk1 (([.int .u16 0] : List Value) ++ ((bys (List.replicate 32 0)) ++ ([.slice none 0 0, .slice none 0 0, .slice none 0 0] : List Value))) 75, .box bk20 (([.int .u16 ((UInt16.toNat (UInt16.ofNat (nbV 2 l s)) : Nat) : Int)] : List Value) ++ ((bys (List.replicate 32 0)) ++ ([.slice none 0 0, .slice none 0 0, .slice none 0 0] : List Value))) 75] → G 2 #[true, true, true, false, false] ac wo := by
   intro ac115 wo116 En117 Hv118
   refine h_from hG ?_
   refine q_t 3 ?_
   refine c_l [0] (M := [.box br [.slice ta8 (List.length (tkR 2 l s)) tc9, .bool (tkS 2 l s), .bool o] 120]) En117 Hv118 (fun hM125 => take_go _ br 32 (by omega) ta8 tc9 (tkR 2 l s) (tkS 2 l s) o (hs10 _ _ ((i.ev Hv118).pick [0] (by kernel_rfl))) hM125) ?_
   rintro _ wo126 ⟨ra119, rc120, ta121, tc122, rfl, he127, hs123, hs124⟩
   refine ⟨_, _, [.box br [.slice ta121 (List.length (tkR 32 (tkR 2 l s) (tkS 2 l s))) tc122, .bool (tkS 32 (tkR 2 l s) (tkS 2 l s)), .bool o] 120, .box bk1 (([.int .u16 0] : List Value) ++ ((bys (List.replicate 32 0)) ++ ([.slice none 0 0, .slice none 0 0, .slice none 0 0] : List Value))) 75, .box bk20 (([.int .u16 ((UInt16.toNat (UInt16.ofNat (nbV 2 l s)) : Nat) : Int)] : List Value) ++ ((bys (List.replicate 32 0)) ++ ([.slice none 0 0, .slice none 0 0, .slice none 0 0] : List Value))) 75], rfl, he127, by kernel_rfl, fun ac129 En130 Hv131 => ?_⟩
   refine ⟨fun _ => Hv131.pk [2], ?_⟩
   refine q_t 4 ?_
   have hx32 : List.length (tkO 32 (tkR 2 l s) (tkS 2 l s)) ≤ 32 := tkO_len _ _ _
   have hcy132 : Nat.min (List.length (tkO 32 (tkR 2 l s) (tkS 2 l s))) 32 = List.length (tkO 32 (tkR 2 l s) (tkS 2 l s)) := by show min _ _ = _; omega
   refine op_copybox (d := some 11) (dT := 23) (sT := 23) (ty := 3) (elem := 5) (b := bk20) (off := 1) (k := 2) (m := List.length (tkO 32 (tkR 2 l s) (tkS 2 l s))) (xs := bys (tkO 32 (tkR 2 l s) (tkS 2 l s))) (ys := bys (tkO 32 (tkR 2 l s) (tkS 2 l s))) (dLen := 32) (dCap := 32) (so := ra119) (sLen := List.length (tkO 32 (tkR 2 l s) (tkS 2 l s))) (sCap := rc120) En130 (by kernel_rfl) Hv131 rfl (by kernel_rfl) (by kernel_rfl) ((hs123 _ [] (hs10 _ [] ((i.ev Hv131).pick [] (by kernel_rfl))))).reads ((hs123 _ [] (hs10 _ [] ((i.ev Hv131).pick [] (by kernel_rfl))))).nz hcy132 (List.take_of_length_le (by rw [bys_length]; omega)) (bys_length _) (by simp only [List.length_append, bys_length, List.length_cons, List.length_nil]; rw [(List.length_replicate)]; omega) (bys_one _) (cs' := ([.int .u16 ((UInt16.toNat (UInt16.ofNat (nbV 2 l s)) : Nat) : Int)] : List Value) ++ ((bys ((tkO 32 (tkR 2 l s) (tkS 2 l s)) ++ List.drop (List.length (tkO 32 (tkR 2 l s) (tkS 2 l s))) (List.replicate 32 0))) ++ ([.slice none 0 0, .slice none 0 0, .slice none 0 0] : List Value))) (copy_mid rfl (by rw [(List.length_replicate)]; omega)) (L' := [.box br [.slice ta121 (List.length (tkR 32 (tkR 2 l s) (tkS 2 l s))) tc122, .bool (tkS 32 (tkR 2 l s) (tkS 2 l s)), .bool o] 120, .box bk1 (([.int .u16 0] : List Value) ++ ((bys (List.replicate 32 0)) ++ ([.slice none 0 0, .slice none 0 0, .slice none 0 0] : List Value))) 75, .box bk20 (([.int .u16 ((UInt16.toNat (UInt16.ofNat (nbV 2 l s)) : Nat) : Int)] : List Value) ++ ((bys ((tkO 32 (tkR 2 l s) (tkS 2 l s)) ++ List.drop (List.length (tkO 32 (tkR 2 l s) (tkS 2 l s))) (List.replicate 32 0))) ++ ([.slice none 0 0, .slice none 0 0, .slice none 0 0] : List Value))) 75]) rfl ?_
   intro ac133 wo134  En135 Hv136
   refine ⟨q_y, ?_⟩
   exact h_e ⟨ta121, tc122, En135.sb, Hv136.pk [0, 1, 2], hs124⟩
  have nd137 : ∀ (ac : Act) (wo : World) (ra94 : _) (rc95 : _) (ta96 : _) (tc97 : _), Env ac 16 [(0, pt br), (2, pt bk1), (3, pt bk20), (7, .pointer (some ⟨bk20, 1, none⟩)), (10, .slice ra94 (List.length (tkO 32 (tkR 2 l s) (tkS 2 l s))) rc95)] → Ev w [.box br [.slice a (List.length l) c, .bool s, .bool o] 120] wo [.box br [.slice ta96 (List.length (tkR 32 (tkR 2 l s) (tkS 2 l s))) tc97, .bool (tkS 32 (tkR 2 l s) (tkS 2 l s)), .bool o] 120, .box bk1 (([.int .u16 0] : List Value) ++ ((bys (List.replicate 32 0)) ++ ([.slice none 0 0, .slice none 0 0, .slice none 0 0] : List Value))) 75, .box bk20 (([.int .u16 ((UInt16.toNat (UInt16.ofNat (nbV 2 l s)) : Nat) : Int)] : List Value) ++ ((bys (List.replicate 32 0)) ++ ([.slice none 0 0, .slice none 0 0, .slice none 0 0] : List Value))) 75] → (Sub ta8 tc9 (tkR 2 l s) ra94 rc95 (tkO 32 (tkR 2 l s) (tkS 2 l s))) → (Sub ta8 tc9 (tkR 2 l s) ta96 tc97 (tkR 32 (tkR 2 l s) (tkS 2 l s))) → G 2 #[true, false, true, true, false] ac wo := by
   intro ac138 wo139 ra94 rc95 ta96 tc97 En140 Hv141 hs98 hs99
   refine h_from hG ?_
   refine q_t 1 ?_
   refine op_slicearr (d := some 8) (t := 29) (e := 5) (sz := 1) (m := 32) (lo := 0) (hi := 32) (b := bk20) (off := 1) (lov := none) (hiv := none) (o := 1) En140 (by kernel_rfl) (by kernel_rfl) (by kernel_rfl) (by omega) (by omega) (by omega) (.inl ⟨rfl, rfl⟩) (.inl ⟨rfl, rfl⟩) (by omega) ?_
   intro ac142 En143
   refine ⟨fun _ => Hv141.pk [2], ?_⟩
   refine q_t 4 ?_
   have hx32 : List.length (tkO 32 (tkR 2 l s) (tkS 2 l s)) ≤ 32 := tkO_len _ _ _
   have hcy144 : Nat.min (List.length (tkO 32 (tkR 2 l s) (tkS 2 l s))) 32 = List.length (tkO 32 (tkR 2 l s) (tkS 2 l s)) := by show min _ _ = _; omega
   refine op_copybox (d := some 11) (dT := 23) (sT := 23) (ty := 3) (elem := 5) (b := bk20) (off := 1) (k := 2) (m := List.length (tkO 32 (tkR 2 l s) (tkS 2 l s))) (xs := bys (tkO 32 (tkR 2 l s) (tkS 2 l s))) (ys := bys (tkO 32 (tkR 2 l s) (tkS 2 l s))) (dLen := 32) (dCap := 32) (so := ra94) (sLen := List.length (tkO 32 (tkR 2 l s) (tkS 2 l s))) (sCap := rc95) En143 (by kernel_rfl) Hv141 rfl (by kernel_rfl) (by kernel_rfl) ((hs98 _ [] (hs10 _ [] ((i.ev Hv141).pick [] (by kernel_rfl))))).reads ((hs98 _ [] (hs10 _ [] ((i.ev Hv141).pick [] (by kernel_rfl))))).nz hcy144 (List.take_of_length_le (by rw [bys_length]; omega)) (bys_length _) (by simp only [List.length_append, bys_length, List.length_cons, List.length_nil]; rw [(List.length_replicate)]; omega) (bys_one _) (cs' := ([.int .u16 ((UInt16.toNat (UInt16.ofNat (nbV 2 l s)) : Nat) : Int)] : List Value) ++ ((bys ((tkO 32 (tkR 2 l s) (tkS 2 l s)) ++ List.drop (List.length (tkO 32 (tkR 2 l s) (tkS 2 l s))) (List.replicate 32 0))) ++ ([.slice none 0 0, .slice none 0 0, .slice none 0 0] : List Value))) (copy_mid rfl (by rw [(List.length_replicate)]; omega)) (L' := [.box br [.slice ta96 (List.length (tkR 32 (tkR 2 l s) (tkS 2 l s))) tc97, .bool (tkS 32 (tkR 2 l s) (tkS 2 l s)), .bool o] 120, .box bk1 (([.int .u16 0] : List Value) ++ ((bys (List.replicate 32 0)) ++ ([.slice none 0 0, .slice none 0 0, .slice none 0 0] : List Value))) 75, .box bk20 (([.int .u16 ((UInt16.toNat (UInt16.ofNat (nbV 2 l s)) : Nat) : Int)] : List Value) ++ ((bys ((tkO 32 (tkR 2 l s) (tkS 2 l s)) ++ List.drop (List.length (tkO 32 (tkR 2 l s) (tkS 2 l s))) (List.replicate 32 0))) ++ ([.slice none 0 0, .slice none 0 0, .slice none 0 0] : List Value))) 75]) rfl ?_
   intro ac145 wo146  En147 Hv148
   refine ⟨q_y, ?_⟩
   exact h_e ⟨ta96, tc97, En147.sb, Hv148.pk [0, 1, 2], hs99⟩
  refine h_from hG ?_
  refine q_s [0,2] [] 3 En27 (wo29.pk [2]) fun ac149 En150 => ?_
  refine h_ways [1, 3] (by kernel_rfl) rfl ?_
  refine ⟨?_, ?_, trivial⟩
  ·
   rintro _ rfl
   refine op_slicearr (d := some 8) (t := 29) (e := 5) (sz := 1) (m := 32) (lo := 0) (hi := 32) (b := bk20) (off := 1) (lov := none) (hiv := none) (o := 1) En150 (by kernel_rfl) (by kernel_rfl) (by kernel_rfl) (by omega) (by omega) (by omega) (.inl ⟨rfl, rfl⟩) (.inl ⟨rfl, rfl⟩) (by omega) ?_
   intro ac151 En152
   refine ⟨fun _ => wo29.pk [2], ?_⟩
   exact h_to hG (by kernel_rfl) (nd114 _ _ (En152.sb) (wo29.pk [0, 1, 2]))
  ·
   rintro _ rfl
   refine c_l [0] (M := [.box br [.slice ta8 (List.length (tkR 2 l s)) tc9, .bool (tkS 2 l s), .bool o] 120]) En150 wo29 (fun hM159 => take_go _ br 32 (by omega) ta8 tc9 (tkR 2 l s) (tkS 2 l s) o (hs10 _ _ ((i.ev wo29).pick [0] (by kernel_rfl))) hM159) ?_
   rintro _ wo160 ⟨ra153, rc154, ta155, tc156, rfl, he161, hs157, hs158⟩
   refine ⟨_, _, [.box br [.slice ta155 (List.length (tkR 32 (tkR 2 l s) (tkS 2 l s))) tc156, .bool (tkS 32 (tkR 2 l s) (tkS 2 l s)), .bool o] 120, .box bk1 (([.int .u16 0] : List Value) ++ ((bys (List.replicate 32 0)) ++ ([.slice none 0 0, .slice none 0 0, .slice none 0 0] : List Value))) 75, .box bk20 (([.int .u16 ((UInt16.toNat (UInt16.ofNat (nbV 2 l s)) : Nat) : Int)] : List Value) ++ ((bys (List.replicate 32 0)) ++ ([.slice none 0 0, .slice none 0 0, .slice none 0 0] : List Value))) 75], rfl, he161, by kernel_rfl, fun ac163 En164 Hv165 => ?_⟩
   refine ⟨fun _ => Hv165.pk [2], ?_⟩
   exact h_to hG (by kernel_rfl) (nd137 _ _ ra153 rc154 ta155 tc156 (En164.sb) (Hv165.pk [0, 1, 2]) hs157 hs158)
 rintro ac166 wo167 ⟨ta78, tc79, En168, Hv169, hs81⟩
 refine then_normal ?_
 refine wp_seq ?_
 refine region_from ?_
 refine d_k [0,2,3,12] [] 1 En168 fun ac170 En171 => ?_
 refine f_o ?_
 refine c_l [0] (M := [.box br [.slice ta78 (List.length (tkR 32 (tkR 2 l s) (tkS 2 l s))) tc79, .bool (tkS 32 (tkR 2 l s) (tkS 2 l s)), .bool o] 120]) En171 Hv169 (fun hM177 => list_go _ br 1 (by omega) 0 32 (by omega) (by omega) ta78 tc79 (tkR 32 (tkR 2 l s) (tkS 2 l s)) (tkS 32 (tkR 2 l s) (tkS 2 l s)) o (hs81 _ _ (hs10 _ _ ((i.ev Hv169).pick [0] (by kernel_rfl)))) hM177) ?_
 rintro _ wo178 ⟨ao172, cp173, ta174, tc175, rfl, he179, hs176⟩
 refine ⟨_, _, [.box br [.slice ta174 (List.length (lsR 1 0 32 (tkR 32 (tkR 2 l s) (tkS 2 l s)) (tkS 32 (tkR 2 l s) (tkS 2 l s)))) tc175, .bool (lsS 1 0 32 (tkR 32 (tkR 2 l s) (tkS 2 l s)) (tkS 32 (tkR 2 l s) (tkS 2 l s))), .bool o] 120, .vec ao172 cp173 1 (bys (lsO 1 0 32 (tkR 32 (tkR 2 l s) (tkS 2 l s)) (tkS 32 (tkR 2 l s) (tkS 2 l s)))) 5, .box bk1 (([.int .u16 0] : List Value) ++ ((bys (List.replicate 32 0)) ++ ([.slice none 0 0, .slice none 0 0, .slice none 0 0] : List Value))) 75, .box bk20 (([.int .u16 ((UInt16.toNat (UInt16.ofNat (nbV 2 l s)) : Nat) : Int)] : List Value) ++ ((bys ((tkO 32 (tkR 2 l s) (tkS 2 l s)) ++ List.drop (List.length (tkO 32 (tkR 2 l s) (tkS 2 l s))) (List.replicate 32 0))) ++ ([.slice none 0 0, .slice none 0 0, .slice none 0 0] : List Value))) 75], rfl, he179, by kernel_rfl, fun ac181 En182 Hv183 => ?_⟩
 refine d_k [0,2,3,13,14] [] 3 En182 fun ac184 En185 => ?_
 refine f_o ?_
 refine m_t 3 33 (.slice ao172 (List.length (lsO 1 0 32 (tkR 32 (tkR 2 l s) (tkS 2 l s)) (tkS 32 (tkR 2 l s) (tkS 2 l s)))) cp173) [.box br [.slice ta174 (List.length (lsR 1 0 32 (tkR 32 (tkR 2 l s) (tkS 2 l s)) (tkS 32 (tkR 2 l s) (tkS 2 l s)))) tc175, .bool (lsS 1 0 32 (tkR 32 (tkR 2 l s) (tkS 2 l s)) (tkS 32 (tkR 2 l s) (tkS 2 l s))), .bool o] 120, .vec ao172 cp173 1 (bys (lsO 1 0 32 (tkR 32 (tkR 2 l s) (tkS 2 l s)) (tkS 32 (tkR 2 l s) (tkS 2 l s)))) 5, .box bk1 (([.int .u16 0] : List Value) ++ ((bys (List.replicate 32 0)) ++ ([.slice none 0 0, .slice none 0 0, .slice none 0 0] : List Value))) 75, .box bk20 (([.int .u16 ((UInt16.toNat (UInt16.ofNat (nbV 2 l s)) : Nat) : Int)] : List Value) ++ ((bys ((tkO 32 (tkR 2 l s) (tkS 2 l s)) ++ List.drop (List.length (tkO 32 (tkR 2 l s) (tkS 2 l s))) (List.replicate 32 0))) ++ ([.slice ao172 (List.length (lsO 1 0 32 (tkR 32 (tkR 2 l s) (tkS 2 l s)) (tkS 32 (tkR 2 l s) (tkS 2 l s)))) cp173, .slice none 0 0, .slice none 0 0] : List Value))) 75] En185 Hv183 rfl (seg_skip (n := 1) (j := 32) rfl (seg_skip (n := 32) (j := 0) (bys_lenh (copy_midl (List.length_replicate) (tkO_len _ _ _))) rfl)) ((set_skip (n := 1) (j := 32) rfl).trans (congrArg (([.int .u16 ((UInt16.toNat (UInt16.ofNat (nbV 2 l s)) : Nat) : Int)] : List Value) ++ ·) ((set_skip (n := 32) (j := 0) (bys_lenh (copy_midl (List.length_replicate) (tkO_len _ _ _)))).trans (congrArg ((bys ((tkO 32 (tkR 2 l s) (tkS 2 l s)) ++ List.drop (List.length (tkO 32 (tkR 2 l s) (tkS 2 l s))) (List.replicate 32 0))) ++ ·) rfl)))) rfl fun ac186 wo187 En188 Hv189 => ?_
 refine f_e ?_
 refine then_normal ?_
 refine wp_seq ?_
 refine region_from ?_
 refine f_o ?_
 refine m_a 3 0 36 (([.int .u16 ((UInt16.toNat (UInt16.ofNat (nbV 2 l s)) : Nat) : Int)] : List Value) ++ ((bys ((tkO 32 (tkR 2 l s) (tkS 2 l s)) ++ List.drop (List.length (tkO 32 (tkR 2 l s) (tkS 2 l s))) (List.replicate 32 0))) ++ ([.slice ao172 (List.length (lsO 1 0 32 (tkR 32 (tkR 2 l s) (tkS 2 l s)) (tkS 32 (tkR 2 l s) (tkS 2 l s)))) cp173, .slice none 0 0, .slice none 0 0] : List Value))) En188 Hv189 rfl (load_whole (len_app rfl (len_app (bys_lenh (copy_midl (List.length_replicate) (tkO_len _ _ _))) rfl))) (len_app rfl (len_app (bys_lenh (copy_midl (List.length_replicate) (tkO_len _ _ _))) rfl)) fun ac190 En191 => ?_
 refine f_o ?_
 refine m_g 2 0 36 (([.int .u16 ((UInt16.toNat (UInt16.ofNat (nbV 2 l s)) : Nat) : Int)] : List Value) ++ ((bys ((tkO 32 (tkR 2 l s) (tkS 2 l s)) ++ List.drop (List.length (tkO 32 (tkR 2 l s) (tkS 2 l s))) (List.replicate 32 0))) ++ ([.slice ao172 (List.length (lsO 1 0 32 (tkR 32 (tkR 2 l s) (tkS 2 l s)) (tkS 32 (tkR 2 l s) (tkS 2 l s)))) cp173, .slice none 0 0, .slice none 0 0] : List Value))) (([.int .u16 ((UInt16.toNat (UInt16.ofNat (nbV 2 l s)) : Nat) : Int)] : List Value) ++ ((bys ((tkO 32 (tkR 2 l s) (tkS 2 l s)) ++ List.drop (List.length (tkO 32 (tkR 2 l s) (tkS 2 l s))) (List.replicate 32 0))) ++ ([.slice ao172 (List.length (lsO 1 0 32 (tkR 32 (tkR 2 l s) (tkS 2 l s)) (tkS 32 (tkR 2 l s) (tkS 2 l s)))) cp173, .slice none 0 0, .slice none 0 0] : List Value))) [.box br [.slice ta174 (List.length (lsR 1 0 32 (tkR 32 (tkR 2 l s) (tkS 2 l s)) (tkS 32 (tkR 2 l s) (tkS 2 l s)))) tc175, .bool (lsS 1 0 32 (tkR 32 (tkR 2 l s) (tkS 2 l s)) (tkS 32 (tkR 2 l s) (tkS 2 l s))), .bool o] 120, .vec ao172 cp173 1 (bys (lsO 1 0 32 (tkR 32 (tkR 2 l s) (tkS 2 l s)) (tkS 32 (tkR 2 l s) (tkS 2 l s)))) 5, .box bk1 (([.int .u16 ((UInt16.toNat (UInt16.ofNat (nbV 2 l s)) : Nat) : Int)] : List Value) ++ ((bys ((tkO 32 (tkR 2 l s) (tkS 2 l s)) ++ List.drop (List.length (tkO 32 (tkR 2 l s) (tkS 2 l s))) (List.replicate 32 0))) ++ ([.slice ao172 (List.length (lsO 1 0 32 (tkR 32 (tkR 2 l s) (tkS 2 l s)) (tkS 32 (tkR 2 l s) (tkS 2 l s)))) cp173, .slice none 0 0, .slice none 0 0] : List Value))) 75, .box bk20 (([.int .u16 ((UInt16.toNat (UInt16.ofNat (nbV 2 l s)) : Nat) : Int)] : List Value) ++ ((bys ((tkO 32 (tkR 2 l s) (tkS 2 l s)) ++ List.drop (List.length (tkO 32 (tkR 2 l s) (tkS 2 l s))) (List.replicate 32 0))) ++ ([.slice ao172 (List.length (lsO 1 0 32 (tkR 32 (tkR 2 l s) (tkS 2 l s)) (tkS 32 (tkR 2 l s) (tkS 2 l s)))) cp173, .slice none 0 0, .slice none 0 0] : List Value))) 75] En191 Hv189 rfl (len_app rfl (len_app (bys_lenh (copy_midl (List.length_replicate) (tkO_len _ _ _))) rfl)) (by rw [(len_app rfl (len_app (bys_lenh (List.length_replicate)) rfl))]; first | decide | (simp; done)) (one_app (one_all (by kernel_rfl)) (one_app (bys_one _) (one_all (by kernel_rfl)))) (store_whole (len_app rfl (len_app (bys_lenh (List.length_replicate)) rfl))) rfl fun ac192 wo193 En194 Hv195 => ?_
 refine f_e ?_
 refine then_normal ?_
 refine wp_ret ?_
 refine d_cell1 (v := .agg (List.toArray (([.int .u16 ((UInt16.toNat (UInt16.ofNat (nbV 2 l s)) : Nat) : Int)] : List Value) ++ ((bys ((tkO 32 (tkR 2 l s) (tkS 2 l s)) ++ List.drop (List.length (tkO 32 (tkR 2 l s) (tkS 2 l s))) (List.replicate 32 0))) ++ ([.slice ao172 (List.length (lsO 1 0 32 (tkR 32 (tkR 2 l s) (tkS 2 l s)) (tkS 32 (tkR 2 l s) (tkS 2 l s)))) cp173, .slice none 0 0, .slice none 0 0] : List Value))))) (t := 2) (T := 75) (ad := ⟨bk1, 0, none⟩) En194 (by kernel_rfl) (by kernel_rfl) (Ev.cellAgg (t := 75) (k := 2) (off := 0) (m := 36) (xs := ([.int .u16 ((UInt16.toNat (UInt16.ofNat (nbV 2 l s)) : Nat) : Int)] : List Value) ++ ((bys ((tkO 32 (tkR 2 l s) (tkS 2 l s)) ++ List.drop (List.length (tkO 32 (tkR 2 l s) (tkS 2 l s))) (List.replicate 32 0))) ++ ([.slice ao172 (List.length (lsO 1 0 32 (tkR 32 (tkR 2 l s) (tkS 2 l s)) (tkS 32 (tkR 2 l s) (tkS 2 l s)))) cp173, .slice none 0 0, .slice none 0 0] : List Value))) Hv195 rfl (load_whole (len_app rfl (len_app (bys_lenh (copy_midl (List.length_replicate) (tkO_len _ _ _))) rfl))) (len_app rfl (len_app (bys_lenh (copy_midl (List.length_replicate) (tkO_len _ _ _))) rfl)) (by kernel_rfl) (by kernel_rfl)) ?_
 exact ⟨ta174, tc175, (UInt16.ofNat (nbV 2 l s)), ((tkO 32 (tkR 2 l s) (tkS 2 l s)) ++ List.drop (List.length (tkO 32 (tkR 2 l s) (tkS 2 l s))) (List.replicate 32 0)), ao172, cp173, (lsO 1 0 32 (tkR 32 (tkR 2 l s) (tkS 2 l s)) (tkS 32 (tkR 2 l s) (tkS 2 l s))), rfl, Hv195.pk [0, 1], ((hs10.trans hs81).trans hs176), rfl, (pad32_len (tkO_len _ _ _)), (Nat.le_of_succ_le (lsO_32 (by decide) _ _))⟩

end Go.Proofs.Ytofecellbfhnjaa
