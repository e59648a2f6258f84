/- Layer 17: offered tickets are read by the program: all of a body. -/
import Derived.Test.YtofecellbfhnjaaW19
namespace Go.Proofs.Ytofecellbfhnjaa
open Go.Dbr
set_option maxRecDepth 100000
set_option maxHeartbeats 2000000
set_option linter.unusedVariables false
set_option linter.unusedSimpArgs false

theorem got_getpsks (w : World) (bn : Nat) (v0 : Int) (a : Option Addr) (c : Nat) (l : Bs) (i : InB w [.box bn [.int .i64 v0] 3] a c l) (hH : Heap w [.box bn [.int .i64 v0] 3]) : Calls Try.prog 164 #[.slice a (List.length l) c, .func (.func 165) #[] #[pt bn]] w fun e w' => ∃ oa oc xs, e = .returned (.tuple #[.slice oa (List.length xs) oc, .int .i64 (gotA (pskM l false false))]) ∧ Ev w [.box bn [.int .i64 v0] 3] w' [.box bn [.int .i64 ((List.length (pskO l false false).2.1 : Nat) : Int)] 3, .vec oa oc 3 (List.flatMap fPsk xs) 140, .grp (List.flatMap innPsk xs)] ∧ List.map puPsk xs = gotV [] (pskM l false false) ∧ List.length xs ≤ 4294967296 ∧ ∀ y ∈ xs, (List.length y.1.l ≤ 140737488351232 ∧ List.length y.2.2.1.l ≤ 140737488351232) := by
 refine d_0 [(0, .slice a (List.length l) c), (1, .func (.func 165) #[] #[pt bn])] 36 Go.Proofs.Try.func164 Go.Proofs.Try.ntmps164 (hH) fun act0 En0 Hv0 => ?_
 refine d_s [0,1,4,5] [] En0 fun ac1 En2 => ?_
 refine d_s [0,1,4,5,6] [] En2 fun ac3 En4 => ?_
 refine wp_seq ?_
 refine region_from ?_
 refine d_k [1,4,5,6,10] [] 2 En4 fun ac5 En6 => ?_
 refine f_o ?_
 refine m_m 120 [.slice a (List.length l) c, .bool false, .bool false] En6 Hv0 fun ac8 wo9 bk7 En10 Hv11 => ?_
 refine d_e [1,4,5,6,7] [] En10 fun ac12 En13 => ?_
 refine then_normal ?_
 refine wp_seq ?_
 refine region_from ?_
 refine d_k [4,5,6,7,12,13] [] 2 En13 fun ac14 En15 => ?_
 refine f_o ?_
 refine c_l [1,0] (M := [.box bk7 [.slice a (List.length l) c, .bool false, .bool false] 120, .box bn [.int .i64 v0] 3]) En15 Hv11 (fun hM25 => getpsks1 _ bk7 bn v0 a c l false false ((i.ev Hv11).pick [1, 0] (by kernel_rfl)) hM25) ?_
 rintro _ wo26 ⟨ta16, tc17, oa20, oc21, xs22, rfl, he27, hs18, hpu19, hf23, hf24⟩
 refine ⟨_, _, [.box bk7 [.slice ta16 (List.length ((pskM l false false).2.1)) tc17, .bool ((pskM l false false).2.2.1), .bool ((pskM l false false).2.2.2)] 120, .box bn [.int .i64 ((List.length (pskO l false false).2.1 : Nat) : Int)] 3, .vec oa20 oc21 3 (List.flatMap fPsk xs22) 140, .grp (List.flatMap innPsk xs22)], rfl, he27, by kernel_rfl, fun ac29 En30 Hv31 => ?_⟩
 refine d_e [4,5,6,7,8] [] En30 fun ac32 En33 => ?_
 refine then_normal ?_
 refine wp_seq ?_
 refine wp_block ?_
 refine wp_seq ?_
 refine region_from ?_
 refine d_k [4,5,6,7,8,18] [] 3 En33 fun ac34 En35 => ?_
 refine f_o ?_
 refine m_l 0 En35 Hv31 fun ac36 En37 => ?_
 refine d_k [4,5,6,7,8,20] [] 5 En37 fun ac38 En39 => ?_
 rcases Bool.eq_false_or_eq_true ((pskM l false false).2.2.1) with hb40 | hb40
 ·
  have En41 := En39.fx (t := 20) (congrArg Value.bool hb40)
  have hp42 : (pskM l false false).2.2.1 = true := hb40
  refine d_e [4,5,6,7,8,15] [] En41 fun ac43 En44 => ?_
  refine then_normal ?_
  refine c_t En44 ?_
  refine d_s [4,5,6,7,8] [] En44 fun ac45 En46 => ?_
  refine wp_ret ?_
  refine block_ret ?_
  refine then_ret ?_
  refine d_ret2 (t := 4) (u := 5) (v := .slice none 0 0) (x := .int .i64 50) En46 (by kernel_rfl) (by kernel_rfl) (by kernel_rfl) ?_
  have eA : gotA (pskM l false false) = 50 := Eq.symm (by first | exact end_1 (by assumption) | exact end_2 (by omega) | exact end_3 (by assumption) (by omega) (by assumption))
  rw [gotV_n eA (by decide), eA]
  have Hv47 : Ev w [.box bn [.int .i64 v0] 3] wo26 [.box bk7 [.slice ta16 (List.length ((pskM l false false).2.1)) tc17, .bool ((pskM l false false).2.2.1), .bool ((pskM l false false).2.2.2)] 120, .box bn [.int .i64 ((List.length (pskO l false false).2.1 : Nat) : Int)] 3, .vec oa20 oc21 3 (List.flatMap fPsk xs22) 140, .grp (List.flatMap innPsk xs22), .vec none 0 3 (List.flatMap fPsk []) 140] := Ev.nil (sz := 3) (T := 140) Hv31
  have Hv48 : Ev w [.box bn [.int .i64 v0] 3] wo26 [.box bk7 [.slice ta16 (List.length ((pskM l false false).2.1)) tc17, .bool ((pskM l false false).2.2.1), .bool ((pskM l false false).2.2.2)] 120, .box bn [.int .i64 ((List.length (pskO l false false).2.1 : Nat) : Int)] 3, .vec oa20 oc21 3 (List.flatMap fPsk xs22) 140, .grp (List.flatMap innPsk xs22), .vec none 0 3 (List.flatMap fPsk []) 140, .grp (List.flatMap innPsk [])] := Ev.grp0 Hv47
  exact ⟨none, 0, [], rfl, Hv48.pk [1, 4, 5], rfl, (Nat.zero_le _), (fun y hy => by cases hy)⟩
 ·
  have En49 := En39.fx (t := 20) (congrArg Value.bool hb40)
  have hp50 : ¬ ((pskM l false false).2.2.1 = true) := Bool.eq_false_iff.1 hb40
  refine d_k [4,5,6,7,8,20,23] [] 8 En49 fun ac51 En52 => ?_
  refine f_o ?_
  refine m_l 0 En52 Hv31 fun ac53 En54 => ?_
  refine d_e [4,5,6,7,8,15] [] En54 fun ac55 En56 => ?_
  refine then_normal ?_
  refine c_d (((List.length ((pskM l false false).2.1) : Nat) : Int) > (0 : Int)) En56 (fun hc57 => ?_) (fun hc57 => ?_)
  ·
   refine d_s [4,5,6,7,8] [] En56 fun ac58 En59 => ?_
   refine wp_ret ?_
   refine block_ret ?_
   refine then_ret ?_
   refine d_ret2 (t := 4) (u := 5) (v := .slice none 0 0) (x := .int .i64 50) En59 (by kernel_rfl) (by kernel_rfl) (by kernel_rfl) ?_
   have eA : gotA (pskM l false false) = 50 := Eq.symm (by first | exact end_1 (by assumption) | exact end_2 (by omega) | exact end_3 (by assumption) (by omega) (by assumption))
   rw [gotV_n eA (by decide), eA]
   have Hv60 : Ev w [.box bn [.int .i64 v0] 3] wo26 [.box bk7 [.slice ta16 (List.length ((pskM l false false).2.1)) tc17, .bool ((pskM l false false).2.2.1), .bool ((pskM l false false).2.2.2)] 120, .box bn [.int .i64 ((List.length (pskO l false false).2.1 : Nat) : Int)] 3, .vec oa20 oc21 3 (List.flatMap fPsk xs22) 140, .grp (List.flatMap innPsk xs22), .vec none 0 3 (List.flatMap fPsk []) 140] := Ev.nil (sz := 3) (T := 140) Hv31
   have Hv61 : Ev w [.box bn [.int .i64 v0] 3] wo26 [.box bk7 [.slice ta16 (List.length ((pskM l false false).2.1)) tc17, .bool ((pskM l false false).2.2.1), .bool ((pskM l false false).2.2.2)] 120, .box bn [.int .i64 ((List.length (pskO l false false).2.1 : Nat) : Int)] 3, .vec oa20 oc21 3 (List.flatMap fPsk xs22) 140, .grp (List.flatMap innPsk xs22), .vec none 0 3 (List.flatMap fPsk []) 140, .grp (List.flatMap innPsk [])] := Ev.grp0 Hv60
   exact ⟨none, 0, [], rfl, Hv61.pk [1, 4, 5], rfl, (Nat.zero_le _), (fun y hy => by cases hy)⟩
  ·
   refine wp_seq ?_
   refine region_from ?_
   refine d_k [4,5,6,7,8,32] [] 3 En56 fun ac62 En63 => ?_
   refine f_o ?_
   refine m_l 0 En63 Hv31 fun ac64 En65 => ?_
   refine d_e [4,5,6,7,8,29] [] En65 fun ac66 En67 => ?_
   refine then_normal ?_
   refine cond_at En67 (t := (pskM l false false).2.2.2) (by kernel_rfl) (fun hc68 => ?_) (fun hc68 => ?_)
   ·
    replace hc68 : (pskM l false false).2.2.2 = true := hc68
    refine d_s [4,5,6,7,8] [] En67 fun ac69 En70 => ?_
    refine wp_ret ?_
    refine block_ret ?_
    refine then_ret ?_
    refine d_ret2 (t := 4) (u := 5) (v := .slice none 0 0) (x := .int .i64 47) En70 (by kernel_rfl) (by kernel_rfl) (by kernel_rfl) ?_
    have eA : gotA (pskM l false false) = 47 := Eq.symm (by first | exact end_1 (by assumption) | exact end_2 (by omega) | exact end_3 (by assumption) (by omega) (by assumption))
    rw [gotV_n eA (by decide), eA]
    have Hv71 : Ev w [.box bn [.int .i64 v0] 3] wo26 [.box bk7 [.slice ta16 (List.length ((pskM l false false).2.1)) tc17, .bool ((pskM l false false).2.2.1), .bool ((pskM l false false).2.2.2)] 120, .box bn [.int .i64 ((List.length (pskO l false false).2.1 : Nat) : Int)] 3, .vec oa20 oc21 3 (List.flatMap fPsk xs22) 140, .grp (List.flatMap innPsk xs22), .vec none 0 3 (List.flatMap fPsk []) 140] := Ev.nil (sz := 3) (T := 140) Hv31
    have Hv72 : Ev w [.box bn [.int .i64 v0] 3] wo26 [.box bk7 [.slice ta16 (List.length ((pskM l false false).2.1)) tc17, .bool ((pskM l false false).2.2.1), .bool ((pskM l false false).2.2.2)] 120, .box bn [.int .i64 ((List.length (pskO l false false).2.1 : Nat) : Int)] 3, .vec oa20 oc21 3 (List.flatMap fPsk xs22) 140, .grp (List.flatMap innPsk xs22), .vec none 0 3 (List.flatMap fPsk []) 140, .grp (List.flatMap innPsk [])] := Ev.grp0 Hv71
    exact ⟨none, 0, [], rfl, Hv72.pk [1, 4, 5], rfl, (Nat.zero_le _), (fun y hy => by cases hy)⟩
   ·
    replace hc68 : ¬ ((pskM l false false).2.2.2 = true) := Bool.eq_false_iff.1 hc68
    refine wp_skip ?_
    refine block_normal ?_
    refine then_normal ?_
    refine d_s [4,5,6,7] [] En67 fun ac73 En74 => ?_
    refine wp_ret ?_
    refine d_ret2 (t := 4) (u := 5) (v := .slice oa20 (List.length xs22) oc21) (x := .int .i64 0) En74 (by kernel_rfl) (by kernel_rfl) (by kernel_rfl) ?_
    have eA : gotA (pskM l false false) = 0 := (end_4 (by assumption) (by omega) (by assumption)).symm
    rw [gotV_0 eA, eA]
    exact ⟨oa20, oc21, xs22, rfl, Hv31.pk [1, 2, 3], hpu19, hf23, hf24⟩

theorem gotN_0 {α : Type} {q : α × PS} {n : Nat} (h : gotA q = 0) : gotN q n = n := by rw [gotN, if_pos h]
theorem gotN_n {α : Type} {q : α × PS} {n : Nat} (h : ¬ gotA q = 0) : gotN q n = 0 := by rw [gotN, if_neg h]
theorem gotV_m {α : Type} {z : α} {q : α × PS} (h : ¬ gotA q = 0) : gotV z q = z := by rw [gotV, if_neg h]

theorem getpsks_go (w : World) (aq : Option Addr) (nq cq : Nat) (lq : List UInt8) (eq : nq = List.length lq) (iq : InB w [] aq cq lq) : Calls Try.prog 60 #[.slice aq nq cq] w fun e w' => ∃ oa oc xs, e = .returned (.tuple #[.slice oa (List.length xs) oc, .int .i64 ((gotN (pskM lq false false) (List.length (pskO lq false false).2.1) : Nat) : Int), .int .i64 (gotA (pskM lq false false))]) ∧ Ev w [] w' [.vec oa oc 3 (List.flatMap fPsk xs) 140, .grp (List.flatMap innPsk xs)] ∧ List.map puPsk xs = gotV [] (pskM lq false false) ∧ List.length xs ≤ 4294967296 ∧ ∀ y ∈ xs, (List.length y.1.l ≤ 140737488351232 ∧ List.length y.2.2.1.l ≤ 140737488351232) := by
 subst eq
 refine d_0 [(0, .slice aq (List.length lq) cq)] 20 Go.Proofs.Try.func60 Go.Proofs.Try.ntmps60 (Heap.nil _) fun act0 En0 Hv0 => ?_
 refine d_s [0,2,3,4] [] En0 fun ac1 En2 => ?_
 refine wp_seq ?_
 refine region_from ?_
 refine f_o ?_
 refine m_z 3 [.int .i64 0] En2 Hv0 fun ac4 wo5 bk3 En6 Hv7 => ?_
 refine f_o ?_
 refine m_s 0 [.box bk3 [.int .i64 0] 3] En6 Hv7 fun ac8 wo9 En10 Hv11 => ?_
 refine f_e ?_
 refine then_normal ?_
 refine wp_seq ?_
 refine region_from ?_
 refine d_k [2,3,4,5,9,10] [] 2 En10 fun ac12 En13 => ?_
 refine f_o ?_
 refine c_l [0] (M := [.box bk3 [.int .i64 0] 3]) En13 Hv11 (fun hM20 => got_getpsks _ bk3 (0 : Int) aq cq lq ((iq.ev Hv11).pick [0] (by kernel_rfl)) hM20) ?_
 rintro _ wo21 ⟨oa14, oc15, xs16, rfl, he22, hpu17, hf18, hf19⟩
 refine ⟨_, _, [.box bk3 [.int .i64 ((List.length (pskO lq false false).2.1 : Nat) : Int)] 3, .vec oa14 oc15 3 (List.flatMap fPsk xs16) 140, .grp (List.flatMap innPsk xs16)], rfl, he22, by kernel_rfl, fun ac24 En25 Hv26 => ?_⟩
 refine d_e [2,3,4,5,6,7] [] En25 fun ac27 En28 => ?_
 refine then_normal ?_
 refine wp_seq ?_
 refine d_s [2,3,4,5,6,7,15] [] En28 fun ac29 En30 => ?_
 refine c_n (gotA (pskM lq false false)) (0 : Int) En30 (fun hc31 => ?_) (fun hc31 => ?_)
 ·
  refine d_s [2,3,4,5,6,7] [] En30 fun ac32 En33 => ?_
  refine wp_ret ?_
  refine then_ret ?_
  refine d_ret3 (t := 2) (u := 3) (s := 4) (v := .slice none 0 0) (x := .int .i64 0) (y := .int .i64 (gotA (pskM lq false false))) En33 (by kernel_rfl) (by kernel_rfl) (by kernel_rfl) (by kernel_rfl) ?_
  have hA : ¬ gotA (pskM lq false false) = 0 := by assumption
  rw [gotV_m hA, gotN_n hA]
  have Hv34 : Ev w [] wo21 [.box bk3 [.int .i64 ((List.length (pskO lq false false).2.1 : Nat) : Int)] 3, .vec oa14 oc15 3 (List.flatMap fPsk xs16) 140, .grp (List.flatMap innPsk xs16), .vec none 0 3 (List.flatMap fPsk []) 140] := Ev.nil (sz := 3) (T := 140) Hv26
  have Hv35 : Ev w [] wo21 [.box bk3 [.int .i64 ((List.length (pskO lq false false).2.1 : Nat) : Int)] 3, .vec oa14 oc15 3 (List.flatMap fPsk xs16) 140, .grp (List.flatMap innPsk xs16), .vec none 0 3 (List.flatMap fPsk []) 140, .grp (List.flatMap innPsk [])] := Ev.grp0 Hv34
  exact ⟨none, 0, [], rfl, Hv35.pk [3, 4], rfl, (Nat.zero_le _), (fun y hy => by cases hy)⟩
 ·
  refine wp_skip ?_
  refine then_normal ?_
  refine wp_seq ?_
  refine r_c (fun ac wo => Env ac 20 [(2, .slice oa14 (List.length xs16) oc15), (3, .int .i64 ((List.length (pskO lq false false).2.1 : Nat) : Int)), (4, .int .i64 (gotA (pskM lq false false))), (5, pt bk3), (7, .int .i64 (gotA (pskM lq false false)))] ∧ Ev w [] wo [.box bk3 [.int .i64 ((List.length (pskO lq false false).2.1 : Nat) : Int)] 3, .vec oa14 oc15 3 (List.flatMap fPsk xs16) 140, .grp (List.flatMap innPsk xs16)]) ?_ ?_
  ·
   refine draw_any (by kernel_rfl) 6 (by kernel_rfl) ?_
   have wo36 := Hv26.trans (Ev.drew Hv26.heap)
   refine q_a [0,2,3] [] 3 En30 fun ac43 En44 => ?_
   refine q_u 1 ?_
   refine m_l 0 En44 wo36 fun ac45 En46 => ?_
   refine q_a [4,5] [] 0 En46 fun ac47 En48 => ?_
   exact a_e ⟨En48.sb, wo36.pk [0, 1, 2]⟩
  rintro ac49 wo50 ⟨En51, Hv52⟩
  refine then_normal ?_
  refine wp_ret ?_
  refine d_ret3 (t := 2) (u := 3) (s := 4) (v := .slice oa14 (List.length xs16) oc15) (x := .int .i64 ((List.length (pskO lq false false).2.1 : Nat) : Int)) (y := .int .i64 (gotA (pskM lq false false))) En51 (by kernel_rfl) (by kernel_rfl) (by kernel_rfl) (by kernel_rfl) ?_
  have hA : gotA (pskM lq false false) = 0 := by first | assumption | exact Classical.not_not.1 (by assumption)
  rw [gotN_0 hA]
  exact ⟨oa14, oc15, xs16, rfl, Hv52.pk [1, 2], hpu17, hf18, hf19⟩

theorem trip_eq {α β γ : Type} {a c : α} {b d : β} {e f : γ} (h : a = c) (h2 : b = d) (h3 : e = f) : (a, b, e) = (c, d, f) := by rw [h, h2, h3]

theorem samepsk_go (w : World) (ap : Option Addr) (cp : Nat) (xp : List RPsk) (ip : InS fPsk 56 (fun x : RPsk => (InB w [] x.1.a x.1.c x.1.l ∧ (True ∧ (InB w [] x.2.2.1.a x.2.2.1.c x.2.2.1.l ∧ (True))))) w [] ap cp xp) (aq : Option Addr) (cq : Nat) (xq : List RPsk) (iq : InS fPsk 56 (fun x : RPsk => (InB w [] x.1.a x.1.c x.1.l ∧ (True ∧ (InB w [] x.2.2.1.a x.2.2.1.c x.2.2.1.l ∧ (True))))) w [] aq cq xq) : Calls Try.prog 62 #[.slice ap (List.length xp) cp, .slice aq (List.length xq) cq] w fun e w' => e = .returned (.bool (List.map puPsk xp == List.map puPsk xq)) ∧ Ev w [] w' [] := by
 have hsp := ip.small
 refine d_0 [(0, .slice ap (List.length xp) cp), (1, .slice aq (List.length xq) cq)] 58 Go.Proofs.Try.func62 Go.Proofs.Try.ntmps62 (Heap.nil _) fun act0 En0 Hv0 => ?_
 refine d_s [0,1,4] [] En0 fun ac1 En2 => ?_
 refine wp_seq ?_
 refine d_s [0,1,4,10] [] En2 fun ac3 En4 => ?_
 refine c_n ((List.length xp : Nat) : Int) ((List.length xq : Nat) : Int) En4 (fun hc5 => ?_) (fun hc5 => ?_)
 ·
  refine d_s [0,1,4] [] En4 fun ac6 En7 => ?_
  refine wp_ret ?_
  refine then_ret ?_
  refine d_ret1 (t := 4) (v := .bool false) En7 (by kernel_rfl) (by kernel_rfl) ?_
  exact ⟨congrArg (fun b => Ending.returned (Value.bool b)) (same_len (by omega)), Hv0.pk []⟩
 ·
  refine wp_skip ?_
  refine then_normal ?_
  refine wp_seq ?_
  refine d_s [0,1,4,5] [] En4 fun ac8 En9 => ?_
  refine wp_block ?_
  refine loop_m (fun ms10 ac wo => ∃ (i : Nat), ms10 = (List.length xp + 1 - i : Nat) ∧ Env ac 58 [(0, .slice ap (List.length xp) cp), (1, .slice aq (List.length xq) cq), (5, ni i)] ∧ Ev w [] wo [] ∧ (List.take i (List.map puPsk xp) = List.take i (List.map puPsk xq))) ⟨_, 0, rfl, En9.sb, Hv0.pk [], rfl⟩ ?_
  rintro mm16 ac12 wo13 ⟨i, rfl, En14, Hv15, hp⟩
  refine wp_seq ?_
  refine d_s [0,1,5,14] [] En14 fun ac17 En18 => ?_
  refine c_d (((i : Nat) : Int) < ((List.length xp : Nat) : Int)) En18 (fun hc19 => ?_) (fun hc19 => ?_)
  ·
   refine wp_skip ?_
   refine then_normal ?_
   refine wp_seq ?_
   refine wp_block ?_
   refine wp_seq ?_
   have hb20 : i < List.length xp := by omega
   obtain ⟨⟨⟨a_x22a, c_x22a, x22a⟩, x22b, ⟨a_x22c, c_x22c, x22c⟩, _⟩, hx21⟩ : ∃ x, (xp)[i]? = some x := ⟨_, List.getElem?_eq_getElem hb20⟩
   obtain ⟨i_x22a, _, i_x22c, _⟩ := ip.each _ (List.mem_of_getElem? hx21)
   replace i_x22a : InB w [] a_x22a c_x22a x22a := i_x22a
   replace i_x22c : InB w [] a_x22c c_x22c x22c := i_x22c
   obtain ⟨adp, hadp⟩ := some_of ip.nz (show i < List.length xp by omega)
   have hb23 : i < List.length xq := by omega
   obtain ⟨⟨⟨a_x25a, c_x25a, x25a⟩, x25b, ⟨a_x25c, c_x25c, x25c⟩, _⟩, hx24⟩ : ∃ x, (xq)[i]? = some x := ⟨_, List.getElem?_eq_getElem hb23⟩
   obtain ⟨i_x25a, _, i_x25c, _⟩ := iq.each _ (List.mem_of_getElem? hx24)
   replace i_x25a : InB w [] a_x25a c_x25a x25a := i_x25a
   replace i_x25c : InB w [] a_x25c c_x25c x25c := i_x25c
   obtain ⟨adq, hadq⟩ := some_of iq.nz (show i < List.length xq by omega)
   rcases Bool.eq_false_or_eq_true (!(x22a == x25a)) with hb26 | hb26
   ·
    have hb26p : x22a ≠ x25a := by simpa using hb26
    refine r_c (fun ac wo => Env ac 58 [(0, .slice ap (List.length xp) cp), (1, .slice aq (List.length xq) cq), (5, ni i), (57, .bool true)] ∧ Ev w [] wo []) ?_ ?_
    ·
     refine h_s (fun wv => Ev w [] wv []) [] 41 ?_
     have wo27 := Hv15.trans (Ev.drew Hv15.heap)
     have hb130 : i < List.length xp := (by omega)
     refine q_s [0,1] [] 39 En18 (wo27.pk []) fun ac131 En132 => ?_
     refine q_f 2 (s := Instr.indexAt 35 (.slice ap (List.length xp) cp) (ni i)) (v := .pointer (some (Addr.add adp (i * 3)))) En132 (fun _ => Go.Dbr.run_indexsl (e := 140) (sz := 3) (j := i) (jo := i * 3) hadp (by kernel_rfl) (by kernel_rfl) (by omega) hb130 rfl _) (fun _ => wo27.pk []) fun ac133 En134 => ?_
     refine q_s [3] [] 37 En134 (wo27.pk []) fun ac135 En136 => ?_
     refine q_r 4 (s := Instr.loadAt 23 (.pointer (some (Addr.add adp (i * 3))))) (v := .slice a_x22a (List.length x22a) c_x22a) En136 (fun w hS => run_loadel (ad := adp) (o := i * 3) rfl (ip.ro.ev hS).reads hadp ((flat_get (sz := 3) (j := 0) (fun _ _ => rfl) hx21 (by decide)).trans rfl) (by kernel_rfl)) (wo27.pk []) fun ac137 En138 => ?_
     refine q_r 5 (s := convert 23 9 (.slice a_x22a (List.length x22a) c_x22a)) (v := .string (bstr x22a)) En138 (fun w hS => run_str2 (e := 5) (bs := x22a) rfl (by kernel_rfl) (by kernel_rfl) (by kernel_rfl) (i_x22a.ev hS).reads i_x22a.nz) (wo27.pk []) fun ac139 En140 => ?_
     have hb143 : i < List.length xq := (by omega)
     refine q_s [6,7] [] 33 En140 (wo27.pk []) fun ac144 En145 => ?_
     refine q_f 8 (s := Instr.indexAt 35 (.slice aq (List.length xq) cq) (ni i)) (v := .pointer (some (Addr.add adq (i * 3)))) En145 (fun _ => Go.Dbr.run_indexsl (e := 140) (sz := 3) (j := i) (jo := i * 3) hadq (by kernel_rfl) (by kernel_rfl) (by omega) hb143 rfl _) (fun _ => wo27.pk []) fun ac146 En147 => ?_
     refine q_s [9] [] 31 En147 (wo27.pk []) fun ac148 En149 => ?_
     refine q_r 10 (s := Instr.loadAt 23 (.pointer (some (Addr.add adq (i * 3))))) (v := .slice a_x25a (List.length x25a) c_x25a) En149 (fun w hS => run_loadel (ad := adq) (o := i * 3) rfl (iq.ro.ev hS).reads hadq ((flat_get (sz := 3) (j := 0) (fun _ _ => rfl) hx24 (by decide)).trans rfl) (by kernel_rfl)) (wo27.pk []) fun ac150 En151 => ?_
     refine q_r 11 (s := convert 23 9 (.slice a_x25a (List.length x25a) c_x25a)) (v := .string (bstr x25a)) En151 (fun w hS => run_str2 (e := 5) (bs := x25a) rfl (by kernel_rfl) (by kernel_rfl) (by kernel_rfl) (i_x25a.ev hS).reads i_x25a.nz) (wo27.pk []) fun ac152 En153 => ?_
     refine q_s [12,13] [(12, g_v (show (.bool (!(ByteArray.toList (bstr x22a) == ByteArray.toList (bstr x25a))) : Value) = .bool (!(x22a == x25a)) by rw [Go.Dbr.bstr_eq x22a x25a] <;> rfl))] 27 En153 (wo27.pk []) fun ac154 En155 => ?_
     have En156 := En155.fx (t := 29) (congrArg Value.bool hb26)
     have En157 := En156.fx (t := 30) (congrArg Value.bool hb26)
     refine q_s [14,15,16,17,18,19,20,21,22,23,24,25,26,27,28,29,30,31,32,33,34,35,36,37,38,39,40] [] 0 En157 (wo27.pk []) fun ac158 En159 => ?_
     exact h_e ⟨En159.sb, wo27.pk []⟩
    rintro ac160 wo161 ⟨En162, Hv163⟩
    refine then_normal ?_
    refine c_t En162 ?_
    refine d_s [0,1,4,5] [] En162 fun ac164 En165 => ?_
    refine wp_ret ?_
    refine block_ret ?_
    refine then_ret ?_
    refine then_ret ?_
    refine block_ret ?_
    refine then_ret ?_
    refine d_ret1 (t := 4) (v := .bool false) En165 (by kernel_rfl) (by kernel_rfl) ?_
    exact ⟨congrArg (fun b => Ending.returned (Value.bool b)) (same_no hx21 hx24 (fun g => by first | exact absurd (congrArg Prod.fst g) (by assumption) | exact absurd (congrArg (fun z : PK => ((UInt32.toNat z.2.1 : Nat) : Int)) g) (by assumption) | exact absurd (congrArg (fun z : PK => z.2.2) g) (by assumption))), Hv163.pk []⟩
   ·
    have hb26p : ¬ (x22a ≠ x25a) := by simpa using hb26
    rcases Bool.eq_false_or_eq_true (((UInt32.toNat x22b : Nat) : Int) != ((UInt32.toNat x25b : Nat) : Int)) with hb166 | hb166
    ·
     have hb166p : ¬ (((UInt32.toNat x22b : Nat) : Int) = ((UInt32.toNat x25b : Nat) : Int)) := by simpa using hb166
     refine r_c (fun ac wo => Env ac 58 [(0, .slice ap (List.length xp) cp), (1, .slice aq (List.length xq) cq), (5, ni i), (57, .bool true)] ∧ Ev w [] wo []) ?_ ?_
     ·
      refine h_s (fun wv => Ev w [] wv []) [] 41 ?_
      have wo167 := Hv15.trans (Ev.drew Hv15.heap)
      have hb387 : i < List.length xp := (by omega)
      refine q_s [0,1] [] 39 En18 (wo167.pk []) fun ac388 En389 => ?_
      refine q_f 2 (s := Instr.indexAt 35 (.slice ap (List.length xp) cp) (ni i)) (v := .pointer (some (Addr.add adp (i * 3)))) En389 (fun _ => Go.Dbr.run_indexsl (e := 140) (sz := 3) (j := i) (jo := i * 3) hadp (by kernel_rfl) (by kernel_rfl) (by omega) hb387 rfl _) (fun _ => wo167.pk []) fun ac390 En391 => ?_
      refine q_s [3] [] 37 En391 (wo167.pk []) fun ac392 En393 => ?_
      refine q_r 4 (s := Instr.loadAt 23 (.pointer (some (Addr.add adp (i * 3))))) (v := .slice a_x22a (List.length x22a) c_x22a) En393 (fun w hS => run_loadel (ad := adp) (o := i * 3) rfl (ip.ro.ev hS).reads hadp ((flat_get (sz := 3) (j := 0) (fun _ _ => rfl) hx21 (by decide)).trans rfl) (by kernel_rfl)) (wo167.pk []) fun ac394 En395 => ?_
      refine q_r 5 (s := convert 23 9 (.slice a_x22a (List.length x22a) c_x22a)) (v := .string (bstr x22a)) En395 (fun w hS => run_str2 (e := 5) (bs := x22a) rfl (by kernel_rfl) (by kernel_rfl) (by kernel_rfl) (i_x22a.ev hS).reads i_x22a.nz) (wo167.pk []) fun ac396 En397 => ?_
      have hb400 : i < List.length xq := (by omega)
      refine q_s [6,7] [] 33 En397 (wo167.pk []) fun ac401 En402 => ?_
      refine q_f 8 (s := Instr.indexAt 35 (.slice aq (List.length xq) cq) (ni i)) (v := .pointer (some (Addr.add adq (i * 3)))) En402 (fun _ => Go.Dbr.run_indexsl (e := 140) (sz := 3) (j := i) (jo := i * 3) hadq (by kernel_rfl) (by kernel_rfl) (by omega) hb400 rfl _) (fun _ => wo167.pk []) fun ac403 En404 => ?_
      refine q_s [9] [] 31 En404 (wo167.pk []) fun ac405 En406 => ?_
      refine q_r 10 (s := Instr.loadAt 23 (.pointer (some (Addr.add adq (i * 3))))) (v := .slice a_x25a (List.length x25a) c_x25a) En406 (fun w hS => run_loadel (ad := adq) (o := i * 3) rfl (iq.ro.ev hS).reads hadq ((flat_get (sz := 3) (j := 0) (fun _ _ => rfl) hx24 (by decide)).trans rfl) (by kernel_rfl)) (wo167.pk []) fun ac407 En408 => ?_
      refine q_r 11 (s := convert 23 9 (.slice a_x25a (List.length x25a) c_x25a)) (v := .string (bstr x25a)) En408 (fun w hS => run_str2 (e := 5) (bs := x25a) rfl (by kernel_rfl) (by kernel_rfl) (by kernel_rfl) (i_x25a.ev hS).reads i_x25a.nz) (wo167.pk []) fun ac409 En410 => ?_
      refine q_s [12,13] [(12, g_v (show (.bool (!(ByteArray.toList (bstr x22a) == ByteArray.toList (bstr x25a))) : Value) = .bool (!(x22a == x25a)) by rw [Go.Dbr.bstr_eq x22a x25a] <;> rfl))] 27 En410 (wo167.pk []) fun ac411 En412 => ?_
      have En413 := En412.fx (t := 29) (congrArg Value.bool hb26)
      have En414 := En413.fx (t := 30) (congrArg Value.bool hb26)
      have hb417 : i < List.length xp := (by omega)
      refine q_s [14,15] [] 25 En414 (wo167.pk []) fun ac418 En419 => ?_
      refine q_f 16 (s := Instr.indexAt 35 (.slice ap (List.length xp) cp) (ni i)) (v := .pointer (some (Addr.add adp (i * 3)))) En419 (fun _ => Go.Dbr.run_indexsl (e := 140) (sz := 3) (j := i) (jo := i * 3) hadp (by kernel_rfl) (by kernel_rfl) (by omega) hb417 rfl _) (fun _ => wo167.pk []) fun ac420 En421 => ?_
      refine q_s [17] [] 23 En421 (wo167.pk []) fun ac422 En423 => ?_
      refine q_r 18 (s := Instr.loadAt 84 (.pointer (some (Addr.add (Addr.add adp (i * 3)) 1)))) (v := uv32 x22b) En423 (fun w hS => run_loadel (ad := adp) (o := i * 3 + 1) (Deep.add_add _ _ _) (ip.ro.ev hS).reads hadp ((flat_get (sz := 3) (j := 1) (fun _ _ => rfl) hx21 (by decide)).trans rfl) (by kernel_rfl)) (wo167.pk []) fun ac424 En425 => ?_
      have hb428 : i < List.length xq := (by omega)
      refine q_s [19,20] [] 20 En425 (wo167.pk []) fun ac429 En430 => ?_
      refine q_f 21 (s := Instr.indexAt 35 (.slice aq (List.length xq) cq) (ni i)) (v := .pointer (some (Addr.add adq (i * 3)))) En430 (fun _ => Go.Dbr.run_indexsl (e := 140) (sz := 3) (j := i) (jo := i * 3) hadq (by kernel_rfl) (by kernel_rfl) (by omega) hb428 rfl _) (fun _ => wo167.pk []) fun ac431 En432 => ?_
      refine q_s [22] [] 18 En432 (wo167.pk []) fun ac433 En434 => ?_
      refine q_r 23 (s := Instr.loadAt 84 (.pointer (some (Addr.add (Addr.add adq (i * 3)) 1)))) (v := uv32 x25b) En434 (fun w hS => run_loadel (ad := adq) (o := i * 3 + 1) (Deep.add_add _ _ _) (iq.ro.ev hS).reads hadq ((flat_get (sz := 3) (j := 1) (fun _ _ => rfl) hx24 (by decide)).trans rfl) (by kernel_rfl)) (wo167.pk []) fun ac435 En436 => ?_
      refine q_s [24,25,26] [] 14 En436 (wo167.pk []) fun ac437 En438 => ?_
      have En439 := En438.fx (t := 41) (congrArg Value.bool hb166)
      have En440 := En439.fx (t := 42) (congrArg Value.bool hb166)
      have En441 := En440.fx (t := 43) (congrArg Value.bool hb166)
      refine q_s [27,28,29,30,31,32,33,34,35,36,37,38,39,40] [] 0 En441 (wo167.pk []) fun ac442 En443 => ?_
      exact h_e ⟨En443.sb, wo167.pk []⟩
     rintro ac444 wo445 ⟨En446, Hv447⟩
     refine then_normal ?_
     refine c_t En446 ?_
     refine d_s [0,1,4,5] [] En446 fun ac448 En449 => ?_
     refine wp_ret ?_
     refine block_ret ?_
     refine then_ret ?_
     refine then_ret ?_
     refine block_ret ?_
     refine then_ret ?_
     refine d_ret1 (t := 4) (v := .bool false) En449 (by kernel_rfl) (by kernel_rfl) ?_
     exact ⟨congrArg (fun b => Ending.returned (Value.bool b)) (same_no hx21 hx24 (fun g => by first | exact absurd (congrArg Prod.fst g) (by assumption) | exact absurd (congrArg (fun z : PK => ((UInt32.toNat z.2.1 : Nat) : Int)) g) (by assumption) | exact absurd (congrArg (fun z : PK => z.2.2) g) (by assumption))), Hv447.pk []⟩
    ·
     have hb166p : ((UInt32.toNat x22b : Nat) : Int) = ((UInt32.toNat x25b : Nat) : Int) := by simpa using hb166
     refine r_c (fun ac wo => Env ac 58 [(0, .slice ap (List.length xp) cp), (1, .slice aq (List.length xq) cq), (5, ni i), (57, .bool (!(x22c == x25c)))] ∧ Ev w [] wo []) ?_ ?_
     ·
      refine h_s (fun wv => Ev w [] wv []) [] 41 ?_
      have wo450 := Hv15.trans (Ev.drew Hv15.heap)
      have hb764 : i < List.length xp := (by omega)
      refine q_s [0,1] [] 39 En18 (wo450.pk []) fun ac765 En766 => ?_
      refine q_f 2 (s := Instr.indexAt 35 (.slice ap (List.length xp) cp) (ni i)) (v := .pointer (some (Addr.add adp (i * 3)))) En766 (fun _ => Go.Dbr.run_indexsl (e := 140) (sz := 3) (j := i) (jo := i * 3) hadp (by kernel_rfl) (by kernel_rfl) (by omega) hb764 rfl _) (fun _ => wo450.pk []) fun ac767 En768 => ?_
      refine q_s [3] [] 37 En768 (wo450.pk []) fun ac769 En770 => ?_
      refine q_r 4 (s := Instr.loadAt 23 (.pointer (some (Addr.add adp (i * 3))))) (v := .slice a_x22a (List.length x22a) c_x22a) En770 (fun w hS => run_loadel (ad := adp) (o := i * 3) rfl (ip.ro.ev hS).reads hadp ((flat_get (sz := 3) (j := 0) (fun _ _ => rfl) hx21 (by decide)).trans rfl) (by kernel_rfl)) (wo450.pk []) fun ac771 En772 => ?_
      refine q_r 5 (s := convert 23 9 (.slice a_x22a (List.length x22a) c_x22a)) (v := .string (bstr x22a)) En772 (fun w hS => run_str2 (e := 5) (bs := x22a) rfl (by kernel_rfl) (by kernel_rfl) (by kernel_rfl) (i_x22a.ev hS).reads i_x22a.nz) (wo450.pk []) fun ac773 En774 => ?_
      have hb777 : i < List.length xq := (by omega)
      refine q_s [6,7] [] 33 En774 (wo450.pk []) fun ac778 En779 => ?_
      refine q_f 8 (s := Instr.indexAt 35 (.slice aq (List.length xq) cq) (ni i)) (v := .pointer (some (Addr.add adq (i * 3)))) En779 (fun _ => Go.Dbr.run_indexsl (e := 140) (sz := 3) (j := i) (jo := i * 3) hadq (by kernel_rfl) (by kernel_rfl) (by omega) hb777 rfl _) (fun _ => wo450.pk []) fun ac780 En781 => ?_
      refine q_s [9] [] 31 En781 (wo450.pk []) fun ac782 En783 => ?_
      refine q_r 10 (s := Instr.loadAt 23 (.pointer (some (Addr.add adq (i * 3))))) (v := .slice a_x25a (List.length x25a) c_x25a) En783 (fun w hS => run_loadel (ad := adq) (o := i * 3) rfl (iq.ro.ev hS).reads hadq ((flat_get (sz := 3) (j := 0) (fun _ _ => rfl) hx24 (by decide)).trans rfl) (by kernel_rfl)) (wo450.pk []) fun ac784 En785 => ?_
      refine q_r 11 (s := convert 23 9 (.slice a_x25a (List.length x25a) c_x25a)) (v := .string (bstr x25a)) En785 (fun w hS => run_str2 (e := 5) (bs := x25a) rfl (by kernel_rfl) (by kernel_rfl) (by kernel_rfl) (i_x25a.ev hS).reads i_x25a.nz) (wo450.pk []) fun ac786 En787 => ?_
      refine q_s [12,13] [(12, g_v (show (.bool (!(ByteArray.toList (bstr x22a) == ByteArray.toList (bstr x25a))) : Value) = .bool (!(x22a == x25a)) by rw [Go.Dbr.bstr_eq x22a x25a] <;> rfl))] 27 En787 (wo450.pk []) fun ac788 En789 => ?_
      have En790 := En789.fx (t := 29) (congrArg Value.bool hb26)
      have En791 := En790.fx (t := 30) (congrArg Value.bool hb26)
      have hb794 : i < List.length xp := (by omega)
      refine q_s [14,15] [] 25 En791 (wo450.pk []) fun ac795 En796 => ?_
      refine q_f 16 (s := Instr.indexAt 35 (.slice ap (List.length xp) cp) (ni i)) (v := .pointer (some (Addr.add adp (i * 3)))) En796 (fun _ => Go.Dbr.run_indexsl (e := 140) (sz := 3) (j := i) (jo := i * 3) hadp (by kernel_rfl) (by kernel_rfl) (by omega) hb794 rfl _) (fun _ => wo450.pk []) fun ac797 En798 => ?_
      refine q_s [17] [] 23 En798 (wo450.pk []) fun ac799 En800 => ?_
      refine q_r 18 (s := Instr.loadAt 84 (.pointer (some (Addr.add (Addr.add adp (i * 3)) 1)))) (v := uv32 x22b) En800 (fun w hS => run_loadel (ad := adp) (o := i * 3 + 1) (Deep.add_add _ _ _) (ip.ro.ev hS).reads hadp ((flat_get (sz := 3) (j := 1) (fun _ _ => rfl) hx21 (by decide)).trans rfl) (by kernel_rfl)) (wo450.pk []) fun ac801 En802 => ?_
      have hb805 : i < List.length xq := (by omega)
      refine q_s [19,20] [] 20 En802 (wo450.pk []) fun ac806 En807 => ?_
      refine q_f 21 (s := Instr.indexAt 35 (.slice aq (List.length xq) cq) (ni i)) (v := .pointer (some (Addr.add adq (i * 3)))) En807 (fun _ => Go.Dbr.run_indexsl (e := 140) (sz := 3) (j := i) (jo := i * 3) hadq (by kernel_rfl) (by kernel_rfl) (by omega) hb805 rfl _) (fun _ => wo450.pk []) fun ac808 En809 => ?_
      refine q_s [22] [] 18 En809 (wo450.pk []) fun ac810 En811 => ?_
      refine q_r 23 (s := Instr.loadAt 84 (.pointer (some (Addr.add (Addr.add adq (i * 3)) 1)))) (v := uv32 x25b) En811 (fun w hS => run_loadel (ad := adq) (o := i * 3 + 1) (Deep.add_add _ _ _) (iq.ro.ev hS).reads hadq ((flat_get (sz := 3) (j := 1) (fun _ _ => rfl) hx24 (by decide)).trans rfl) (by kernel_rfl)) (wo450.pk []) fun ac812 En813 => ?_
      refine q_s [24,25,26] [] 14 En813 (wo450.pk []) fun ac814 En815 => ?_
      have En816 := En815.fx (t := 41) (congrArg Value.bool hb166)
      have En817 := En816.fx (t := 42) (congrArg Value.bool hb166)
      have En818 := En817.fx (t := 43) (congrArg Value.bool hb166)
      have hb821 : i < List.length xp := (by omega)
      refine q_s [27,28] [] 12 En818 (wo450.pk []) fun ac822 En823 => ?_
      refine q_f 29 (s := Instr.indexAt 35 (.slice ap (List.length xp) cp) (ni i)) (v := .pointer (some (Addr.add adp (i * 3)))) En823 (fun _ => Go.Dbr.run_indexsl (e := 140) (sz := 3) (j := i) (jo := i * 3) hadp (by kernel_rfl) (by kernel_rfl) (by omega) hb821 rfl _) (fun _ => wo450.pk []) fun ac824 En825 => ?_
      refine q_s [30] [] 10 En825 (wo450.pk []) fun ac826 En827 => ?_
      refine q_r 31 (s := Instr.loadAt 23 (.pointer (some (Addr.add (Addr.add adp (i * 3)) 2)))) (v := .slice a_x22c (List.length x22c) c_x22c) En827 (fun w hS => run_loadel (ad := adp) (o := i * 3 + 2) (Deep.add_add _ _ _) (ip.ro.ev hS).reads hadp ((flat_get (sz := 3) (j := 2) (fun _ _ => rfl) hx21 (by decide)).trans rfl) (by kernel_rfl)) (wo450.pk []) fun ac828 En829 => ?_
      refine q_r 32 (s := convert 23 9 (.slice a_x22c (List.length x22c) c_x22c)) (v := .string (bstr x22c)) En829 (fun w hS => run_str2 (e := 5) (bs := x22c) rfl (by kernel_rfl) (by kernel_rfl) (by kernel_rfl) (i_x22c.ev hS).reads i_x22c.nz) (wo450.pk []) fun ac830 En831 => ?_
      have hb834 : i < List.length xq := (by omega)
      refine q_s [33,34] [] 6 En831 (wo450.pk []) fun ac835 En836 => ?_
      refine q_f 35 (s := Instr.indexAt 35 (.slice aq (List.length xq) cq) (ni i)) (v := .pointer (some (Addr.add adq (i * 3)))) En836 (fun _ => Go.Dbr.run_indexsl (e := 140) (sz := 3) (j := i) (jo := i * 3) hadq (by kernel_rfl) (by kernel_rfl) (by omega) hb834 rfl _) (fun _ => wo450.pk []) fun ac837 En838 => ?_
      refine q_s [36] [] 4 En838 (wo450.pk []) fun ac839 En840 => ?_
      refine q_r 37 (s := Instr.loadAt 23 (.pointer (some (Addr.add (Addr.add adq (i * 3)) 2)))) (v := .slice a_x25c (List.length x25c) c_x25c) En840 (fun w hS => run_loadel (ad := adq) (o := i * 3 + 2) (Deep.add_add _ _ _) (iq.ro.ev hS).reads hadq ((flat_get (sz := 3) (j := 2) (fun _ _ => rfl) hx24 (by decide)).trans rfl) (by kernel_rfl)) (wo450.pk []) fun ac841 En842 => ?_
      refine q_r 38 (s := convert 23 9 (.slice a_x25c (List.length x25c) c_x25c)) (v := .string (bstr x25c)) En842 (fun w hS => run_str2 (e := 5) (bs := x25c) rfl (by kernel_rfl) (by kernel_rfl) (by kernel_rfl) (i_x25c.ev hS).reads i_x25c.nz) (wo450.pk []) fun ac843 En844 => ?_
      refine q_s [39,40] [(39, g_v (show (.bool (!(ByteArray.toList (bstr x22c) == ByteArray.toList (bstr x25c))) : Value) = .bool (!(x22c == x25c)) by rw [Go.Dbr.bstr_eq x22c x25c] <;> rfl))] 0 En844 (wo450.pk []) fun ac845 En846 => ?_
      exact h_e ⟨En846.sb, wo450.pk []⟩
     rintro ac847 wo848 ⟨En849, Hv850⟩
     refine then_normal ?_
     refine cond_at En849 (t := !(x22c == x25c)) (by kernel_rfl) (fun hc851 => ?_) (fun hc851 => ?_)
     ·
      replace hc851 : x22c ≠ x25c := by simpa using hc851
      refine d_s [0,1,4,5] [] En849 fun ac852 En853 => ?_
      refine wp_ret ?_
      refine block_ret ?_
      refine then_ret ?_
      refine then_ret ?_
      refine block_ret ?_
      refine then_ret ?_
      refine d_ret1 (t := 4) (v := .bool false) En853 (by kernel_rfl) (by kernel_rfl) ?_
      exact ⟨congrArg (fun b => Ending.returned (Value.bool b)) (same_no hx21 hx24 (fun g => by first | exact absurd (congrArg Prod.fst g) (by assumption) | exact absurd (congrArg (fun z : PK => ((UInt32.toNat z.2.1 : Nat) : Int)) g) (by assumption) | exact absurd (congrArg (fun z : PK => z.2.2) g) (by assumption))), Hv850.pk []⟩
     ·
      replace hc851 : ¬ (x22c ≠ x25c) := by simpa using hc851
      refine wp_skip ?_
      refine block_normal ?_
      refine then_normal ?_
      refine d_r [0,1,5] [(1, g_n (w_a i 1))] En849 fun ac854 En855 => ?_
      refine then_normal ?_
      refine ⟨_, ⟨i + 1, rfl, En855.sb, Hv850.pk [], (same_step hx21 hx24 (trip_eq (show x22a = x25a from (by first | assumption | exact Classical.not_not.1 (by assumption))) (UInt32.toNat_inj.1 (show UInt32.toNat x22b = UInt32.toNat x25b by omega)) (show x22c = x25c from (by first | assumption | exact Classical.not_not.1 (by assumption)))) hp)⟩, ?_⟩
      omega
  ·
   refine wp_exit ?_
   refine then_exit ?_
   refine then_exit ?_
   refine block_exit ?_
   refine then_normal ?_
   refine d_s [0,1,4,5] [] En18 fun ac856 En857 => ?_
   refine wp_ret ?_
   refine d_ret1 (t := 4) (v := .bool true) En857 (by kernel_rfl) (by kernel_rfl) ?_
   exact ⟨congrArg (fun b => Ending.returned (Value.bool b)) (same_all (by omega) (by omega) hp), Hv15.pk []⟩

end Go.Proofs.Ytofecellbfhnjaa
