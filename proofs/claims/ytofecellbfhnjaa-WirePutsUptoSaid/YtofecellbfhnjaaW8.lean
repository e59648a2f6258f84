/- Layer 17: frames. -/
import Derived.Test.YtofecellbfhnjaaW7
namespace Go.Proofs.Ytofecellbfhnjaa
open Go.Dbr
set_option maxRecDepth 100000
set_option maxHeartbeats 2000000
set_option linter.unusedVariables false
set_option linter.unusedSimpArgs false

theorem frame1_go (w : World) (bw : Nat) (bt bb : Nat) (t : UInt8) (ab : Option Addr) (cb : Nat) (b : Bs) (ib : InB w [.box bw [.slice none 0 0, .bool false] 115, .vec none 0 1 (bys []) 5, .box bt [bv t] 22, .box bb [.slice ab (List.length b) cb] 23] ab cb b) (hH : Heap w [.box bw [.slice none 0 0, .bool false] 115, .vec none 0 1 (bys []) 5, .box bt [bv t] 22, .box bb [.slice ab (List.length b) cb] 23]) : Calls Try.prog 100 #[pt bw, pt bt, pt bb] w fun e w' => ∃ a' c', e = .returned (.tuple #[]) ∧ Ev w [.box bw [.slice none 0 0, .bool false] 115, .vec none 0 1 (bys []) 5, .box bt [bv t] 22, .box bb [.slice ab (List.length b) cb] 23] w' [.box bw [.slice a' (List.length (wput 3 [t] b)) c', .bool (wbad 3 0 16384 (List.length b) false)] 115, .vec a' c' 1 (bys (wput 3 [t] b)) 5] := by
 have hbs := ib.small
 refine d_0 [(0, pt bw), (1, pt bt), (2, pt bb)] 17 Go.Proofs.Try.func100 Go.Proofs.Try.ntmps100 (hH) fun act0 En0 Hv0 => ?_
 refine wp_seq ?_
 refine r_c (fun ac wo => ∃ (ao82 : Option Addr) (cp83 : Nat), Env ac 17 [(0, pt bw), (2, pt bb)] ∧ Ev w [.box bw [.slice none 0 0, .bool false] 115, .vec none 0 1 (bys []) 5, .box bt [bv t] 22, .box bb [.slice ab (List.length b) cb] 23] wo [.box bw [.slice ao82 (List.length [t]) cp83, .bool false] 115, .vec ao82 cp83 1 (bys [t]) 5, .box bt [bv t] 22, .box bb [.slice ab (List.length b) cb] 23]) ?_ ?_
 ·
  refine h_s (fun wv => Ev w [.box bw [.slice none 0 0, .bool false] 115, .vec none 0 1 (bys []) 5, .box bt [bv t] 22, .box bb [.slice ab (List.length b) cb] 23] wv [.box bw [.slice none 0 0, .bool false] 115, .box bt [bv t] 22]) [10] 11 ?_
  have wo1 := Hv0.trans (Ev.drew Hv0.heap)
  refine q_s [0,1,2,3] [] 7 En0 (wo1.pk [0, 2]) fun ac96 En97 => ?_
  refine q_l 0 4 En97 (wo1.pk [0, 2]) fun ac98 En99 => ?_
  refine q_l 1 5 En99 (wo1.pk [0, 2]) fun ac100 En101 => ?_
  refine q_t 6 ?_
  refine op_lit (d := some 10) (t := 23) (T := 5) (m := 1) (parts := #[(0, bv t)]) (xs := bys [t]) (sz := 1) En101 (by kernel_rfl) (by kernel_rfl) rfl (by decide) wo1 ?_
  intro ac103 wo104 bk102 En105 Hv106
  refine ⟨fun _ => Hv106.pk [0, 2], ?_⟩
  refine q_t 7 ?_
  refine op_append (d := some 11) (t := 23) (tx := 23) (ty := 23) (k := 1) (p := List.length ([] : Bs)) (m := 1) (x := .slice (some ⟨bk102, 0, none⟩) 1 1) (bytes := 1) En105 (by kernel_rfl) Hv106 rfl (bys_lenn (by simp)) (Reads.src (size := 1) (tx := 23) (e' := 5) (by kernel_rfl) (Hv106.heap.reads (k := 4) rfl) rfl (fun e => by cases e) (bys_one _)) (by kernel_rfl) (z := .int .u8 0) (by kernel_rfl) rfl (by decide) (by first | omega | (simp [beN_len]; done) | (simp [beN_len]; omega)) (by unfold maxLen; first | omega | (simp [beN_len]; done) | (simp [beN_len]; omega)) ?_
  intro ac111 wo112 ao107 cp108 En113 Hv114 hnz _
  clear hnz
  rw [bys_nil_append] at Hv114
  have ehz109 : (List.length ([] : Bs)) + 1 = List.length [t] := (by first | (simp; done) | (simp; omega) | omega)
  rw [ehz109] at En113
  refine ⟨fun _ => Hv114.pk [0, 2], ?_⟩
  refine q_s [8,9] [] 1 En113 (Hv114.pk [0, 2]) fun ac115 En116 => ?_
  refine q_t 10 ?_
  refine m_s 0 [.box bw [.slice ao107 (List.length [t]) cp108, .bool false] 115, .vec ao107 cp108 1 (bys [t]) 5, .box bt [bv t] 22, .box bb [.slice ab (List.length b) cb] 23, .vec (some ⟨bk102, 0, none⟩) 1 1 (bys [t]) 5] En116 Hv114 fun ac117 wo118 En119 Hv120 => ?_
  refine ⟨q_y, ?_⟩
  exact h_e ⟨ao107, cp108, En119.sb, Hv120.pk [0, 1, 2, 3]⟩
 rintro ac121 wo122 ⟨ao82, cp83, En123, Hv124⟩
 refine then_normal ?_
 refine region_from ?_
 refine d_k [0,2,14] [] 1 En123 fun ac125 En126 => ?_
 refine f_o ?_
 refine m_l 3 En126 Hv124 fun ac127 En128 => ?_
 refine f_o ?_
 refine c_l [0,1] (M := [.box bw [.slice ao82 (List.length [t]) cp83, .bool false] 115, .vec ao82 cp83 1 (bys [t]) 5]) En128 Hv124 (fun hM131 => wlist_go _ bw ao82 cp83 [t] false 3 (by omega) 0 16384 (by omega) (by omega) ab cb b ((ib.ev Hv124).pick [0, 1] (by kernel_rfl)) (by simp; omega) hM131) ?_
 rintro _ wo132 ⟨wa129, wc130, rfl, he133⟩
 refine ⟨_, _, [.box bw [.slice wa129 (List.length (wput 3 [t] b)) wc130, .bool (wbad 3 0 16384 (List.length b) false)] 115, .vec wa129 wc130 1 (bys (wput 3 [t] b)) 5, .box bt [bv t] 22, .box bb [.slice ab (List.length b) cb] 23], rfl, he133, by kernel_rfl, fun ac135 En136 Hv137 => ?_⟩
 refine f_e ?_
 refine d_end0 En136 (by kernel_rfl) ?_
 exact ⟨wa129, wc130, rfl, Hv137.pk [0, 1]⟩

def frP (t : UInt8) (b : Bs) : Bs := doneL (wbad 3 0 16384 (List.length b) false) (wput 3 [t] b)

theorem put_frame (w : World) (bt bb : Nat) (t : UInt8) (ab : Option Addr) (cb : Nat) (b : Bs) (ib : InB w [.box bt [bv t] 22, .box bb [.slice ab (List.length b) cb] 23] ab cb b) (hH : Heap w [.box bt [bv t] 22, .box bb [.slice ab (List.length b) cb] 23]) : Calls Try.prog 99 #[.func (.func 100) #[] #[pt bt, pt bb]] w fun e w' => ∃ a' c', e = .returned (.slice a' (List.length (doneL (wbad 3 0 16384 (List.length b) false) (wput 3 [t] b))) c') ∧ Ev w [.box bt [bv t] 22, .box bb [.slice ab (List.length b) cb] 23] w' [.vec a' c' 1 (bys (doneL (wbad 3 0 16384 (List.length b) false) (wput 3 [t] b))) 5] := by
 refine d_0 [(0, .func (.func 100) #[] #[pt bt, pt bb])] 11 Go.Proofs.Try.func99 Go.Proofs.Try.ntmps99 (hH) fun act0 En0 Hv0 => ?_
 refine d_s [0,2] [] En0 fun ac1 En2 => ?_
 refine wp_seq ?_
 refine region_from ?_
 refine d_k [0,2,4] [] 1 En2 fun ac3 En4 => ?_
 refine f_o ?_
 refine m_m 115 [.slice none 0 0, .bool false] En4 Hv0 fun ac6 wo7 bk5 En8 Hv9 => ?_
 refine d_e [0,2,3] [] En8 fun ac10 En11 => ?_
 refine then_normal ?_
 refine wp_seq ?_
 refine region_from ?_
 refine d_k [2,3,6,7] [] 2 En11 fun ac12 En13 => ?_
 refine f_o ?_
 have Hv14 : Ev w [.box bt [bv t] 22, .box bb [.slice ab (List.length b) cb] 23] wo7 [.box bt [bv t] 22, .box bb [.slice ab (List.length b) cb] 23, .box bk5 [.slice none 0 0, .bool false] 115, .vec none 0 1 (bys []) 5] := Ev.nil (sz := 1) (T := 5) Hv9
 refine c_l [2,3,0,1] (M := [.box bk5 [.slice none 0 0, .bool false] 115, .vec none 0 1 (bys []) 5, .box bt [bv t] 22, .box bb [.slice ab (List.length b) cb] 23]) En13 Hv14 (fun hM17 => frame1_go _ bk5 bt bb t ab cb b ((ib.ev Hv14).pick [2, 3, 0, 1] (by kernel_rfl)) hM17) ?_
 rintro _ wo18 ⟨wa15, wc16, rfl, he19⟩
 refine ⟨_, _, [.box bk5 [.slice wa15 (List.length (wput 3 [t] b)) wc16, .bool (wbad 3 0 16384 (List.length b) false)] 115, .vec wa15 wc16 1 (bys (wput 3 [t] b)) 5], rfl, he19, by kernel_rfl, fun ac21 En22 Hv23 => ?_⟩
 refine f_e ?_
 refine then_normal ?_
 refine wp_seq ?_
 refine region_from ?_
 refine d_k [2,3,9] [] 1 En22 fun ac24 En25 => ?_
 refine f_o ?_
 refine c_l [0,1] (M := [.box bk5 [.slice wa15 (List.length (wput 3 [t] b)) wc16, .bool (wbad 3 0 16384 (List.length b) false)] 115, .vec wa15 wc16 1 (bys (wput 3 [t] b)) 5]) En25 Hv23 (fun hM28 => wdone_go _ bk5 wa15 wc16 (wput 3 [t] b) (wbad 3 0 16384 (List.length b) false) hM28) ?_
 rintro _ wo29 ⟨da26, dc27, rfl, he30⟩
 refine ⟨_, _, [.vec da26 dc27 1 (bys (doneL (wbad 3 0 16384 (List.length b) false) (wput 3 [t] b))) 5], rfl, he30, by kernel_rfl, fun ac32 En33 Hv34 => ?_⟩
 refine d_e [2,3] [] En33 fun ac35 En36 => ?_
 refine then_normal ?_
 refine wp_ret ?_
 refine d_ret1 (t := 2) (v := .slice da26 (List.length (doneL (wbad 3 0 16384 (List.length b) false) (wput 3 [t] b))) dc27) En36 (by kernel_rfl) (by kernel_rfl) ?_
 exact ⟨da26, dc27, rfl, Hv34.pk [0]⟩

theorem frame_go (w : World) (t : UInt8) (ab : Option Addr) (cb : Nat) (b : Bs) (ib : InB w [] ab cb b) : Calls Try.prog 11 #[bv t, .slice ab (List.length b) cb] w fun e w' => ∃ a' c', e = .returned (.slice a' (List.length (frP t b)) c') ∧ Ev w [] w' [.vec a' c' 1 (bys (frP t b)) 5] := by
 refine d_0 [(0, bv t), (1, .slice ab (List.length b) cb)] 7 Go.Proofs.Try.func11 Go.Proofs.Try.ntmps11 (Heap.nil _) fun act0 En0 Hv0 => ?_
 refine wp_seq ?_
 refine region_from ?_
 refine f_o ?_
 refine m_m 22 [bv t] En0 Hv0 fun ac2 wo3 bk1 En4 Hv5 => ?_
 refine f_o ?_
 refine m_m 23 [.slice ab (List.length b) cb] En4 Hv5 fun ac7 wo8 bk6 En9 Hv10 => ?_
 refine d_e [2,3,4] [] En9 fun ac11 En12 => ?_
 refine then_normal ?_
 refine wp_seq ?_
 refine region_from ?_
 refine d_k [4,5] [] 1 En12 fun ac13 En14 => ?_
 refine f_o ?_
 refine c_l [0,1] (M := [.box bk1 [bv t] 22, .box bk6 [.slice ab (List.length b) cb] 23]) En14 Hv10 (fun hM17 => put_frame _ bk1 bk6 t ab cb b ((ib.ev Hv10).pick [0, 1] (by kernel_rfl)) hM17) ?_
 rintro _ wo18 ⟨pa15, pc16, rfl, he19⟩
 refine ⟨_, _, [.vec pa15 pc16 1 (bys (frP t b)) 5], rfl, he19, by kernel_rfl, fun ac21 En22 Hv23 => ?_⟩
 refine d_e [4] [] En22 fun ac24 En25 => ?_
 refine then_normal ?_
 refine wp_ret ?_
 refine d_ret1 (t := 4) (v := .slice pa15 (List.length (frP t b)) pc16) En25 (by kernel_rfl) (by kernel_rfl) ?_
 exact ⟨pa15, pc16, rfl, Hv23.pk [0]⟩

def frD (t : UInt8) (b : Bs) : Bs := if 16384 < b.length then [] else doneL (false || dbad 3 0 16384 b.length) (dput 3 0 16384 [t] b)

theorem dframe_go (w : World) (t : UInt8) (ab : Option Addr) (cb : Nat) (b : Bs) (ib : InB w [] ab cb b) : Calls Try.prog 14 #[bv t, .slice ab (List.length b) cb] w fun e w' => ∃ a' c', e = .returned (.slice a' (List.length (frD t b)) c') ∧ Ev w [] w' [.vec a' c' 1 (bys (frD t b)) 5] := by
 have hbs := ib.small
 refine d_0 [(0, bv t), (1, .slice ab (List.length b) cb)] 18 Go.Proofs.Try.func14 Go.Proofs.Try.ntmps14 (Heap.nil _) fun act0 En0 Hv0 => ?_
 refine d_s [0,1,4] [] En0 fun ac1 En2 => ?_
 refine wp_seq ?_
 refine d_s [0,1,4,8] [] En2 fun ac3 En4 => ?_
 refine c_d (((List.length b : Nat) : Int) > (16384 : Int)) En4 (fun hc5 => ?_) (fun hc5 => ?_)
 ·
  refine d_s [0,1,4] [] En4 fun ac6 En7 => ?_
  refine wp_ret ?_
  refine then_ret ?_
  refine d_ret1 (t := 4) (v := .slice none 0 0) En7 (by kernel_rfl) (by kernel_rfl) ?_
  have e : frD t b = [] := by rw [frD, if_pos (by omega)]
  rw [e]
  exact ⟨none, 0, rfl, (Ev.nil (sz := 1) (T := 5) Hv0).pk [0]⟩
 ·
  refine wp_skip ?_
  refine then_normal ?_
  refine wp_seq ?_
  refine region_from ?_
  refine d_k [1,4,9] [] 1 En4 fun ac8 En9 => ?_
  refine f_o ?_
  refine op_lit (d := some 10) (t := 23) (T := 5) (m := 1) (parts := #[(0, bv t)]) (xs := bys [t]) (sz := 1) En9 (by kernel_rfl) (by kernel_rfl) rfl (by decide) Hv0 ?_
  intro ac11 wo12 bk10 En13 Hv14
  refine d_k [1,4,11] [] 3 En13 fun ac15 En16 => ?_
  refine f_o ?_
  refine m_m 126 [.slice (some ⟨bk10, 0, none⟩) 1 1, .bool false] En16 Hv14 fun ac18 wo19 bk17 En20 Hv21 => ?_
  refine d_e [1,4,5] [] En20 fun ac22 En23 => ?_
  refine then_normal ?_
  refine wp_seq ?_
  refine region_from ?_
  refine d_k [1,4,5,13,14] [] 2 En23 fun ac24 En25 => ?_
  refine f_o ?_
  refine c_l [1,0] (M := [.box bk17 [.slice (some ⟨bk10, 0, none⟩) 1 1, .bool false] 126, .vec (some ⟨bk10, 0, none⟩) 1 1 (bys [t]) 5]) En25 Hv21 (fun hM28 => dwlist_go _ bk17 (some ⟨bk10, 0, none⟩) 1 [t] false 3 (by omega) 0 16384 (by omega) (by omega) ab cb b ((ib.ev Hv21).pick [1, 0] (by kernel_rfl)) (by simp; omega) hM28) ?_
  rintro _ wo29 ⟨wa26, wc27, rfl, he30⟩
  refine ⟨_, _, [.box bk17 [.slice wa26 (List.length (dput 3 0 16384 [t] b)) wc27, .bool (false || dbad 3 0 16384 (List.length b))] 126, .vec wa26 wc27 1 (bys (dput 3 0 16384 [t] b)) 5], rfl, he30, by kernel_rfl, fun ac32 En33 Hv34 => ?_⟩
  refine f_e ?_
  refine then_normal ?_
  refine wp_seq ?_
  refine region_from ?_
  refine d_k [1,4,5,16] [] 1 En33 fun ac35 En36 => ?_
  refine f_o ?_
  refine c_l [0,1] (M := [.box bk17 [.slice wa26 (List.length (dput 3 0 16384 [t] b)) wc27, .bool (false || dbad 3 0 16384 (List.length b))] 126, .vec wa26 wc27 1 (bys (dput 3 0 16384 [t] b)) 5]) En36 Hv34 (fun hM39 => ddone_go _ bk17 wa26 wc27 (dput 3 0 16384 [t] b) (false || dbad 3 0 16384 (List.length b)) hM39) ?_
  rintro _ wo40 ⟨da37, dc38, rfl, he41⟩
  refine ⟨_, _, [.vec da37 dc38 1 (bys (doneL (false || dbad 3 0 16384 (List.length b)) (dput 3 0 16384 [t] b))) 5], rfl, he41, by kernel_rfl, fun ac43 En44 Hv45 => ?_⟩
  refine d_e [1,4,5] [] En44 fun ac46 En47 => ?_
  refine then_normal ?_
  refine wp_ret ?_
  refine d_ret1 (t := 4) (v := .slice da37 (List.length (doneL (false || dbad 3 0 16384 (List.length b)) (dput 3 0 16384 [t] b))) dc38) En47 (by kernel_rfl) (by kernel_rfl) ?_
  have e : frD t b = doneL (false || dbad 3 0 16384 (List.length b)) (dput 3 0 16384 [t] b) := by rw [frD, if_neg (by omega)] <;> rfl
  rw [e]
  exact ⟨da37, dc38, rfl, Hv45.pk [0]⟩

theorem fr_yes {t : UInt8} {b : Bs} (h : b.length ≤ 16384) : frP t b = wput 3 [t] b ∧ frD t b = wput 3 [t] b := by
  have h0 : wbad 3 0 16384 b.length false = false := by
    rw [wbad, decide_eq_false (show ¬ b.length < 0 by omega), decide_eq_false (show ¬ 16384 < b.length by omega), decide_eq_false (show ¬ 0 < b.length / 2 ^ (8 * 3) by omega)]
    rfl
  have h1 : dbad 3 0 16384 b.length = false := db0 (by omega) (by omega) (by omega)
  constructor
  · rw [frP, h0]; rfl
  · rw [frD, if_neg (by omega), dput, h1]; rfl
theorem fr_eq (t : UInt8) (b : Bs) : frP t b = frD t b := by
  by_cases h : b.length ≤ 16384
  · rw [(fr_yes h).1, (fr_yes h).2]
  · rw [frP, frD, if_pos (by omega), ← wb3 (by omega)]
    rfl

end Go.Proofs.Ytofecellbfhnjaa
