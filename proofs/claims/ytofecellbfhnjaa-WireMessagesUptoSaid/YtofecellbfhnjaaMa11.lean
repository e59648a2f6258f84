import Derived.Test.YtofecellbfhnjaaMa10
import Derived.Test.YtofecellbfhnjaaMa5
/- Layer 17: messages with extensions are written by the program. -/

namespace Go.Proofs.Ytofecellbfhnjaa
open Go.Dbr
set_option maxRecDepth 100000
set_option maxHeartbeats 2000000
set_option linter.unusedVariables false
set_option linter.unusedSimpArgs false

theorem pexts_1 (w : World) (bw : Nat) (bl : Nat) (al : Option Addr) (cl : Nat) (xs : List RExt) (il : InS fExt 32 (fun y : RExt => (True ∧ (InB w [.box bw [.slice none 0 0, .bool false] 115, .vec none 0 1 (bys []) 5, .box bl [.slice al (List.length xs) cl] 36] y.2.1.a y.2.1.c y.2.1.l ∧ (True)))) w [.box bw [.slice none 0 0, .bool false] 115, .vec none 0 1 (bys []) 5, .box bl [.slice al (List.length xs) cl] 36] al cl xs) (hq0 : List.length (allM exF (List.map (fun y : RExt => (y.1, y.2.1.l)) xs)).1 ≤ 16777216) (hH : Heap w [.box bw [.slice none 0 0, .bool false] 115, .vec none 0 1 (bys []) 5, .box bl [.slice al (List.length xs) cl] 36]) : Calls Try.prog 201 #[pt bw, pt bl] w fun e w' => ∃ a' c', e = .returned (.tuple #[]) ∧ Ev w [.box bw [.slice none 0 0, .bool false] 115, .vec none 0 1 (bys []) 5, .box bl [.slice al (List.length xs) cl] 36] w' [.box bw [.slice a' (List.length ((wexF ([], false) (List.map (fun y : RExt => (y.1, y.2.1.l)) xs)).1)) c', .bool ((wexF ([], false) (List.map (fun y : RExt => (y.1, y.2.1.l)) xs)).2)] 115, .vec a' c' 1 (bys ((wexF ([], false) (List.map (fun y : RExt => (y.1, y.2.1.l)) xs)).1)) 5] := by
 refine d_0 [(0, pt bw), (1, pt bl)] 6 Go.Proofs.Try.func201 Go.Proofs.Try.ntmps201 (hH) fun act0 En0 Hv0 => ?_
 refine region_from ?_
 refine d_k [1,3] [] 1 En0 fun ac1 En2 => ?_
 refine f_o ?_
 refine m_l 2 En2 Hv0 fun ac3 En4 => ?_
 refine f_o ?_
 refine c_l [0,1] (M := [.box bw [.slice none 0 0, .bool false] 115, .vec none 0 1 (bys []) 5]) En4 Hv0 (fun hM7 => wexts_go _ bw none 0 [] false al cl xs (il.go Hv0 [0, 1] (by kernel_rfl) (fun _ h => ⟨h.1, (InB.ev h.2.1 Hv0).pick [0, 1] (by kernel_rfl), h.2.2⟩)) (by omega) (by first | omega | (simp only [u16F, beN_len, List.length_nil, List.length_append]; omega) | (simp only [wput_len, beN_len, List.length_nil, List.length_append]; omega) | (simp [wput_len, beN_len]; done) | (simp [wput_len, beN_len]; omega)) hM7) ?_
 rintro _ wo8 ⟨wa5, wc6, rfl, he9⟩
 refine ⟨_, _, [.box bw [.slice wa5 (List.length ((wexF ([], false) (List.map (fun y : RExt => (y.1, y.2.1.l)) xs)).1)) wc6, .bool ((wexF ([], false) (List.map (fun y : RExt => (y.1, y.2.1.l)) xs)).2)] 115, .vec wa5 wc6 1 (bys ((wexF ([], false) (List.map (fun y : RExt => (y.1, y.2.1.l)) xs)).1)) 5, .box bl [.slice al (List.length xs) cl] 36], rfl, he9, by kernel_rfl, fun ac11 En12 Hv13 => ?_⟩
 refine f_e ?_
 refine d_end0 En12 (by kernel_rfl) ?_
 exact ⟨wa5, wc6, rfl, Hv13.pk [0, 1]⟩

theorem put_pexts (w : World) (bl : Nat) (al : Option Addr) (cl : Nat) (xs : List RExt) (il : InS fExt 32 (fun y : RExt => (True ∧ (InB w [.box bl [.slice al (List.length xs) cl] 36] y.2.1.a y.2.1.c y.2.1.l ∧ (True)))) w [.box bl [.slice al (List.length xs) cl] 36] al cl xs) (hq0 : List.length (allM exF (List.map (fun y : RExt => (y.1, y.2.1.l)) xs)).1 ≤ 16777216) (hH : Heap w [.box bl [.slice al (List.length xs) cl] 36]) : Calls Try.prog 99 #[.func (.func 201) #[] #[pt bl]] w fun e w' => ∃ a' c', e = .returned (.slice a' (List.length (doneL ((wexF ([], false) (List.map (fun y : RExt => (y.1, y.2.1.l)) xs)).2) ((wexF ([], false) (List.map (fun y : RExt => (y.1, y.2.1.l)) xs)).1))) c') ∧ Ev w [.box bl [.slice al (List.length xs) cl] 36] w' [.vec a' c' 1 (bys (doneL ((wexF ([], false) (List.map (fun y : RExt => (y.1, y.2.1.l)) xs)).2) ((wexF ([], false) (List.map (fun y : RExt => (y.1, y.2.1.l)) xs)).1))) 5] := by
 refine d_0 [(0, .func (.func 201) #[] #[pt bl])] 11 Go.Proofs.Try.func99 Go.Proofs.Try.ntmps99 (hH) fun act0 En0 Hv0 => ?_
 refine d_s [0,2] [] En0 fun ac1 En2 => ?_
 refine wp_seq ?_
 refine region_from ?_
 refine d_k [0,2,4] [] 1 En2 fun ac3 En4 => ?_
 refine f_o ?_
 refine m_m 115 [.slice none 0 0, .bool false] En4 Hv0 fun ac6 wo7 bk5 En8 Hv9 => ?_
 refine d_e [0,2,3] [] En8 fun ac10 En11 => ?_
 refine then_normal ?_
 refine wp_seq ?_
 refine region_from ?_
 refine d_k [2,3,6,7] [] 2 En11 fun ac12 En13 => ?_
 refine f_o ?_
 have Hv14 : Ev w [.box bl [.slice al (List.length xs) cl] 36] wo7 [.box bl [.slice al (List.length xs) cl] 36, .box bk5 [.slice none 0 0, .bool false] 115, .vec none 0 1 (bys []) 5] := Ev.nil (sz := 1) (T := 5) Hv9
 refine c_l [1,2,0] (M := [.box bk5 [.slice none 0 0, .bool false] 115, .vec none 0 1 (bys []) 5, .box bl [.slice al (List.length xs) cl] 36]) En13 Hv14 (fun hM17 => pexts_1 _ bk5 bl al cl xs (il.go Hv14 [1, 2, 0] (by kernel_rfl) (fun _ h => ⟨h.1, (InB.ev h.2.1 Hv14).pick [1, 2, 0] (by kernel_rfl), h.2.2⟩)) hq0 hM17) ?_
 rintro _ wo18 ⟨wa15, wc16, rfl, he19⟩
 refine ⟨_, _, [.box bk5 [.slice wa15 (List.length ((wexF ([], false) (List.map (fun y : RExt => (y.1, y.2.1.l)) xs)).1)) wc16, .bool ((wexF ([], false) (List.map (fun y : RExt => (y.1, y.2.1.l)) xs)).2)] 115, .vec wa15 wc16 1 (bys ((wexF ([], false) (List.map (fun y : RExt => (y.1, y.2.1.l)) xs)).1)) 5], rfl, he19, by kernel_rfl, fun ac21 En22 Hv23 => ?_⟩
 refine f_e ?_
 refine then_normal ?_
 refine wp_seq ?_
 refine region_from ?_
 refine d_k [2,3,9] [] 1 En22 fun ac24 En25 => ?_
 refine f_o ?_
 refine c_l [0,1] (M := [.box bk5 [.slice wa15 (List.length ((wexF ([], false) (List.map (fun y : RExt => (y.1, y.2.1.l)) xs)).1)) wc16, .bool ((wexF ([], false) (List.map (fun y : RExt => (y.1, y.2.1.l)) xs)).2)] 115, .vec wa15 wc16 1 (bys ((wexF ([], false) (List.map (fun y : RExt => (y.1, y.2.1.l)) xs)).1)) 5]) En25 Hv23 (fun hM28 => wdone_go _ bk5 wa15 wc16 ((wexF ([], false) (List.map (fun y : RExt => (y.1, y.2.1.l)) xs)).1) ((wexF ([], false) (List.map (fun y : RExt => (y.1, y.2.1.l)) xs)).2) hM28) ?_
 rintro _ wo29 ⟨da26, dc27, rfl, he30⟩
 refine ⟨_, _, [.vec da26 dc27 1 (bys (doneL ((wexF ([], false) (List.map (fun y : RExt => (y.1, y.2.1.l)) xs)).2) ((wexF ([], false) (List.map (fun y : RExt => (y.1, y.2.1.l)) xs)).1))) 5], rfl, he30, by kernel_rfl, fun ac32 En33 Hv34 => ?_⟩
 refine d_e [2,3] [] En33 fun ac35 En36 => ?_
 refine then_normal ?_
 refine wp_ret ?_
 refine d_ret1 (t := 2) (v := .slice da26 (List.length (doneL ((wexF ([], false) (List.map (fun y : RExt => (y.1, y.2.1.l)) xs)).2) ((wexF ([], false) (List.map (fun y : RExt => (y.1, y.2.1.l)) xs)).1))) dc27) En36 (by kernel_rfl) (by kernel_rfl) ?_
 exact ⟨da26, dc27, rfl, Hv34.pk [0]⟩

theorem pexts_go (w : World) (al : Option Addr) (cl : Nat) (xs : List RExt) (il : InS fExt 32 (fun y : RExt => (True ∧ (InB w [] y.2.1.a y.2.1.c y.2.1.l ∧ (True)))) w [] al cl xs) (hq0 : List.length (allM exF (List.map (fun y : RExt => (y.1, y.2.1.l)) xs)).1 ≤ 16777216) : Calls Try.prog 97 #[.slice al (List.length xs) cl] w fun e w' => ∃ a' c', e = .returned (.slice a' (List.length (exsP (List.map (fun y : RExt => (y.1, y.2.1.l)) xs))) c') ∧ Ev w [] w' [.vec a' c' 1 (bys (exsP (List.map (fun y : RExt => (y.1, y.2.1.l)) xs))) 5] := by
 refine d_0 [(0, .slice al (List.length xs) cl)] 5 Go.Proofs.Try.func97 Go.Proofs.Try.ntmps97 (Heap.nil _) fun act0 En0 Hv0 => ?_
 refine wp_seq ?_
 refine region_from ?_
 refine f_o ?_
 refine m_m 36 [.slice al (List.length xs) cl] En0 Hv0 fun ac2 wo3 bk1 En4 Hv5 => ?_
 refine d_e [1,2] [] En4 fun ac6 En7 => ?_
 refine then_normal ?_
 refine wp_seq ?_
 refine region_from ?_
 refine d_k [2,3] [] 1 En7 fun ac8 En9 => ?_
 refine f_o ?_
 refine c_l [0] (M := [.box bk1 [.slice al (List.length xs) cl] 36]) En9 Hv5 (fun hM12 => put_pexts _ bk1 al cl xs (il.go Hv5 [0] (by kernel_rfl) (fun _ h => ⟨h.1, (InB.ev h.2.1 Hv5).pick [0] (by kernel_rfl), h.2.2⟩)) hq0 hM12) ?_
 rintro _ wo13 ⟨pa10, pc11, rfl, he14⟩
 refine ⟨_, _, [.vec pa10 pc11 1 (bys (exsP (List.map (fun y : RExt => (y.1, y.2.1.l)) xs))) 5], rfl, he14, by kernel_rfl, fun ac16 En17 Hv18 => ?_⟩
 refine d_e [2] [] En17 fun ac19 En20 => ?_
 refine then_normal ?_
 refine wp_ret ?_
 refine d_ret1 (t := 2) (v := .slice pa10 (List.length (exsP (List.map (fun y : RExt => (y.1, y.2.1.l)) xs))) pc11) En20 (by kernel_rfl) (by kernel_rfl) ?_
 exact ⟨pa10, pc11, rfl, Hv18.pk [0]⟩

theorem prequest_1 (w : World) (bw : Nat) (bt : Nat) (ab : Option Addr) (cb : Nat) (b : Bs) (al : Option Addr) (cl : Nat) (xs : List RExt) (ib : InB w [.box bw [.slice none 0 0, .bool false] 115, .vec none 0 1 (bys []) 5, .box bt [.slice ab (List.length b) cb, .slice al (List.length xs) cl] 96] ab cb b) (il : InS fExt 32 (fun y : RExt => (True ∧ (InB w [.box bw [.slice none 0 0, .bool false] 115, .vec none 0 1 (bys []) 5, .box bt [.slice ab (List.length b) cb, .slice al (List.length xs) cl] 96] y.2.1.a y.2.1.c y.2.1.l ∧ (True)))) w [.box bw [.slice none 0 0, .bool false] 115, .vec none 0 1 (bys []) 5, .box bt [.slice ab (List.length b) cb, .slice al (List.length xs) cl] 96] al cl xs) (hq0 : List.length (allM exF (List.map (fun y : RExt => (y.1, y.2.1.l)) xs)).1 ≤ 16777216) (hH : Heap w [.box bw [.slice none 0 0, .bool false] 115, .vec none 0 1 (bys []) 5, .box bt [.slice ab (List.length b) cb, .slice al (List.length xs) cl] 96]) : Calls Try.prog 200 #[pt bw, pt bt] w fun e w' => ∃ a' c', e = .returned (.tuple #[]) ∧ Ev w [.box bw [.slice none 0 0, .bool false] 115, .vec none 0 1 (bys []) 5, .box bt [.slice ab (List.length b) cb, .slice al (List.length xs) cl] 96] w' [.box bw [.slice a' (List.length ((reqF ([], false) (b, (List.map (fun y : RExt => (y.1, y.2.1.l)) xs))).1)) c', .bool ((reqF ([], false) (b, (List.map (fun y : RExt => (y.1, y.2.1.l)) xs))).2)] 115, .vec a' c' 1 (bys ((reqF ([], false) (b, (List.map (fun y : RExt => (y.1, y.2.1.l)) xs))).1)) 5] := by
 have hbs := ib.small
 refine d_0 [(0, pt bw), (1, pt bt)] 11 Go.Proofs.Try.func200 Go.Proofs.Try.ntmps200 (hH) fun act0 En0 Hv0 => ?_
 refine wp_seq ?_
 refine region_from ?_
 refine d_k [0,1,3,4] [] 2 En0 fun ac1 En2 => ?_
 refine f_o ?_
 refine m_l 2 En2 Hv0 fun ac3 En4 => ?_
 refine f_o ?_
 refine c_l [0,1] (M := [.box bw [.slice none 0 0, .bool false] 115, .vec none 0 1 (bys []) 5]) En4 Hv0 (fun hM7 => wlist_go _ bw none 0 [] false 1 (by omega) 0 255 (by omega) (by omega) ab cb b ((ib.ev Hv0).pick [0, 1] (by kernel_rfl)) (by first | omega | (simp only [u16F, beN_len, List.length_nil, List.length_append]; omega) | (simp only [wput_len, beN_len, List.length_nil, List.length_append]; omega) | (simp [wput_len, beN_len]; done) | (simp [wput_len, beN_len]; omega)) hM7) ?_
 rintro _ wo8 ⟨wa5, wc6, rfl, he9⟩
 refine ⟨_, _, [.box bw [.slice wa5 (List.length (wput 1 [] b)) wc6, .bool (wbad 1 0 255 (List.length b) false)] 115, .vec wa5 wc6 1 (bys (wput 1 [] b)) 5, .box bt [.slice ab (List.length b) cb, .slice al (List.length xs) cl] 96], rfl, he9, by kernel_rfl, fun ac11 En12 Hv13 => ?_⟩
 refine f_e ?_
 refine then_normal ?_
 refine region_from ?_
 refine d_k [0,1,7,8] [] 2 En12 fun ac14 En15 => ?_
 refine f_o ?_
 refine m_l 2 En15 Hv13 fun ac16 En17 => ?_
 refine f_o ?_
 refine c_l [0,1] (M := [.box bw [.slice wa5 (List.length (wput 1 [] b)) wc6, .bool (wbad 1 0 255 (List.length b) false)] 115, .vec wa5 wc6 1 (bys (wput 1 [] b)) 5]) En17 Hv13 (fun hM20 => wexts_go _ bw wa5 wc6 (wput 1 [] b) (wbad 1 0 255 (List.length b) false) al cl xs (il.go Hv13 [0, 1] (by kernel_rfl) (fun _ h => ⟨h.1, (InB.ev h.2.1 Hv13).pick [0, 1] (by kernel_rfl), h.2.2⟩)) (by omega) (by first | omega | (simp only [u16F, beN_len, List.length_nil, List.length_append]; omega) | (simp only [wput_len, beN_len, List.length_nil, List.length_append]; omega) | (simp [wput_len, beN_len]; done) | (simp [wput_len, beN_len]; omega)) hM20) ?_
 rintro _ wo21 ⟨wa18, wc19, rfl, he22⟩
 refine ⟨_, _, [.box bw [.slice wa18 (List.length ((wexF (wput 1 [] b, wbad 1 0 255 (List.length b) false) (List.map (fun y : RExt => (y.1, y.2.1.l)) xs)).1)) wc19, .bool ((wexF (wput 1 [] b, wbad 1 0 255 (List.length b) false) (List.map (fun y : RExt => (y.1, y.2.1.l)) xs)).2)] 115, .vec wa18 wc19 1 (bys ((wexF (wput 1 [] b, wbad 1 0 255 (List.length b) false) (List.map (fun y : RExt => (y.1, y.2.1.l)) xs)).1)) 5, .box bt [.slice ab (List.length b) cb, .slice al (List.length xs) cl] 96], rfl, he22, by kernel_rfl, fun ac24 En25 Hv26 => ?_⟩
 refine f_e ?_
 refine d_end0 En25 (by kernel_rfl) ?_
 exact ⟨wa18, wc19, rfl, Hv26.pk [0, 1]⟩

theorem put_prequest (w : World) (bt : Nat) (ab : Option Addr) (cb : Nat) (b : Bs) (al : Option Addr) (cl : Nat) (xs : List RExt) (ib : InB w [.box bt [.slice ab (List.length b) cb, .slice al (List.length xs) cl] 96] ab cb b) (il : InS fExt 32 (fun y : RExt => (True ∧ (InB w [.box bt [.slice ab (List.length b) cb, .slice al (List.length xs) cl] 96] y.2.1.a y.2.1.c y.2.1.l ∧ (True)))) w [.box bt [.slice ab (List.length b) cb, .slice al (List.length xs) cl] 96] al cl xs) (hq0 : List.length (allM exF (List.map (fun y : RExt => (y.1, y.2.1.l)) xs)).1 ≤ 16777216) (hH : Heap w [.box bt [.slice ab (List.length b) cb, .slice al (List.length xs) cl] 96]) : Calls Try.prog 99 #[.func (.func 200) #[] #[pt bt]] w fun e w' => ∃ a' c', e = .returned (.slice a' (List.length (doneL ((reqF ([], false) (b, (List.map (fun y : RExt => (y.1, y.2.1.l)) xs))).2) ((reqF ([], false) (b, (List.map (fun y : RExt => (y.1, y.2.1.l)) xs))).1))) c') ∧ Ev w [.box bt [.slice ab (List.length b) cb, .slice al (List.length xs) cl] 96] w' [.vec a' c' 1 (bys (doneL ((reqF ([], false) (b, (List.map (fun y : RExt => (y.1, y.2.1.l)) xs))).2) ((reqF ([], false) (b, (List.map (fun y : RExt => (y.1, y.2.1.l)) xs))).1))) 5] := by
 refine d_0 [(0, .func (.func 200) #[] #[pt bt])] 11 Go.Proofs.Try.func99 Go.Proofs.Try.ntmps99 (hH) fun act0 En0 Hv0 => ?_
 refine d_s [0,2] [] En0 fun ac1 En2 => ?_
 refine wp_seq ?_
 refine region_from ?_
 refine d_k [0,2,4] [] 1 En2 fun ac3 En4 => ?_
 refine f_o ?_
 refine m_m 115 [.slice none 0 0, .bool false] En4 Hv0 fun ac6 wo7 bk5 En8 Hv9 => ?_
 refine d_e [0,2,3] [] En8 fun ac10 En11 => ?_
 refine then_normal ?_
 refine wp_seq ?_
 refine region_from ?_
 refine d_k [2,3,6,7] [] 2 En11 fun ac12 En13 => ?_
 refine f_o ?_
 have Hv14 : Ev w [.box bt [.slice ab (List.length b) cb, .slice al (List.length xs) cl] 96] wo7 [.box bt [.slice ab (List.length b) cb, .slice al (List.length xs) cl] 96, .box bk5 [.slice none 0 0, .bool false] 115, .vec none 0 1 (bys []) 5] := Ev.nil (sz := 1) (T := 5) Hv9
 refine c_l [1,2,0] (M := [.box bk5 [.slice none 0 0, .bool false] 115, .vec none 0 1 (bys []) 5, .box bt [.slice ab (List.length b) cb, .slice al (List.length xs) cl] 96]) En13 Hv14 (fun hM17 => prequest_1 _ bk5 bt ab cb b al cl xs ((ib.ev Hv14).pick [1, 2, 0] (by kernel_rfl)) (il.go Hv14 [1, 2, 0] (by kernel_rfl) (fun _ h => ⟨h.1, (InB.ev h.2.1 Hv14).pick [1, 2, 0] (by kernel_rfl), h.2.2⟩)) hq0 hM17) ?_
 rintro _ wo18 ⟨wa15, wc16, rfl, he19⟩
 refine ⟨_, _, [.box bk5 [.slice wa15 (List.length ((reqF ([], false) (b, (List.map (fun y : RExt => (y.1, y.2.1.l)) xs))).1)) wc16, .bool ((reqF ([], false) (b, (List.map (fun y : RExt => (y.1, y.2.1.l)) xs))).2)] 115, .vec wa15 wc16 1 (bys ((reqF ([], false) (b, (List.map (fun y : RExt => (y.1, y.2.1.l)) xs))).1)) 5], rfl, he19, by kernel_rfl, fun ac21 En22 Hv23 => ?_⟩
 refine f_e ?_
 refine then_normal ?_
 refine wp_seq ?_
 refine region_from ?_
 refine d_k [2,3,9] [] 1 En22 fun ac24 En25 => ?_
 refine f_o ?_
 refine c_l [0,1] (M := [.box bk5 [.slice wa15 (List.length ((reqF ([], false) (b, (List.map (fun y : RExt => (y.1, y.2.1.l)) xs))).1)) wc16, .bool ((reqF ([], false) (b, (List.map (fun y : RExt => (y.1, y.2.1.l)) xs))).2)] 115, .vec wa15 wc16 1 (bys ((reqF ([], false) (b, (List.map (fun y : RExt => (y.1, y.2.1.l)) xs))).1)) 5]) En25 Hv23 (fun hM28 => wdone_go _ bk5 wa15 wc16 ((reqF ([], false) (b, (List.map (fun y : RExt => (y.1, y.2.1.l)) xs))).1) ((reqF ([], false) (b, (List.map (fun y : RExt => (y.1, y.2.1.l)) xs))).2) hM28) ?_
 rintro _ wo29 ⟨da26, dc27, rfl, he30⟩
 refine ⟨_, _, [.vec da26 dc27 1 (bys (doneL ((reqF ([], false) (b, (List.map (fun y : RExt => (y.1, y.2.1.l)) xs))).2) ((reqF ([], false) (b, (List.map (fun y : RExt => (y.1, y.2.1.l)) xs))).1))) 5], rfl, he30, by kernel_rfl, fun ac32 En33 Hv34 => ?_⟩
 refine d_e [2,3] [] En33 fun ac35 En36 => ?_
 refine then_normal ?_
 refine wp_ret ?_
 refine d_ret1 (t := 2) (v := .slice da26 (List.length (doneL ((reqF ([], false) (b, (List.map (fun y : RExt => (y.1, y.2.1.l)) xs))).2) ((reqF ([], false) (b, (List.map (fun y : RExt => (y.1, y.2.1.l)) xs))).1))) dc27) En36 (by kernel_rfl) (by kernel_rfl) ?_
 exact ⟨da26, dc27, rfl, Hv34.pk [0]⟩

theorem prequest_go (w : World) (ab : Option Addr) (cb : Nat) (b : Bs) (al : Option Addr) (cl : Nat) (xs : List RExt) (ib : InB w [] ab cb b) (il : InS fExt 32 (fun y : RExt => (True ∧ (InB w [] y.2.1.a y.2.1.c y.2.1.l ∧ (True)))) w [] al cl xs) (hq0 : List.length (allM exF (List.map (fun y : RExt => (y.1, y.2.1.l)) xs)).1 ≤ 16777216) : Calls Try.prog 95 #[.agg #[.slice ab (List.length b) cb, .slice al (List.length xs) cl]] w fun e w' => ∃ a' c', e = .returned (.slice a' (List.length (reqP (b, (List.map (fun y : RExt => (y.1, y.2.1.l)) xs)))) c') ∧ Ev w [] w' [.vec a' c' 1 (bys (reqP (b, (List.map (fun y : RExt => (y.1, y.2.1.l)) xs)))) 5] := by
 have hbs := ib.small
 refine d_0 [(0, .agg #[.slice ab (List.length b) cb, .slice al (List.length xs) cl])] 5 Go.Proofs.Try.func95 Go.Proofs.Try.ntmps95 (Heap.nil _) fun act0 En0 Hv0 => ?_
 refine wp_seq ?_
 refine region_from ?_
 refine f_o ?_
 refine m_m 96 [.slice ab (List.length b) cb, .slice al (List.length xs) cl] En0 Hv0 fun ac2 wo3 bk1 En4 Hv5 => ?_
 refine d_e [1,2] [] En4 fun ac6 En7 => ?_
 refine then_normal ?_
 refine wp_seq ?_
 refine region_from ?_
 refine d_k [2,3] [] 1 En7 fun ac8 En9 => ?_
 refine f_o ?_
 refine c_l [0] (M := [.box bk1 [.slice ab (List.length b) cb, .slice al (List.length xs) cl] 96]) En9 Hv5 (fun hM12 => put_prequest _ bk1 ab cb b al cl xs ((ib.ev Hv5).pick [0] (by kernel_rfl)) (il.go Hv5 [0] (by kernel_rfl) (fun _ h => ⟨h.1, (InB.ev h.2.1 Hv5).pick [0] (by kernel_rfl), h.2.2⟩)) hq0 hM12) ?_
 rintro _ wo13 ⟨pa10, pc11, rfl, he14⟩
 refine ⟨_, _, [.vec pa10 pc11 1 (bys (reqP (b, (List.map (fun y : RExt => (y.1, y.2.1.l)) xs)))) 5], rfl, he14, by kernel_rfl, fun ac16 En17 Hv18 => ?_⟩
 refine d_e [2] [] En17 fun ac19 En20 => ?_
 refine then_normal ?_
 refine wp_ret ?_
 refine d_ret1 (t := 2) (v := .slice pa10 (List.length (reqP (b, (List.map (fun y : RExt => (y.1, y.2.1.l)) xs)))) pc11) En20 (by kernel_rfl) (by kernel_rfl) ?_
 exact ⟨pa10, pc11, rfl, Hv18.pk [0]⟩

theorem pverify_1 (w : World) (bw : Nat) (bt : Nat) (g : UInt16) (ab : Option Addr) (cb : Nat) (b : Bs) (ib : InB w [.box bw [.slice none 0 0, .bool false] 115, .vec none 0 1 (bys []) 5, .box bt [uv16 g, .slice ab (List.length b) cb] 88] ab cb b) (hH : Heap w [.box bw [.slice none 0 0, .bool false] 115, .vec none 0 1 (bys []) 5, .box bt [uv16 g, .slice ab (List.length b) cb] 88]) : Calls Try.prog 199 #[pt bw, pt bt] w fun e w' => ∃ a' c', e = .returned (.tuple #[]) ∧ Ev w [.box bw [.slice none 0 0, .bool false] 115, .vec none 0 1 (bys []) 5, .box bt [uv16 g, .slice ab (List.length b) cb] 88] w' [.box bw [.slice a' (List.length ((exF ([], false) (g, b)).1)) c', .bool ((exF ([], false) (g, b)).2)] 115, .vec a' c' 1 (bys ((exF ([], false) (g, b)).1)) 5] := by
 have hbs := ib.small
 refine d_0 [(0, pt bw), (1, pt bt)] 11 Go.Proofs.Try.func199 Go.Proofs.Try.ntmps199 (hH) fun act0 En0 Hv0 => ?_
 refine wp_seq ?_
 refine region_from ?_
 refine d_k [0,1,3,4] [] 2 En0 fun ac1 En2 => ?_
 refine f_o ?_
 refine m_l 2 En2 Hv0 fun ac3 En4 => ?_
 refine f_o ?_
 refine c_l [0,1] (M := [.box bw [.slice none 0 0, .bool false] 115, .vec none 0 1 (bys []) 5]) En4 Hv0 (fun hM7 => wu16_go _ bw none 0 [] false g (by first | omega | (simp only [u16F, beN_len, List.length_nil, List.length_append]; omega) | (simp only [wput_len, beN_len, List.length_nil, List.length_append]; omega) | (simp [wput_len, beN_len]; done) | (simp [wput_len, beN_len]; omega)) hM7) ?_
 rintro _ wo8 ⟨wa5, wc6, rfl, he9⟩
 refine ⟨_, _, [.box bw [.slice wa5 (List.length ((u16F ([], false) g).1)) wc6, .bool ((u16F ([], false) g).2)] 115, .vec wa5 wc6 1 (bys ((u16F ([], false) g).1)) 5, .box bt [uv16 g, .slice ab (List.length b) cb] 88], rfl, he9, by kernel_rfl, fun ac11 En12 Hv13 => ?_⟩
 refine f_e ?_
 refine then_normal ?_
 refine region_from ?_
 refine d_k [0,1,7,8] [] 2 En12 fun ac14 En15 => ?_
 refine f_o ?_
 refine m_l 2 En15 Hv13 fun ac16 En17 => ?_
 refine f_o ?_
 refine c_l [0,1] (M := [.box bw [.slice wa5 (List.length ((u16F ([], false) g).1)) wc6, .bool ((u16F ([], false) g).2)] 115, .vec wa5 wc6 1 (bys ((u16F ([], false) g).1)) 5]) En17 Hv13 (fun hM20 => wlist_go _ bw wa5 wc6 ((u16F ([], false) g).1) ((u16F ([], false) g).2) 2 (by omega) 0 65535 (by omega) (by omega) ab cb b ((ib.ev Hv13).pick [0, 1] (by kernel_rfl)) (by first | omega | (simp only [u16F, beN_len, List.length_nil, List.length_append]; omega) | (simp only [wput_len, beN_len, List.length_nil, List.length_append]; omega) | (simp [wput_len, beN_len]; done) | (simp [wput_len, beN_len]; omega)) hM20) ?_
 rintro _ wo21 ⟨wa18, wc19, rfl, he22⟩
 refine ⟨_, _, [.box bw [.slice wa18 (List.length (wput 2 ((u16F ([], false) g).1) b)) wc19, .bool (wbad 2 0 65535 (List.length b) ((u16F ([], false) g).2))] 115, .vec wa18 wc19 1 (bys (wput 2 ((u16F ([], false) g).1) b)) 5, .box bt [uv16 g, .slice ab (List.length b) cb] 88], rfl, he22, by kernel_rfl, fun ac24 En25 Hv26 => ?_⟩
 refine f_e ?_
 refine d_end0 En25 (by kernel_rfl) ?_
 exact ⟨wa18, wc19, rfl, Hv26.pk [0, 1]⟩

theorem put_pverify (w : World) (bt : Nat) (g : UInt16) (ab : Option Addr) (cb : Nat) (b : Bs) (ib : InB w [.box bt [uv16 g, .slice ab (List.length b) cb] 88] ab cb b) (hH : Heap w [.box bt [uv16 g, .slice ab (List.length b) cb] 88]) : Calls Try.prog 99 #[.func (.func 199) #[] #[pt bt]] w fun e w' => ∃ a' c', e = .returned (.slice a' (List.length (doneL ((exF ([], false) (g, b)).2) ((exF ([], false) (g, b)).1))) c') ∧ Ev w [.box bt [uv16 g, .slice ab (List.length b) cb] 88] w' [.vec a' c' 1 (bys (doneL ((exF ([], false) (g, b)).2) ((exF ([], false) (g, b)).1))) 5] := by
 refine d_0 [(0, .func (.func 199) #[] #[pt bt])] 11 Go.Proofs.Try.func99 Go.Proofs.Try.ntmps99 (hH) fun act0 En0 Hv0 => ?_
 refine d_s [0,2] [] En0 fun ac1 En2 => ?_
 refine wp_seq ?_
 refine region_from ?_
 refine d_k [0,2,4] [] 1 En2 fun ac3 En4 => ?_
 refine f_o ?_
 refine m_m 115 [.slice none 0 0, .bool false] En4 Hv0 fun ac6 wo7 bk5 En8 Hv9 => ?_
 refine d_e [0,2,3] [] En8 fun ac10 En11 => ?_
 refine then_normal ?_
 refine wp_seq ?_
 refine region_from ?_
 refine d_k [2,3,6,7] [] 2 En11 fun ac12 En13 => ?_
 refine f_o ?_
 have Hv14 : Ev w [.box bt [uv16 g, .slice ab (List.length b) cb] 88] wo7 [.box bt [uv16 g, .slice ab (List.length b) cb] 88, .box bk5 [.slice none 0 0, .bool false] 115, .vec none 0 1 (bys []) 5] := Ev.nil (sz := 1) (T := 5) Hv9
 refine c_l [1,2,0] (M := [.box bk5 [.slice none 0 0, .bool false] 115, .vec none 0 1 (bys []) 5, .box bt [uv16 g, .slice ab (List.length b) cb] 88]) En13 Hv14 (fun hM17 => pverify_1 _ bk5 bt g ab cb b ((ib.ev Hv14).pick [1, 2, 0] (by kernel_rfl)) hM17) ?_
 rintro _ wo18 ⟨wa15, wc16, rfl, he19⟩
 refine ⟨_, _, [.box bk5 [.slice wa15 (List.length ((exF ([], false) (g, b)).1)) wc16, .bool ((exF ([], false) (g, b)).2)] 115, .vec wa15 wc16 1 (bys ((exF ([], false) (g, b)).1)) 5], rfl, he19, by kernel_rfl, fun ac21 En22 Hv23 => ?_⟩
 refine f_e ?_
 refine then_normal ?_
 refine wp_seq ?_
 refine region_from ?_
 refine d_k [2,3,9] [] 1 En22 fun ac24 En25 => ?_
 refine f_o ?_
 refine c_l [0,1] (M := [.box bk5 [.slice wa15 (List.length ((exF ([], false) (g, b)).1)) wc16, .bool ((exF ([], false) (g, b)).2)] 115, .vec wa15 wc16 1 (bys ((exF ([], false) (g, b)).1)) 5]) En25 Hv23 (fun hM28 => wdone_go _ bk5 wa15 wc16 ((exF ([], false) (g, b)).1) ((exF ([], false) (g, b)).2) hM28) ?_
 rintro _ wo29 ⟨da26, dc27, rfl, he30⟩
 refine ⟨_, _, [.vec da26 dc27 1 (bys (doneL ((exF ([], false) (g, b)).2) ((exF ([], false) (g, b)).1))) 5], rfl, he30, by kernel_rfl, fun ac32 En33 Hv34 => ?_⟩
 refine d_e [2,3] [] En33 fun ac35 En36 => ?_
 refine then_normal ?_
 refine wp_ret ?_
 refine d_ret1 (t := 2) (v := .slice da26 (List.length (doneL ((exF ([], false) (g, b)).2) ((exF ([], false) (g, b)).1))) dc27) En36 (by kernel_rfl) (by kernel_rfl) ?_
 exact ⟨da26, dc27, rfl, Hv34.pk [0]⟩

theorem pverify_go (w : World) (g : UInt16) (ab : Option Addr) (cb : Nat) (b : Bs) (ib : InB w [] ab cb b) : Calls Try.prog 93 #[.agg #[uv16 g, .slice ab (List.length b) cb]] w fun e w' => ∃ a' c', e = .returned (.slice a' (List.length (verP (g, b))) c') ∧ Ev w [] w' [.vec a' c' 1 (bys (verP (g, b))) 5] := by
 have hbs := ib.small
 refine d_0 [(0, .agg #[uv16 g, .slice ab (List.length b) cb])] 5 Go.Proofs.Try.func93 Go.Proofs.Try.ntmps93 (Heap.nil _) fun act0 En0 Hv0 => ?_
 refine wp_seq ?_
 refine region_from ?_
 refine f_o ?_
 refine m_m 88 [uv16 g, .slice ab (List.length b) cb] En0 Hv0 fun ac2 wo3 bk1 En4 Hv5 => ?_
 refine d_e [1,2] [] En4 fun ac6 En7 => ?_
 refine then_normal ?_
 refine wp_seq ?_
 refine region_from ?_
 refine d_k [2,3] [] 1 En7 fun ac8 En9 => ?_
 refine f_o ?_
 refine c_l [0] (M := [.box bk1 [uv16 g, .slice ab (List.length b) cb] 88]) En9 Hv5 (fun hM12 => put_pverify _ bk1 g ab cb b ((ib.ev Hv5).pick [0] (by kernel_rfl)) hM12) ?_
 rintro _ wo13 ⟨pa10, pc11, rfl, he14⟩
 refine ⟨_, _, [.vec pa10 pc11 1 (bys (verP (g, b))) 5], rfl, he14, by kernel_rfl, fun ac16 En17 Hv18 => ?_⟩
 refine d_e [2] [] En17 fun ac19 En20 => ?_
 refine then_normal ?_
 refine wp_ret ?_
 refine d_ret1 (t := 2) (v := .slice pa10 (List.length (verP (g, b))) pc11) En20 (by kernel_rfl) (by kernel_rfl) ?_
 exact ⟨pa10, pc11, rfl, Hv18.pk [0]⟩

theorem pticket_1 (w : World) (bw : Nat) (bt : Nat) (g g2 : UInt32) (at1 : Option Addr) (ct : Nat) (t : Bs) (ab : Option Addr) (cb : Nat) (b : Bs) (al : Option Addr) (cl : Nat) (xs : List RExt) (it : InB w [.box bw [.slice none 0 0, .bool false] 115, .vec none 0 1 (bys []) 5, .box bt [uv32 g, uv32 g2, .slice at1 (List.length t) ct, .slice ab (List.length b) cb, .slice al (List.length xs) cl] 86] at1 ct t) (ib : InB w [.box bw [.slice none 0 0, .bool false] 115, .vec none 0 1 (bys []) 5, .box bt [uv32 g, uv32 g2, .slice at1 (List.length t) ct, .slice ab (List.length b) cb, .slice al (List.length xs) cl] 86] ab cb b) (il : InS fExt 32 (fun y : RExt => (True ∧ (InB w [.box bw [.slice none 0 0, .bool false] 115, .vec none 0 1 (bys []) 5, .box bt [uv32 g, uv32 g2, .slice at1 (List.length t) ct, .slice ab (List.length b) cb, .slice al (List.length xs) cl] 86] y.2.1.a y.2.1.c y.2.1.l ∧ (True)))) w [.box bw [.slice none 0 0, .bool false] 115, .vec none 0 1 (bys []) 5, .box bt [uv32 g, uv32 g2, .slice at1 (List.length t) ct, .slice ab (List.length b) cb, .slice al (List.length xs) cl] 86] al cl xs) (hq0 : List.length (allM exF (List.map (fun y : RExt => (y.1, y.2.1.l)) xs)).1 ≤ 16777216) (hbt : List.length t + List.length b ≤ 16777216) (hH : Heap w [.box bw [.slice none 0 0, .bool false] 115, .vec none 0 1 (bys []) 5, .box bt [uv32 g, uv32 g2, .slice at1 (List.length t) ct, .slice ab (List.length b) cb, .slice al (List.length xs) cl] 86]) : Calls Try.prog 198 #[pt bw, pt bt] w fun e w' => ∃ a' c', e = .returned (.tuple #[]) ∧ Ev w [.box bw [.slice none 0 0, .bool false] 115, .vec none 0 1 (bys []) 5, .box bt [uv32 g, uv32 g2, .slice at1 (List.length t) ct, .slice ab (List.length b) cb, .slice al (List.length xs) cl] 86] w' [.box bw [.slice a' (List.length ((ticF ([], false) (g, g2, t, b, (List.map (fun y : RExt => (y.1, y.2.1.l)) xs))).1)) c', .bool ((ticF ([], false) (g, g2, t, b, (List.map (fun y : RExt => (y.1, y.2.1.l)) xs))).2)] 115, .vec a' c' 1 (bys ((ticF ([], false) (g, g2, t, b, (List.map (fun y : RExt => (y.1, y.2.1.l)) xs))).1)) 5] := by
 have hbs := ib.small
 have hts := it.small
 refine d_0 [(0, pt bw), (1, pt bt)] 25 Go.Proofs.Try.func198 Go.Proofs.Try.ntmps198 (hH) fun act0 En0 Hv0 => ?_
 refine wp_seq ?_
 refine region_from ?_
 refine d_k [0,1,3,4] [] 2 En0 fun ac1 En2 => ?_
 refine f_o ?_
 refine m_l 2 En2 Hv0 fun ac3 En4 => ?_
 refine d_k [0,1,3,6] [(3, g_i .u64 (Go.Dbr.u32_to_u64 (x := g) rfl))] 4 En4 fun ac5 En6 => ?_
 refine f_o ?_
 refine c_l [0,1] (M := [.box bw [.slice none 0 0, .bool false] 115, .vec none 0 1 (bys []) 5]) En6 Hv0 (fun hM9 => wnum_go _ bw none 0 [] false 4 (by omega) (UInt32.toUInt64 g) (by first | omega | (simp only [beN_len, List.length_nil, List.length_append]; omega)) hM9) ?_
 rintro _ wo10 ⟨wa7, wc8, rfl, he11⟩
 refine ⟨_, _, [.box bw [.slice wa7 (List.length ([] ++ beN 4 (UInt64.toNat (UInt32.toUInt64 g)))) wc8, .bool false] 115, .vec wa7 wc8 1 (bys ([] ++ beN 4 (UInt64.toNat (UInt32.toUInt64 g)))) 5, .box bt [uv32 g, uv32 g2, .slice at1 (List.length t) ct, .slice ab (List.length b) cb, .slice al (List.length xs) cl] 86], rfl, he11, by kernel_rfl, fun ac13 En14 Hv15 => ?_⟩
 refine f_e ?_
 refine then_normal ?_
 refine wp_seq ?_
 refine region_from ?_
 refine d_k [0,1,8,9] [] 2 En14 fun ac16 En17 => ?_
 refine f_o ?_
 refine m_l 2 En17 Hv15 fun ac18 En19 => ?_
 refine d_k [0,1,8,11] [(3, g_i .u64 (Go.Dbr.u32_to_u64 (x := g2) rfl))] 4 En19 fun ac20 En21 => ?_
 refine f_o ?_
 refine c_l [0,1] (M := [.box bw [.slice wa7 (List.length ([] ++ beN 4 (UInt64.toNat (UInt32.toUInt64 g)))) wc8, .bool false] 115, .vec wa7 wc8 1 (bys ([] ++ beN 4 (UInt64.toNat (UInt32.toUInt64 g)))) 5]) En21 Hv15 (fun hM24 => wnum_go _ bw wa7 wc8 ([] ++ beN 4 (UInt64.toNat (UInt32.toUInt64 g))) false 4 (by omega) (UInt32.toUInt64 g2) (by first | omega | (simp only [beN_len, List.length_nil, List.length_append]; omega)) hM24) ?_
 rintro _ wo25 ⟨wa22, wc23, rfl, he26⟩
 refine ⟨_, _, [.box bw [.slice wa22 (List.length (([] ++ beN 4 (UInt64.toNat (UInt32.toUInt64 g))) ++ beN 4 (UInt64.toNat (UInt32.toUInt64 g2)))) wc23, .bool false] 115, .vec wa22 wc23 1 (bys (([] ++ beN 4 (UInt64.toNat (UInt32.toUInt64 g))) ++ beN 4 (UInt64.toNat (UInt32.toUInt64 g2)))) 5, .box bt [uv32 g, uv32 g2, .slice at1 (List.length t) ct, .slice ab (List.length b) cb, .slice al (List.length xs) cl] 86], rfl, he26, by kernel_rfl, fun ac28 En29 Hv30 => ?_⟩
 refine f_e ?_
 refine then_normal ?_
 refine wp_seq ?_
 refine region_from ?_
 refine d_k [0,1,13,14] [] 2 En29 fun ac31 En32 => ?_
 refine f_o ?_
 refine m_l 2 En32 Hv30 fun ac33 En34 => ?_
 refine f_o ?_
 refine c_l [0,1] (M := [.box bw [.slice wa22 (List.length (([] ++ beN 4 (UInt64.toNat (UInt32.toUInt64 g))) ++ beN 4 (UInt64.toNat (UInt32.toUInt64 g2)))) wc23, .bool false] 115, .vec wa22 wc23 1 (bys (([] ++ beN 4 (UInt64.toNat (UInt32.toUInt64 g))) ++ beN 4 (UInt64.toNat (UInt32.toUInt64 g2)))) 5]) En34 Hv30 (fun hM37 => wlist_go _ bw wa22 wc23 (([] ++ beN 4 (UInt64.toNat (UInt32.toUInt64 g))) ++ beN 4 (UInt64.toNat (UInt32.toUInt64 g2))) false 1 (by omega) 0 255 (by omega) (by omega) at1 ct t ((it.ev Hv30).pick [0, 1] (by kernel_rfl)) (by first | omega | (simp only [u16F, beN_len, List.length_nil, List.length_append]; omega) | (simp only [wput_len, beN_len, List.length_nil, List.length_append]; omega) | (simp [wput_len, beN_len]; done) | (simp [wput_len, beN_len]; omega)) hM37) ?_
 rintro _ wo38 ⟨wa35, wc36, rfl, he39⟩
 refine ⟨_, _, [.box bw [.slice wa35 (List.length (wput 1 (([] ++ beN 4 (UInt64.toNat (UInt32.toUInt64 g))) ++ beN 4 (UInt64.toNat (UInt32.toUInt64 g2))) t)) wc36, .bool (wbad 1 0 255 (List.length t) false)] 115, .vec wa35 wc36 1 (bys (wput 1 (([] ++ beN 4 (UInt64.toNat (UInt32.toUInt64 g))) ++ beN 4 (UInt64.toNat (UInt32.toUInt64 g2))) t)) 5, .box bt [uv32 g, uv32 g2, .slice at1 (List.length t) ct, .slice ab (List.length b) cb, .slice al (List.length xs) cl] 86], rfl, he39, by kernel_rfl, fun ac41 En42 Hv43 => ?_⟩
 refine f_e ?_
 refine then_normal ?_
 refine wp_seq ?_
 refine region_from ?_
 refine d_k [0,1,17,18] [] 2 En42 fun ac44 En45 => ?_
 refine f_o ?_
 refine m_l 2 En45 Hv43 fun ac46 En47 => ?_
 refine f_o ?_
 refine c_l [0,1] (M := [.box bw [.slice wa35 (List.length (wput 1 (([] ++ beN 4 (UInt64.toNat (UInt32.toUInt64 g))) ++ beN 4 (UInt64.toNat (UInt32.toUInt64 g2))) t)) wc36, .bool (wbad 1 0 255 (List.length t) false)] 115, .vec wa35 wc36 1 (bys (wput 1 (([] ++ beN 4 (UInt64.toNat (UInt32.toUInt64 g))) ++ beN 4 (UInt64.toNat (UInt32.toUInt64 g2))) t)) 5]) En47 Hv43 (fun hM50 => wlist_go _ bw wa35 wc36 (wput 1 (([] ++ beN 4 (UInt64.toNat (UInt32.toUInt64 g))) ++ beN 4 (UInt64.toNat (UInt32.toUInt64 g2))) t) (wbad 1 0 255 (List.length t) false) 2 (by omega) 1 65535 (by omega) (by omega) ab cb b ((ib.ev Hv43).pick [0, 1] (by kernel_rfl)) (by first | omega | (simp only [u16F, beN_len, List.length_nil, List.length_append]; omega) | (simp only [wput_len, beN_len, List.length_nil, List.length_append]; omega) | (simp [wput_len, beN_len]; done) | (simp [wput_len, beN_len]; omega)) hM50) ?_
 rintro _ wo51 ⟨wa48, wc49, rfl, he52⟩
 refine ⟨_, _, [.box bw [.slice wa48 (List.length (wput 2 (wput 1 (([] ++ beN 4 (UInt64.toNat (UInt32.toUInt64 g))) ++ beN 4 (UInt64.toNat (UInt32.toUInt64 g2))) t) b)) wc49, .bool (wbad 2 1 65535 (List.length b) (wbad 1 0 255 (List.length t) false))] 115, .vec wa48 wc49 1 (bys (wput 2 (wput 1 (([] ++ beN 4 (UInt64.toNat (UInt32.toUInt64 g))) ++ beN 4 (UInt64.toNat (UInt32.toUInt64 g2))) t) b)) 5, .box bt [uv32 g, uv32 g2, .slice at1 (List.length t) ct, .slice ab (List.length b) cb, .slice al (List.length xs) cl] 86], rfl, he52, by kernel_rfl, fun ac54 En55 Hv56 => ?_⟩
 refine f_e ?_
 refine then_normal ?_
 refine region_from ?_
 refine d_k [0,1,21,22] [] 2 En55 fun ac57 En58 => ?_
 refine f_o ?_
 refine m_l 2 En58 Hv56 fun ac59 En60 => ?_
 refine f_o ?_
 refine c_l [0,1] (M := [.box bw [.slice wa48 (List.length (wput 2 (wput 1 (([] ++ beN 4 (UInt64.toNat (UInt32.toUInt64 g))) ++ beN 4 (UInt64.toNat (UInt32.toUInt64 g2))) t) b)) wc49, .bool (wbad 2 1 65535 (List.length b) (wbad 1 0 255 (List.length t) false))] 115, .vec wa48 wc49 1 (bys (wput 2 (wput 1 (([] ++ beN 4 (UInt64.toNat (UInt32.toUInt64 g))) ++ beN 4 (UInt64.toNat (UInt32.toUInt64 g2))) t) b)) 5]) En60 Hv56 (fun hM63 => wexts_go _ bw wa48 wc49 (wput 2 (wput 1 (([] ++ beN 4 (UInt64.toNat (UInt32.toUInt64 g))) ++ beN 4 (UInt64.toNat (UInt32.toUInt64 g2))) t) b) (wbad 2 1 65535 (List.length b) (wbad 1 0 255 (List.length t) false)) al cl xs (il.go Hv56 [0, 1] (by kernel_rfl) (fun _ h => ⟨h.1, (InB.ev h.2.1 Hv56).pick [0, 1] (by kernel_rfl), h.2.2⟩)) (by omega) (by first | omega | (simp only [u16F, beN_len, List.length_nil, List.length_append]; omega) | (simp only [wput_len, beN_len, List.length_nil, List.length_append]; omega) | (simp [wput_len, beN_len]; done) | (simp [wput_len, beN_len]; omega)) hM63) ?_
 rintro _ wo64 ⟨wa61, wc62, rfl, he65⟩
 refine ⟨_, _, [.box bw [.slice wa61 (List.length ((wexF (wput 2 (wput 1 (([] ++ beN 4 (UInt64.toNat (UInt32.toUInt64 g))) ++ beN 4 (UInt64.toNat (UInt32.toUInt64 g2))) t) b, wbad 2 1 65535 (List.length b) (wbad 1 0 255 (List.length t) false)) (List.map (fun y : RExt => (y.1, y.2.1.l)) xs)).1)) wc62, .bool ((wexF (wput 2 (wput 1 (([] ++ beN 4 (UInt64.toNat (UInt32.toUInt64 g))) ++ beN 4 (UInt64.toNat (UInt32.toUInt64 g2))) t) b, wbad 2 1 65535 (List.length b) (wbad 1 0 255 (List.length t) false)) (List.map (fun y : RExt => (y.1, y.2.1.l)) xs)).2)] 115, .vec wa61 wc62 1 (bys ((wexF (wput 2 (wput 1 (([] ++ beN 4 (UInt64.toNat (UInt32.toUInt64 g))) ++ beN 4 (UInt64.toNat (UInt32.toUInt64 g2))) t) b, wbad 2 1 65535 (List.length b) (wbad 1 0 255 (List.length t) false)) (List.map (fun y : RExt => (y.1, y.2.1.l)) xs)).1)) 5, .box bt [uv32 g, uv32 g2, .slice at1 (List.length t) ct, .slice ab (List.length b) cb, .slice al (List.length xs) cl] 86], rfl, he65, by kernel_rfl, fun ac67 En68 Hv69 => ?_⟩
 refine f_e ?_
 refine d_end0 En68 (by kernel_rfl) ?_
 exact ⟨wa61, wc62, rfl, Hv69.pk [0, 1]⟩

theorem put_pticket (w : World) (bt : Nat) (g g2 : UInt32) (at1 : Option Addr) (ct : Nat) (t : Bs) (ab : Option Addr) (cb : Nat) (b : Bs) (al : Option Addr) (cl : Nat) (xs : List RExt) (it : InB w [.box bt [uv32 g, uv32 g2, .slice at1 (List.length t) ct, .slice ab (List.length b) cb, .slice al (List.length xs) cl] 86] at1 ct t) (ib : InB w [.box bt [uv32 g, uv32 g2, .slice at1 (List.length t) ct, .slice ab (List.length b) cb, .slice al (List.length xs) cl] 86] ab cb b) (il : InS fExt 32 (fun y : RExt => (True ∧ (InB w [.box bt [uv32 g, uv32 g2, .slice at1 (List.length t) ct, .slice ab (List.length b) cb, .slice al (List.length xs) cl] 86] y.2.1.a y.2.1.c y.2.1.l ∧ (True)))) w [.box bt [uv32 g, uv32 g2, .slice at1 (List.length t) ct, .slice ab (List.length b) cb, .slice al (List.length xs) cl] 86] al cl xs) (hq0 : List.length (allM exF (List.map (fun y : RExt => (y.1, y.2.1.l)) xs)).1 ≤ 16777216) (hbt : List.length t + List.length b ≤ 16777216) (hH : Heap w [.box bt [uv32 g, uv32 g2, .slice at1 (List.length t) ct, .slice ab (List.length b) cb, .slice al (List.length xs) cl] 86]) : Calls Try.prog 99 #[.func (.func 198) #[] #[pt bt]] w fun e w' => ∃ a' c', e = .returned (.slice a' (List.length (doneL ((ticF ([], false) (g, g2, t, b, (List.map (fun y : RExt => (y.1, y.2.1.l)) xs))).2) ((ticF ([], false) (g, g2, t, b, (List.map (fun y : RExt => (y.1, y.2.1.l)) xs))).1))) c') ∧ Ev w [.box bt [uv32 g, uv32 g2, .slice at1 (List.length t) ct, .slice ab (List.length b) cb, .slice al (List.length xs) cl] 86] w' [.vec a' c' 1 (bys (doneL ((ticF ([], false) (g, g2, t, b, (List.map (fun y : RExt => (y.1, y.2.1.l)) xs))).2) ((ticF ([], false) (g, g2, t, b, (List.map (fun y : RExt => (y.1, y.2.1.l)) xs))).1))) 5] := by
 refine d_0 [(0, .func (.func 198) #[] #[pt bt])] 11 Go.Proofs.Try.func99 Go.Proofs.Try.ntmps99 (hH) fun act0 En0 Hv0 => ?_
 refine d_s [0,2] [] En0 fun ac1 En2 => ?_
 refine wp_seq ?_
 refine region_from ?_
 refine d_k [0,2,4] [] 1 En2 fun ac3 En4 => ?_
 refine f_o ?_
 refine m_m 115 [.slice none 0 0, .bool false] En4 Hv0 fun ac6 wo7 bk5 En8 Hv9 => ?_
 refine d_e [0,2,3] [] En8 fun ac10 En11 => ?_
 refine then_normal ?_
 refine wp_seq ?_
 refine region_from ?_
 refine d_k [2,3,6,7] [] 2 En11 fun ac12 En13 => ?_
 refine f_o ?_
 have Hv14 : Ev w [.box bt [uv32 g, uv32 g2, .slice at1 (List.length t) ct, .slice ab (List.length b) cb, .slice al (List.length xs) cl] 86] wo7 [.box bt [uv32 g, uv32 g2, .slice at1 (List.length t) ct, .slice ab (List.length b) cb, .slice al (List.length xs) cl] 86, .box bk5 [.slice none 0 0, .bool false] 115, .vec none 0 1 (bys []) 5] := Ev.nil (sz := 1) (T := 5) Hv9
 refine c_l [1,2,0] (M := [.box bk5 [.slice none 0 0, .bool false] 115, .vec none 0 1 (bys []) 5, .box bt [uv32 g, uv32 g2, .slice at1 (List.length t) ct, .slice ab (List.length b) cb, .slice al (List.length xs) cl] 86]) En13 Hv14 (fun hM17 => pticket_1 _ bk5 bt g g2 at1 ct t ab cb b al cl xs ((it.ev Hv14).pick [1, 2, 0] (by kernel_rfl)) ((ib.ev Hv14).pick [1, 2, 0] (by kernel_rfl)) (il.go Hv14 [1, 2, 0] (by kernel_rfl) (fun _ h => ⟨h.1, (InB.ev h.2.1 Hv14).pick [1, 2, 0] (by kernel_rfl), h.2.2⟩)) hq0 hbt hM17) ?_
 rintro _ wo18 ⟨wa15, wc16, rfl, he19⟩
 refine ⟨_, _, [.box bk5 [.slice wa15 (List.length ((ticF ([], false) (g, g2, t, b, (List.map (fun y : RExt => (y.1, y.2.1.l)) xs))).1)) wc16, .bool ((ticF ([], false) (g, g2, t, b, (List.map (fun y : RExt => (y.1, y.2.1.l)) xs))).2)] 115, .vec wa15 wc16 1 (bys ((ticF ([], false) (g, g2, t, b, (List.map (fun y : RExt => (y.1, y.2.1.l)) xs))).1)) 5], rfl, he19, by kernel_rfl, fun ac21 En22 Hv23 => ?_⟩
 refine f_e ?_
 refine then_normal ?_
 refine wp_seq ?_
 refine region_from ?_
 refine d_k [2,3,9] [] 1 En22 fun ac24 En25 => ?_
 refine f_o ?_
 refine c_l [0,1] (M := [.box bk5 [.slice wa15 (List.length ((ticF ([], false) (g, g2, t, b, (List.map (fun y : RExt => (y.1, y.2.1.l)) xs))).1)) wc16, .bool ((ticF ([], false) (g, g2, t, b, (List.map (fun y : RExt => (y.1, y.2.1.l)) xs))).2)] 115, .vec wa15 wc16 1 (bys ((ticF ([], false) (g, g2, t, b, (List.map (fun y : RExt => (y.1, y.2.1.l)) xs))).1)) 5]) En25 Hv23 (fun hM28 => wdone_go _ bk5 wa15 wc16 ((ticF ([], false) (g, g2, t, b, (List.map (fun y : RExt => (y.1, y.2.1.l)) xs))).1) ((ticF ([], false) (g, g2, t, b, (List.map (fun y : RExt => (y.1, y.2.1.l)) xs))).2) hM28) ?_
 rintro _ wo29 ⟨da26, dc27, rfl, he30⟩
 refine ⟨_, _, [.vec da26 dc27 1 (bys (doneL ((ticF ([], false) (g, g2, t, b, (List.map (fun y : RExt => (y.1, y.2.1.l)) xs))).2) ((ticF ([], false) (g, g2, t, b, (List.map (fun y : RExt => (y.1, y.2.1.l)) xs))).1))) 5], rfl, he30, by kernel_rfl, fun ac32 En33 Hv34 => ?_⟩
 refine d_e [2,3] [] En33 fun ac35 En36 => ?_
 refine then_normal ?_
 refine wp_ret ?_
 refine d_ret1 (t := 2) (v := .slice da26 (List.length (doneL ((ticF ([], false) (g, g2, t, b, (List.map (fun y : RExt => (y.1, y.2.1.l)) xs))).2) ((ticF ([], false) (g, g2, t, b, (List.map (fun y : RExt => (y.1, y.2.1.l)) xs))).1))) dc27) En36 (by kernel_rfl) (by kernel_rfl) ?_
 exact ⟨da26, dc27, rfl, Hv34.pk [0]⟩

theorem pticket_go (w : World) (g g2 : UInt32) (at1 : Option Addr) (ct : Nat) (t : Bs) (ab : Option Addr) (cb : Nat) (b : Bs) (al : Option Addr) (cl : Nat) (xs : List RExt) (it : InB w [] at1 ct t) (ib : InB w [] ab cb b) (il : InS fExt 32 (fun y : RExt => (True ∧ (InB w [] y.2.1.a y.2.1.c y.2.1.l ∧ (True)))) w [] al cl xs) (hq0 : List.length (allM exF (List.map (fun y : RExt => (y.1, y.2.1.l)) xs)).1 ≤ 16777216) (hbt : List.length t + List.length b ≤ 16777216) : Calls Try.prog 91 #[.agg #[uv32 g, uv32 g2, .slice at1 (List.length t) ct, .slice ab (List.length b) cb, .slice al (List.length xs) cl]] w fun e w' => ∃ a' c', e = .returned (.slice a' (List.length (ticP (g, g2, t, b, (List.map (fun y : RExt => (y.1, y.2.1.l)) xs)))) c') ∧ Ev w [] w' [.vec a' c' 1 (bys (ticP (g, g2, t, b, (List.map (fun y : RExt => (y.1, y.2.1.l)) xs)))) 5] := by
 have hbs := ib.small
 have hts := it.small
 refine d_0 [(0, .agg #[uv32 g, uv32 g2, .slice at1 (List.length t) ct, .slice ab (List.length b) cb, .slice al (List.length xs) cl])] 5 Go.Proofs.Try.func91 Go.Proofs.Try.ntmps91 (Heap.nil _) fun act0 En0 Hv0 => ?_
 refine wp_seq ?_
 refine region_from ?_
 refine f_o ?_
 refine m_m 86 [uv32 g, uv32 g2, .slice at1 (List.length t) ct, .slice ab (List.length b) cb, .slice al (List.length xs) cl] En0 Hv0 fun ac2 wo3 bk1 En4 Hv5 => ?_
 refine d_e [1,2] [] En4 fun ac6 En7 => ?_
 refine then_normal ?_
 refine wp_seq ?_
 refine region_from ?_
 refine d_k [2,3] [] 1 En7 fun ac8 En9 => ?_
 refine f_o ?_
 refine c_l [0] (M := [.box bk1 [uv32 g, uv32 g2, .slice at1 (List.length t) ct, .slice ab (List.length b) cb, .slice al (List.length xs) cl] 86]) En9 Hv5 (fun hM12 => put_pticket _ bk1 g g2 at1 ct t ab cb b al cl xs ((it.ev Hv5).pick [0] (by kernel_rfl)) ((ib.ev Hv5).pick [0] (by kernel_rfl)) (il.go Hv5 [0] (by kernel_rfl) (fun _ h => ⟨h.1, (InB.ev h.2.1 Hv5).pick [0] (by kernel_rfl), h.2.2⟩)) hq0 hbt hM12) ?_
 rintro _ wo13 ⟨pa10, pc11, rfl, he14⟩
 refine ⟨_, _, [.vec pa10 pc11 1 (bys (ticP (g, g2, t, b, (List.map (fun y : RExt => (y.1, y.2.1.l)) xs)))) 5], rfl, he14, by kernel_rfl, fun ac16 En17 Hv18 => ?_⟩
 refine d_e [2] [] En17 fun ac19 En20 => ?_
 refine then_normal ?_
 refine wp_ret ?_
 refine d_ret1 (t := 2) (v := .slice pa10 (List.length (ticP (g, g2, t, b, (List.map (fun y : RExt => (y.1, y.2.1.l)) xs)))) pc11) En20 (by kernel_rfl) (by kernel_rfl) ?_
 exact ⟨pa10, pc11, rfl, Hv18.pk [0]⟩

theorem wcer_go (w : World) (bw : Nat) (a : Option Addr) (c : Nat) (l : Bs) (bad : Bool) (ab : Option Addr) (cb : Nat) (b : Bs) (ib : InB w [.box bw [.slice a (List.length l) c, .bool bad] 115, .vec a c 1 (bys l) 5] ab cb b) (al : Option Addr) (cl : Nat) (xs : List RExt) (il : InS fExt 32 (fun y : RExt => (True ∧ (InB w [.box bw [.slice a (List.length l) c, .bool bad] 115, .vec a c 1 (bys l) 5] y.2.1.a y.2.1.c y.2.1.l ∧ (True)))) w [.box bw [.slice a (List.length l) c, .bool bad] 115, .vec a c 1 (bys l) 5] al cl xs) (hq0 : List.length (allM exF (List.map (fun y : RExt => (y.1, y.2.1.l)) xs)).1 ≤ 140737489403904) (hb : List.length l + 5 + List.length b + List.length (allM exF (List.map (fun y : RExt => (y.1, y.2.1.l)) xs)).1 ≤ 200000000000000) (hH : Heap w [.box bw [.slice a (List.length l) c, .bool bad] 115, .vec a c 1 (bys l) 5]) : Calls Try.prog 197 #[pt bw, .agg #[.slice ab (List.length b) cb, .slice al (List.length xs) cl]] w fun e w' => ∃ a' c', e = .returned (.tuple #[]) ∧ Ev w [.box bw [.slice a (List.length l) c, .bool bad] 115, .vec a c 1 (bys l) 5] w' [.box bw [.slice a' (List.length ((crF (l, bad) (b, (List.map (fun y : RExt => (y.1, y.2.1.l)) xs))).1)) c', .bool ((crF (l, bad) (b, (List.map (fun y : RExt => (y.1, y.2.1.l)) xs))).2)] 115, .vec a' c' 1 (bys ((crF (l, bad) (b, (List.map (fun y : RExt => (y.1, y.2.1.l)) xs))).1)) 5] := by
 have hbs := ib.small
 refine d_0 [(0, pt bw), (1, .agg #[.slice ab (List.length b) cb, .slice al (List.length xs) cl])] 12 Go.Proofs.Try.func197 Go.Proofs.Try.ntmps197 (hH) fun act0 En0 Hv0 => ?_
 refine wp_seq ?_
 refine region_from ?_
 refine f_o ?_
 refine m_m 196 [.slice ab (List.length b) cb, .slice al (List.length xs) cl] En0 Hv0 fun ac2 wo3 bk1 En4 Hv5 => ?_
 refine f_e ?_
 refine then_normal ?_
 refine wp_seq ?_
 refine region_from ?_
 refine d_k [0,3,4,5] [] 2 En4 fun ac6 En7 => ?_
 refine f_o ?_
 refine m_l 2 En7 Hv5 fun ac8 En9 => ?_
 refine f_o ?_
 refine c_l [0,1] (M := [.box bw [.slice a (List.length l) c, .bool bad] 115, .vec a c 1 (bys l) 5]) En9 Hv5 (fun hM12 => wlist_go _ bw a c l bad 3 (by omega) 1 16777215 (by omega) (by omega) ab cb b ((ib.ev Hv5).pick [0, 1] (by kernel_rfl)) (by first | omega | (simp only [u16F, beN_len, List.length_nil, List.length_append]; omega) | (simp only [wput_len, beN_len, List.length_nil, List.length_append]; omega) | (simp [wput_len, beN_len]; done) | (simp [wput_len, beN_len]; omega)) hM12) ?_
 rintro _ wo13 ⟨wa10, wc11, rfl, he14⟩
 refine ⟨_, _, [.box bw [.slice wa10 (List.length (wput 3 l b)) wc11, .bool (wbad 3 1 16777215 (List.length b) bad)] 115, .vec wa10 wc11 1 (bys (wput 3 l b)) 5, .box bk1 [.slice ab (List.length b) cb, .slice al (List.length xs) cl] 196], rfl, he14, by kernel_rfl, fun ac16 En17 Hv18 => ?_⟩
 refine f_e ?_
 refine then_normal ?_
 refine region_from ?_
 refine d_k [0,3,8,9] [] 2 En17 fun ac19 En20 => ?_
 refine f_o ?_
 refine m_l 2 En20 Hv18 fun ac21 En22 => ?_
 refine f_o ?_
 refine c_l [0,1] (M := [.box bw [.slice wa10 (List.length (wput 3 l b)) wc11, .bool (wbad 3 1 16777215 (List.length b) bad)] 115, .vec wa10 wc11 1 (bys (wput 3 l b)) 5]) En22 Hv18 (fun hM25 => wexts_go _ bw wa10 wc11 (wput 3 l b) (wbad 3 1 16777215 (List.length b) bad) al cl xs (il.go Hv18 [0, 1] (by kernel_rfl) (fun _ h => ⟨h.1, (InB.ev h.2.1 Hv18).pick [0, 1] (by kernel_rfl), h.2.2⟩)) (by omega) (by first | omega | (simp only [u16F, beN_len, List.length_nil, List.length_append]; omega) | (simp only [wput_len, beN_len, List.length_nil, List.length_append]; omega) | (simp [wput_len, beN_len]; done) | (simp [wput_len, beN_len]; omega)) hM25) ?_
 rintro _ wo26 ⟨wa23, wc24, rfl, he27⟩
 refine ⟨_, _, [.box bw [.slice wa23 (List.length ((wexF (wput 3 l b, wbad 3 1 16777215 (List.length b) bad) (List.map (fun y : RExt => (y.1, y.2.1.l)) xs)).1)) wc24, .bool ((wexF (wput 3 l b, wbad 3 1 16777215 (List.length b) bad) (List.map (fun y : RExt => (y.1, y.2.1.l)) xs)).2)] 115, .vec wa23 wc24 1 (bys ((wexF (wput 3 l b, wbad 3 1 16777215 (List.length b) bad) (List.map (fun y : RExt => (y.1, y.2.1.l)) xs)).1)) 5, .box bk1 [.slice ab (List.length b) cb, .slice al (List.length xs) cl] 196], rfl, he27, by kernel_rfl, fun ac29 En30 Hv31 => ?_⟩
 refine f_e ?_
 refine d_end0 En30 (by kernel_rfl) ?_
 exact ⟨wa23, wc24, rfl, Hv31.pk [0, 1]⟩

theorem all_cer (w : World) (bw : Nat) (a : Option Addr) (c : Nat) (l : Bs) (bad : Bool) (n : Nat) (hn : n ≤ 4) (x : Nat) (hx : x ≤ 4294967295) (al : Option Addr) (cl : Nat) (xs : List RCer) (il : InS fCer 48 (fun y : RCer => (InB w [.box bw [.slice a (List.length l) c, .bool bad] 115, .vec a c 1 (bys l) 5] y.1.a y.1.c y.1.l ∧ (InS (fun p : (UInt16) × (Sl UInt8) × Unit => (fun n : UInt16 => [uv16 n]) p.1 ++ (fun p : (Sl UInt8) × Unit => (fun s : Sl UInt8 => s.f) p.1 ++ (fun _ : Unit => []) p.2) p.2) 32 (fun x : (UInt16) × (Sl UInt8) × Unit => (True ∧ (InB w [.box bw [.slice a (List.length l) c, .bool bad] 115, .vec a c 1 (bys l) 5] x.2.1.a x.2.1.c x.2.1.l ∧ (True)))) w [.box bw [.slice a (List.length l) c, .bool bad] 115, .vec a c 1 (bys l) 5] y.2.1.a y.2.1.c y.2.1.l ∧ (True)))) w [.box bw [.slice a (List.length l) c, .bool bad] 115, .vec a c 1 (bys l) 5] al cl xs) (hfb : ∀ i, i ≤ List.length xs → List.length (allM crF (List.take i (List.map (fun y : RCer => (y.1.l, List.map (fun y : RExt => (y.1, y.2.1.l)) y.2.1.l)) xs))).1 ≤ 140737489403904) (hb : List.length l + n + List.length (allM crF (List.map (fun y : RCer => (y.1.l, List.map (fun y : RExt => (y.1, y.2.1.l)) y.2.1.l)) xs)).1 ≤ 200000000000000) (hH : Heap w [.box bw [.slice a (List.length l) c, .bool bad] 115, .vec a c 1 (bys l) 5]) : Calls Try.prog 196 #[pt bw, ni n, ni x, .slice al (List.length xs) cl, .func (.func 197) #[] #[]] w fun e w' => ∃ a' c', e = .returned (.tuple #[]) ∧ Ev w [.box bw [.slice a (List.length l) c, .bool bad] 115, .vec a c 1 (bys l) 5] w' [.box bw [.slice a' (List.length (wput n l (allM crF (List.map (fun y : RCer => (y.1.l, List.map (fun y : RExt => (y.1, y.2.1.l)) y.2.1.l)) xs)).1)) c', .bool (wbad n x 16777215 (List.length (allM crF (List.map (fun y : RCer => (y.1.l, List.map (fun y : RExt => (y.1, y.2.1.l)) y.2.1.l)) xs)).1) (bad || (allM crF (List.map (fun y : RCer => (y.1.l, List.map (fun y : RExt => (y.1, y.2.1.l)) y.2.1.l)) xs)).2))] 115, .vec a' c' 1 (bys (wput n l (allM crF (List.map (fun y : RCer => (y.1.l, List.map (fun y : RExt => (y.1, y.2.1.l)) y.2.1.l)) xs)).1)) 5] := by
 have hxs := il.small
 have hxc := il.cap
 refine d_0 [(0, pt bw), (1, ni n), (2, ni x), (3, .slice al (List.length xs) cl), (4, .func (.func 197) #[] #[])] 47 Go.Proofs.Try.func196 Go.Proofs.Try.ntmps196 (hH) fun act0 En0 Hv0 => ?_
 refine wp_seq ?_
 refine region_from ?_
 refine d_k [0,1,2,3,4,13] [] 1 En0 fun ac1 En2 => ?_
 refine f_o ?_
 refine m_m 115 [.slice none 0 0, .bool false] En2 Hv0 fun ac4 wo5 bk3 En6 Hv7 => ?_
 refine d_e [0,1,2,3,4,10] [] En6 fun ac8 En9 => ?_
 refine then_normal ?_
 refine wp_seq ?_
 refine wp_seq ?_
 refine d_r [0,1,2,4,10,15,16,17] [] En9 fun ac10 En11 => ?_
 refine then_normal ?_
 refine wp_block ?_
 have Hv12 : Ev w [.box bw [.slice a (List.length l) c, .bool bad] 115, .vec a c 1 (bys l) 5] wo5 [.box bw [.slice a (List.length l) c, .bool bad] 115, .vec a c 1 (bys l) 5, .box bk3 [.slice none 0 0, .bool false] 115, .vec none 0 1 (bys []) 5] := Ev.nil (sz := 1) (T := 5) Hv7
 refine loop_m (fun ms13 ac wo => ∃ (i : Nat) (wa : Option Addr) (wc : Nat) (m : Bs) (bd : Bool), ms13 = (List.length xs + 1 - i : Nat) ∧ Env ac 47 [(0, pt bw), (1, ni n), (2, ni x), (4, .func (.func 197) #[] #[]), (10, pt bk3), (15, .slice al (List.length xs) cl), (16, .int .i64 ((List.length xs : Nat) : Int)), (17, ni i)] ∧ Ev w [.box bw [.slice a (List.length l) c, .bool bad] 115, .vec a c 1 (bys l) 5] wo [.box bw [.slice a (List.length l) c, .bool bad] 115, .vec a c 1 (bys l) 5, .box bk3 [.slice wa (List.length m) wc, .bool bd] 115, .vec wa wc 1 (bys m) 5] ∧ ((m, bd) = allM crF (List.take i (List.map (fun y : RCer => (y.1.l, List.map (fun y : RExt => (y.1, y.2.1.l)) y.2.1.l)) xs)))) ⟨_, 0, none, 0, [], false, rfl, En11.sb, Hv12.pk [0, 1, 2, 3], rfl⟩ ?_
 rintro mm19 ac15 wo16 ⟨i, wa, wc, m, bd, rfl, En17, Hv18, hfo⟩
 refine wp_seq ?_
 refine d_r [0,1,2,4,10,15,16,17,18] [] En17 fun ac20 En21 => ?_
 refine then_normal ?_
 refine wp_seq ?_
 refine c_d (((i : Nat) : Int) < ((List.length xs : Nat) : Int)) En21 (fun hc22 => ?_) (fun hc22 => ?_)
 ·
  refine wp_skip ?_
  refine then_normal ?_
  refine wp_seq ?_
  refine wp_block ?_
  refine wp_seq ?_
  have hb25 : i < List.length xs := (by omega)
  obtain ⟨adr23, had24⟩ := some_of il.nz hb25
  have hb26 : i < List.length xs := by omega
  obtain ⟨⟨⟨a_x28a, c_x28a, x28a⟩, ⟨a_x28b, c_x28b, x28b⟩, _⟩, hx27⟩ : ∃ x, (xs)[i]? = some x := ⟨_, List.getElem?_eq_getElem hb26⟩
  obtain ⟨i_x28a, i_x28b, _⟩ := il.each _ (List.mem_of_getElem? hx27)
  replace i_x28a : InB w [.box bw [.slice a (List.length l) c, .bool bad] 115, .vec a c 1 (bys l) 5] a_x28a c_x28a x28a := i_x28a
  replace i_x28b : InS (fun p : (UInt16) × (Sl UInt8) × Unit => (fun n : UInt16 => [uv16 n]) p.1 ++ (fun p : (Sl UInt8) × Unit => (fun s : Sl UInt8 => s.f) p.1 ++ (fun _ : Unit => []) p.2) p.2) 32 (fun x : (UInt16) × (Sl UInt8) × Unit => (True ∧ (InB w [.box bw [.slice a (List.length l) c, .bool bad] 115, .vec a c 1 (bys l) 5] x.2.1.a x.2.1.c x.2.1.l ∧ (True)))) w [.box bw [.slice a (List.length l) c, .bool bad] 115, .vec a c 1 (bys l) 5] a_x28b c_x28b x28b := i_x28b
  refine region_from ?_
  refine f_o ?_
  refine q_v (x := Instr.indexAt 81 (.slice al (List.length xs) cl) (ni i)) (v := .pointer (some (Addr.add adr23 (i * 2)))) En21 (Go.Dbr.run_indexsl (e := 196) (sz := 2) (j := i) (jo := i * 2) had24 (by kernel_rfl) (by kernel_rfl) (by omega) hb25 rfl _) fun ac29 En30 => ?_
  refine f_o ?_
  refine op_loadaggat (d := some 20) (t := 196) (ad := adr23) (ao := al) (ys := List.flatMap fCer xs) (o := i * 2) (m := 2) (xs := [.slice a_x28a (List.length x28a) c_x28a, .slice a_x28b (List.length x28b) c_x28b]) En30 (by kernel_rfl) rfl (il.ro.ev Hv18).reads had24 (fun j hj => ?_) rfl (by kernel_rfl) (by kernel_rfl) ?_
  ·
   exact flat_sub (sz := 2) (off := 0) (m := 2) (fun _ _ => rfl) hx27 (by decide) rfl j hj
  intro ac31 En32
  refine f_o ?_
  refine m_z 196 [.slice none 0 0, .slice none 0 0] En32 Hv18 fun ac34 wo35 bk33 En36 Hv37 => ?_
  refine f_o ?_
  refine m_g 4 0 2 [.slice a_x28a (List.length x28a) c_x28a, .slice a_x28b (List.length x28b) c_x28b] [.slice a_x28a (List.length x28a) c_x28a, .slice a_x28b (List.length x28b) c_x28b] [.box bw [.slice a (List.length l) c, .bool bad] 115, .vec a c 1 (bys l) 5, .box bk3 [.slice wa (List.length m) wc, .bool bd] 115, .vec wa wc 1 (bys m) 5, .box bk33 [.slice a_x28a (List.length x28a) c_x28a, .slice a_x28b (List.length x28b) c_x28b] 196] En36 Hv37 rfl rfl (by simp) (one_all (by kernel_rfl)) rfl rfl fun ac38 wo39 En40 Hv41 => ?_
  refine f_e ?_
  refine then_normal ?_
  have hnb := hfb (i + 1) (by omega)
  rw [allM_take hx27, ← hfo] at hnb
  have hnc := hnb
  simp only [crF, wexF, wput_len, List.length_append, beN_len] at hnc
  refine region_from ?_
  refine d_k [0,1,2,4,10,12,15,16,17,21,22] [] 2 En40 fun ac42 En43 => ?_
  refine f_o ?_
  refine m_a 4 0 2 [.slice a_x28a (List.length x28a) c_x28a, .slice a_x28b (List.length x28b) c_x28b] En43 Hv41 rfl rfl rfl fun ac44 En45 => ?_
  refine f_o ?_
  refine c_l [2,3] (M := [.box bk3 [.slice wa (List.length m) wc, .bool bd] 115, .vec wa wc 1 (bys m) 5]) En45 Hv41 (fun hM48 => wcer_go _ bk3 wa wc m bd a_x28a c_x28a x28a ((i_x28a.ev Hv41).pick [2, 3] (by kernel_rfl)) a_x28b c_x28b x28b (i_x28b.go Hv41 [2, 3] (by kernel_rfl) (fun _ h => ⟨h.1, (InB.ev h.2.1 Hv41).pick [2, 3] (by kernel_rfl), h.2.2⟩)) (by omega) (by first | omega | (simp only [u16F, beN_len, List.length_nil, List.length_append]; omega) | (simp only [wput_len, beN_len, List.length_nil, List.length_append]; omega) | (simp [wput_len, beN_len]; done) | (simp [wput_len, beN_len]; omega)) hM48) ?_
  rintro _ wo49 ⟨wa46, wc47, rfl, he50⟩
  refine ⟨_, _, [.box bk3 [.slice wa46 (List.length ((crF (m, bd) ((x28a, List.map (fun y : RExt => (y.1, y.2.1.l)) x28b) : CE)).1)) wc47, .bool ((crF (m, bd) ((x28a, List.map (fun y : RExt => (y.1, y.2.1.l)) x28b) : CE)).2)] 115, .vec wa46 wc47 1 (bys ((crF (m, bd) ((x28a, List.map (fun y : RExt => (y.1, y.2.1.l)) x28b) : CE)).1)) 5, .box bw [.slice a (List.length l) c, .bool bad] 115, .vec a c 1 (bys l) 5, .box bk33 [.slice a_x28a (List.length x28a) c_x28a, .slice a_x28b (List.length x28b) c_x28b] 196], rfl, he50, by kernel_rfl, fun ac52 En53 Hv54 => ?_⟩
  refine f_e ?_
  refine block_normal ?_
  refine then_normal ?_
  refine d_r [0,1,2,4,10,12,15,16,17] [(0, g_n (w_a i 1))] En53 fun ac55 En56 => ?_
  refine then_normal ?_
  refine ⟨_, ⟨i + 1, wa46, wc47, ((crF (m, bd) ((x28a, List.map (fun y : RExt => (y.1, y.2.1.l)) x28b) : CE)).1), ((crF (m, bd) ((x28a, List.map (fun y : RExt => (y.1, y.2.1.l)) x28b) : CE)).2), rfl, En56.sb, Hv54.pk [2, 3, 0, 1], (by rw [allM_take hx27, ← hfo] <;> rfl)⟩, ?_⟩
  omega
 ·
  refine wp_exit ?_
  refine then_exit ?_
  refine then_exit ?_
  refine block_exit ?_
  refine then_normal ?_
  refine wp_seq ?_
  have hfe := allM_all (F := crF) (f := (fun y : RCer => (y.1.l, List.map (fun y : RExt => (y.1, y.2.1.l)) y.2.1.l))) (xs := xs) (i := i) (by omega)
  rw [← hfo] at hfe
  refine region_cut (F := fun ac wo => ∃ (b2 : Bool), Env ac 47 [(0, pt bw), (1, ni n), (2, ni x), (4, .func (.func 197) #[] #[]), (10, pt bk3), (15, .slice al (List.length xs) cl), (16, .int .i64 ((List.length xs : Nat) : Int)), (17, ni i)] ∧ Ev w [.box bw [.slice a (List.length l) c, .bool bad] 115, .vec a c 1 (bys l) 5] wo [.box bw [.slice a (List.length l) c, .bool b2] 115, .vec a c 1 (bys l) 5, .box bk3 [.slice wa (List.length m) wc, .bool bd] 115, .vec wa wc 1 (bys m) 5] ∧ (b2 = (bad || bd))) ?_ ?_
  ·
   refine region_from ?_
   refine d_k [0,1,2,4,10,15,16,17,26,29] [] 4 En21 fun ac57 En58 => ?_
   refine f_o ?_
   refine m_l 0 En58 Hv18 fun ac59 En60 => ?_
   refine d_k [0,1,2,4,10,15,16,17,26,31] [] 6 En60 fun ac61 En62 => ?_
   rcases Bool.eq_false_or_eq_true (bad) with hb63 | hb63
   ·
    have En64 := En62.fx (t := 31) (congrArg Value.bool hb63)
    have hp65 : bad = true := hb63
    refine d_k [0,1,2,4,10,15,16,17,36,38] [] 13 En64 fun ac66 En67 => ?_
    refine f_o ?_
    refine m_s 0 [.box bw [.slice a (List.length l) c, .bool true] 115, .vec a c 1 (bys l) 5, .box bk3 [.slice wa (List.length m) wc, .bool bd] 115, .vec wa wc 1 (bys m) 5] En67 Hv18 fun ac68 wo69 En70 Hv71 => ?_
    refine f_e ?_
    exact ⟨rfl, ⟨true, En70.sb, Hv71.pk [0, 1, 2, 3], (by first | exact or_t (by assumption) | exact or_f (by assumption))⟩⟩
   ·
    have En72 := En62.fx (t := 31) (congrArg Value.bool hb63)
    have hp73 : ¬ (bad = true) := Bool.eq_false_iff.1 hb63
    refine d_k [0,1,2,4,10,15,16,17,26,31,34] [] 9 En72 fun ac74 En75 => ?_
    refine f_o ?_
    refine m_l 2 En75 Hv18 fun ac76 En77 => ?_
    refine d_k [0,1,2,4,10,15,16,17,36,38] [] 13 En77 fun ac78 En79 => ?_
    refine f_o ?_
    refine m_s 0 [.box bw [.slice a (List.length l) c, .bool bd] 115, .vec a c 1 (bys l) 5, .box bk3 [.slice wa (List.length m) wc, .bool bd] 115, .vec wa wc 1 (bys m) 5] En79 Hv18 fun ac80 wo81 En82 Hv83 => ?_
    refine f_e ?_
    exact ⟨rfl, ⟨bd, En82.sb, Hv83.pk [0, 1, 2, 3], (by first | exact or_t (by assumption) | exact or_f (by assumption))⟩⟩
  ·
   rintro ac84 wo85 ⟨b2, En86, Hv87, hb2⟩
   refine then_normal ?_
   have hml := hfb (List.length xs) (Nat.le_refl _)
   rw [List.take_of_length_le (by rw [List.length_map]; exact Nat.le_refl _), ← hfe] at hml
   rw [← hfe] at hb
   refine region_from ?_
   refine d_k [0,4,10,15,16,17,39,40,41,44] [] 6 En86 fun ac88 En89 => ?_
   refine f_o ?_
   refine m_l 2 En89 Hv87 fun ac90 En91 => ?_
   refine f_o ?_
   refine c_l [0,1] (M := [.box bw [.slice a (List.length l) c, .bool b2] 115, .vec a c 1 (bys l) 5]) En91 Hv87 (fun hM94 => wlist_go _ bw a c l b2 n (by omega) x 16777215 (by omega) (by omega) wa wc m (bys_in Hv87.heap (k := 3) rfl [0, 1] (by kernel_rfl) rfl (by first | omega | (simp; done) | (simp; omega))) (by first | exact hb | omega) hM94) ?_
   rintro _ wo95 ⟨wa92, wc93, rfl, he96⟩
   refine ⟨_, _, [.box bw [.slice wa92 (List.length (wput n l m)) wc93, .bool (wbad n x 16777215 (List.length m) b2)] 115, .vec wa92 wc93 1 (bys (wput n l m)) 5, .box bk3 [.slice wa (List.length m) wc, .bool bd] 115, .vec wa wc 1 (bys m) 5], rfl, he96, by kernel_rfl, fun ac98 En99 Hv100 => ?_⟩
   refine f_e ?_
   refine d_end0 En99 (by kernel_rfl) ?_
   subst hb2
   rw [← hfe]
   exact ⟨wa92, wc93, rfl, Hv100.pk [0, 1]⟩

theorem pcert_1 (w : World) (bw : Nat) (bt : Nat) (ab : Option Addr) (cb : Nat) (b : Bs) (al : Option Addr) (cl : Nat) (xs : List RCer) (ib : InB w [.box bw [.slice none 0 0, .bool false] 115, .vec none 0 1 (bys []) 5, .box bt [.slice ab (List.length b) cb, .slice al (List.length xs) cl] 83] ab cb b) (il : InS fCer 48 (fun y : RCer => (InB w [.box bw [.slice none 0 0, .bool false] 115, .vec none 0 1 (bys []) 5, .box bt [.slice ab (List.length b) cb, .slice al (List.length xs) cl] 83] y.1.a y.1.c y.1.l ∧ (InS (fun p : (UInt16) × (Sl UInt8) × Unit => (fun n : UInt16 => [uv16 n]) p.1 ++ (fun p : (Sl UInt8) × Unit => (fun s : Sl UInt8 => s.f) p.1 ++ (fun _ : Unit => []) p.2) p.2) 32 (fun x : (UInt16) × (Sl UInt8) × Unit => (True ∧ (InB w [.box bw [.slice none 0 0, .bool false] 115, .vec none 0 1 (bys []) 5, .box bt [.slice ab (List.length b) cb, .slice al (List.length xs) cl] 83] x.2.1.a x.2.1.c x.2.1.l ∧ (True)))) w [.box bw [.slice none 0 0, .bool false] 115, .vec none 0 1 (bys []) 5, .box bt [.slice ab (List.length b) cb, .slice al (List.length xs) cl] 83] y.2.1.a y.2.1.c y.2.1.l ∧ (True)))) w [.box bw [.slice none 0 0, .bool false] 115, .vec none 0 1 (bys []) 5, .box bt [.slice ab (List.length b) cb, .slice al (List.length xs) cl] 83] al cl xs) (hq0 : allB crF (List.map (fun y : RCer => (y.1.l, List.map (fun y : RExt => (y.1, y.2.1.l)) y.2.1.l)) xs)) (hH : Heap w [.box bw [.slice none 0 0, .bool false] 115, .vec none 0 1 (bys []) 5, .box bt [.slice ab (List.length b) cb, .slice al (List.length xs) cl] 83]) : Calls Try.prog 195 #[pt bw, pt bt] w fun e w' => ∃ a' c', e = .returned (.tuple #[]) ∧ Ev w [.box bw [.slice none 0 0, .bool false] 115, .vec none 0 1 (bys []) 5, .box bt [.slice ab (List.length b) cb, .slice al (List.length xs) cl] 83] w' [.box bw [.slice a' (List.length ((certF ([], false) (b, (List.map (fun y : RCer => (y.1.l, List.map (fun y : RExt => (y.1, y.2.1.l)) y.2.1.l)) xs))).1)) c', .bool ((certF ([], false) (b, (List.map (fun y : RCer => (y.1.l, List.map (fun y : RExt => (y.1, y.2.1.l)) y.2.1.l)) xs))).2)] 115, .vec a' c' 1 (bys ((certF ([], false) (b, (List.map (fun y : RCer => (y.1.l, List.map (fun y : RExt => (y.1, y.2.1.l)) y.2.1.l)) xs))).1)) 5] := by
 have hbs := ib.small
 refine d_0 [(0, pt bw), (1, pt bt)] 11 Go.Proofs.Try.func195 Go.Proofs.Try.ntmps195 (hH) fun act0 En0 Hv0 => ?_
 refine wp_seq ?_
 refine region_from ?_
 refine d_k [0,1,3,4] [] 2 En0 fun ac1 En2 => ?_
 refine f_o ?_
 refine m_l 2 En2 Hv0 fun ac3 En4 => ?_
 refine f_o ?_
 refine c_l [0,1] (M := [.box bw [.slice none 0 0, .bool false] 115, .vec none 0 1 (bys []) 5]) En4 Hv0 (fun hM7 => wlist_go _ bw none 0 [] false 1 (by omega) 0 255 (by omega) (by omega) ab cb b ((ib.ev Hv0).pick [0, 1] (by kernel_rfl)) (by first | omega | (simp only [u16F, beN_len, List.length_nil, List.length_append]; omega) | (simp only [wput_len, beN_len, List.length_nil, List.length_append]; omega) | (simp [wput_len, beN_len]; done) | (simp [wput_len, beN_len]; omega)) hM7) ?_
 rintro _ wo8 ⟨wa5, wc6, rfl, he9⟩
 refine ⟨_, _, [.box bw [.slice wa5 (List.length (wput 1 [] b)) wc6, .bool (wbad 1 0 255 (List.length b) false)] 115, .vec wa5 wc6 1 (bys (wput 1 [] b)) 5, .box bt [.slice ab (List.length b) cb, .slice al (List.length xs) cl] 83], rfl, he9, by kernel_rfl, fun ac11 En12 Hv13 => ?_⟩
 refine f_e ?_
 refine then_normal ?_
 refine region_from ?_
 refine d_k [0,1,7,8] [] 2 En12 fun ac14 En15 => ?_
 refine f_o ?_
 refine m_l 2 En15 Hv13 fun ac16 En17 => ?_
 refine f_o ?_
 refine c_l [0,1] (M := [.box bw [.slice wa5 (List.length (wput 1 [] b)) wc6, .bool (wbad 1 0 255 (List.length b) false)] 115, .vec wa5 wc6 1 (bys (wput 1 [] b)) 5]) En17 Hv13 (fun hM20 => all_cer _ bw wa5 wc6 (wput 1 [] b) (wbad 1 0 255 (List.length b) false) 3 (by omega) 0 (by omega) al cl xs (il.go Hv13 [0, 1] (by kernel_rfl) (fun _ h => ⟨(InB.ev h.1 Hv13).pick [0, 1] (by kernel_rfl), (h.2.1.go Hv13 [0, 1] (by kernel_rfl) (fun _ h => ⟨h.1, (InB.ev h.2.1 Hv13).pick [0, 1] (by kernel_rfl), h.2.2⟩)), h.2.2⟩)) (fun i _ => Nat.le_trans (hq0 i) (by decide)) (by have ha := allB_all hq0; simp only [List.length_nil, wput_len]; omega) hM20) ?_
 rintro _ wo21 ⟨wa18, wc19, rfl, he22⟩
 refine ⟨_, _, [.box bw [.slice wa18 (List.length (wput 3 (wput 1 [] b) (allM crF (List.map (fun y : RCer => (y.1.l, List.map (fun y : RExt => (y.1, y.2.1.l)) y.2.1.l)) xs)).1)) wc19, .bool (wbad 3 0 16777215 (List.length (allM crF (List.map (fun y : RCer => (y.1.l, List.map (fun y : RExt => (y.1, y.2.1.l)) y.2.1.l)) xs)).1) ((wbad 1 0 255 (List.length b) false) || (allM crF (List.map (fun y : RCer => (y.1.l, List.map (fun y : RExt => (y.1, y.2.1.l)) y.2.1.l)) xs)).2))] 115, .vec wa18 wc19 1 (bys (wput 3 (wput 1 [] b) (allM crF (List.map (fun y : RCer => (y.1.l, List.map (fun y : RExt => (y.1, y.2.1.l)) y.2.1.l)) xs)).1)) 5, .box bt [.slice ab (List.length b) cb, .slice al (List.length xs) cl] 83], rfl, he22, by kernel_rfl, fun ac24 En25 Hv26 => ?_⟩
 refine f_e ?_
 refine d_end0 En25 (by kernel_rfl) ?_
 exact ⟨wa18, wc19, rfl, Hv26.pk [0, 1]⟩

theorem put_pcert (w : World) (bt : Nat) (ab : Option Addr) (cb : Nat) (b : Bs) (al : Option Addr) (cl : Nat) (xs : List RCer) (ib : InB w [.box bt [.slice ab (List.length b) cb, .slice al (List.length xs) cl] 83] ab cb b) (il : InS fCer 48 (fun y : RCer => (InB w [.box bt [.slice ab (List.length b) cb, .slice al (List.length xs) cl] 83] y.1.a y.1.c y.1.l ∧ (InS (fun p : (UInt16) × (Sl UInt8) × Unit => (fun n : UInt16 => [uv16 n]) p.1 ++ (fun p : (Sl UInt8) × Unit => (fun s : Sl UInt8 => s.f) p.1 ++ (fun _ : Unit => []) p.2) p.2) 32 (fun x : (UInt16) × (Sl UInt8) × Unit => (True ∧ (InB w [.box bt [.slice ab (List.length b) cb, .slice al (List.length xs) cl] 83] x.2.1.a x.2.1.c x.2.1.l ∧ (True)))) w [.box bt [.slice ab (List.length b) cb, .slice al (List.length xs) cl] 83] y.2.1.a y.2.1.c y.2.1.l ∧ (True)))) w [.box bt [.slice ab (List.length b) cb, .slice al (List.length xs) cl] 83] al cl xs) (hq0 : allB crF (List.map (fun y : RCer => (y.1.l, List.map (fun y : RExt => (y.1, y.2.1.l)) y.2.1.l)) xs)) (hH : Heap w [.box bt [.slice ab (List.length b) cb, .slice al (List.length xs) cl] 83]) : Calls Try.prog 99 #[.func (.func 195) #[] #[pt bt]] w fun e w' => ∃ a' c', e = .returned (.slice a' (List.length (doneL ((certF ([], false) (b, (List.map (fun y : RCer => (y.1.l, List.map (fun y : RExt => (y.1, y.2.1.l)) y.2.1.l)) xs))).2) ((certF ([], false) (b, (List.map (fun y : RCer => (y.1.l, List.map (fun y : RExt => (y.1, y.2.1.l)) y.2.1.l)) xs))).1))) c') ∧ Ev w [.box bt [.slice ab (List.length b) cb, .slice al (List.length xs) cl] 83] w' [.vec a' c' 1 (bys (doneL ((certF ([], false) (b, (List.map (fun y : RCer => (y.1.l, List.map (fun y : RExt => (y.1, y.2.1.l)) y.2.1.l)) xs))).2) ((certF ([], false) (b, (List.map (fun y : RCer => (y.1.l, List.map (fun y : RExt => (y.1, y.2.1.l)) y.2.1.l)) xs))).1))) 5] := by
 refine d_0 [(0, .func (.func 195) #[] #[pt bt])] 11 Go.Proofs.Try.func99 Go.Proofs.Try.ntmps99 (hH) fun act0 En0 Hv0 => ?_
 refine d_s [0,2] [] En0 fun ac1 En2 => ?_
 refine wp_seq ?_
 refine region_from ?_
 refine d_k [0,2,4] [] 1 En2 fun ac3 En4 => ?_
 refine f_o ?_
 refine m_m 115 [.slice none 0 0, .bool false] En4 Hv0 fun ac6 wo7 bk5 En8 Hv9 => ?_
 refine d_e [0,2,3] [] En8 fun ac10 En11 => ?_
 refine then_normal ?_
 refine wp_seq ?_
 refine region_from ?_
 refine d_k [2,3,6,7] [] 2 En11 fun ac12 En13 => ?_
 refine f_o ?_
 have Hv14 : Ev w [.box bt [.slice ab (List.length b) cb, .slice al (List.length xs) cl] 83] wo7 [.box bt [.slice ab (List.length b) cb, .slice al (List.length xs) cl] 83, .box bk5 [.slice none 0 0, .bool false] 115, .vec none 0 1 (bys []) 5] := Ev.nil (sz := 1) (T := 5) Hv9
 refine c_l [1,2,0] (M := [.box bk5 [.slice none 0 0, .bool false] 115, .vec none 0 1 (bys []) 5, .box bt [.slice ab (List.length b) cb, .slice al (List.length xs) cl] 83]) En13 Hv14 (fun hM17 => pcert_1 _ bk5 bt ab cb b al cl xs ((ib.ev Hv14).pick [1, 2, 0] (by kernel_rfl)) (il.go Hv14 [1, 2, 0] (by kernel_rfl) (fun _ h => ⟨(InB.ev h.1 Hv14).pick [1, 2, 0] (by kernel_rfl), (h.2.1.go Hv14 [1, 2, 0] (by kernel_rfl) (fun _ h => ⟨h.1, (InB.ev h.2.1 Hv14).pick [1, 2, 0] (by kernel_rfl), h.2.2⟩)), h.2.2⟩)) hq0 hM17) ?_
 rintro _ wo18 ⟨wa15, wc16, rfl, he19⟩
 refine ⟨_, _, [.box bk5 [.slice wa15 (List.length ((certF ([], false) (b, (List.map (fun y : RCer => (y.1.l, List.map (fun y : RExt => (y.1, y.2.1.l)) y.2.1.l)) xs))).1)) wc16, .bool ((certF ([], false) (b, (List.map (fun y : RCer => (y.1.l, List.map (fun y : RExt => (y.1, y.2.1.l)) y.2.1.l)) xs))).2)] 115, .vec wa15 wc16 1 (bys ((certF ([], false) (b, (List.map (fun y : RCer => (y.1.l, List.map (fun y : RExt => (y.1, y.2.1.l)) y.2.1.l)) xs))).1)) 5], rfl, he19, by kernel_rfl, fun ac21 En22 Hv23 => ?_⟩
 refine f_e ?_
 refine then_normal ?_
 refine wp_seq ?_
 refine region_from ?_
 refine d_k [2,3,9] [] 1 En22 fun ac24 En25 => ?_
 refine f_o ?_
 refine c_l [0,1] (M := [.box bk5 [.slice wa15 (List.length ((certF ([], false) (b, (List.map (fun y : RCer => (y.1.l, List.map (fun y : RExt => (y.1, y.2.1.l)) y.2.1.l)) xs))).1)) wc16, .bool ((certF ([], false) (b, (List.map (fun y : RCer => (y.1.l, List.map (fun y : RExt => (y.1, y.2.1.l)) y.2.1.l)) xs))).2)] 115, .vec wa15 wc16 1 (bys ((certF ([], false) (b, (List.map (fun y : RCer => (y.1.l, List.map (fun y : RExt => (y.1, y.2.1.l)) y.2.1.l)) xs))).1)) 5]) En25 Hv23 (fun hM28 => wdone_go _ bk5 wa15 wc16 ((certF ([], false) (b, (List.map (fun y : RCer => (y.1.l, List.map (fun y : RExt => (y.1, y.2.1.l)) y.2.1.l)) xs))).1) ((certF ([], false) (b, (List.map (fun y : RCer => (y.1.l, List.map (fun y : RExt => (y.1, y.2.1.l)) y.2.1.l)) xs))).2) hM28) ?_
 rintro _ wo29 ⟨da26, dc27, rfl, he30⟩
 refine ⟨_, _, [.vec da26 dc27 1 (bys (doneL ((certF ([], false) (b, (List.map (fun y : RCer => (y.1.l, List.map (fun y : RExt => (y.1, y.2.1.l)) y.2.1.l)) xs))).2) ((certF ([], false) (b, (List.map (fun y : RCer => (y.1.l, List.map (fun y : RExt => (y.1, y.2.1.l)) y.2.1.l)) xs))).1))) 5], rfl, he30, by kernel_rfl, fun ac32 En33 Hv34 => ?_⟩
 refine d_e [2,3] [] En33 fun ac35 En36 => ?_
 refine then_normal ?_
 refine wp_ret ?_
 refine d_ret1 (t := 2) (v := .slice da26 (List.length (doneL ((certF ([], false) (b, (List.map (fun y : RCer => (y.1.l, List.map (fun y : RExt => (y.1, y.2.1.l)) y.2.1.l)) xs))).2) ((certF ([], false) (b, (List.map (fun y : RCer => (y.1.l, List.map (fun y : RExt => (y.1, y.2.1.l)) y.2.1.l)) xs))).1))) dc27) En36 (by kernel_rfl) (by kernel_rfl) ?_
 exact ⟨da26, dc27, rfl, Hv34.pk [0]⟩

theorem pcert_go (w : World) (ab : Option Addr) (cb : Nat) (b : Bs) (al : Option Addr) (cl : Nat) (xs : List RCer) (ib : InB w [] ab cb b) (il : InS fCer 48 (fun y : RCer => (InB w [] y.1.a y.1.c y.1.l ∧ (InS (fun p : (UInt16) × (Sl UInt8) × Unit => (fun n : UInt16 => [uv16 n]) p.1 ++ (fun p : (Sl UInt8) × Unit => (fun s : Sl UInt8 => s.f) p.1 ++ (fun _ : Unit => []) p.2) p.2) 32 (fun x : (UInt16) × (Sl UInt8) × Unit => (True ∧ (InB w [] x.2.1.a x.2.1.c x.2.1.l ∧ (True)))) w [] y.2.1.a y.2.1.c y.2.1.l ∧ (True)))) w [] al cl xs) (hq0 : allB crF (List.map (fun y : RCer => (y.1.l, List.map (fun y : RExt => (y.1, y.2.1.l)) y.2.1.l)) xs)) : Calls Try.prog 89 #[.agg #[.slice ab (List.length b) cb, .slice al (List.length xs) cl]] w fun e w' => ∃ a' c', e = .returned (.slice a' (List.length (certP (b, (List.map (fun y : RCer => (y.1.l, List.map (fun y : RExt => (y.1, y.2.1.l)) y.2.1.l)) xs)))) c') ∧ Ev w [] w' [.vec a' c' 1 (bys (certP (b, (List.map (fun y : RCer => (y.1.l, List.map (fun y : RExt => (y.1, y.2.1.l)) y.2.1.l)) xs)))) 5] := by
 have hbs := ib.small
 refine d_0 [(0, .agg #[.slice ab (List.length b) cb, .slice al (List.length xs) cl])] 5 Go.Proofs.Try.func89 Go.Proofs.Try.ntmps89 (Heap.nil _) fun act0 En0 Hv0 => ?_
 refine wp_seq ?_
 refine region_from ?_
 refine f_o ?_
 refine m_m 83 [.slice ab (List.length b) cb, .slice al (List.length xs) cl] En0 Hv0 fun ac2 wo3 bk1 En4 Hv5 => ?_
 refine d_e [1,2] [] En4 fun ac6 En7 => ?_
 refine then_normal ?_
 refine wp_seq ?_
 refine region_from ?_
 refine d_k [2,3] [] 1 En7 fun ac8 En9 => ?_
 refine f_o ?_
 refine c_l [0] (M := [.box bk1 [.slice ab (List.length b) cb, .slice al (List.length xs) cl] 83]) En9 Hv5 (fun hM12 => put_pcert _ bk1 ab cb b al cl xs ((ib.ev Hv5).pick [0] (by kernel_rfl)) (il.go Hv5 [0] (by kernel_rfl) (fun _ h => ⟨(InB.ev h.1 Hv5).pick [0] (by kernel_rfl), (h.2.1.go Hv5 [0] (by kernel_rfl) (fun _ h => ⟨h.1, (InB.ev h.2.1 Hv5).pick [0] (by kernel_rfl), h.2.2⟩)), h.2.2⟩)) hq0 hM12) ?_
 rintro _ wo13 ⟨pa10, pc11, rfl, he14⟩
 refine ⟨_, _, [.vec pa10 pc11 1 (bys (certP (b, (List.map (fun y : RCer => (y.1.l, List.map (fun y : RExt => (y.1, y.2.1.l)) y.2.1.l)) xs)))) 5], rfl, he14, by kernel_rfl, fun ac16 En17 Hv18 => ?_⟩
 refine d_e [2] [] En17 fun ac19 En20 => ?_
 refine then_normal ?_
 refine wp_ret ?_
 refine d_ret1 (t := 2) (v := .slice pa10 (List.length (certP (b, (List.map (fun y : RCer => (y.1.l, List.map (fun y : RExt => (y.1, y.2.1.l)) y.2.1.l)) xs)))) pc11) En20 (by kernel_rfl) (by kernel_rfl) ?_
 exact ⟨pa10, pc11, rfl, Hv18.pk [0]⟩

end Go.Proofs.Ytofecellbfhnjaa

/- Layer 17: offered tickets are read by the program. -/

namespace Go.Proofs.Ytofecellbfhnjaa
open Go.Dbr
set_option maxRecDepth 100000
set_option maxHeartbeats 2000000
set_option linter.unusedVariables false
set_option linter.unusedSimpArgs false

theorem sv_nz {α : Type} {f : α → List Value} {sz : Nat} {w : World} {L : List Ent} (h : Heap w L) {k : Nat} {a : Option Addr} {cap : Nat} {xs : List α} {T : TypeId} (hk : L[k]? = some (.vec a cap sz (xs.flatMap f) T)) (hf : ∀ x, (f x).length = sz) (h1 : 0 < sz) : a = none → xs.length = 0 := fun ha => by
  have h0 : Ent.holds0 w (.vec a cap sz (xs.flatMap f) T) := h.holds k _ hk
  subst ha
  obtain ⟨_, h2⟩ := h0
  have := sv_len hf xs
  rw [h2] at this
  rcases Nat.eq_zero_or_pos xs.length with e | e
  · exact e
  · have := Nat.mul_pos e h1; simp at *; omega
section
variable {w w0 : World} {L L0 : List Ent}
end
end Go.Proofs.Ytofecellbfhnjaa

/- Layer 17: offered tickets are read by the program: all of a body. -/

namespace Go.Proofs.Ytofecellbfhnjaa
open Go.Dbr
set_option maxRecDepth 100000
set_option maxHeartbeats 2000000
set_option linter.unusedVariables false
set_option linter.unusedSimpArgs false

end Go.Proofs.Ytofecellbfhnjaa

/- Layer 17: offered tickets are read by the document. -/

namespace Go.Proofs.Ytofecellbfhnjaa
open Go.Dbr
set_option maxRecDepth 100000
set_option maxHeartbeats 2000000
set_option linter.unusedVariables false
set_option linter.unusedSimpArgs false

end Go.Proofs.Ytofecellbfhnjaa

/- Layer 17: both readers find the same. -/

namespace Go.Proofs.Ytofecellbfhnjaa
open Go.Dbr
set_option maxRecDepth 100000
set_option maxHeartbeats 2000000
set_option linter.unusedVariables false
set_option linter.unusedSimpArgs false

/-- both are short, or both have found the same -/
def Like {α : Type} (q d : α × PS) : Prop := q.2.2.1 = d.2.2.1 ∧ (q.2.2.1 = false → q = d)
section
variable {α : Type}
theorem like_A {q d : α × PS} (h : Like q d) : gotA q = gotA d := by
  cases e : q.2.2.1 with
  | true => rw [gotA, gotA, ← h.1, e, endV, endV, if_pos (.inl rfl), if_pos (.inl rfl)]
  | false => rw [h.2 e]
theorem like_V {z : α} {q d : α × PS} (h : Like q d) : gotV z q = gotV z d := by
  cases e : q.2.2.1 with
  | true =>
    have e1 : gotA q = 50 := by rw [gotA, e, endV, if_pos (.inl rfl)]
    rw [gotV_n e1 (by decide), gotV_n ((like_A h).symm.trans e1) (by decide)]
  | false => rw [h.2 e]
theorem like_t {q d : α × PS} (h : q.2.2.1 = true) (h2 : d.2.2.1 = true) : Like q d := ⟨h.trans h2.symm, fun g => by rw [h] at g; cases g⟩
theorem like_r {q d : α × PS} (h : q = d) : Like q d := ⟨by rw [h], fun _ => h⟩
end
theorem tkS_t (n : Nat) (l : Bs) : tkS n l true = true := rfl
theorem tk_dk {n : Nat} {l : Bs} {s : Bool} (h : tkS n l s = false) : tkR n l s = dkR n l s := by rw [tkR, dkR, h]; rfl
theorem lsS_t (n x y : Nat) (l : Bs) : lsS n x y l true = true := by rw [lsS, lsT, tkS_t, Bool.true_or, tkS_t]
theorem ldS_t (n x y : Nat) (l : Bs) : ldS n x y l true = true := by rw [ldS, lsT, tkS_t, Bool.true_or, tkS_t]
theorem ls_ld (n x y : Nat) (l : Bs) (s : Bool) : lsS n x y l s = ldS n x y l s := by
  cases h : tkS n l s with
  | true => rw [lsS, ldS, lsT, h, Bool.true_or, tkS_t, tkS_t]
  | false => rw [lsS, ldS, tk_dk h]
theorem ls_ld2 {n x y : Nat} {l : Bs} {s : Bool} (h : lsS n x y l s = false) : lsO n x y l s = ldO n x y l s ∧ lsR n x y l s = ldR n x y l s := by
  have h1 := (lsS_f h).1
  have e := tk_dk h1
  constructor
  · rw [lsO, ldO, e]
  · rw [lsR, ldR, ← e]
    exact tk_dk h
theorem nbV_2 {n : Nat} (hn : n ≤ 2) (l : Bs) (s : Bool) : nbV n l s ≤ 65535 := by
  have h := beV_lt _ (tkO n l s) rfl
  have h2 : 256 ^ (tkO n l s).length ≤ 256 ^ 2 := Nat.pow_le_pow_right (by decide) (Nat.le_trans (tkO_len n l s) hn)
  exact Nat.le_of_lt_succ (Nat.lt_of_lt_of_le h h2)
theorem lsT_b {n x : Nat} (hn : n ≤ 2) (l : Bs) (s : Bool) : lsT n x 16777215 l s = lsT n x 65535 l s := by
  have h := nbV_2 hn l s
  rw [lsT, lsT, decide_eq_false (show ¬ 16777215 < nbV n l s by omega), decide_eq_false (show ¬ 65535 < nbV n l s by omega)]
theorem ls_b {n x : Nat} (hn : n ≤ 2) (l : Bs) (s : Bool) : lsS n x 16777215 l s = lsS n x 65535 l s ∧ lsO n x 16777215 l s = lsO n x 65535 l s ∧ lsR n x 16777215 l s = lsR n x 65535 l s := by
  refine ⟨?_, ?_, ?_⟩
  · rw [lsS, lsS, lsT_b hn]
  · rw [lsO, lsO, lsT_b hn]
  · rw [lsR, lsR, lsT_b hn]
theorem mnf_like {α : Type} {one two : Bs → Bool → Bool → α × PS} (h : ∀ l s o, Like (one l s o) (two l s o)) : ∀ (f : Nat) (p : PS), Like (mnf one f p) (mnf two f p)
  | 0, p => like_r rfl
  | f + 1, p => by
    by_cases hp : p.2.1 = true ∨ p.1 = []
    · exact like_r (by rw [mnf_end hp, mnf_end hp])
    · have hq := h p.1 p.2.1 p.2.2
      cases e : (one p.1 p.2.1 p.2.2).2.2.1 with
      | true =>
        have e2 : (two p.1 p.2.1 p.2.2).2.2.1 = true := hq.1.symm.trans e
        exact like_t (by rw [mnf, if_neg hp]; show (mnf one f (one p.1 p.2.1 p.2.2).2).2.2.1 = true; rw [mnf_end (.inl e)]; exact e) (by rw [mnf, if_neg hp]; show (mnf two f (two p.1 p.2.1 p.2.2).2).2.2.1 = true; rw [mnf_end (.inl e2)]; exact e2)
      | false =>
        have e2 := hq.2 e
        have ih := mnf_like h f (two p.1 p.2.1 p.2.2).2
        rw [mnf, mnf, if_neg hp, if_neg hp, e2]
        refine ⟨ih.1, fun g => ?_⟩
        have := ih.2 g
        rw [this]
theorem mn_like {α : Type} {one two : Bs → Bool → Bool → α × PS} (h : ∀ l s o, Like (one l s o) (two l s o)) (p : PS) : Like (mn one p) (mn two p) := mnf_like h _ _
theorem many_like {α : Type} {one two : Bs → Bool → Bool → α × PS} (h : ∀ l s o, Like (one l s o) (two l s o)) {n : Nat} (hn : n ≤ 2) (x : Nat) (l : Bs) (s o : Bool) : Like (manyM one n x l s o) (dmanyM two n x 65535 l s o) := by
  have hb := ls_b (x := x) hn l s
  cases e : lsS n x 65535 l s with
  | true =>
    refine like_t ?_ ?_
    · show (lsS n x 16777215 l s || _) = true
      rw [hb.1, e, Bool.true_or]
    · show (ldS n x 65535 l s || _) = true
      rw [← ls_ld, e, Bool.true_or]
  | false =>
    have e2 := ls_ld2 e
    have hm := mn_like h (ldO n x 65535 l s, ldS n x 65535 l s, false)
    refine ⟨?_, fun g => ?_⟩
    · show (lsS n x 16777215 l s || (mn one (lsO n x 16777215 l s, lsS n x 16777215 l s, false)).2.2.1) = (ldS n x 65535 l s || (mn two (ldO n x 65535 l s, ldS n x 65535 l s, false)).2.2.1)
      rw [hb.1, hb.2.1, e2.1, ls_ld, hm.1]
    · have g : (lsS n x 16777215 l s || (mn one (lsO n x 16777215 l s, lsS n x 16777215 l s, false)).2.2.1) = false := g
      rw [hb.1, hb.2.1, e2.1, ls_ld, Bool.or_eq_false_iff] at g
      have := hm.2 g.2
      rw [manyM, dmanyM, hb.1, hb.2.1, hb.2.2, e2.1, e2.2, ls_ld, this]
end Go.Proofs.Ytofecellbfhnjaa
