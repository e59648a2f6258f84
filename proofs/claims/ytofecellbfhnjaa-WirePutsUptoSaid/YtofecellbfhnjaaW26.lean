/- Layer 17: extensions' data are written by the program. -/
import Derived.Test.YtofecellbfhnjaaW25
namespace Go.Proofs.Ytofecellbfhnjaa
open Go.Dbr
set_option maxRecDepth 100000
set_option maxHeartbeats 2000000
set_option linter.unusedVariables false
set_option linter.unusedSimpArgs false

/-- a list of parts, alone -/
def putP {β : Type} (F : WS → β → WS) (n x : Nat) (ps : List β) : Bs := doneL (wbad n x 16777215 (allM F ps).1.length (false || (allM F ps).2)) (wput n [] (allM F ps).1)
def bytP (n y : Nat) (l b : Bs) : Bs := doneL (wbad n 1 y b.length false) (wput n l b)
def shP (x : UInt16 × Bs) : Bs := doneL (shF ([], false) x).2 (shF ([], false) x).1
def numP (v : UInt16) : Bs := doneL (u16F ([], false) v).2 (u16F ([], false) v).1
def pskP (ps : List PK) : Bs := doneL (wbad 2 1 16777215 (allM k2F ps).1.length (wbad 2 1 16777215 (allM k1F ps).1.length (false || (allM k1F ps).2) || (allM k2F ps).2)) (wput 2 (wput 2 [] (allM k1F ps).1) (allM k2F ps).1)

theorem pmodes_1 (w : World) (bw : Nat) (bb : Nat) (ab : Option Addr) (cb : Nat) (b : Bs) (ib : InB w [.box bw [.slice none 0 0, .bool false] 115, .vec none 0 1 (bys []) 5, .box bb [.slice ab (List.length b) cb] 23] ab cb b) (hH : Heap w [.box bw [.slice none 0 0, .bool false] 115, .vec none 0 1 (bys []) 5, .box bb [.slice ab (List.length b) cb] 23]) : Calls Try.prog 118 #[pt bw, pt bb] w fun e w' => ∃ a' c', e = .returned (.tuple #[]) ∧ Ev w [.box bw [.slice none 0 0, .bool false] 115, .vec none 0 1 (bys []) 5, .box bb [.slice ab (List.length b) cb] 23] w' [.box bw [.slice a' (List.length (wput 1 [] b)) c', .bool (wbad 1 1 255 (List.length b) false)] 115, .vec a' c' 1 (bys (wput 1 [] b)) 5] := by
 have hbs := ib.small
 refine d_0 [(0, pt bw), (1, pt bb)] 6 Go.Proofs.Try.func118 Go.Proofs.Try.ntmps118 (hH) fun act0 En0 Hv0 => ?_
 refine region_from ?_
 refine d_k [1,3] [] 1 En0 fun ac1 En2 => ?_
 refine f_o ?_
 refine m_l 2 En2 Hv0 fun ac3 En4 => ?_
 refine f_o ?_
 refine c_l [0,1] (M := [.box bw [.slice none 0 0, .bool false] 115, .vec none 0 1 (bys []) 5]) En4 Hv0 (fun hM7 => wlist_go _ bw none 0 [] false 1 (by omega) 1 255 (by omega) (by omega) ab cb b ((ib.ev Hv0).pick [0, 1] (by kernel_rfl)) (by first | omega | (simp [wput_len, beN_len]; done) | (simp [wput_len, beN_len]; omega)) hM7) ?_
 rintro _ wo8 ⟨wa5, wc6, rfl, he9⟩
 refine ⟨_, _, [.box bw [.slice wa5 (List.length (wput 1 [] b)) wc6, .bool (wbad 1 1 255 (List.length b) false)] 115, .vec wa5 wc6 1 (bys (wput 1 [] b)) 5, .box bb [.slice ab (List.length b) cb] 23], rfl, he9, by kernel_rfl, fun ac11 En12 Hv13 => ?_⟩
 refine f_e ?_
 refine d_end0 En12 (by kernel_rfl) ?_
 exact ⟨wa5, wc6, rfl, Hv13.pk [0, 1]⟩

theorem put_pmodes (w : World) (bb : Nat) (ab : Option Addr) (cb : Nat) (b : Bs) (ib : InB w [.box bb [.slice ab (List.length b) cb] 23] ab cb b) (hH : Heap w [.box bb [.slice ab (List.length b) cb] 23]) : Calls Try.prog 99 #[.func (.func 118) #[] #[pt bb]] w fun e w' => ∃ a' c', e = .returned (.slice a' (List.length (doneL (wbad 1 1 255 (List.length b) false) (wput 1 [] b))) c') ∧ Ev w [.box bb [.slice ab (List.length b) cb] 23] w' [.vec a' c' 1 (bys (doneL (wbad 1 1 255 (List.length b) false) (wput 1 [] b))) 5] := by
 refine d_0 [(0, .func (.func 118) #[] #[pt bb])] 11 Go.Proofs.Try.func99 Go.Proofs.Try.ntmps99 (hH) fun act0 En0 Hv0 => ?_
 refine d_s [0,2] [] En0 fun ac1 En2 => ?_
 refine wp_seq ?_
 refine region_from ?_
 refine d_k [0,2,4] [] 1 En2 fun ac3 En4 => ?_
 refine f_o ?_
 refine m_m 115 [.slice none 0 0, .bool false] En4 Hv0 fun ac6 wo7 bk5 En8 Hv9 => ?_
 refine d_e [0,2,3] [] En8 fun ac10 En11 => ?_
 refine then_normal ?_
 refine wp_seq ?_
 refine region_from ?_
 refine d_k [2,3,6,7] [] 2 En11 fun ac12 En13 => ?_
 refine f_o ?_
 have Hv14 : Ev w [.box bb [.slice ab (List.length b) cb] 23] wo7 [.box bb [.slice ab (List.length b) cb] 23, .box bk5 [.slice none 0 0, .bool false] 115, .vec none 0 1 (bys []) 5] := Ev.nil (sz := 1) (T := 5) Hv9
 refine c_l [1,2,0] (M := [.box bk5 [.slice none 0 0, .bool false] 115, .vec none 0 1 (bys []) 5, .box bb [.slice ab (List.length b) cb] 23]) En13 Hv14 (fun hM17 => pmodes_1 _ bk5 bb ab cb b ((ib.ev Hv14).pick [1, 2, 0] (by kernel_rfl)) hM17) ?_
 rintro _ wo18 ⟨wa15, wc16, rfl, he19⟩
 refine ⟨_, _, [.box bk5 [.slice wa15 (List.length (wput 1 [] b)) wc16, .bool (wbad 1 1 255 (List.length b) false)] 115, .vec wa15 wc16 1 (bys (wput 1 [] b)) 5], rfl, he19, by kernel_rfl, fun ac21 En22 Hv23 => ?_⟩
 refine f_e ?_
 refine then_normal ?_
 refine wp_seq ?_
 refine region_from ?_
 refine d_k [2,3,9] [] 1 En22 fun ac24 En25 => ?_
 refine f_o ?_
 refine c_l [0,1] (M := [.box bk5 [.slice wa15 (List.length (wput 1 [] b)) wc16, .bool (wbad 1 1 255 (List.length b) false)] 115, .vec wa15 wc16 1 (bys (wput 1 [] b)) 5]) En25 Hv23 (fun hM28 => wdone_go _ bk5 wa15 wc16 (wput 1 [] b) (wbad 1 1 255 (List.length b) false) hM28) ?_
 rintro _ wo29 ⟨da26, dc27, rfl, he30⟩
 refine ⟨_, _, [.vec da26 dc27 1 (bys (doneL (wbad 1 1 255 (List.length b) false) (wput 1 [] b))) 5], rfl, he30, by kernel_rfl, fun ac32 En33 Hv34 => ?_⟩
 refine d_e [2,3] [] En33 fun ac35 En36 => ?_
 refine then_normal ?_
 refine wp_ret ?_
 refine d_ret1 (t := 2) (v := .slice da26 (List.length (doneL (wbad 1 1 255 (List.length b) false) (wput 1 [] b))) dc27) En36 (by kernel_rfl) (by kernel_rfl) ?_
 exact ⟨da26, dc27, rfl, Hv34.pk [0]⟩

theorem pmodes_go (w : World) (ab : Option Addr) (cb : Nat) (b : Bs) (ib : InB w [] ab cb b) : Calls Try.prog 25 #[.slice ab (List.length b) cb] w fun e w' => ∃ a' c', e = .returned (.slice a' (List.length (bytP 1 255 [] b)) c') ∧ Ev w [] w' [.vec a' c' 1 (bys (bytP 1 255 [] b)) 5] := by
 have hbs := ib.small
 refine d_0 [(0, .slice ab (List.length b) cb)] 5 Go.Proofs.Try.func25 Go.Proofs.Try.ntmps25 (Heap.nil _) fun act0 En0 Hv0 => ?_
 refine wp_seq ?_
 refine region_from ?_
 refine f_o ?_
 refine m_m 23 [.slice ab (List.length b) cb] En0 Hv0 fun ac2 wo3 bk1 En4 Hv5 => ?_
 refine d_e [1,2] [] En4 fun ac6 En7 => ?_
 refine then_normal ?_
 refine wp_seq ?_
 refine region_from ?_
 refine d_k [2,3] [] 1 En7 fun ac8 En9 => ?_
 refine f_o ?_
 refine c_l [0] (M := [.box bk1 [.slice ab (List.length b) cb] 23]) En9 Hv5 (fun hM12 => put_pmodes _ bk1 ab cb b ((ib.ev Hv5).pick [0] (by kernel_rfl)) hM12) ?_
 rintro _ wo13 ⟨pa10, pc11, rfl, he14⟩
 refine ⟨_, _, [.vec pa10 pc11 1 (bys (bytP 1 255 [] b)) 5], rfl, he14, by kernel_rfl, fun ac16 En17 Hv18 => ?_⟩
 refine d_e [2] [] En17 fun ac19 En20 => ?_
 refine then_normal ?_
 refine wp_ret ?_
 refine d_ret1 (t := 2) (v := .slice pa10 (List.length (bytP 1 255 [] b)) pc11) En20 (by kernel_rfl) (by kernel_rfl) ?_
 exact ⟨pa10, pc11, rfl, Hv18.pk [0]⟩

theorem pcookie_1 (w : World) (bw : Nat) (bb : Nat) (ab : Option Addr) (cb : Nat) (b : Bs) (ib : InB w [.box bw [.slice none 0 0, .bool false] 115, .vec none 0 1 (bys []) 5, .box bb [.slice ab (List.length b) cb] 23] ab cb b) (hH : Heap w [.box bw [.slice none 0 0, .bool false] 115, .vec none 0 1 (bys []) 5, .box bb [.slice ab (List.length b) cb] 23]) : Calls Try.prog 129 #[pt bw, pt bb] w fun e w' => ∃ a' c', e = .returned (.tuple #[]) ∧ Ev w [.box bw [.slice none 0 0, .bool false] 115, .vec none 0 1 (bys []) 5, .box bb [.slice ab (List.length b) cb] 23] w' [.box bw [.slice a' (List.length (wput 2 [] b)) c', .bool (wbad 2 1 65535 (List.length b) false)] 115, .vec a' c' 1 (bys (wput 2 [] b)) 5] := by
 have hbs := ib.small
 refine d_0 [(0, pt bw), (1, pt bb)] 6 Go.Proofs.Try.func129 Go.Proofs.Try.ntmps129 (hH) fun act0 En0 Hv0 => ?_
 refine region_from ?_
 refine d_k [1,3] [] 1 En0 fun ac1 En2 => ?_
 refine f_o ?_
 refine m_l 2 En2 Hv0 fun ac3 En4 => ?_
 refine f_o ?_
 refine c_l [0,1] (M := [.box bw [.slice none 0 0, .bool false] 115, .vec none 0 1 (bys []) 5]) En4 Hv0 (fun hM7 => wlist_go _ bw none 0 [] false 2 (by omega) 1 65535 (by omega) (by omega) ab cb b ((ib.ev Hv0).pick [0, 1] (by kernel_rfl)) (by first | omega | (simp [wput_len, beN_len]; done) | (simp [wput_len, beN_len]; omega)) hM7) ?_
 rintro _ wo8 ⟨wa5, wc6, rfl, he9⟩
 refine ⟨_, _, [.box bw [.slice wa5 (List.length (wput 2 [] b)) wc6, .bool (wbad 2 1 65535 (List.length b) false)] 115, .vec wa5 wc6 1 (bys (wput 2 [] b)) 5, .box bb [.slice ab (List.length b) cb] 23], rfl, he9, by kernel_rfl, fun ac11 En12 Hv13 => ?_⟩
 refine f_e ?_
 refine d_end0 En12 (by kernel_rfl) ?_
 exact ⟨wa5, wc6, rfl, Hv13.pk [0, 1]⟩

theorem put_pcookie (w : World) (bb : Nat) (ab : Option Addr) (cb : Nat) (b : Bs) (ib : InB w [.box bb [.slice ab (List.length b) cb] 23] ab cb b) (hH : Heap w [.box bb [.slice ab (List.length b) cb] 23]) : Calls Try.prog 99 #[.func (.func 129) #[] #[pt bb]] w fun e w' => ∃ a' c', e = .returned (.slice a' (List.length (doneL (wbad 2 1 65535 (List.length b) false) (wput 2 [] b))) c') ∧ Ev w [.box bb [.slice ab (List.length b) cb] 23] w' [.vec a' c' 1 (bys (doneL (wbad 2 1 65535 (List.length b) false) (wput 2 [] b))) 5] := by
 refine d_0 [(0, .func (.func 129) #[] #[pt bb])] 11 Go.Proofs.Try.func99 Go.Proofs.Try.ntmps99 (hH) fun act0 En0 Hv0 => ?_
 refine d_s [0,2] [] En0 fun ac1 En2 => ?_
 refine wp_seq ?_
 refine region_from ?_
 refine d_k [0,2,4] [] 1 En2 fun ac3 En4 => ?_
 refine f_o ?_
 refine m_m 115 [.slice none 0 0, .bool false] En4 Hv0 fun ac6 wo7 bk5 En8 Hv9 => ?_
 refine d_e [0,2,3] [] En8 fun ac10 En11 => ?_
 refine then_normal ?_
 refine wp_seq ?_
 refine region_from ?_
 refine d_k [2,3,6,7] [] 2 En11 fun ac12 En13 => ?_
 refine f_o ?_
 have Hv14 : Ev w [.box bb [.slice ab (List.length b) cb] 23] wo7 [.box bb [.slice ab (List.length b) cb] 23, .box bk5 [.slice none 0 0, .bool false] 115, .vec none 0 1 (bys []) 5] := Ev.nil (sz := 1) (T := 5) Hv9
 refine c_l [1,2,0] (M := [.box bk5 [.slice none 0 0, .bool false] 115, .vec none 0 1 (bys []) 5, .box bb [.slice ab (List.length b) cb] 23]) En13 Hv14 (fun hM17 => pcookie_1 _ bk5 bb ab cb b ((ib.ev Hv14).pick [1, 2, 0] (by kernel_rfl)) hM17) ?_
 rintro _ wo18 ⟨wa15, wc16, rfl, he19⟩
 refine ⟨_, _, [.box bk5 [.slice wa15 (List.length (wput 2 [] b)) wc16, .bool (wbad 2 1 65535 (List.length b) false)] 115, .vec wa15 wc16 1 (bys (wput 2 [] b)) 5], rfl, he19, by kernel_rfl, fun ac21 En22 Hv23 => ?_⟩
 refine f_e ?_
 refine then_normal ?_
 refine wp_seq ?_
 refine region_from ?_
 refine d_k [2,3,9] [] 1 En22 fun ac24 En25 => ?_
 refine f_o ?_
 refine c_l [0,1] (M := [.box bk5 [.slice wa15 (List.length (wput 2 [] b)) wc16, .bool (wbad 2 1 65535 (List.length b) false)] 115, .vec wa15 wc16 1 (bys (wput 2 [] b)) 5]) En25 Hv23 (fun hM28 => wdone_go _ bk5 wa15 wc16 (wput 2 [] b) (wbad 2 1 65535 (List.length b) false) hM28) ?_
 rintro _ wo29 ⟨da26, dc27, rfl, he30⟩
 refine ⟨_, _, [.vec da26 dc27 1 (bys (doneL (wbad 2 1 65535 (List.length b) false) (wput 2 [] b))) 5], rfl, he30, by kernel_rfl, fun ac32 En33 Hv34 => ?_⟩
 refine d_e [2,3] [] En33 fun ac35 En36 => ?_
 refine then_normal ?_
 refine wp_ret ?_
 refine d_ret1 (t := 2) (v := .slice da26 (List.length (doneL (wbad 2 1 65535 (List.length b) false) (wput 2 [] b))) dc27) En36 (by kernel_rfl) (by kernel_rfl) ?_
 exact ⟨da26, dc27, rfl, Hv34.pk [0]⟩

theorem pcookie_go (w : World) (ab : Option Addr) (cb : Nat) (b : Bs) (ib : InB w [] ab cb b) : Calls Try.prog 31 #[.slice ab (List.length b) cb] w fun e w' => ∃ a' c', e = .returned (.slice a' (List.length (bytP 2 65535 [] b)) c') ∧ Ev w [] w' [.vec a' c' 1 (bys (bytP 2 65535 [] b)) 5] := by
 have hbs := ib.small
 refine d_0 [(0, .slice ab (List.length b) cb)] 5 Go.Proofs.Try.func31 Go.Proofs.Try.ntmps31 (Heap.nil _) fun act0 En0 Hv0 => ?_
 refine wp_seq ?_
 refine region_from ?_
 refine f_o ?_
 refine m_m 23 [.slice ab (List.length b) cb] En0 Hv0 fun ac2 wo3 bk1 En4 Hv5 => ?_
 refine d_e [1,2] [] En4 fun ac6 En7 => ?_
 refine then_normal ?_
 refine wp_seq ?_
 refine region_from ?_
 refine d_k [2,3] [] 1 En7 fun ac8 En9 => ?_
 refine f_o ?_
 refine c_l [0] (M := [.box bk1 [.slice ab (List.length b) cb] 23]) En9 Hv5 (fun hM12 => put_pcookie _ bk1 ab cb b ((ib.ev Hv5).pick [0] (by kernel_rfl)) hM12) ?_
 rintro _ wo13 ⟨pa10, pc11, rfl, he14⟩
 refine ⟨_, _, [.vec pa10 pc11 1 (bys (bytP 2 65535 [] b)) 5], rfl, he14, by kernel_rfl, fun ac16 En17 Hv18 => ?_⟩
 refine d_e [2] [] En17 fun ac19 En20 => ?_
 refine then_normal ?_
 refine wp_ret ?_
 refine d_ret1 (t := 2) (v := .slice pa10 (List.length (bytP 2 65535 [] b)) pc11) En20 (by kernel_rfl) (by kernel_rfl) ?_
 exact ⟨pa10, pc11, rfl, Hv18.pk [0]⟩

theorem pstatus_1 (w : World) (bw : Nat) (bb : Nat) (ab : Option Addr) (cb : Nat) (b : Bs) (ib : InB w [.box bw [.slice none 0 0, .bool false] 115, .vec none 0 1 (bys []) 5, .box bb [.slice ab (List.length b) cb] 23] ab cb b) (hH : Heap w [.box bw [.slice none 0 0, .bool false] 115, .vec none 0 1 (bys []) 5, .box bb [.slice ab (List.length b) cb] 23]) : Calls Try.prog 130 #[pt bw, pt bb] w fun e w' => ∃ a' c', e = .returned (.tuple #[]) ∧ Ev w [.box bw [.slice none 0 0, .bool false] 115, .vec none 0 1 (bys []) 5, .box bb [.slice ab (List.length b) cb] 23] w' [.box bw [.slice a' (List.length (wput 3 [1] b)) c', .bool (wbad 3 1 16777215 (List.length b) false)] 115, .vec a' c' 1 (bys (wput 3 [1] b)) 5] := by
 have hbs := ib.small
 refine d_0 [(0, pt bw), (1, pt bb)] 15 Go.Proofs.Try.func130 Go.Proofs.Try.ntmps130 (hH) fun act0 En0 Hv0 => ?_
 refine wp_seq ?_
 refine region_from ?_
 refine d_k [0,1,3,6] [] 4 En0 fun ac1 En2 => ?_
 refine f_o ?_
 refine m_l 0 En2 Hv0 fun ac3 En4 => ?_
 refine f_o ?_
 refine op_lit (d := some 8) (t := 23) (T := 5) (m := 1) (parts := #[(0, .int .u8 1)]) (xs := bys [(1 : UInt8)]) (sz := 1) En4 (by kernel_rfl) (by kernel_rfl) rfl (by decide) Hv0 ?_
 intro ac6 wo7 bk5 En8 Hv9
 refine f_o ?_
 refine op_append (d := some 9) (t := 23) (tx := 23) (ty := 23) (k := 1) (p := List.length ([] : Bs)) (m := 1) (x := .slice (some ⟨bk5, 0, none⟩) 1 1) (bytes := 1) En8 (by kernel_rfl) Hv9 rfl (bys_lenn (by simp)) (Reads.src (size := 1) (tx := 23) (e' := 5) (by kernel_rfl) (Hv9.heap.reads (k := 3) rfl) rfl (fun e => by cases e) (bys_one _)) (by kernel_rfl) (z := .int .u8 0) (by kernel_rfl) rfl (by decide) (by first | omega | (simp [beN_len]; done) | (simp [beN_len]; omega)) (by unfold maxLen; first | omega | (simp [beN_len]; done) | (simp [beN_len]; omega)) ?_
 intro ac14 wo15 ao10 cp11 En16 Hv17 hnz _
 clear hnz
 rw [bys_nil_append] at Hv17
 have ehz12 : (List.length ([] : Bs)) + 1 = List.length [(1 : UInt8)] := (by first | (simp; done) | (simp; omega) | omega)
 rw [ehz12] at En16
 refine d_k [0,1,9,11] [] 9 En16 fun ac18 En19 => ?_
 refine f_o ?_
 refine m_s 0 [.box bw [.slice ao10 (List.length [(1 : UInt8)]) cp11, .bool false] 115, .vec ao10 cp11 1 (bys [(1 : UInt8)]) 5, .box bb [.slice ab (List.length b) cb] 23, .vec (some ⟨bk5, 0, none⟩) 1 1 (bys [(1 : UInt8)]) 5] En19 Hv17 fun ac20 wo21 En22 Hv23 => ?_
 refine f_e ?_
 refine then_normal ?_
 refine region_from ?_
 refine d_k [0,1,12] [] 1 En22 fun ac24 En25 => ?_
 refine f_o ?_
 refine m_l 2 En25 Hv23 fun ac26 En27 => ?_
 refine f_o ?_
 refine c_l [0,1] (M := [.box bw [.slice ao10 (List.length [(1 : UInt8)]) cp11, .bool false] 115, .vec ao10 cp11 1 (bys [(1 : UInt8)]) 5]) En27 Hv23 (fun hM30 => wlist_go _ bw ao10 cp11 [(1 : UInt8)] false 3 (by omega) 1 16777215 (by omega) (by omega) ab cb b ((ib.ev Hv23).pick [0, 1] (by kernel_rfl)) (by first | omega | (simp [wput_len, beN_len]; done) | (simp [wput_len, beN_len]; omega)) hM30) ?_
 rintro _ wo31 ⟨wa28, wc29, rfl, he32⟩
 refine ⟨_, _, [.box bw [.slice wa28 (List.length (wput 3 [(1 : UInt8)] b)) wc29, .bool (wbad 3 1 16777215 (List.length b) false)] 115, .vec wa28 wc29 1 (bys (wput 3 [(1 : UInt8)] b)) 5, .box bb [.slice ab (List.length b) cb] 23, .vec (some ⟨bk5, 0, none⟩) 1 1 (bys [(1 : UInt8)]) 5], rfl, he32, by kernel_rfl, fun ac34 En35 Hv36 => ?_⟩
 refine f_e ?_
 refine d_end0 En35 (by kernel_rfl) ?_
 exact ⟨wa28, wc29, rfl, Hv36.pk [0, 1]⟩

theorem put_pstatus (w : World) (bb : Nat) (ab : Option Addr) (cb : Nat) (b : Bs) (ib : InB w [.box bb [.slice ab (List.length b) cb] 23] ab cb b) (hH : Heap w [.box bb [.slice ab (List.length b) cb] 23]) : Calls Try.prog 99 #[.func (.func 130) #[] #[pt bb]] w fun e w' => ∃ a' c', e = .returned (.slice a' (List.length (doneL (wbad 3 1 16777215 (List.length b) false) (wput 3 [1] b))) c') ∧ Ev w [.box bb [.slice ab (List.length b) cb] 23] w' [.vec a' c' 1 (bys (doneL (wbad 3 1 16777215 (List.length b) false) (wput 3 [1] b))) 5] := by
 refine d_0 [(0, .func (.func 130) #[] #[pt bb])] 11 Go.Proofs.Try.func99 Go.Proofs.Try.ntmps99 (hH) fun act0 En0 Hv0 => ?_
 refine d_s [0,2] [] En0 fun ac1 En2 => ?_
 refine wp_seq ?_
 refine region_from ?_
 refine d_k [0,2,4] [] 1 En2 fun ac3 En4 => ?_
 refine f_o ?_
 refine m_m 115 [.slice none 0 0, .bool false] En4 Hv0 fun ac6 wo7 bk5 En8 Hv9 => ?_
 refine d_e [0,2,3] [] En8 fun ac10 En11 => ?_
 refine then_normal ?_
 refine wp_seq ?_
 refine region_from ?_
 refine d_k [2,3,6,7] [] 2 En11 fun ac12 En13 => ?_
 refine f_o ?_
 have Hv14 : Ev w [.box bb [.slice ab (List.length b) cb] 23] wo7 [.box bb [.slice ab (List.length b) cb] 23, .box bk5 [.slice none 0 0, .bool false] 115, .vec none 0 1 (bys []) 5] := Ev.nil (sz := 1) (T := 5) Hv9
 refine c_l [1,2,0] (M := [.box bk5 [.slice none 0 0, .bool false] 115, .vec none 0 1 (bys []) 5, .box bb [.slice ab (List.length b) cb] 23]) En13 Hv14 (fun hM17 => pstatus_1 _ bk5 bb ab cb b ((ib.ev Hv14).pick [1, 2, 0] (by kernel_rfl)) hM17) ?_
 rintro _ wo18 ⟨wa15, wc16, rfl, he19⟩
 refine ⟨_, _, [.box bk5 [.slice wa15 (List.length (wput 3 [1] b)) wc16, .bool (wbad 3 1 16777215 (List.length b) false)] 115, .vec wa15 wc16 1 (bys (wput 3 [1] b)) 5], rfl, he19, by kernel_rfl, fun ac21 En22 Hv23 => ?_⟩
 refine f_e ?_
 refine then_normal ?_
 refine wp_seq ?_
 refine region_from ?_
 refine d_k [2,3,9] [] 1 En22 fun ac24 En25 => ?_
 refine f_o ?_
 refine c_l [0,1] (M := [.box bk5 [.slice wa15 (List.length (wput 3 [1] b)) wc16, .bool (wbad 3 1 16777215 (List.length b) false)] 115, .vec wa15 wc16 1 (bys (wput 3 [1] b)) 5]) En25 Hv23 (fun hM28 => wdone_go _ bk5 wa15 wc16 (wput 3 [1] b) (wbad 3 1 16777215 (List.length b) false) hM28) ?_
 rintro _ wo29 ⟨da26, dc27, rfl, he30⟩
 refine ⟨_, _, [.vec da26 dc27 1 (bys (doneL (wbad 3 1 16777215 (List.length b) false) (wput 3 [1] b))) 5], rfl, he30, by kernel_rfl, fun ac32 En33 Hv34 => ?_⟩
 refine d_e [2,3] [] En33 fun ac35 En36 => ?_
 refine then_normal ?_
 refine wp_ret ?_
 refine d_ret1 (t := 2) (v := .slice da26 (List.length (doneL (wbad 3 1 16777215 (List.length b) false) (wput 3 [1] b))) dc27) En36 (by kernel_rfl) (by kernel_rfl) ?_
 exact ⟨da26, dc27, rfl, Hv34.pk [0]⟩

theorem pstatus_go (w : World) (ab : Option Addr) (cb : Nat) (b : Bs) (ib : InB w [] ab cb b) : Calls Try.prog 33 #[.slice ab (List.length b) cb] w fun e w' => ∃ a' c', e = .returned (.slice a' (List.length (bytP 3 16777215 [1] b)) c') ∧ Ev w [] w' [.vec a' c' 1 (bys (bytP 3 16777215 [1] b)) 5] := by
 have hbs := ib.small
 refine d_0 [(0, .slice ab (List.length b) cb)] 5 Go.Proofs.Try.func33 Go.Proofs.Try.ntmps33 (Heap.nil _) fun act0 En0 Hv0 => ?_
 refine wp_seq ?_
 refine region_from ?_
 refine f_o ?_
 refine m_m 23 [.slice ab (List.length b) cb] En0 Hv0 fun ac2 wo3 bk1 En4 Hv5 => ?_
 refine d_e [1,2] [] En4 fun ac6 En7 => ?_
 refine then_normal ?_
 refine wp_seq ?_
 refine region_from ?_
 refine d_k [2,3] [] 1 En7 fun ac8 En9 => ?_
 refine f_o ?_
 refine c_l [0] (M := [.box bk1 [.slice ab (List.length b) cb] 23]) En9 Hv5 (fun hM12 => put_pstatus _ bk1 ab cb b ((ib.ev Hv5).pick [0] (by kernel_rfl)) hM12) ?_
 rintro _ wo13 ⟨pa10, pc11, rfl, he14⟩
 refine ⟨_, _, [.vec pa10 pc11 1 (bys (bytP 3 16777215 [1] b)) 5], rfl, he14, by kernel_rfl, fun ac16 En17 Hv18 => ?_⟩
 refine d_e [2] [] En17 fun ac19 En20 => ?_
 refine then_normal ?_
 refine wp_ret ?_
 refine d_ret1 (t := 2) (v := .slice pa10 (List.length (bytP 3 16777215 [1] b)) pc11) En20 (by kernel_rfl) (by kernel_rfl) ?_
 exact ⟨pa10, pc11, rfl, Hv18.pk [0]⟩

theorem pnumber_1 (w : World) (bw : Nat) (bt : Nat) (v : UInt16) (hH : Heap w [.box bw [.slice none 0 0, .bool false] 115, .vec none 0 1 (bys []) 5, .box bt [uv16 v] 37]) : Calls Try.prog 131 #[pt bw, pt bt] w fun e w' => ∃ a' c', e = .returned (.tuple #[]) ∧ Ev w [.box bw [.slice none 0 0, .bool false] 115, .vec none 0 1 (bys []) 5, .box bt [uv16 v] 37] w' [.box bw [.slice a' (List.length ((u16F ([], false) v).1)) c', .bool ((u16F ([], false) v).2)] 115, .vec a' c' 1 (bys ((u16F ([], false) v).1)) 5] := by
 refine d_0 [(0, pt bw), (1, pt bt)] 6 Go.Proofs.Try.func131 Go.Proofs.Try.ntmps131 (hH) fun act0 En0 Hv0 => ?_
 refine region_from ?_
 refine d_k [1,3] [] 1 En0 fun ac1 En2 => ?_
 refine f_o ?_
 refine m_l 2 En2 Hv0 fun ac3 En4 => ?_
 refine f_o ?_
 refine c_l [0,1] (M := [.box bw [.slice none 0 0, .bool false] 115, .vec none 0 1 (bys []) 5]) En4 Hv0 (fun hM7 => wu16_go _ bw none 0 [] false v (by first | omega | (simp [wput_len, beN_len]; done) | (simp [wput_len, beN_len]; omega)) hM7) ?_
 rintro _ wo8 ⟨wa5, wc6, rfl, he9⟩
 refine ⟨_, _, [.box bw [.slice wa5 (List.length ((u16F ([], false) v).1)) wc6, .bool ((u16F ([], false) v).2)] 115, .vec wa5 wc6 1 (bys ((u16F ([], false) v).1)) 5, .box bt [uv16 v] 37], rfl, he9, by kernel_rfl, fun ac11 En12 Hv13 => ?_⟩
 refine f_e ?_
 refine d_end0 En12 (by kernel_rfl) ?_
 exact ⟨wa5, wc6, rfl, Hv13.pk [0, 1]⟩

theorem put_pnumber (w : World) (bt : Nat) (v : UInt16) (hH : Heap w [.box bt [uv16 v] 37]) : Calls Try.prog 99 #[.func (.func 131) #[] #[pt bt]] w fun e w' => ∃ a' c', e = .returned (.slice a' (List.length (doneL ((u16F ([], false) v).2) ((u16F ([], false) v).1))) c') ∧ Ev w [.box bt [uv16 v] 37] w' [.vec a' c' 1 (bys (doneL ((u16F ([], false) v).2) ((u16F ([], false) v).1))) 5] := by
 refine d_0 [(0, .func (.func 131) #[] #[pt bt])] 11 Go.Proofs.Try.func99 Go.Proofs.Try.ntmps99 (hH) fun act0 En0 Hv0 => ?_
 refine d_s [0,2] [] En0 fun ac1 En2 => ?_
 refine wp_seq ?_
 refine region_from ?_
 refine d_k [0,2,4] [] 1 En2 fun ac3 En4 => ?_
 refine f_o ?_
 refine m_m 115 [.slice none 0 0, .bool false] En4 Hv0 fun ac6 wo7 bk5 En8 Hv9 => ?_
 refine d_e [0,2,3] [] En8 fun ac10 En11 => ?_
 refine then_normal ?_
 refine wp_seq ?_
 refine region_from ?_
 refine d_k [2,3,6,7] [] 2 En11 fun ac12 En13 => ?_
 refine f_o ?_
 have Hv14 : Ev w [.box bt [uv16 v] 37] wo7 [.box bt [uv16 v] 37, .box bk5 [.slice none 0 0, .bool false] 115, .vec none 0 1 (bys []) 5] := Ev.nil (sz := 1) (T := 5) Hv9
 refine c_l [1,2,0] (M := [.box bk5 [.slice none 0 0, .bool false] 115, .vec none 0 1 (bys []) 5, .box bt [uv16 v] 37]) En13 Hv14 (fun hM17 => pnumber_1 _ bk5 bt v hM17) ?_
 rintro _ wo18 ⟨wa15, wc16, rfl, he19⟩
 refine ⟨_, _, [.box bk5 [.slice wa15 (List.length ((u16F ([], false) v).1)) wc16, .bool ((u16F ([], false) v).2)] 115, .vec wa15 wc16 1 (bys ((u16F ([], false) v).1)) 5], rfl, he19, by kernel_rfl, fun ac21 En22 Hv23 => ?_⟩
 refine f_e ?_
 refine then_normal ?_
 refine wp_seq ?_
 refine region_from ?_
 refine d_k [2,3,9] [] 1 En22 fun ac24 En25 => ?_
 refine f_o ?_
 refine c_l [0,1] (M := [.box bk5 [.slice wa15 (List.length ((u16F ([], false) v).1)) wc16, .bool ((u16F ([], false) v).2)] 115, .vec wa15 wc16 1 (bys ((u16F ([], false) v).1)) 5]) En25 Hv23 (fun hM28 => wdone_go _ bk5 wa15 wc16 ((u16F ([], false) v).1) ((u16F ([], false) v).2) hM28) ?_
 rintro _ wo29 ⟨da26, dc27, rfl, he30⟩
 refine ⟨_, _, [.vec da26 dc27 1 (bys (doneL ((u16F ([], false) v).2) ((u16F ([], false) v).1))) 5], rfl, he30, by kernel_rfl, fun ac32 En33 Hv34 => ?_⟩
 refine d_e [2,3] [] En33 fun ac35 En36 => ?_
 refine then_normal ?_
 refine wp_ret ?_
 refine d_ret1 (t := 2) (v := .slice da26 (List.length (doneL ((u16F ([], false) v).2) ((u16F ([], false) v).1))) dc27) En36 (by kernel_rfl) (by kernel_rfl) ?_
 exact ⟨da26, dc27, rfl, Hv34.pk [0]⟩

theorem pnumber_go (w : World) (v : UInt16) : Calls Try.prog 35 #[uv16 v] w fun e w' => ∃ a' c', e = .returned (.slice a' (List.length (numP v)) c') ∧ Ev w [] w' [.vec a' c' 1 (bys (numP v)) 5] := by
 refine d_0 [(0, uv16 v)] 5 Go.Proofs.Try.func35 Go.Proofs.Try.ntmps35 (Heap.nil _) fun act0 En0 Hv0 => ?_
 refine wp_seq ?_
 refine region_from ?_
 refine f_o ?_
 refine m_m 37 [uv16 v] En0 Hv0 fun ac2 wo3 bk1 En4 Hv5 => ?_
 refine d_e [1,2] [] En4 fun ac6 En7 => ?_
 refine then_normal ?_
 refine wp_seq ?_
 refine region_from ?_
 refine d_k [2,3] [] 1 En7 fun ac8 En9 => ?_
 refine f_o ?_
 refine c_l [0] (M := [.box bk1 [uv16 v] 37]) En9 Hv5 (fun hM12 => put_pnumber _ bk1 v hM12) ?_
 rintro _ wo13 ⟨pa10, pc11, rfl, he14⟩
 refine ⟨_, _, [.vec pa10 pc11 1 (bys (numP v)) 5], rfl, he14, by kernel_rfl, fun ac16 En17 Hv18 => ?_⟩
 refine d_e [2] [] En17 fun ac19 En20 => ?_
 refine then_normal ?_
 refine wp_ret ?_
 refine d_ret1 (t := 2) (v := .slice pa10 (List.length (numP v)) pc11) En20 (by kernel_rfl) (by kernel_rfl) ?_
 exact ⟨pa10, pc11, rfl, Hv18.pk [0]⟩

theorem pshare_1 (w : World) (bw : Nat) (bt : Nat) (g : UInt16) (ab : Option Addr) (cb : Nat) (b : Bs) (ib : InB w [.box bw [.slice none 0 0, .bool false] 115, .vec none 0 1 (bys []) 5, .box bt [uv16 g, .slice ab (List.length b) cb] 49] ab cb b) (hH : Heap w [.box bw [.slice none 0 0, .bool false] 115, .vec none 0 1 (bys []) 5, .box bt [uv16 g, .slice ab (List.length b) cb] 49]) : Calls Try.prog 132 #[pt bw, pt bt] w fun e w' => ∃ a' c', e = .returned (.tuple #[]) ∧ Ev w [.box bw [.slice none 0 0, .bool false] 115, .vec none 0 1 (bys []) 5, .box bt [uv16 g, .slice ab (List.length b) cb] 49] w' [.box bw [.slice a' (List.length ((shF ([], false) (g, b)).1)) c', .bool ((shF ([], false) (g, b)).2)] 115, .vec a' c' 1 (bys ((shF ([], false) (g, b)).1)) 5] := by
 have hbs := ib.small
 refine d_0 [(0, pt bw), (1, pt bt)] 6 Go.Proofs.Try.func132 Go.Proofs.Try.ntmps132 (hH) fun act0 En0 Hv0 => ?_
 refine region_from ?_
 refine d_k [1,3] [] 1 En0 fun ac1 En2 => ?_
 refine f_o ?_
 refine m_a 2 0 2 [uv16 g, .slice ab (List.length b) cb] En2 Hv0 rfl rfl rfl fun ac3 En4 => ?_
 refine f_o ?_
 refine c_l [0,1] (M := [.box bw [.slice none 0 0, .bool false] 115, .vec none 0 1 (bys []) 5]) En4 Hv0 (fun hM7 => wshare_go _ bw none 0 [] false g ab cb b ((ib.ev Hv0).pick [0, 1] (by kernel_rfl)) (by first | omega | (simp [wput_len, beN_len]; done) | (simp [wput_len, beN_len]; omega)) hM7) ?_
 rintro _ wo8 ⟨wa5, wc6, rfl, he9⟩
 refine ⟨_, _, [.box bw [.slice wa5 (List.length ((shF ([], false) (g, b)).1)) wc6, .bool ((shF ([], false) (g, b)).2)] 115, .vec wa5 wc6 1 (bys ((shF ([], false) (g, b)).1)) 5, .box bt [uv16 g, .slice ab (List.length b) cb] 49], rfl, he9, by kernel_rfl, fun ac11 En12 Hv13 => ?_⟩
 refine f_e ?_
 refine d_end0 En12 (by kernel_rfl) ?_
 exact ⟨wa5, wc6, rfl, Hv13.pk [0, 1]⟩

theorem put_pshare (w : World) (bt : Nat) (g : UInt16) (ab : Option Addr) (cb : Nat) (b : Bs) (ib : InB w [.box bt [uv16 g, .slice ab (List.length b) cb] 49] ab cb b) (hH : Heap w [.box bt [uv16 g, .slice ab (List.length b) cb] 49]) : Calls Try.prog 99 #[.func (.func 132) #[] #[pt bt]] w fun e w' => ∃ a' c', e = .returned (.slice a' (List.length (doneL ((shF ([], false) (g, b)).2) ((shF ([], false) (g, b)).1))) c') ∧ Ev w [.box bt [uv16 g, .slice ab (List.length b) cb] 49] w' [.vec a' c' 1 (bys (doneL ((shF ([], false) (g, b)).2) ((shF ([], false) (g, b)).1))) 5] := by
 refine d_0 [(0, .func (.func 132) #[] #[pt bt])] 11 Go.Proofs.Try.func99 Go.Proofs.Try.ntmps99 (hH) fun act0 En0 Hv0 => ?_
 refine d_s [0,2] [] En0 fun ac1 En2 => ?_
 refine wp_seq ?_
 refine region_from ?_
 refine d_k [0,2,4] [] 1 En2 fun ac3 En4 => ?_
 refine f_o ?_
 refine m_m 115 [.slice none 0 0, .bool false] En4 Hv0 fun ac6 wo7 bk5 En8 Hv9 => ?_
 refine d_e [0,2,3] [] En8 fun ac10 En11 => ?_
 refine then_normal ?_
 refine wp_seq ?_
 refine region_from ?_
 refine d_k [2,3,6,7] [] 2 En11 fun ac12 En13 => ?_
 refine f_o ?_
 have Hv14 : Ev w [.box bt [uv16 g, .slice ab (List.length b) cb] 49] wo7 [.box bt [uv16 g, .slice ab (List.length b) cb] 49, .box bk5 [.slice none 0 0, .bool false] 115, .vec none 0 1 (bys []) 5] := Ev.nil (sz := 1) (T := 5) Hv9
 refine c_l [1,2,0] (M := [.box bk5 [.slice none 0 0, .bool false] 115, .vec none 0 1 (bys []) 5, .box bt [uv16 g, .slice ab (List.length b) cb] 49]) En13 Hv14 (fun hM17 => pshare_1 _ bk5 bt g ab cb b ((ib.ev Hv14).pick [1, 2, 0] (by kernel_rfl)) hM17) ?_
 rintro _ wo18 ⟨wa15, wc16, rfl, he19⟩
 refine ⟨_, _, [.box bk5 [.slice wa15 (List.length ((shF ([], false) (g, b)).1)) wc16, .bool ((shF ([], false) (g, b)).2)] 115, .vec wa15 wc16 1 (bys ((shF ([], false) (g, b)).1)) 5], rfl, he19, by kernel_rfl, fun ac21 En22 Hv23 => ?_⟩
 refine f_e ?_
 refine then_normal ?_
 refine wp_seq ?_
 refine region_from ?_
 refine d_k [2,3,9] [] 1 En22 fun ac24 En25 => ?_
 refine f_o ?_
 refine c_l [0,1] (M := [.box bk5 [.slice wa15 (List.length ((shF ([], false) (g, b)).1)) wc16, .bool ((shF ([], false) (g, b)).2)] 115, .vec wa15 wc16 1 (bys ((shF ([], false) (g, b)).1)) 5]) En25 Hv23 (fun hM28 => wdone_go _ bk5 wa15 wc16 ((shF ([], false) (g, b)).1) ((shF ([], false) (g, b)).2) hM28) ?_
 rintro _ wo29 ⟨da26, dc27, rfl, he30⟩
 refine ⟨_, _, [.vec da26 dc27 1 (bys (doneL ((shF ([], false) (g, b)).2) ((shF ([], false) (g, b)).1))) 5], rfl, he30, by kernel_rfl, fun ac32 En33 Hv34 => ?_⟩
 refine d_e [2,3] [] En33 fun ac35 En36 => ?_
 refine then_normal ?_
 refine wp_ret ?_
 refine d_ret1 (t := 2) (v := .slice da26 (List.length (doneL ((shF ([], false) (g, b)).2) ((shF ([], false) (g, b)).1))) dc27) En36 (by kernel_rfl) (by kernel_rfl) ?_
 exact ⟨da26, dc27, rfl, Hv34.pk [0]⟩

theorem pshare_go (w : World) (g : UInt16) (ab : Option Addr) (cb : Nat) (b : Bs) (ib : InB w [] ab cb b) : Calls Try.prog 37 #[.agg #[uv16 g, .slice ab (List.length b) cb]] w fun e w' => ∃ a' c', e = .returned (.slice a' (List.length (shP (g, b))) c') ∧ Ev w [] w' [.vec a' c' 1 (bys (shP (g, b))) 5] := by
 have hbs := ib.small
 refine d_0 [(0, .agg #[uv16 g, .slice ab (List.length b) cb])] 5 Go.Proofs.Try.func37 Go.Proofs.Try.ntmps37 (Heap.nil _) fun act0 En0 Hv0 => ?_
 refine wp_seq ?_
 refine region_from ?_
 refine f_o ?_
 refine m_m 49 [uv16 g, .slice ab (List.length b) cb] En0 Hv0 fun ac2 wo3 bk1 En4 Hv5 => ?_
 refine d_e [1,2] [] En4 fun ac6 En7 => ?_
 refine then_normal ?_
 refine wp_seq ?_
 refine region_from ?_
 refine d_k [2,3] [] 1 En7 fun ac8 En9 => ?_
 refine f_o ?_
 refine c_l [0] (M := [.box bk1 [uv16 g, .slice ab (List.length b) cb] 49]) En9 Hv5 (fun hM12 => put_pshare _ bk1 g ab cb b ((ib.ev Hv5).pick [0] (by kernel_rfl)) hM12) ?_
 rintro _ wo13 ⟨pa10, pc11, rfl, he14⟩
 refine ⟨_, _, [.vec pa10 pc11 1 (bys (shP (g, b))) 5], rfl, he14, by kernel_rfl, fun ac16 En17 Hv18 => ?_⟩
 refine d_e [2] [] En17 fun ac19 En20 => ?_
 refine then_normal ?_
 refine wp_ret ?_
 refine d_ret1 (t := 2) (v := .slice pa10 (List.length (shP (g, b))) pc11) En20 (by kernel_rfl) (by kernel_rfl) ?_
 exact ⟨pa10, pc11, rfl, Hv18.pk [0]⟩

theorem plist_1 (w : World) (bw : Nat) (bl : Nat) (al : Option Addr) (cl : Nat) (xs : List RU16) (il : InS fU16 2 (fun y : RU16 => True) w [.box bw [.slice none 0 0, .bool false] 115, .vec none 0 1 (bys []) 5, .box bl [.slice al (List.length xs) cl] 32] al cl xs) (hq0 : allB u16F (List.map (fun y : RU16 => y) xs)) (hH : Heap w [.box bw [.slice none 0 0, .bool false] 115, .vec none 0 1 (bys []) 5, .box bl [.slice al (List.length xs) cl] 32]) : Calls Try.prog 111 #[pt bw, pt bl] w fun e w' => ∃ a' c', e = .returned (.tuple #[]) ∧ Ev w [.box bw [.slice none 0 0, .bool false] 115, .vec none 0 1 (bys []) 5, .box bl [.slice al (List.length xs) cl] 32] w' [.box bw [.slice a' (List.length (wput 2 [] (allM u16F (List.map (fun y : RU16 => y) xs)).1)) c', .bool (wbad 2 2 16777215 (List.length (allM u16F (List.map (fun y : RU16 => y) xs)).1) (false || (allM u16F (List.map (fun y : RU16 => y) xs)).2))] 115, .vec a' c' 1 (bys (wput 2 [] (allM u16F (List.map (fun y : RU16 => y) xs)).1)) 5] := by
 refine d_0 [(0, pt bw), (1, pt bl)] 6 Go.Proofs.Try.func111 Go.Proofs.Try.ntmps111 (hH) fun act0 En0 Hv0 => ?_
 refine region_from ?_
 refine d_k [1,3] [] 1 En0 fun ac1 En2 => ?_
 refine f_o ?_
 refine m_l 2 En2 Hv0 fun ac3 En4 => ?_
 refine f_o ?_
 refine c_l [0,1] (M := [.box bw [.slice none 0 0, .bool false] 115, .vec none 0 1 (bys []) 5]) En4 Hv0 (fun hM7 => all_u16 _ bw none 0 [] false 2 (by omega) 2 (by omega) al cl xs (il.go Hv0 [0, 1] (by kernel_rfl) (fun _ h => h)) (fun i _ => by first | exact Nat.le_trans (hq0 i) (by decide)) (by have hhq0 := allB_all hq0; simp only [List.length_nil, wput_len]; omega) hM7) ?_
 rintro _ wo8 ⟨wa5, wc6, rfl, he9⟩
 refine ⟨_, _, [.box bw [.slice wa5 (List.length (wput 2 [] (allM u16F (List.map (fun y : RU16 => y) xs)).1)) wc6, .bool (wbad 2 2 16777215 (List.length (allM u16F (List.map (fun y : RU16 => y) xs)).1) (false || (allM u16F (List.map (fun y : RU16 => y) xs)).2))] 115, .vec wa5 wc6 1 (bys (wput 2 [] (allM u16F (List.map (fun y : RU16 => y) xs)).1)) 5, .box bl [.slice al (List.length xs) cl] 32], rfl, he9, by kernel_rfl, fun ac11 En12 Hv13 => ?_⟩
 refine f_e ?_
 refine d_end0 En12 (by kernel_rfl) ?_
 exact ⟨wa5, wc6, rfl, Hv13.pk [0, 1]⟩

theorem put_plist (w : World) (bl : Nat) (al : Option Addr) (cl : Nat) (xs : List RU16) (il : InS fU16 2 (fun y : RU16 => True) w [.box bl [.slice al (List.length xs) cl] 32] al cl xs) (hq0 : allB u16F (List.map (fun y : RU16 => y) xs)) (hH : Heap w [.box bl [.slice al (List.length xs) cl] 32]) : Calls Try.prog 99 #[.func (.func 111) #[] #[pt bl]] w fun e w' => ∃ a' c', e = .returned (.slice a' (List.length (doneL (wbad 2 2 16777215 (List.length (allM u16F (List.map (fun y : RU16 => y) xs)).1) (false || (allM u16F (List.map (fun y : RU16 => y) xs)).2)) (wput 2 [] (allM u16F (List.map (fun y : RU16 => y) xs)).1))) c') ∧ Ev w [.box bl [.slice al (List.length xs) cl] 32] w' [.vec a' c' 1 (bys (doneL (wbad 2 2 16777215 (List.length (allM u16F (List.map (fun y : RU16 => y) xs)).1) (false || (allM u16F (List.map (fun y : RU16 => y) xs)).2)) (wput 2 [] (allM u16F (List.map (fun y : RU16 => y) xs)).1))) 5] := by
 refine d_0 [(0, .func (.func 111) #[] #[pt bl])] 11 Go.Proofs.Try.func99 Go.Proofs.Try.ntmps99 (hH) fun act0 En0 Hv0 => ?_
 refine d_s [0,2] [] En0 fun ac1 En2 => ?_
 refine wp_seq ?_
 refine region_from ?_
 refine d_k [0,2,4] [] 1 En2 fun ac3 En4 => ?_
 refine f_o ?_
 refine m_m 115 [.slice none 0 0, .bool false] En4 Hv0 fun ac6 wo7 bk5 En8 Hv9 => ?_
 refine d_e [0,2,3] [] En8 fun ac10 En11 => ?_
 refine then_normal ?_
 refine wp_seq ?_
 refine region_from ?_
 refine d_k [2,3,6,7] [] 2 En11 fun ac12 En13 => ?_
 refine f_o ?_
 have Hv14 : Ev w [.box bl [.slice al (List.length xs) cl] 32] wo7 [.box bl [.slice al (List.length xs) cl] 32, .box bk5 [.slice none 0 0, .bool false] 115, .vec none 0 1 (bys []) 5] := Ev.nil (sz := 1) (T := 5) Hv9
 refine c_l [1,2,0] (M := [.box bk5 [.slice none 0 0, .bool false] 115, .vec none 0 1 (bys []) 5, .box bl [.slice al (List.length xs) cl] 32]) En13 Hv14 (fun hM17 => plist_1 _ bk5 bl al cl xs (il.go Hv14 [1, 2, 0] (by kernel_rfl) (fun _ h => h)) hq0 hM17) ?_
 rintro _ wo18 ⟨wa15, wc16, rfl, he19⟩
 refine ⟨_, _, [.box bk5 [.slice wa15 (List.length (wput 2 [] (allM u16F (List.map (fun y : RU16 => y) xs)).1)) wc16, .bool (wbad 2 2 16777215 (List.length (allM u16F (List.map (fun y : RU16 => y) xs)).1) (false || (allM u16F (List.map (fun y : RU16 => y) xs)).2))] 115, .vec wa15 wc16 1 (bys (wput 2 [] (allM u16F (List.map (fun y : RU16 => y) xs)).1)) 5], rfl, he19, by kernel_rfl, fun ac21 En22 Hv23 => ?_⟩
 refine f_e ?_
 refine then_normal ?_
 refine wp_seq ?_
 refine region_from ?_
 refine d_k [2,3,9] [] 1 En22 fun ac24 En25 => ?_
 refine f_o ?_
 refine c_l [0,1] (M := [.box bk5 [.slice wa15 (List.length (wput 2 [] (allM u16F (List.map (fun y : RU16 => y) xs)).1)) wc16, .bool (wbad 2 2 16777215 (List.length (allM u16F (List.map (fun y : RU16 => y) xs)).1) (false || (allM u16F (List.map (fun y : RU16 => y) xs)).2))] 115, .vec wa15 wc16 1 (bys (wput 2 [] (allM u16F (List.map (fun y : RU16 => y) xs)).1)) 5]) En25 Hv23 (fun hM28 => wdone_go _ bk5 wa15 wc16 (wput 2 [] (allM u16F (List.map (fun y : RU16 => y) xs)).1) (wbad 2 2 16777215 (List.length (allM u16F (List.map (fun y : RU16 => y) xs)).1) (false || (allM u16F (List.map (fun y : RU16 => y) xs)).2)) hM28) ?_
 rintro _ wo29 ⟨da26, dc27, rfl, he30⟩
 refine ⟨_, _, [.vec da26 dc27 1 (bys (doneL (wbad 2 2 16777215 (List.length (allM u16F (List.map (fun y : RU16 => y) xs)).1) (false || (allM u16F (List.map (fun y : RU16 => y) xs)).2)) (wput 2 [] (allM u16F (List.map (fun y : RU16 => y) xs)).1))) 5], rfl, he30, by kernel_rfl, fun ac32 En33 Hv34 => ?_⟩
 refine d_e [2,3] [] En33 fun ac35 En36 => ?_
 refine then_normal ?_
 refine wp_ret ?_
 refine d_ret1 (t := 2) (v := .slice da26 (List.length (doneL (wbad 2 2 16777215 (List.length (allM u16F (List.map (fun y : RU16 => y) xs)).1) (false || (allM u16F (List.map (fun y : RU16 => y) xs)).2)) (wput 2 [] (allM u16F (List.map (fun y : RU16 => y) xs)).1))) dc27) En36 (by kernel_rfl) (by kernel_rfl) ?_
 exact ⟨da26, dc27, rfl, Hv34.pk [0]⟩

theorem plist_go (w : World) (al : Option Addr) (cl : Nat) (xs : List RU16) (il : InS fU16 2 (fun y : RU16 => True) w [] al cl xs) (hq0 : allB u16F (List.map (fun y : RU16 => y) xs)) : Calls Try.prog 19 #[.slice al (List.length xs) cl] w fun e w' => ∃ a' c', e = .returned (.slice a' (List.length (putP u16F 2 2 (List.map (fun y : RU16 => y) xs))) c') ∧ Ev w [] w' [.vec a' c' 1 (bys (putP u16F 2 2 (List.map (fun y : RU16 => y) xs))) 5] := by
 refine d_0 [(0, .slice al (List.length xs) cl)] 5 Go.Proofs.Try.func19 Go.Proofs.Try.ntmps19 (Heap.nil _) fun act0 En0 Hv0 => ?_
 refine wp_seq ?_
 refine region_from ?_
 refine f_o ?_
 refine m_m 32 [.slice al (List.length xs) cl] En0 Hv0 fun ac2 wo3 bk1 En4 Hv5 => ?_
 refine d_e [1,2] [] En4 fun ac6 En7 => ?_
 refine then_normal ?_
 refine wp_seq ?_
 refine region_from ?_
 refine d_k [2,3] [] 1 En7 fun ac8 En9 => ?_
 refine f_o ?_
 refine c_l [0] (M := [.box bk1 [.slice al (List.length xs) cl] 32]) En9 Hv5 (fun hM12 => put_plist _ bk1 al cl xs (il.go Hv5 [0] (by kernel_rfl) (fun _ h => h)) hq0 hM12) ?_
 rintro _ wo13 ⟨pa10, pc11, rfl, he14⟩
 refine ⟨_, _, [.vec pa10 pc11 1 (bys (putP u16F 2 2 (List.map (fun y : RU16 => y) xs))) 5], rfl, he14, by kernel_rfl, fun ac16 En17 Hv18 => ?_⟩
 refine d_e [2] [] En17 fun ac19 En20 => ?_
 refine then_normal ?_
 refine wp_ret ?_
 refine d_ret1 (t := 2) (v := .slice pa10 (List.length (putP u16F 2 2 (List.map (fun y : RU16 => y) xs))) pc11) En20 (by kernel_rfl) (by kernel_rfl) ?_
 exact ⟨pa10, pc11, rfl, Hv18.pk [0]⟩

theorem pversions_1 (w : World) (bw : Nat) (bl : Nat) (al : Option Addr) (cl : Nat) (xs : List RU16) (il : InS fU16 2 (fun y : RU16 => True) w [.box bw [.slice none 0 0, .bool false] 115, .vec none 0 1 (bys []) 5, .box bl [.slice al (List.length xs) cl] 32] al cl xs) (hq0 : allB u16F (List.map (fun y : RU16 => y) xs)) (hH : Heap w [.box bw [.slice none 0 0, .bool false] 115, .vec none 0 1 (bys []) 5, .box bl [.slice al (List.length xs) cl] 32]) : Calls Try.prog 115 #[pt bw, pt bl] w fun e w' => ∃ a' c', e = .returned (.tuple #[]) ∧ Ev w [.box bw [.slice none 0 0, .bool false] 115, .vec none 0 1 (bys []) 5, .box bl [.slice al (List.length xs) cl] 32] w' [.box bw [.slice a' (List.length (wput 1 [] (allM u16F (List.map (fun y : RU16 => y) xs)).1)) c', .bool (wbad 1 2 16777215 (List.length (allM u16F (List.map (fun y : RU16 => y) xs)).1) (false || (allM u16F (List.map (fun y : RU16 => y) xs)).2))] 115, .vec a' c' 1 (bys (wput 1 [] (allM u16F (List.map (fun y : RU16 => y) xs)).1)) 5] := by
 refine d_0 [(0, pt bw), (1, pt bl)] 6 Go.Proofs.Try.func115 Go.Proofs.Try.ntmps115 (hH) fun act0 En0 Hv0 => ?_
 refine region_from ?_
 refine d_k [1,3] [] 1 En0 fun ac1 En2 => ?_
 refine f_o ?_
 refine m_l 2 En2 Hv0 fun ac3 En4 => ?_
 refine f_o ?_
 refine c_l [0,1] (M := [.box bw [.slice none 0 0, .bool false] 115, .vec none 0 1 (bys []) 5]) En4 Hv0 (fun hM7 => all_u16 _ bw none 0 [] false 1 (by omega) 2 (by omega) al cl xs (il.go Hv0 [0, 1] (by kernel_rfl) (fun _ h => h)) (fun i _ => by first | exact Nat.le_trans (hq0 i) (by decide)) (by have hhq0 := allB_all hq0; simp only [List.length_nil, wput_len]; omega) hM7) ?_
 rintro _ wo8 ⟨wa5, wc6, rfl, he9⟩
 refine ⟨_, _, [.box bw [.slice wa5 (List.length (wput 1 [] (allM u16F (List.map (fun y : RU16 => y) xs)).1)) wc6, .bool (wbad 1 2 16777215 (List.length (allM u16F (List.map (fun y : RU16 => y) xs)).1) (false || (allM u16F (List.map (fun y : RU16 => y) xs)).2))] 115, .vec wa5 wc6 1 (bys (wput 1 [] (allM u16F (List.map (fun y : RU16 => y) xs)).1)) 5, .box bl [.slice al (List.length xs) cl] 32], rfl, he9, by kernel_rfl, fun ac11 En12 Hv13 => ?_⟩
 refine f_e ?_
 refine d_end0 En12 (by kernel_rfl) ?_
 exact ⟨wa5, wc6, rfl, Hv13.pk [0, 1]⟩

theorem put_pversions (w : World) (bl : Nat) (al : Option Addr) (cl : Nat) (xs : List RU16) (il : InS fU16 2 (fun y : RU16 => True) w [.box bl [.slice al (List.length xs) cl] 32] al cl xs) (hq0 : allB u16F (List.map (fun y : RU16 => y) xs)) (hH : Heap w [.box bl [.slice al (List.length xs) cl] 32]) : Calls Try.prog 99 #[.func (.func 115) #[] #[pt bl]] w fun e w' => ∃ a' c', e = .returned (.slice a' (List.length (doneL (wbad 1 2 16777215 (List.length (allM u16F (List.map (fun y : RU16 => y) xs)).1) (false || (allM u16F (List.map (fun y : RU16 => y) xs)).2)) (wput 1 [] (allM u16F (List.map (fun y : RU16 => y) xs)).1))) c') ∧ Ev w [.box bl [.slice al (List.length xs) cl] 32] w' [.vec a' c' 1 (bys (doneL (wbad 1 2 16777215 (List.length (allM u16F (List.map (fun y : RU16 => y) xs)).1) (false || (allM u16F (List.map (fun y : RU16 => y) xs)).2)) (wput 1 [] (allM u16F (List.map (fun y : RU16 => y) xs)).1))) 5] := by
 refine d_0 [(0, .func (.func 115) #[] #[pt bl])] 11 Go.Proofs.Try.func99 Go.Proofs.Try.ntmps99 (hH) fun act0 En0 Hv0 => ?_
 refine d_s [0,2] [] En0 fun ac1 En2 => ?_
 refine wp_seq ?_
 refine region_from ?_
 refine d_k [0,2,4] [] 1 En2 fun ac3 En4 => ?_
 refine f_o ?_
 refine m_m 115 [.slice none 0 0, .bool false] En4 Hv0 fun ac6 wo7 bk5 En8 Hv9 => ?_
 refine d_e [0,2,3] [] En8 fun ac10 En11 => ?_
 refine then_normal ?_
 refine wp_seq ?_
 refine region_from ?_
 refine d_k [2,3,6,7] [] 2 En11 fun ac12 En13 => ?_
 refine f_o ?_
 have Hv14 : Ev w [.box bl [.slice al (List.length xs) cl] 32] wo7 [.box bl [.slice al (List.length xs) cl] 32, .box bk5 [.slice none 0 0, .bool false] 115, .vec none 0 1 (bys []) 5] := Ev.nil (sz := 1) (T := 5) Hv9
 refine c_l [1,2,0] (M := [.box bk5 [.slice none 0 0, .bool false] 115, .vec none 0 1 (bys []) 5, .box bl [.slice al (List.length xs) cl] 32]) En13 Hv14 (fun hM17 => pversions_1 _ bk5 bl al cl xs (il.go Hv14 [1, 2, 0] (by kernel_rfl) (fun _ h => h)) hq0 hM17) ?_
 rintro _ wo18 ⟨wa15, wc16, rfl, he19⟩
 refine ⟨_, _, [.box bk5 [.slice wa15 (List.length (wput 1 [] (allM u16F (List.map (fun y : RU16 => y) xs)).1)) wc16, .bool (wbad 1 2 16777215 (List.length (allM u16F (List.map (fun y : RU16 => y) xs)).1) (false || (allM u16F (List.map (fun y : RU16 => y) xs)).2))] 115, .vec wa15 wc16 1 (bys (wput 1 [] (allM u16F (List.map (fun y : RU16 => y) xs)).1)) 5], rfl, he19, by kernel_rfl, fun ac21 En22 Hv23 => ?_⟩
 refine f_e ?_
 refine then_normal ?_
 refine wp_seq ?_
 refine region_from ?_
 refine d_k [2,3,9] [] 1 En22 fun ac24 En25 => ?_
 refine f_o ?_
 refine c_l [0,1] (M := [.box bk5 [.slice wa15 (List.length (wput 1 [] (allM u16F (List.map (fun y : RU16 => y) xs)).1)) wc16, .bool (wbad 1 2 16777215 (List.length (allM u16F (List.map (fun y : RU16 => y) xs)).1) (false || (allM u16F (List.map (fun y : RU16 => y) xs)).2))] 115, .vec wa15 wc16 1 (bys (wput 1 [] (allM u16F (List.map (fun y : RU16 => y) xs)).1)) 5]) En25 Hv23 (fun hM28 => wdone_go _ bk5 wa15 wc16 (wput 1 [] (allM u16F (List.map (fun y : RU16 => y) xs)).1) (wbad 1 2 16777215 (List.length (allM u16F (List.map (fun y : RU16 => y) xs)).1) (false || (allM u16F (List.map (fun y : RU16 => y) xs)).2)) hM28) ?_
 rintro _ wo29 ⟨da26, dc27, rfl, he30⟩
 refine ⟨_, _, [.vec da26 dc27 1 (bys (doneL (wbad 1 2 16777215 (List.length (allM u16F (List.map (fun y : RU16 => y) xs)).1) (false || (allM u16F (List.map (fun y : RU16 => y) xs)).2)) (wput 1 [] (allM u16F (List.map (fun y : RU16 => y) xs)).1))) 5], rfl, he30, by kernel_rfl, fun ac32 En33 Hv34 => ?_⟩
 refine d_e [2,3] [] En33 fun ac35 En36 => ?_
 refine then_normal ?_
 refine wp_ret ?_
 refine d_ret1 (t := 2) (v := .slice da26 (List.length (doneL (wbad 1 2 16777215 (List.length (allM u16F (List.map (fun y : RU16 => y) xs)).1) (false || (allM u16F (List.map (fun y : RU16 => y) xs)).2)) (wput 1 [] (allM u16F (List.map (fun y : RU16 => y) xs)).1))) dc27) En36 (by kernel_rfl) (by kernel_rfl) ?_
 exact ⟨da26, dc27, rfl, Hv34.pk [0]⟩

theorem pversions_go (w : World) (al : Option Addr) (cl : Nat) (xs : List RU16) (il : InS fU16 2 (fun y : RU16 => True) w [] al cl xs) (hq0 : allB u16F (List.map (fun y : RU16 => y) xs)) : Calls Try.prog 21 #[.slice al (List.length xs) cl] w fun e w' => ∃ a' c', e = .returned (.slice a' (List.length (putP u16F 1 2 (List.map (fun y : RU16 => y) xs))) c') ∧ Ev w [] w' [.vec a' c' 1 (bys (putP u16F 1 2 (List.map (fun y : RU16 => y) xs))) 5] := by
 refine d_0 [(0, .slice al (List.length xs) cl)] 5 Go.Proofs.Try.func21 Go.Proofs.Try.ntmps21 (Heap.nil _) fun act0 En0 Hv0 => ?_
 refine wp_seq ?_
 refine region_from ?_
 refine f_o ?_
 refine m_m 32 [.slice al (List.length xs) cl] En0 Hv0 fun ac2 wo3 bk1 En4 Hv5 => ?_
 refine d_e [1,2] [] En4 fun ac6 En7 => ?_
 refine then_normal ?_
 refine wp_seq ?_
 refine region_from ?_
 refine d_k [2,3] [] 1 En7 fun ac8 En9 => ?_
 refine f_o ?_
 refine c_l [0] (M := [.box bk1 [.slice al (List.length xs) cl] 32]) En9 Hv5 (fun hM12 => put_pversions _ bk1 al cl xs (il.go Hv5 [0] (by kernel_rfl) (fun _ h => h)) hq0 hM12) ?_
 rintro _ wo13 ⟨pa10, pc11, rfl, he14⟩
 refine ⟨_, _, [.vec pa10 pc11 1 (bys (putP u16F 1 2 (List.map (fun y : RU16 => y) xs))) 5], rfl, he14, by kernel_rfl, fun ac16 En17 Hv18 => ?_⟩
 refine d_e [2] [] En17 fun ac19 En20 => ?_
 refine then_normal ?_
 refine wp_ret ?_
 refine d_ret1 (t := 2) (v := .slice pa10 (List.length (putP u16F 1 2 (List.map (fun y : RU16 => y) xs))) pc11) En20 (by kernel_rfl) (by kernel_rfl) ?_
 exact ⟨pa10, pc11, rfl, Hv18.pk [0]⟩

theorem palpn_1 (w : World) (bw : Nat) (bl : Nat) (al : Option Addr) (cl : Nat) (xs : List RStr) (il : InS fStr 16 (fun y : RStr => List.length y ≤ 140737488351232) w [.box bw [.slice none 0 0, .bool false] 115, .vec none 0 1 (bys []) 5, .box bl [.slice al (List.length xs) cl] 33] al cl xs) (hq0 : allB alF (List.map (fun y : RStr => y) xs)) (hH : Heap w [.box bw [.slice none 0 0, .bool false] 115, .vec none 0 1 (bys []) 5, .box bl [.slice al (List.length xs) cl] 33]) : Calls Try.prog 116 #[pt bw, pt bl] w fun e w' => ∃ a' c', e = .returned (.tuple #[]) ∧ Ev w [.box bw [.slice none 0 0, .bool false] 115, .vec none 0 1 (bys []) 5, .box bl [.slice al (List.length xs) cl] 33] w' [.box bw [.slice a' (List.length (wput 2 [] (allM alF (List.map (fun y : RStr => y) xs)).1)) c', .bool (wbad 2 1 16777215 (List.length (allM alF (List.map (fun y : RStr => y) xs)).1) (false || (allM alF (List.map (fun y : RStr => y) xs)).2))] 115, .vec a' c' 1 (bys (wput 2 [] (allM alF (List.map (fun y : RStr => y) xs)).1)) 5] := by
 refine d_0 [(0, pt bw), (1, pt bl)] 6 Go.Proofs.Try.func116 Go.Proofs.Try.ntmps116 (hH) fun act0 En0 Hv0 => ?_
 refine region_from ?_
 refine d_k [1,3] [] 1 En0 fun ac1 En2 => ?_
 refine f_o ?_
 refine m_l 2 En2 Hv0 fun ac3 En4 => ?_
 refine f_o ?_
 refine c_l [0,1] (M := [.box bw [.slice none 0 0, .bool false] 115, .vec none 0 1 (bys []) 5]) En4 Hv0 (fun hM7 => all_alpn _ bw none 0 [] false 2 (by omega) 1 (by omega) al cl xs (il.go Hv0 [0, 1] (by kernel_rfl) (fun _ h => h)) (fun i _ => by first | exact Nat.le_trans (hq0 i) (by decide)) (by have hhq0 := allB_all hq0; simp only [List.length_nil, wput_len]; omega) hM7) ?_
 rintro _ wo8 ⟨wa5, wc6, rfl, he9⟩
 refine ⟨_, _, [.box bw [.slice wa5 (List.length (wput 2 [] (allM alF (List.map (fun y : RStr => y) xs)).1)) wc6, .bool (wbad 2 1 16777215 (List.length (allM alF (List.map (fun y : RStr => y) xs)).1) (false || (allM alF (List.map (fun y : RStr => y) xs)).2))] 115, .vec wa5 wc6 1 (bys (wput 2 [] (allM alF (List.map (fun y : RStr => y) xs)).1)) 5, .box bl [.slice al (List.length xs) cl] 33], rfl, he9, by kernel_rfl, fun ac11 En12 Hv13 => ?_⟩
 refine f_e ?_
 refine d_end0 En12 (by kernel_rfl) ?_
 exact ⟨wa5, wc6, rfl, Hv13.pk [0, 1]⟩

theorem put_palpn (w : World) (bl : Nat) (al : Option Addr) (cl : Nat) (xs : List RStr) (il : InS fStr 16 (fun y : RStr => List.length y ≤ 140737488351232) w [.box bl [.slice al (List.length xs) cl] 33] al cl xs) (hq0 : allB alF (List.map (fun y : RStr => y) xs)) (hH : Heap w [.box bl [.slice al (List.length xs) cl] 33]) : Calls Try.prog 99 #[.func (.func 116) #[] #[pt bl]] w fun e w' => ∃ a' c', e = .returned (.slice a' (List.length (doneL (wbad 2 1 16777215 (List.length (allM alF (List.map (fun y : RStr => y) xs)).1) (false || (allM alF (List.map (fun y : RStr => y) xs)).2)) (wput 2 [] (allM alF (List.map (fun y : RStr => y) xs)).1))) c') ∧ Ev w [.box bl [.slice al (List.length xs) cl] 33] w' [.vec a' c' 1 (bys (doneL (wbad 2 1 16777215 (List.length (allM alF (List.map (fun y : RStr => y) xs)).1) (false || (allM alF (List.map (fun y : RStr => y) xs)).2)) (wput 2 [] (allM alF (List.map (fun y : RStr => y) xs)).1))) 5] := by
 refine d_0 [(0, .func (.func 116) #[] #[pt bl])] 11 Go.Proofs.Try.func99 Go.Proofs.Try.ntmps99 (hH) fun act0 En0 Hv0 => ?_
 refine d_s [0,2] [] En0 fun ac1 En2 => ?_
 refine wp_seq ?_
 refine region_from ?_
 refine d_k [0,2,4] [] 1 En2 fun ac3 En4 => ?_
 refine f_o ?_
 refine m_m 115 [.slice none 0 0, .bool false] En4 Hv0 fun ac6 wo7 bk5 En8 Hv9 => ?_
 refine d_e [0,2,3] [] En8 fun ac10 En11 => ?_
 refine then_normal ?_
 refine wp_seq ?_
 refine region_from ?_
 refine d_k [2,3,6,7] [] 2 En11 fun ac12 En13 => ?_
 refine f_o ?_
 have Hv14 : Ev w [.box bl [.slice al (List.length xs) cl] 33] wo7 [.box bl [.slice al (List.length xs) cl] 33, .box bk5 [.slice none 0 0, .bool false] 115, .vec none 0 1 (bys []) 5] := Ev.nil (sz := 1) (T := 5) Hv9
 refine c_l [1,2,0] (M := [.box bk5 [.slice none 0 0, .bool false] 115, .vec none 0 1 (bys []) 5, .box bl [.slice al (List.length xs) cl] 33]) En13 Hv14 (fun hM17 => palpn_1 _ bk5 bl al cl xs (il.go Hv14 [1, 2, 0] (by kernel_rfl) (fun _ h => h)) hq0 hM17) ?_
 rintro _ wo18 ⟨wa15, wc16, rfl, he19⟩
 refine ⟨_, _, [.box bk5 [.slice wa15 (List.length (wput 2 [] (allM alF (List.map (fun y : RStr => y) xs)).1)) wc16, .bool (wbad 2 1 16777215 (List.length (allM alF (List.map (fun y : RStr => y) xs)).1) (false || (allM alF (List.map (fun y : RStr => y) xs)).2))] 115, .vec wa15 wc16 1 (bys (wput 2 [] (allM alF (List.map (fun y : RStr => y) xs)).1)) 5], rfl, he19, by kernel_rfl, fun ac21 En22 Hv23 => ?_⟩
 refine f_e ?_
 refine then_normal ?_
 refine wp_seq ?_
 refine region_from ?_
 refine d_k [2,3,9] [] 1 En22 fun ac24 En25 => ?_
 refine f_o ?_
 refine c_l [0,1] (M := [.box bk5 [.slice wa15 (List.length (wput 2 [] (allM alF (List.map (fun y : RStr => y) xs)).1)) wc16, .bool (wbad 2 1 16777215 (List.length (allM alF (List.map (fun y : RStr => y) xs)).1) (false || (allM alF (List.map (fun y : RStr => y) xs)).2))] 115, .vec wa15 wc16 1 (bys (wput 2 [] (allM alF (List.map (fun y : RStr => y) xs)).1)) 5]) En25 Hv23 (fun hM28 => wdone_go _ bk5 wa15 wc16 (wput 2 [] (allM alF (List.map (fun y : RStr => y) xs)).1) (wbad 2 1 16777215 (List.length (allM alF (List.map (fun y : RStr => y) xs)).1) (false || (allM alF (List.map (fun y : RStr => y) xs)).2)) hM28) ?_
 rintro _ wo29 ⟨da26, dc27, rfl, he30⟩
 refine ⟨_, _, [.vec da26 dc27 1 (bys (doneL (wbad 2 1 16777215 (List.length (allM alF (List.map (fun y : RStr => y) xs)).1) (false || (allM alF (List.map (fun y : RStr => y) xs)).2)) (wput 2 [] (allM alF (List.map (fun y : RStr => y) xs)).1))) 5], rfl, he30, by kernel_rfl, fun ac32 En33 Hv34 => ?_⟩
 refine d_e [2,3] [] En33 fun ac35 En36 => ?_
 refine then_normal ?_
 refine wp_ret ?_
 refine d_ret1 (t := 2) (v := .slice da26 (List.length (doneL (wbad 2 1 16777215 (List.length (allM alF (List.map (fun y : RStr => y) xs)).1) (false || (allM alF (List.map (fun y : RStr => y) xs)).2)) (wput 2 [] (allM alF (List.map (fun y : RStr => y) xs)).1))) dc27) En36 (by kernel_rfl) (by kernel_rfl) ?_
 exact ⟨da26, dc27, rfl, Hv34.pk [0]⟩

theorem palpn_go (w : World) (al : Option Addr) (cl : Nat) (xs : List RStr) (il : InS fStr 16 (fun y : RStr => List.length y ≤ 140737488351232) w [] al cl xs) (hq0 : allB alF (List.map (fun y : RStr => y) xs)) : Calls Try.prog 23 #[.slice al (List.length xs) cl] w fun e w' => ∃ a' c', e = .returned (.slice a' (List.length (putP alF 2 1 (List.map (fun y : RStr => y) xs))) c') ∧ Ev w [] w' [.vec a' c' 1 (bys (putP alF 2 1 (List.map (fun y : RStr => y) xs))) 5] := by
 refine d_0 [(0, .slice al (List.length xs) cl)] 5 Go.Proofs.Try.func23 Go.Proofs.Try.ntmps23 (Heap.nil _) fun act0 En0 Hv0 => ?_
 refine wp_seq ?_
 refine region_from ?_
 refine f_o ?_
 refine m_m 33 [.slice al (List.length xs) cl] En0 Hv0 fun ac2 wo3 bk1 En4 Hv5 => ?_
 refine d_e [1,2] [] En4 fun ac6 En7 => ?_
 refine then_normal ?_
 refine wp_seq ?_
 refine region_from ?_
 refine d_k [2,3] [] 1 En7 fun ac8 En9 => ?_
 refine f_o ?_
 refine c_l [0] (M := [.box bk1 [.slice al (List.length xs) cl] 33]) En9 Hv5 (fun hM12 => put_palpn _ bk1 al cl xs (il.go Hv5 [0] (by kernel_rfl) (fun _ h => h)) hq0 hM12) ?_
 rintro _ wo13 ⟨pa10, pc11, rfl, he14⟩
 refine ⟨_, _, [.vec pa10 pc11 1 (bys (putP alF 2 1 (List.map (fun y : RStr => y) xs))) 5], rfl, he14, by kernel_rfl, fun ac16 En17 Hv18 => ?_⟩
 refine d_e [2] [] En17 fun ac19 En20 => ?_
 refine then_normal ?_
 refine wp_ret ?_
 refine d_ret1 (t := 2) (v := .slice pa10 (List.length (putP alF 2 1 (List.map (fun y : RStr => y) xs))) pc11) En20 (by kernel_rfl) (by kernel_rfl) ?_
 exact ⟨pa10, pc11, rfl, Hv18.pk [0]⟩

theorem pshares_1 (w : World) (bw : Nat) (bl : Nat) (al : Option Addr) (cl : Nat) (xs : List RSha) (il : InS fSha 32 (fun y : RSha => (True ∧ (InB w [.box bw [.slice none 0 0, .bool false] 115, .vec none 0 1 (bys []) 5, .box bl [.slice al (List.length xs) cl] 34] y.2.1.a y.2.1.c y.2.1.l ∧ (True)))) w [.box bw [.slice none 0 0, .bool false] 115, .vec none 0 1 (bys []) 5, .box bl [.slice al (List.length xs) cl] 34] al cl xs) (hq0 : allB shF (List.map (fun y : RSha => (y.1, y.2.1.l)) xs)) (hH : Heap w [.box bw [.slice none 0 0, .bool false] 115, .vec none 0 1 (bys []) 5, .box bl [.slice al (List.length xs) cl] 34]) : Calls Try.prog 119 #[pt bw, pt bl] w fun e w' => ∃ a' c', e = .returned (.tuple #[]) ∧ Ev w [.box bw [.slice none 0 0, .bool false] 115, .vec none 0 1 (bys []) 5, .box bl [.slice al (List.length xs) cl] 34] w' [.box bw [.slice a' (List.length (wput 2 [] (allM shF (List.map (fun y : RSha => (y.1, y.2.1.l)) xs)).1)) c', .bool (wbad 2 0 16777215 (List.length (allM shF (List.map (fun y : RSha => (y.1, y.2.1.l)) xs)).1) (false || (allM shF (List.map (fun y : RSha => (y.1, y.2.1.l)) xs)).2))] 115, .vec a' c' 1 (bys (wput 2 [] (allM shF (List.map (fun y : RSha => (y.1, y.2.1.l)) xs)).1)) 5] := by
 refine d_0 [(0, pt bw), (1, pt bl)] 6 Go.Proofs.Try.func119 Go.Proofs.Try.ntmps119 (hH) fun act0 En0 Hv0 => ?_
 refine region_from ?_
 refine d_k [1,3] [] 1 En0 fun ac1 En2 => ?_
 refine f_o ?_
 refine m_l 2 En2 Hv0 fun ac3 En4 => ?_
 refine f_o ?_
 refine c_l [0,1] (M := [.box bw [.slice none 0 0, .bool false] 115, .vec none 0 1 (bys []) 5]) En4 Hv0 (fun hM7 => all_sha _ bw none 0 [] false 2 (by omega) 0 (by omega) al cl xs (il.go Hv0 [0, 1] (by kernel_rfl) (fun _ h => ⟨h.1, (InB.ev h.2.1 Hv0).pick [0, 1] (by kernel_rfl), h.2.2⟩)) (fun i _ => by first | exact Nat.le_trans (hq0 i) (by decide)) (by have hhq0 := allB_all hq0; simp only [List.length_nil, wput_len]; omega) hM7) ?_
 rintro _ wo8 ⟨wa5, wc6, rfl, he9⟩
 refine ⟨_, _, [.box bw [.slice wa5 (List.length (wput 2 [] (allM shF (List.map (fun y : RSha => (y.1, y.2.1.l)) xs)).1)) wc6, .bool (wbad 2 0 16777215 (List.length (allM shF (List.map (fun y : RSha => (y.1, y.2.1.l)) xs)).1) (false || (allM shF (List.map (fun y : RSha => (y.1, y.2.1.l)) xs)).2))] 115, .vec wa5 wc6 1 (bys (wput 2 [] (allM shF (List.map (fun y : RSha => (y.1, y.2.1.l)) xs)).1)) 5, .box bl [.slice al (List.length xs) cl] 34], rfl, he9, by kernel_rfl, fun ac11 En12 Hv13 => ?_⟩
 refine f_e ?_
 refine d_end0 En12 (by kernel_rfl) ?_
 exact ⟨wa5, wc6, rfl, Hv13.pk [0, 1]⟩

theorem put_pshares (w : World) (bl : Nat) (al : Option Addr) (cl : Nat) (xs : List RSha) (il : InS fSha 32 (fun y : RSha => (True ∧ (InB w [.box bl [.slice al (List.length xs) cl] 34] y.2.1.a y.2.1.c y.2.1.l ∧ (True)))) w [.box bl [.slice al (List.length xs) cl] 34] al cl xs) (hq0 : allB shF (List.map (fun y : RSha => (y.1, y.2.1.l)) xs)) (hH : Heap w [.box bl [.slice al (List.length xs) cl] 34]) : Calls Try.prog 99 #[.func (.func 119) #[] #[pt bl]] w fun e w' => ∃ a' c', e = .returned (.slice a' (List.length (doneL (wbad 2 0 16777215 (List.length (allM shF (List.map (fun y : RSha => (y.1, y.2.1.l)) xs)).1) (false || (allM shF (List.map (fun y : RSha => (y.1, y.2.1.l)) xs)).2)) (wput 2 [] (allM shF (List.map (fun y : RSha => (y.1, y.2.1.l)) xs)).1))) c') ∧ Ev w [.box bl [.slice al (List.length xs) cl] 34] w' [.vec a' c' 1 (bys (doneL (wbad 2 0 16777215 (List.length (allM shF (List.map (fun y : RSha => (y.1, y.2.1.l)) xs)).1) (false || (allM shF (List.map (fun y : RSha => (y.1, y.2.1.l)) xs)).2)) (wput 2 [] (allM shF (List.map (fun y : RSha => (y.1, y.2.1.l)) xs)).1))) 5] := by
 refine d_0 [(0, .func (.func 119) #[] #[pt bl])] 11 Go.Proofs.Try.func99 Go.Proofs.Try.ntmps99 (hH) fun act0 En0 Hv0 => ?_
 refine d_s [0,2] [] En0 fun ac1 En2 => ?_
 refine wp_seq ?_
 refine region_from ?_
 refine d_k [0,2,4] [] 1 En2 fun ac3 En4 => ?_
 refine f_o ?_
 refine m_m 115 [.slice none 0 0, .bool false] En4 Hv0 fun ac6 wo7 bk5 En8 Hv9 => ?_
 refine d_e [0,2,3] [] En8 fun ac10 En11 => ?_
 refine then_normal ?_
 refine wp_seq ?_
 refine region_from ?_
 refine d_k [2,3,6,7] [] 2 En11 fun ac12 En13 => ?_
 refine f_o ?_
 have Hv14 : Ev w [.box bl [.slice al (List.length xs) cl] 34] wo7 [.box bl [.slice al (List.length xs) cl] 34, .box bk5 [.slice none 0 0, .bool false] 115, .vec none 0 1 (bys []) 5] := Ev.nil (sz := 1) (T := 5) Hv9
 refine c_l [1,2,0] (M := [.box bk5 [.slice none 0 0, .bool false] 115, .vec none 0 1 (bys []) 5, .box bl [.slice al (List.length xs) cl] 34]) En13 Hv14 (fun hM17 => pshares_1 _ bk5 bl al cl xs (il.go Hv14 [1, 2, 0] (by kernel_rfl) (fun _ h => ⟨h.1, (InB.ev h.2.1 Hv14).pick [1, 2, 0] (by kernel_rfl), h.2.2⟩)) hq0 hM17) ?_
 rintro _ wo18 ⟨wa15, wc16, rfl, he19⟩
 refine ⟨_, _, [.box bk5 [.slice wa15 (List.length (wput 2 [] (allM shF (List.map (fun y : RSha => (y.1, y.2.1.l)) xs)).1)) wc16, .bool (wbad 2 0 16777215 (List.length (allM shF (List.map (fun y : RSha => (y.1, y.2.1.l)) xs)).1) (false || (allM shF (List.map (fun y : RSha => (y.1, y.2.1.l)) xs)).2))] 115, .vec wa15 wc16 1 (bys (wput 2 [] (allM shF (List.map (fun y : RSha => (y.1, y.2.1.l)) xs)).1)) 5], rfl, he19, by kernel_rfl, fun ac21 En22 Hv23 => ?_⟩
 refine f_e ?_
 refine then_normal ?_
 refine wp_seq ?_
 refine region_from ?_
 refine d_k [2,3,9] [] 1 En22 fun ac24 En25 => ?_
 refine f_o ?_
 refine c_l [0,1] (M := [.box bk5 [.slice wa15 (List.length (wput 2 [] (allM shF (List.map (fun y : RSha => (y.1, y.2.1.l)) xs)).1)) wc16, .bool (wbad 2 0 16777215 (List.length (allM shF (List.map (fun y : RSha => (y.1, y.2.1.l)) xs)).1) (false || (allM shF (List.map (fun y : RSha => (y.1, y.2.1.l)) xs)).2))] 115, .vec wa15 wc16 1 (bys (wput 2 [] (allM shF (List.map (fun y : RSha => (y.1, y.2.1.l)) xs)).1)) 5]) En25 Hv23 (fun hM28 => wdone_go _ bk5 wa15 wc16 (wput 2 [] (allM shF (List.map (fun y : RSha => (y.1, y.2.1.l)) xs)).1) (wbad 2 0 16777215 (List.length (allM shF (List.map (fun y : RSha => (y.1, y.2.1.l)) xs)).1) (false || (allM shF (List.map (fun y : RSha => (y.1, y.2.1.l)) xs)).2)) hM28) ?_
 rintro _ wo29 ⟨da26, dc27, rfl, he30⟩
 refine ⟨_, _, [.vec da26 dc27 1 (bys (doneL (wbad 2 0 16777215 (List.length (allM shF (List.map (fun y : RSha => (y.1, y.2.1.l)) xs)).1) (false || (allM shF (List.map (fun y : RSha => (y.1, y.2.1.l)) xs)).2)) (wput 2 [] (allM shF (List.map (fun y : RSha => (y.1, y.2.1.l)) xs)).1))) 5], rfl, he30, by kernel_rfl, fun ac32 En33 Hv34 => ?_⟩
 refine d_e [2,3] [] En33 fun ac35 En36 => ?_
 refine then_normal ?_
 refine wp_ret ?_
 refine d_ret1 (t := 2) (v := .slice da26 (List.length (doneL (wbad 2 0 16777215 (List.length (allM shF (List.map (fun y : RSha => (y.1, y.2.1.l)) xs)).1) (false || (allM shF (List.map (fun y : RSha => (y.1, y.2.1.l)) xs)).2)) (wput 2 [] (allM shF (List.map (fun y : RSha => (y.1, y.2.1.l)) xs)).1))) dc27) En36 (by kernel_rfl) (by kernel_rfl) ?_
 exact ⟨da26, dc27, rfl, Hv34.pk [0]⟩

theorem pshares_go (w : World) (al : Option Addr) (cl : Nat) (xs : List RSha) (il : InS fSha 32 (fun y : RSha => (True ∧ (InB w [] y.2.1.a y.2.1.c y.2.1.l ∧ (True)))) w [] al cl xs) (hq0 : allB shF (List.map (fun y : RSha => (y.1, y.2.1.l)) xs)) : Calls Try.prog 27 #[.slice al (List.length xs) cl] w fun e w' => ∃ a' c', e = .returned (.slice a' (List.length (putP shF 2 0 (List.map (fun y : RSha => (y.1, y.2.1.l)) xs))) c') ∧ Ev w [] w' [.vec a' c' 1 (bys (putP shF 2 0 (List.map (fun y : RSha => (y.1, y.2.1.l)) xs))) 5] := by
 refine d_0 [(0, .slice al (List.length xs) cl)] 5 Go.Proofs.Try.func27 Go.Proofs.Try.ntmps27 (Heap.nil _) fun act0 En0 Hv0 => ?_
 refine wp_seq ?_
 refine region_from ?_
 refine f_o ?_
 refine m_m 34 [.slice al (List.length xs) cl] En0 Hv0 fun ac2 wo3 bk1 En4 Hv5 => ?_
 refine d_e [1,2] [] En4 fun ac6 En7 => ?_
 refine then_normal ?_
 refine wp_seq ?_
 refine region_from ?_
 refine d_k [2,3] [] 1 En7 fun ac8 En9 => ?_
 refine f_o ?_
 refine c_l [0] (M := [.box bk1 [.slice al (List.length xs) cl] 34]) En9 Hv5 (fun hM12 => put_pshares _ bk1 al cl xs (il.go Hv5 [0] (by kernel_rfl) (fun _ h => ⟨h.1, (InB.ev h.2.1 Hv5).pick [0] (by kernel_rfl), h.2.2⟩)) hq0 hM12) ?_
 rintro _ wo13 ⟨pa10, pc11, rfl, he14⟩
 refine ⟨_, _, [.vec pa10 pc11 1 (bys (putP shF 2 0 (List.map (fun y : RSha => (y.1, y.2.1.l)) xs))) 5], rfl, he14, by kernel_rfl, fun ac16 En17 Hv18 => ?_⟩
 refine d_e [2] [] En17 fun ac19 En20 => ?_
 refine then_normal ?_
 refine wp_ret ?_
 refine d_ret1 (t := 2) (v := .slice pa10 (List.length (putP shF 2 0 (List.map (fun y : RSha => (y.1, y.2.1.l)) xs))) pc11) En20 (by kernel_rfl) (by kernel_rfl) ?_
 exact ⟨pa10, pc11, rfl, Hv18.pk [0]⟩

theorem ppsks_1 (w : World) (bw : Nat) (bl : Nat) (al : Option Addr) (cl : Nat) (xs : List RPsk) (il : InS fPsk 56 (fun y : RPsk => (InB w [.box bw [.slice none 0 0, .bool false] 115, .vec none 0 1 (bys []) 5, .box bl [.slice al (List.length xs) cl] 35] y.1.a y.1.c y.1.l ∧ (True ∧ (InB w [.box bw [.slice none 0 0, .bool false] 115, .vec none 0 1 (bys []) 5, .box bl [.slice al (List.length xs) cl] 35] y.2.2.1.a y.2.2.1.c y.2.2.1.l ∧ (True))))) w [.box bw [.slice none 0 0, .bool false] 115, .vec none 0 1 (bys []) 5, .box bl [.slice al (List.length xs) cl] 35] al cl xs) (hq0 : allB k1F (List.map puPsk xs)) (hq1 : allB k2F (List.map puPsk xs)) (hH : Heap w [.box bw [.slice none 0 0, .bool false] 115, .vec none 0 1 (bys []) 5, .box bl [.slice al (List.length xs) cl] 35]) : Calls Try.prog 123 #[pt bw, pt bl] w fun e w' => ∃ a' c', e = .returned (.tuple #[]) ∧ Ev w [.box bw [.slice none 0 0, .bool false] 115, .vec none 0 1 (bys []) 5, .box bl [.slice al (List.length xs) cl] 35] w' [.box bw [.slice a' (List.length (wput 2 (wput 2 [] (allM k1F (List.map puPsk xs)).1) (allM k2F (List.map puPsk xs)).1)) c', .bool (wbad 2 1 16777215 (List.length (allM k2F (List.map puPsk xs)).1) (wbad 2 1 16777215 (List.length (allM k1F (List.map puPsk xs)).1) (false || (allM k1F (List.map puPsk xs)).2) || (allM k2F (List.map puPsk xs)).2))] 115, .vec a' c' 1 (bys (wput 2 (wput 2 [] (allM k1F (List.map puPsk xs)).1) (allM k2F (List.map puPsk xs)).1)) 5] := by
 refine d_0 [(0, pt bw), (1, pt bl)] 9 Go.Proofs.Try.func123 Go.Proofs.Try.ntmps123 (hH) fun act0 En0 Hv0 => ?_
 refine wp_seq ?_
 refine region_from ?_
 refine d_k [0,1,3] [] 1 En0 fun ac1 En2 => ?_
 refine f_o ?_
 refine m_l 2 En2 Hv0 fun ac3 En4 => ?_
 refine f_o ?_
 refine c_l [0,1] (M := [.box bw [.slice none 0 0, .bool false] 115, .vec none 0 1 (bys []) 5]) En4 Hv0 (fun hM7 => all_psk1 _ bw none 0 [] false 2 (by omega) 1 (by omega) al cl xs (il.go Hv0 [0, 1] (by kernel_rfl) (fun _ h => ⟨(InB.ev h.1 Hv0).pick [0, 1] (by kernel_rfl), h.2.1, (InB.ev h.2.2.1 Hv0).pick [0, 1] (by kernel_rfl), h.2.2.2⟩)) (fun i _ => by first | exact Nat.le_trans (hq0 i) (by decide) | exact Nat.le_trans (hq1 i) (by decide)) (by have hhq0 := allB_all hq0; have hhq1 := allB_all hq1; simp only [List.length_nil, wput_len]; omega) hM7) ?_
 rintro _ wo8 ⟨wa5, wc6, rfl, he9⟩
 refine ⟨_, _, [.box bw [.slice wa5 (List.length (wput 2 [] (allM k1F (List.map puPsk xs)).1)) wc6, .bool (wbad 2 1 16777215 (List.length (allM k1F (List.map puPsk xs)).1) (false || (allM k1F (List.map puPsk xs)).2))] 115, .vec wa5 wc6 1 (bys (wput 2 [] (allM k1F (List.map puPsk xs)).1)) 5, .box bl [.slice al (List.length xs) cl] 35], rfl, he9, by kernel_rfl, fun ac11 En12 Hv13 => ?_⟩
 refine f_e ?_
 refine then_normal ?_
 refine region_from ?_
 refine d_k [0,1,6] [] 1 En12 fun ac14 En15 => ?_
 refine f_o ?_
 refine m_l 2 En15 Hv13 fun ac16 En17 => ?_
 refine f_o ?_
 refine c_l [0,1] (M := [.box bw [.slice wa5 (List.length (wput 2 [] (allM k1F (List.map puPsk xs)).1)) wc6, .bool (wbad 2 1 16777215 (List.length (allM k1F (List.map puPsk xs)).1) (false || (allM k1F (List.map puPsk xs)).2))] 115, .vec wa5 wc6 1 (bys (wput 2 [] (allM k1F (List.map puPsk xs)).1)) 5]) En17 Hv13 (fun hM20 => all_psk2 _ bw wa5 wc6 (wput 2 [] (allM k1F (List.map puPsk xs)).1) (wbad 2 1 16777215 (List.length (allM k1F (List.map puPsk xs)).1) (false || (allM k1F (List.map puPsk xs)).2)) 2 (by omega) 1 (by omega) al cl xs (il.go Hv13 [0, 1] (by kernel_rfl) (fun _ h => ⟨(InB.ev h.1 Hv13).pick [0, 1] (by kernel_rfl), h.2.1, (InB.ev h.2.2.1 Hv13).pick [0, 1] (by kernel_rfl), h.2.2.2⟩)) (fun i _ => by first | exact Nat.le_trans (hq0 i) (by decide) | exact Nat.le_trans (hq1 i) (by decide)) (by have hhq0 := allB_all hq0; have hhq1 := allB_all hq1; simp only [List.length_nil, wput_len]; omega) hM20) ?_
 rintro _ wo21 ⟨wa18, wc19, rfl, he22⟩
 refine ⟨_, _, [.box bw [.slice wa18 (List.length (wput 2 (wput 2 [] (allM k1F (List.map puPsk xs)).1) (allM k2F (List.map puPsk xs)).1)) wc19, .bool (wbad 2 1 16777215 (List.length (allM k2F (List.map puPsk xs)).1) ((wbad 2 1 16777215 (List.length (allM k1F (List.map puPsk xs)).1) (false || (allM k1F (List.map puPsk xs)).2)) || (allM k2F (List.map puPsk xs)).2))] 115, .vec wa18 wc19 1 (bys (wput 2 (wput 2 [] (allM k1F (List.map puPsk xs)).1) (allM k2F (List.map puPsk xs)).1)) 5, .box bl [.slice al (List.length xs) cl] 35], rfl, he22, by kernel_rfl, fun ac24 En25 Hv26 => ?_⟩
 refine f_e ?_
 refine d_end0 En25 (by kernel_rfl) ?_
 exact ⟨wa18, wc19, rfl, Hv26.pk [0, 1]⟩

theorem put_ppsks (w : World) (bl : Nat) (al : Option Addr) (cl : Nat) (xs : List RPsk) (il : InS fPsk 56 (fun y : RPsk => (InB w [.box bl [.slice al (List.length xs) cl] 35] y.1.a y.1.c y.1.l ∧ (True ∧ (InB w [.box bl [.slice al (List.length xs) cl] 35] y.2.2.1.a y.2.2.1.c y.2.2.1.l ∧ (True))))) w [.box bl [.slice al (List.length xs) cl] 35] al cl xs) (hq0 : allB k1F (List.map puPsk xs)) (hq1 : allB k2F (List.map puPsk xs)) (hH : Heap w [.box bl [.slice al (List.length xs) cl] 35]) : Calls Try.prog 99 #[.func (.func 123) #[] #[pt bl]] w fun e w' => ∃ a' c', e = .returned (.slice a' (List.length (doneL (wbad 2 1 16777215 (List.length (allM k2F (List.map puPsk xs)).1) (wbad 2 1 16777215 (List.length (allM k1F (List.map puPsk xs)).1) (false || (allM k1F (List.map puPsk xs)).2) || (allM k2F (List.map puPsk xs)).2)) (wput 2 (wput 2 [] (allM k1F (List.map puPsk xs)).1) (allM k2F (List.map puPsk xs)).1))) c') ∧ Ev w [.box bl [.slice al (List.length xs) cl] 35] w' [.vec a' c' 1 (bys (doneL (wbad 2 1 16777215 (List.length (allM k2F (List.map puPsk xs)).1) (wbad 2 1 16777215 (List.length (allM k1F (List.map puPsk xs)).1) (false || (allM k1F (List.map puPsk xs)).2) || (allM k2F (List.map puPsk xs)).2)) (wput 2 (wput 2 [] (allM k1F (List.map puPsk xs)).1) (allM k2F (List.map puPsk xs)).1))) 5] := by
 refine d_0 [(0, .func (.func 123) #[] #[pt bl])] 11 Go.Proofs.Try.func99 Go.Proofs.Try.ntmps99 (hH) fun act0 En0 Hv0 => ?_
 refine d_s [0,2] [] En0 fun ac1 En2 => ?_
 refine wp_seq ?_
 refine region_from ?_
 refine d_k [0,2,4] [] 1 En2 fun ac3 En4 => ?_
 refine f_o ?_
 refine m_m 115 [.slice none 0 0, .bool false] En4 Hv0 fun ac6 wo7 bk5 En8 Hv9 => ?_
 refine d_e [0,2,3] [] En8 fun ac10 En11 => ?_
 refine then_normal ?_
 refine wp_seq ?_
 refine region_from ?_
 refine d_k [2,3,6,7] [] 2 En11 fun ac12 En13 => ?_
 refine f_o ?_
 have Hv14 : Ev w [.box bl [.slice al (List.length xs) cl] 35] wo7 [.box bl [.slice al (List.length xs) cl] 35, .box bk5 [.slice none 0 0, .bool false] 115, .vec none 0 1 (bys []) 5] := Ev.nil (sz := 1) (T := 5) Hv9
 refine c_l [1,2,0] (M := [.box bk5 [.slice none 0 0, .bool false] 115, .vec none 0 1 (bys []) 5, .box bl [.slice al (List.length xs) cl] 35]) En13 Hv14 (fun hM17 => ppsks_1 _ bk5 bl al cl xs (il.go Hv14 [1, 2, 0] (by kernel_rfl) (fun _ h => ⟨(InB.ev h.1 Hv14).pick [1, 2, 0] (by kernel_rfl), h.2.1, (InB.ev h.2.2.1 Hv14).pick [1, 2, 0] (by kernel_rfl), h.2.2.2⟩)) hq0 hq1 hM17) ?_
 rintro _ wo18 ⟨wa15, wc16, rfl, he19⟩
 refine ⟨_, _, [.box bk5 [.slice wa15 (List.length (wput 2 (wput 2 [] (allM k1F (List.map puPsk xs)).1) (allM k2F (List.map puPsk xs)).1)) wc16, .bool (wbad 2 1 16777215 (List.length (allM k2F (List.map puPsk xs)).1) (wbad 2 1 16777215 (List.length (allM k1F (List.map puPsk xs)).1) (false || (allM k1F (List.map puPsk xs)).2) || (allM k2F (List.map puPsk xs)).2))] 115, .vec wa15 wc16 1 (bys (wput 2 (wput 2 [] (allM k1F (List.map puPsk xs)).1) (allM k2F (List.map puPsk xs)).1)) 5], rfl, he19, by kernel_rfl, fun ac21 En22 Hv23 => ?_⟩
 refine f_e ?_
 refine then_normal ?_
 refine wp_seq ?_
 refine region_from ?_
 refine d_k [2,3,9] [] 1 En22 fun ac24 En25 => ?_
 refine f_o ?_
 refine c_l [0,1] (M := [.box bk5 [.slice wa15 (List.length (wput 2 (wput 2 [] (allM k1F (List.map puPsk xs)).1) (allM k2F (List.map puPsk xs)).1)) wc16, .bool (wbad 2 1 16777215 (List.length (allM k2F (List.map puPsk xs)).1) (wbad 2 1 16777215 (List.length (allM k1F (List.map puPsk xs)).1) (false || (allM k1F (List.map puPsk xs)).2) || (allM k2F (List.map puPsk xs)).2))] 115, .vec wa15 wc16 1 (bys (wput 2 (wput 2 [] (allM k1F (List.map puPsk xs)).1) (allM k2F (List.map puPsk xs)).1)) 5]) En25 Hv23 (fun hM28 => wdone_go _ bk5 wa15 wc16 (wput 2 (wput 2 [] (allM k1F (List.map puPsk xs)).1) (allM k2F (List.map puPsk xs)).1) (wbad 2 1 16777215 (List.length (allM k2F (List.map puPsk xs)).1) (wbad 2 1 16777215 (List.length (allM k1F (List.map puPsk xs)).1) (false || (allM k1F (List.map puPsk xs)).2) || (allM k2F (List.map puPsk xs)).2)) hM28) ?_
 rintro _ wo29 ⟨da26, dc27, rfl, he30⟩
 refine ⟨_, _, [.vec da26 dc27 1 (bys (doneL (wbad 2 1 16777215 (List.length (allM k2F (List.map puPsk xs)).1) (wbad 2 1 16777215 (List.length (allM k1F (List.map puPsk xs)).1) (false || (allM k1F (List.map puPsk xs)).2) || (allM k2F (List.map puPsk xs)).2)) (wput 2 (wput 2 [] (allM k1F (List.map puPsk xs)).1) (allM k2F (List.map puPsk xs)).1))) 5], rfl, he30, by kernel_rfl, fun ac32 En33 Hv34 => ?_⟩
 refine d_e [2,3] [] En33 fun ac35 En36 => ?_
 refine then_normal ?_
 refine wp_ret ?_
 refine d_ret1 (t := 2) (v := .slice da26 (List.length (doneL (wbad 2 1 16777215 (List.length (allM k2F (List.map puPsk xs)).1) (wbad 2 1 16777215 (List.length (allM k1F (List.map puPsk xs)).1) (false || (allM k1F (List.map puPsk xs)).2) || (allM k2F (List.map puPsk xs)).2)) (wput 2 (wput 2 [] (allM k1F (List.map puPsk xs)).1) (allM k2F (List.map puPsk xs)).1))) dc27) En36 (by kernel_rfl) (by kernel_rfl) ?_
 exact ⟨da26, dc27, rfl, Hv34.pk [0]⟩

theorem ppsks_go (w : World) (al : Option Addr) (cl : Nat) (xs : List RPsk) (il : InS fPsk 56 (fun y : RPsk => (InB w [] y.1.a y.1.c y.1.l ∧ (True ∧ (InB w [] y.2.2.1.a y.2.2.1.c y.2.2.1.l ∧ (True))))) w [] al cl xs) (hq0 : allB k1F (List.map puPsk xs)) (hq1 : allB k2F (List.map puPsk xs)) : Calls Try.prog 29 #[.slice al (List.length xs) cl] w fun e w' => ∃ a' c', e = .returned (.slice a' (List.length (pskP (List.map puPsk xs))) c') ∧ Ev w [] w' [.vec a' c' 1 (bys (pskP (List.map puPsk xs))) 5] := by
 refine d_0 [(0, .slice al (List.length xs) cl)] 5 Go.Proofs.Try.func29 Go.Proofs.Try.ntmps29 (Heap.nil _) fun act0 En0 Hv0 => ?_
 refine wp_seq ?_
 refine region_from ?_
 refine f_o ?_
 refine m_m 35 [.slice al (List.length xs) cl] En0 Hv0 fun ac2 wo3 bk1 En4 Hv5 => ?_
 refine d_e [1,2] [] En4 fun ac6 En7 => ?_
 refine then_normal ?_
 refine wp_seq ?_
 refine region_from ?_
 refine d_k [2,3] [] 1 En7 fun ac8 En9 => ?_
 refine f_o ?_
 refine c_l [0] (M := [.box bk1 [.slice al (List.length xs) cl] 35]) En9 Hv5 (fun hM12 => put_ppsks _ bk1 al cl xs (il.go Hv5 [0] (by kernel_rfl) (fun _ h => ⟨(InB.ev h.1 Hv5).pick [0] (by kernel_rfl), h.2.1, (InB.ev h.2.2.1 Hv5).pick [0] (by kernel_rfl), h.2.2.2⟩)) hq0 hq1 hM12) ?_
 rintro _ wo13 ⟨pa10, pc11, rfl, he14⟩
 refine ⟨_, _, [.vec pa10 pc11 1 (bys (pskP (List.map puPsk xs))) 5], rfl, he14, by kernel_rfl, fun ac16 En17 Hv18 => ?_⟩
 refine d_e [2] [] En17 fun ac19 En20 => ?_
 refine then_normal ?_
 refine wp_ret ?_
 refine d_ret1 (t := 2) (v := .slice pa10 (List.length (pskP (List.map puPsk xs))) pc11) En20 (by kernel_rfl) (by kernel_rfl) ?_
 exact ⟨pa10, pc11, rfl, Hv18.pk [0]⟩

end Go.Proofs.Ytofecellbfhnjaa
