/- Layer 17: extensions' data are written by the document. -/
import Derived.Test.YtofecellbfhnjaaW26
import Derived.Test.YtofecellbfhnjaaW27
namespace Go.Proofs.Ytofecellbfhnjaa
open Go.Dbr
set_option maxRecDepth 100000
set_option maxHeartbeats 2000000
set_option linter.unusedVariables false
set_option linter.unusedSimpArgs false

theorem dwshare_go (w : World) (bw : Nat) (a : Option Addr) (c : Nat) (l : Bs) (bad : Bool) (g : UInt16) (ab : Option Addr) (cb : Nat) (b : Bs) (ib : InB w [.box bw [.slice a (List.length l) c, .bool bad] 126, .vec a c 1 (bys l) 5] ab cb b) (hb : List.length l + 4 + List.length b ≤ 200000000000000) (hH : Heap w [.box bw [.slice a (List.length l) c, .bool bad] 126, .vec a c 1 (bys l) 5]) : Calls Try.prog 122 #[pt bw, .agg #[uv16 g, .slice ab (List.length b) cb]] w fun e w' => ∃ a' c', e = .returned (.tuple #[]) ∧ Ev w [.box bw [.slice a (List.length l) c, .bool bad] 126, .vec a c 1 (bys l) 5] w' [.box bw [.slice a' (List.length ((dshF (l, bad) (g, b)).1)) c', .bool ((dshF (l, bad) (g, b)).2)] 126, .vec a' c' 1 (bys ((dshF (l, bad) (g, b)).1)) 5] := by
 have hbs := ib.small
 have hl1 : List.length (l ++ beN 2 (UInt16.toNat g)) = List.length l + 2 := by rw [List.length_append, beN_len]
 have hgl := UInt16.toNat_lt g
 refine d_0 [(0, pt bw), (1, .agg #[uv16 g, .slice ab (List.length b) cb])] 13 Go.Proofs.Try.func122 Go.Proofs.Try.ntmps122 (hH) fun act0 En0 Hv0 => ?_
 refine wp_seq ?_
 refine region_from ?_
 refine f_o ?_
 refine m_m 49 [uv16 g, .slice ab (List.length b) cb] En0 Hv0 fun ac2 wo3 bk1 En4 Hv5 => ?_
 refine f_e ?_
 refine then_normal ?_
 refine wp_seq ?_
 refine region_from ?_
 refine d_k [0,3,4,5] [] 2 En4 fun ac6 En7 => ?_
 refine f_o ?_
 refine m_l 2 En7 Hv5 fun ac8 En9 => ?_
 refine d_k [0,3,4,7] [(3, g_i .i64 (Go.Dbr.u16_to_i64 (x := g) rfl))] 4 En9 fun ac10 En11 => ?_
 refine f_o ?_
 refine c_l [0,1] (M := [.box bw [.slice a (List.length l) c, .bool bad] 126, .vec a c 1 (bys l) 5]) En11 Hv5 (fun hM14 => dwnum_go _ bw a c l bad 2 (by omega) (UInt16.toNat g) (by omega) (by first | omega | (simp; omega)) hM14) ?_
 rintro _ wo15 ⟨wa12, wc13, rfl, he16⟩
 refine ⟨_, _, [.box bw [.slice wa12 (List.length (l ++ beN 2 (UInt16.toNat g))) wc13, .bool bad] 126, .vec wa12 wc13 1 (bys (l ++ beN 2 (UInt16.toNat g))) 5, .box bk1 [uv16 g, .slice ab (List.length b) cb] 49], rfl, he16, by kernel_rfl, fun ac18 En19 Hv20 => ?_⟩
 refine f_e ?_
 refine then_normal ?_
 refine region_from ?_
 refine d_k [0,3,9,10] [] 2 En19 fun ac21 En22 => ?_
 refine f_o ?_
 refine m_l 2 En22 Hv20 fun ac23 En24 => ?_
 refine f_o ?_
 refine c_l [0,1] (M := [.box bw [.slice wa12 (List.length (l ++ beN 2 (UInt16.toNat g))) wc13, .bool bad] 126, .vec wa12 wc13 1 (bys (l ++ beN 2 (UInt16.toNat g))) 5]) En24 Hv20 (fun hM27 => dwlist_go _ bw wa12 wc13 (l ++ beN 2 (UInt16.toNat g)) bad 2 (by omega) 1 65535 (by omega) (by omega) ab cb b ((ib.ev Hv20).pick [0, 1] (by kernel_rfl)) (by first | omega | (simp [wput_len, beN_len]; done) | (simp [wput_len, beN_len]; omega)) hM27) ?_
 rintro _ wo28 ⟨wa25, wc26, rfl, he29⟩
 refine ⟨_, _, [.box bw [.slice wa25 (List.length (dput 2 1 65535 (l ++ beN 2 (UInt16.toNat g)) b)) wc26, .bool (bad || dbad 2 1 65535 (List.length b))] 126, .vec wa25 wc26 1 (bys (dput 2 1 65535 (l ++ beN 2 (UInt16.toNat g)) b)) 5, .box bk1 [uv16 g, .slice ab (List.length b) cb] 49], rfl, he29, by kernel_rfl, fun ac31 En32 Hv33 => ?_⟩
 refine f_e ?_
 refine d_end0 En32 (by kernel_rfl) ?_
 exact ⟨wa25, wc26, rfl, Hv33.pk [0, 1]⟩

theorem dpmodes_go (w : World) (ab : Option Addr) (cb : Nat) (b : Bs) (ib : InB w [] ab cb b) : Calls Try.prog 26 #[.slice ab (List.length b) cb] w fun e w' => ∃ a' c', e = .returned (.slice a' (List.length (dbytP 1 255 [] b)) c') ∧ Ev w [] w' [.vec a' c' 1 (bys (dbytP 1 255 [] b)) 5] := by
 have hbs := ib.small
 refine d_0 [(0, .slice ab (List.length b) cb)] 11 Go.Proofs.Try.func26 Go.Proofs.Try.ntmps26 (Heap.nil _) fun act0 En0 Hv0 => ?_
 refine d_s [0,2] [] En0 fun ac1 En2 => ?_
 refine wp_seq ?_
 refine region_from ?_
 refine d_k [0,2,4] [] 1 En2 fun ac3 En4 => ?_
 refine f_o ?_
 refine m_m 126 [.slice none 0 0, .bool false] En4 Hv0 fun ac6 wo7 bk5 En8 Hv9 => ?_
 refine d_e [0,2,3] [] En8 fun ac10 En11 => ?_
 refine then_normal ?_
 refine wp_seq ?_
 refine region_from ?_
 refine d_k [2,3,6,7] [] 2 En11 fun ac12 En13 => ?_
 refine f_o ?_
 have Hv14 : Ev w [] wo7 [.box bk5 [.slice none 0 0, .bool false] 126, .vec none 0 1 (bys []) 5] := Ev.nil (sz := 1) (T := 5) Hv9
 refine c_l [0,1] (M := [.box bk5 [.slice none 0 0, .bool false] 126, .vec none 0 1 (bys []) 5]) En13 Hv14 (fun hM17 => dwlist_go _ bk5 none 0 [] false 1 (by omega) 1 255 (by omega) (by omega) ab cb b ((ib.ev Hv14).pick [0, 1] (by kernel_rfl)) (by first | omega | (simp [wput_len, beN_len]; done) | (simp [wput_len, beN_len]; omega)) hM17) ?_
 rintro _ wo18 ⟨wa15, wc16, rfl, he19⟩
 refine ⟨_, _, [.box bk5 [.slice wa15 (List.length (dput 1 1 255 [] b)) wc16, .bool (false || dbad 1 1 255 (List.length b))] 126, .vec wa15 wc16 1 (bys (dput 1 1 255 [] b)) 5], rfl, he19, by kernel_rfl, fun ac21 En22 Hv23 => ?_⟩
 refine f_e ?_
 refine then_normal ?_
 refine wp_seq ?_
 refine region_from ?_
 refine d_k [2,3,9] [] 1 En22 fun ac24 En25 => ?_
 refine f_o ?_
 refine c_l [0,1] (M := [.box bk5 [.slice wa15 (List.length (dput 1 1 255 [] b)) wc16, .bool (false || dbad 1 1 255 (List.length b))] 126, .vec wa15 wc16 1 (bys (dput 1 1 255 [] b)) 5]) En25 Hv23 (fun hM28 => ddone_go _ bk5 wa15 wc16 (dput 1 1 255 [] b) (false || dbad 1 1 255 (List.length b)) hM28) ?_
 rintro _ wo29 ⟨da26, dc27, rfl, he30⟩
 refine ⟨_, _, [.vec da26 dc27 1 (bys (doneL (false || dbad 1 1 255 (List.length b)) (dput 1 1 255 [] b))) 5], rfl, he30, by kernel_rfl, fun ac32 En33 Hv34 => ?_⟩
 refine d_e [2,3] [] En33 fun ac35 En36 => ?_
 refine then_normal ?_
 refine wp_ret ?_
 refine d_ret1 (t := 2) (v := .slice da26 (List.length (doneL (false || dbad 1 1 255 (List.length b)) (dput 1 1 255 [] b))) dc27) En36 (by kernel_rfl) (by kernel_rfl) ?_
 exact ⟨da26, dc27, rfl, Hv34.pk [0]⟩

theorem dpcookie_go (w : World) (ab : Option Addr) (cb : Nat) (b : Bs) (ib : InB w [] ab cb b) : Calls Try.prog 32 #[.slice ab (List.length b) cb] w fun e w' => ∃ a' c', e = .returned (.slice a' (List.length (dbytP 2 65535 [] b)) c') ∧ Ev w [] w' [.vec a' c' 1 (bys (dbytP 2 65535 [] b)) 5] := by
 have hbs := ib.small
 refine d_0 [(0, .slice ab (List.length b) cb)] 11 Go.Proofs.Try.func32 Go.Proofs.Try.ntmps32 (Heap.nil _) fun act0 En0 Hv0 => ?_
 refine d_s [0,2] [] En0 fun ac1 En2 => ?_
 refine wp_seq ?_
 refine region_from ?_
 refine d_k [0,2,4] [] 1 En2 fun ac3 En4 => ?_
 refine f_o ?_
 refine m_m 126 [.slice none 0 0, .bool false] En4 Hv0 fun ac6 wo7 bk5 En8 Hv9 => ?_
 refine d_e [0,2,3] [] En8 fun ac10 En11 => ?_
 refine then_normal ?_
 refine wp_seq ?_
 refine region_from ?_
 refine d_k [2,3,6,7] [] 2 En11 fun ac12 En13 => ?_
 refine f_o ?_
 have Hv14 : Ev w [] wo7 [.box bk5 [.slice none 0 0, .bool false] 126, .vec none 0 1 (bys []) 5] := Ev.nil (sz := 1) (T := 5) Hv9
 refine c_l [0,1] (M := [.box bk5 [.slice none 0 0, .bool false] 126, .vec none 0 1 (bys []) 5]) En13 Hv14 (fun hM17 => dwlist_go _ bk5 none 0 [] false 2 (by omega) 1 65535 (by omega) (by omega) ab cb b ((ib.ev Hv14).pick [0, 1] (by kernel_rfl)) (by first | omega | (simp [wput_len, beN_len]; done) | (simp [wput_len, beN_len]; omega)) hM17) ?_
 rintro _ wo18 ⟨wa15, wc16, rfl, he19⟩
 refine ⟨_, _, [.box bk5 [.slice wa15 (List.length (dput 2 1 65535 [] b)) wc16, .bool (false || dbad 2 1 65535 (List.length b))] 126, .vec wa15 wc16 1 (bys (dput 2 1 65535 [] b)) 5], rfl, he19, by kernel_rfl, fun ac21 En22 Hv23 => ?_⟩
 refine f_e ?_
 refine then_normal ?_
 refine wp_seq ?_
 refine region_from ?_
 refine d_k [2,3,9] [] 1 En22 fun ac24 En25 => ?_
 refine f_o ?_
 refine c_l [0,1] (M := [.box bk5 [.slice wa15 (List.length (dput 2 1 65535 [] b)) wc16, .bool (false || dbad 2 1 65535 (List.length b))] 126, .vec wa15 wc16 1 (bys (dput 2 1 65535 [] b)) 5]) En25 Hv23 (fun hM28 => ddone_go _ bk5 wa15 wc16 (dput 2 1 65535 [] b) (false || dbad 2 1 65535 (List.length b)) hM28) ?_
 rintro _ wo29 ⟨da26, dc27, rfl, he30⟩
 refine ⟨_, _, [.vec da26 dc27 1 (bys (doneL (false || dbad 2 1 65535 (List.length b)) (dput 2 1 65535 [] b))) 5], rfl, he30, by kernel_rfl, fun ac32 En33 Hv34 => ?_⟩
 refine d_e [2,3] [] En33 fun ac35 En36 => ?_
 refine then_normal ?_
 refine wp_ret ?_
 refine d_ret1 (t := 2) (v := .slice da26 (List.length (doneL (false || dbad 2 1 65535 (List.length b)) (dput 2 1 65535 [] b))) dc27) En36 (by kernel_rfl) (by kernel_rfl) ?_
 exact ⟨da26, dc27, rfl, Hv34.pk [0]⟩

theorem dpstatus_go (w : World) (ab : Option Addr) (cb : Nat) (b : Bs) (ib : InB w [] ab cb b) : Calls Try.prog 34 #[.slice ab (List.length b) cb] w fun e w' => ∃ a' c', e = .returned (.slice a' (List.length (dbytP 3 16777215 [1] b)) c') ∧ Ev w [] w' [.vec a' c' 1 (bys (dbytP 3 16777215 [1] b)) 5] := by
 have hbs := ib.small
 refine d_0 [(0, .slice ab (List.length b) cb)] 12 Go.Proofs.Try.func34 Go.Proofs.Try.ntmps34 (Heap.nil _) fun act0 En0 Hv0 => ?_
 refine d_s [0,2] [] En0 fun ac1 En2 => ?_
 refine wp_seq ?_
 refine region_from ?_
 refine f_o ?_
 refine op_lit (d := some 4) (t := 23) (T := 5) (m := 1) (parts := #[(0, .int .u8 1)]) (xs := bys [(1 : UInt8)]) (sz := 1) En2 (by kernel_rfl) (by kernel_rfl) rfl (by decide) Hv0 ?_
 intro ac4 wo5 bk3 En6 Hv7
 refine d_k [0,2,5] [] 2 En6 fun ac8 En9 => ?_
 refine f_o ?_
 refine m_m 126 [.slice (some ⟨bk3, 0, none⟩) 1 1, .bool false] En9 Hv7 fun ac11 wo12 bk10 En13 Hv14 => ?_
 refine d_e [0,2,3] [] En13 fun ac15 En16 => ?_
 refine then_normal ?_
 refine wp_seq ?_
 refine region_from ?_
 refine d_k [2,3,7,8] [] 2 En16 fun ac17 En18 => ?_
 refine f_o ?_
 refine c_l [1,0] (M := [.box bk10 [.slice (some ⟨bk3, 0, none⟩) 1 1, .bool false] 126, .vec (some ⟨bk3, 0, none⟩) 1 1 (bys [(1 : UInt8)]) 5]) En18 Hv14 (fun hM21 => dwlist_go _ bk10 (some ⟨bk3, 0, none⟩) 1 [(1 : UInt8)] false 3 (by omega) 1 16777215 (by omega) (by omega) ab cb b ((ib.ev Hv14).pick [1, 0] (by kernel_rfl)) (by first | omega | (simp [wput_len, beN_len]; done) | (simp [wput_len, beN_len]; omega)) hM21) ?_
 rintro _ wo22 ⟨wa19, wc20, rfl, he23⟩
 refine ⟨_, _, [.box bk10 [.slice wa19 (List.length (dput 3 1 16777215 [(1 : UInt8)] b)) wc20, .bool (false || dbad 3 1 16777215 (List.length b))] 126, .vec wa19 wc20 1 (bys (dput 3 1 16777215 [(1 : UInt8)] b)) 5], rfl, he23, by kernel_rfl, fun ac25 En26 Hv27 => ?_⟩
 refine f_e ?_
 refine then_normal ?_
 refine wp_seq ?_
 refine region_from ?_
 refine d_k [2,3,10] [] 1 En26 fun ac28 En29 => ?_
 refine f_o ?_
 refine c_l [0,1] (M := [.box bk10 [.slice wa19 (List.length (dput 3 1 16777215 [(1 : UInt8)] b)) wc20, .bool (false || dbad 3 1 16777215 (List.length b))] 126, .vec wa19 wc20 1 (bys (dput 3 1 16777215 [(1 : UInt8)] b)) 5]) En29 Hv27 (fun hM32 => ddone_go _ bk10 wa19 wc20 (dput 3 1 16777215 [(1 : UInt8)] b) (false || dbad 3 1 16777215 (List.length b)) hM32) ?_
 rintro _ wo33 ⟨da30, dc31, rfl, he34⟩
 refine ⟨_, _, [.vec da30 dc31 1 (bys (doneL (false || dbad 3 1 16777215 (List.length b)) (dput 3 1 16777215 [(1 : UInt8)] b))) 5], rfl, he34, by kernel_rfl, fun ac36 En37 Hv38 => ?_⟩
 refine d_e [2,3] [] En37 fun ac39 En40 => ?_
 refine then_normal ?_
 refine wp_ret ?_
 refine d_ret1 (t := 2) (v := .slice da30 (List.length (doneL (false || dbad 3 1 16777215 (List.length b)) (dput 3 1 16777215 [(1 : UInt8)] b))) dc31) En40 (by kernel_rfl) (by kernel_rfl) ?_
 exact ⟨da30, dc31, rfl, Hv38.pk [0]⟩

theorem dpshare_go (w : World) (g : UInt16) (ab : Option Addr) (cb : Nat) (b : Bs) (ib : InB w [] ab cb b) : Calls Try.prog 38 #[.agg #[uv16 g, .slice ab (List.length b) cb]] w fun e w' => ∃ a' c', e = .returned (.slice a' (List.length (dshP (g, b))) c') ∧ Ev w [] w' [.vec a' c' 1 (bys (dshP (g, b))) 5] := by
 have hbs := ib.small
 refine d_0 [(0, .agg #[uv16 g, .slice ab (List.length b) cb])] 11 Go.Proofs.Try.func38 Go.Proofs.Try.ntmps38 (Heap.nil _) fun act0 En0 Hv0 => ?_
 refine wp_seq ?_
 refine region_from ?_
 refine f_o ?_
 refine m_m 49 [uv16 g, .slice ab (List.length b) cb] En0 Hv0 fun ac2 wo3 bk1 En4 Hv5 => ?_
 refine d_e [1,2] [] En4 fun ac6 En7 => ?_
 refine then_normal ?_
 refine wp_seq ?_
 refine region_from ?_
 refine d_k [1,2,4] [] 1 En7 fun ac8 En9 => ?_
 refine f_o ?_
 refine m_m 126 [.slice none 0 0, .bool false] En9 Hv5 fun ac11 wo12 bk10 En13 Hv14 => ?_
 refine d_e [1,2,3] [] En13 fun ac15 En16 => ?_
 refine then_normal ?_
 refine wp_seq ?_
 refine region_from ?_
 refine d_k [1,2,3,6] [] 1 En16 fun ac17 En18 => ?_
 refine f_o ?_
 refine m_a 0 0 2 [uv16 g, .slice ab (List.length b) cb] En18 Hv14 rfl rfl rfl fun ac19 En20 => ?_
 refine f_o ?_
 have Hv21 : Ev w [] wo12 [.box bk1 [uv16 g, .slice ab (List.length b) cb] 49, .box bk10 [.slice none 0 0, .bool false] 126, .vec none 0 1 (bys []) 5] := Ev.nil (sz := 1) (T := 5) Hv14
 refine c_l [1,2] (M := [.box bk10 [.slice none 0 0, .bool false] 126, .vec none 0 1 (bys []) 5]) En20 Hv21 (fun hM24 => dwshare_go _ bk10 none 0 [] false g ab cb b ((ib.ev Hv21).pick [1, 2] (by kernel_rfl)) (by first | omega | (simp [wput_len, beN_len]; done) | (simp [wput_len, beN_len]; omega)) hM24) ?_
 rintro _ wo25 ⟨wa22, wc23, rfl, he26⟩
 refine ⟨_, _, [.box bk10 [.slice wa22 (List.length ((dshF ([], false) (g, b)).1)) wc23, .bool ((dshF ([], false) (g, b)).2)] 126, .vec wa22 wc23 1 (bys ((dshF ([], false) (g, b)).1)) 5, .box bk1 [uv16 g, .slice ab (List.length b) cb] 49], rfl, he26, by kernel_rfl, fun ac28 En29 Hv30 => ?_⟩
 refine f_e ?_
 refine then_normal ?_
 refine wp_seq ?_
 refine region_from ?_
 refine d_k [2,3,9] [] 1 En29 fun ac31 En32 => ?_
 refine f_o ?_
 refine c_l [0,1] (M := [.box bk10 [.slice wa22 (List.length ((dshF ([], false) (g, b)).1)) wc23, .bool ((dshF ([], false) (g, b)).2)] 126, .vec wa22 wc23 1 (bys ((dshF ([], false) (g, b)).1)) 5]) En32 Hv30 (fun hM35 => ddone_go _ bk10 wa22 wc23 ((dshF ([], false) (g, b)).1) ((dshF ([], false) (g, b)).2) hM35) ?_
 rintro _ wo36 ⟨da33, dc34, rfl, he37⟩
 refine ⟨_, _, [.vec da33 dc34 1 (bys (doneL ((dshF ([], false) (g, b)).2) ((dshF ([], false) (g, b)).1))) 5, .box bk1 [uv16 g, .slice ab (List.length b) cb] 49], rfl, he37, by kernel_rfl, fun ac39 En40 Hv41 => ?_⟩
 refine d_e [2,3] [] En40 fun ac42 En43 => ?_
 refine then_normal ?_
 refine wp_ret ?_
 refine d_ret1 (t := 2) (v := .slice da33 (List.length (doneL ((dshF ([], false) (g, b)).2) ((dshF ([], false) (g, b)).1))) dc34) En43 (by kernel_rfl) (by kernel_rfl) ?_
 exact ⟨da33, dc34, rfl, Hv41.pk [0]⟩

theorem dpname_go (w : World) (t : Bs) (ht : List.length t ≤ 140737488351232) : Calls Try.prog 18 #[.string (bstr t)] w fun e w' => ∃ a' c', e = .returned (.slice a' (List.length (dnmP t)) c') ∧ Ev w [] w' [.vec a' c' 1 (bys (dnmP t)) 5] := by
 have hl1 := dput_len 2 1 65535 [0] t
 rw [List.length_singleton] at hl1
 refine d_0 [(0, .string (bstr t))] 19 Go.Proofs.Try.func18 Go.Proofs.Try.ntmps18 (Heap.nil _) fun act0 En0 Hv0 => ?_
 refine d_s [0,2] [] En0 fun ac1 En2 => ?_
 refine wp_seq ?_
 refine region_from ?_
 refine f_o ?_
 refine op_lit (d := some 5) (t := 23) (T := 5) (m := 1) (parts := #[(0, .int .u8 0)]) (xs := bys [(0 : UInt8)]) (sz := 1) En2 (by kernel_rfl) (by kernel_rfl) rfl (by decide) Hv0 ?_
 intro ac4 wo5 bk3 En6 Hv7
 refine d_k [0,2,6] [] 2 En6 fun ac8 En9 => ?_
 refine f_o ?_
 refine m_m 126 [.slice (some ⟨bk3, 0, none⟩) 1 1, .bool false] En9 Hv7 fun ac11 wo12 bk10 En13 Hv14 => ?_
 refine d_e [0,2,3] [] En13 fun ac15 En16 => ?_
 refine then_normal ?_
 refine wp_seq ?_
 refine region_from ?_
 refine d_k [2,3,8,9] [] 2 En16 fun ac17 En18 => ?_
 refine f_o ?_
 refine op_bytes (d := some 10) (src := 9) (dst := 23) (e := 5) (s := t) En18 (by kernel_rfl) (by kernel_rfl) (by kernel_rfl) (by kernel_rfl) Hv14 (by unfold maxLen; first | omega | (simp; omega)) ?_
 intro ac22 wo23 bk19 cp20 En24 Hv25 hcb21
 refine f_o ?_
 refine c_l [1,0] (M := [.box bk10 [.slice (some ⟨bk3, 0, none⟩) 1 1, .bool false] 126, .vec (some ⟨bk3, 0, none⟩) 1 1 (bys [(0 : UInt8)]) 5]) En24 Hv25 (fun hM28 => dwlist_go _ bk10 (some ⟨bk3, 0, none⟩) 1 [(0 : UInt8)] false 2 (by omega) 1 65535 (by omega) (by omega) (some ⟨bk19, 0, none⟩) cp20 t (bys_in Hv25.heap (k := 2) rfl [1, 0] (by kernel_rfl) rfl (by first | omega | (simp; done) | (simp; omega))) (by first | omega | (simp [wput_len, beN_len]; done) | (simp [wput_len, beN_len]; omega)) hM28) ?_
 rintro _ wo29 ⟨wa26, wc27, rfl, he30⟩
 refine ⟨_, _, [.box bk10 [.slice wa26 (List.length (dput 2 1 65535 [(0 : UInt8)] t)) wc27, .bool (false || dbad 2 1 65535 (List.length t))] 126, .vec wa26 wc27 1 (bys (dput 2 1 65535 [(0 : UInt8)] t)) 5, .vec (some ⟨bk19, 0, none⟩) cp20 1 (bys t) 5], rfl, he30, by kernel_rfl, fun ac32 En33 Hv34 => ?_⟩
 refine f_e ?_
 refine then_normal ?_
 refine wp_seq ?_
 refine region_from ?_
 refine d_k [2,3,12] [] 1 En33 fun ac35 En36 => ?_
 refine f_o ?_
 refine m_m 126 [.slice none 0 0, .bool false] En36 Hv34 fun ac38 wo39 bk37 En40 Hv41 => ?_
 refine d_e [2,3,4] [] En40 fun ac42 En43 => ?_
 refine then_normal ?_
 refine wp_seq ?_
 refine region_from ?_
 refine d_k [2,3,4,14,15] [] 2 En43 fun ac44 En45 => ?_
 refine f_o ?_
 have Hv46 : Ev w [] wo39 [.box bk10 [.slice wa26 (List.length (dput 2 1 65535 [(0 : UInt8)] t)) wc27, .bool (false || dbad 2 1 65535 (List.length t))] 126, .vec wa26 wc27 1 (bys (dput 2 1 65535 [(0 : UInt8)] t)) 5, .vec (some ⟨bk19, 0, none⟩) cp20 1 (bys t) 5, .box bk37 [.slice none 0 0, .bool false] 126, .vec none 0 1 (bys []) 5] := Ev.nil (sz := 1) (T := 5) Hv41
 refine c_l [3,4,0,1] (M := [.box bk37 [.slice none 0 0, .bool false] 126, .vec none 0 1 (bys []) 5, .box bk10 [.slice wa26 (List.length (dput 2 1 65535 [(0 : UInt8)] t)) wc27, .bool (false || dbad 2 1 65535 (List.length t))] 126, .vec wa26 wc27 1 (bys (dput 2 1 65535 [(0 : UInt8)] t)) 5]) En45 Hv46 (fun hM49 => dpartw_go _ bk37 none 0 [] false bk10 wa26 wc27 (dput 2 1 65535 [(0 : UInt8)] t) (false || dbad 2 1 65535 (List.length t)) 2 (by omega) 1 (by omega) (by first | omega | (simp [wput_len, beN_len]; done) | (simp [wput_len, beN_len]; omega)) hM49) ?_
 rintro _ wo50 ⟨wa47, wc48, rfl, he51⟩
 refine ⟨_, _, [.box bk37 [.slice wa47 (List.length (dput 2 1 16777215 [] (dput 2 1 65535 [(0 : UInt8)] t))) wc48, .bool ((false || (false || dbad 2 1 65535 (List.length t))) || dbad 2 1 16777215 (List.length (dput 2 1 65535 [(0 : UInt8)] t)))] 126, .vec wa47 wc48 1 (bys (dput 2 1 16777215 [] (dput 2 1 65535 [(0 : UInt8)] t))) 5, .box bk10 [.slice wa26 (List.length (dput 2 1 65535 [(0 : UInt8)] t)) wc27, .bool (false || dbad 2 1 65535 (List.length t))] 126, .vec wa26 wc27 1 (bys (dput 2 1 65535 [(0 : UInt8)] t)) 5, .vec (some ⟨bk19, 0, none⟩) cp20 1 (bys t) 5], rfl, he51, by kernel_rfl, fun ac53 En54 Hv55 => ?_⟩
 refine f_e ?_
 refine then_normal ?_
 refine wp_seq ?_
 refine region_from ?_
 refine d_k [2,3,4,17] [] 1 En54 fun ac56 En57 => ?_
 refine f_o ?_
 refine c_l [0,1] (M := [.box bk37 [.slice wa47 (List.length (dput 2 1 16777215 [] (dput 2 1 65535 [(0 : UInt8)] t))) wc48, .bool ((false || (false || dbad 2 1 65535 (List.length t))) || dbad 2 1 16777215 (List.length (dput 2 1 65535 [(0 : UInt8)] t)))] 126, .vec wa47 wc48 1 (bys (dput 2 1 16777215 [] (dput 2 1 65535 [(0 : UInt8)] t))) 5]) En57 Hv55 (fun hM60 => ddone_go _ bk37 wa47 wc48 (dput 2 1 16777215 [] (dput 2 1 65535 [(0 : UInt8)] t)) ((false || (false || dbad 2 1 65535 (List.length t))) || dbad 2 1 16777215 (List.length (dput 2 1 65535 [(0 : UInt8)] t))) hM60) ?_
 rintro _ wo61 ⟨da58, dc59, rfl, he62⟩
 refine ⟨_, _, [.vec da58 dc59 1 (bys (doneL ((false || (false || dbad 2 1 65535 (List.length t))) || dbad 2 1 16777215 (List.length (dput 2 1 65535 [(0 : UInt8)] t))) (dput 2 1 16777215 [] (dput 2 1 65535 [(0 : UInt8)] t)))) 5, .box bk10 [.slice wa26 (List.length (dput 2 1 65535 [(0 : UInt8)] t)) wc27, .bool (false || dbad 2 1 65535 (List.length t))] 126, .vec wa26 wc27 1 (bys (dput 2 1 65535 [(0 : UInt8)] t)) 5, .vec (some ⟨bk19, 0, none⟩) cp20 1 (bys t) 5], rfl, he62, by kernel_rfl, fun ac64 En65 Hv66 => ?_⟩
 refine d_e [2,3,4] [] En65 fun ac67 En68 => ?_
 refine then_normal ?_
 refine wp_ret ?_
 refine d_ret1 (t := 2) (v := .slice da58 (List.length (doneL ((false || (false || dbad 2 1 65535 (List.length t))) || dbad 2 1 16777215 (List.length (dput 2 1 65535 [(0 : UInt8)] t))) (dput 2 1 16777215 [] (dput 2 1 65535 [(0 : UInt8)] t)))) dc59) En68 (by kernel_rfl) (by kernel_rfl) ?_
 exact ⟨da58, dc59, rfl, Hv66.pk [0]⟩

theorem be2 (v : UInt16) : beN 2 v.toNat = [UInt16.toUInt8 (v >>> 8), UInt16.toUInt8 v] := by
  have e : beN 2 v.toNat = [UInt8.ofNat (v.toNat / 256 ^ 1), UInt8.ofNat (v.toNat / 256 ^ 0)] := rfl
  rw [e]
  congr 1
  · apply UInt8.toNat_inj.1
    rw [UInt8.toNat_ofNat', UInt16.toNat_toUInt8, UInt16.toNat_shiftRight]
    have h8 : (8 : UInt16).toNat % 16 = 8 := by decide
    rw [h8, Nat.shiftRight_eq_div_pow]
  · congr 1
    apply UInt8.toNat_inj.1
    rw [UInt8.toNat_ofNat', UInt16.toNat_toUInt8]
    simp

theorem dpnumber_go (w : World) (v : UInt16) : Calls Try.prog 36 #[uv16 v] w fun e w' => ∃ a' c', e = .returned (.slice a' (List.length (beN 2 (UInt16.toNat v))) c') ∧ Ev w [] w' [.vec a' c' 1 (bys (beN 2 (UInt16.toNat v))) 5] := by
 refine d_0 [(0, uv16 v)] 9 Go.Proofs.Try.func36 Go.Proofs.Try.ntmps36 (Heap.nil _) fun act0 En0 Hv0 => ?_
 refine d_s [0,2] [] En0 fun ac1 En2 => ?_
 refine wp_seq ?_
 refine region_from ?_
 refine d_k [2,5,7] [(1, g_i .u16 (Go.Dbr.u16_shr (x := v) (n := 8) rfl (by decide))), (2, g_i .u8 (Go.Dbr.u16_to_u8 (x := v >>> UInt16.ofNat 8) rfl)), (4, g_i .u8 (Go.Dbr.u16_to_u8 (x := v) rfl))] 5 En2 fun ac3 En4 => ?_
 refine f_o ?_
 refine op_lit (d := some 8) (t := 23) (T := 5) (m := 2) (parts := #[(0, .int .u8 ((UInt8.toNat (UInt16.toUInt8 (v >>> UInt16.ofNat 8)) : Nat) : Int)), (1, .int .u8 ((UInt8.toNat (UInt16.toUInt8 v) : Nat) : Int))]) (xs := bys [UInt16.toUInt8 (v >>> UInt16.ofNat 8), UInt16.toUInt8 v]) (sz := 1) En4 (by kernel_rfl) (by kernel_rfl) rfl (by decide) Hv0 ?_
 intro ac6 wo7 bk5 En8 Hv9
 refine d_e [2] [] En8 fun ac10 En11 => ?_
 refine then_normal ?_
 refine wp_ret ?_
 refine d_ret1 (t := 2) (v := .slice (some ⟨bk5, 0, none⟩) 2 2) En11 (by kernel_rfl) (by kernel_rfl) ?_
 rw [be2]
 exact ⟨(some ⟨bk5, 0, none⟩), 2, rfl, Hv9.pk [0]⟩

end Go.Proofs.Ytofecellbfhnjaa
