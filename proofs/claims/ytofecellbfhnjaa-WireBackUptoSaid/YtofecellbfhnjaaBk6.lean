import Derived.Test.YtofecellbfhnjaaBk5
import Derived.Test.YtofecellbfhnjaaBk4
/- Layer 17: a host's name; the head; what frames ask. -/


namespace Go.Proofs.Ytofecellbfhnjaa
open Go.Dbr
set_option maxRecDepth 100000
set_option maxHeartbeats 2000000
set_option linter.unusedVariables false
set_option linter.unusedSimpArgs false

theorem nm_1 (t : Bs) : allM nmF (List.map (fun y : RStr => y) [t]) = (wput 2 [0] t, wbad 2 1 65535 t.length false) := rfl
theorem nm_bd {t : Bs} (h : t.length ≤ 140737488351232) : ∀ i, i ≤ ([t] : List RStr).length → (allM nmF (List.take i (List.map (fun y : RStr => y) ([t] : List RStr)))).1.length ≤ 140737489403904
  | 0, _ => by show (0 : Nat) ≤ _; omega
  | 1, _ => by
    rw [show List.take 1 (List.map (fun y : RStr => y) ([t] : List RStr)) = List.map (fun y : RStr => y) [t] from rfl, nm_1, wput_len]
    simp only [List.length_singleton]
    omega
  | i + 2, h => by simp at h
/-- a host's name -/
def nmP (t : Bs) : Bs := doneL (wbad 2 0 16777215 (wput 2 [0] t).length (false || wbad 2 1 65535 t.length false)) (wput 2 [] (wput 2 [0] t))

theorem putname1 (w : World) (bw : Nat) (bt : Nat) (t : Bs) (ht : List.length t ≤ 140737488351232) (hH : Heap w [.box bw [.slice none 0 0, .bool false] 115, .vec none 0 1 (bys []) 5, .box bt [.string (bstr t)] 9]) : Calls Try.prog 107 #[pt bw, pt bt] w fun e w' => ∃ a' c', e = .returned (.tuple #[]) ∧ Ev w [.box bw [.slice none 0 0, .bool false] 115, .vec none 0 1 (bys []) 5, .box bt [.string (bstr t)] 9] w' [.box bw [.slice a' (List.length (wput 2 [] (allM nmF (List.map (fun y : RStr => y) ([t] : List (RStr)))).1)) c', .bool (wbad 2 0 16777215 (List.length (allM nmF (List.map (fun y : RStr => y) ([t] : List (RStr)))).1) (false || (allM nmF (List.map (fun y : RStr => y) ([t] : List (RStr)))).2))] 115, .vec a' c' 1 (bys (wput 2 [] (allM nmF (List.map (fun y : RStr => y) ([t] : List (RStr)))).1)) 5] := by
 refine d_0 [(0, pt bw), (1, pt bt)] 7 Go.Proofs.Try.func107 Go.Proofs.Try.ntmps107 (hH) fun act0 En0 Hv0 => ?_
 refine region_from ?_
 refine d_k [1,3] [] 1 En0 fun ac1 En2 => ?_
 refine f_o ?_
 refine m_l 2 En2 Hv0 fun ac3 En4 => ?_
 refine f_o ?_
 refine op_lit (d := some 5) (t := 33) (T := 9) (m := 1) (parts := #[(0, .string (bstr t))]) (xs := List.flatMap fStr ([t] : List (RStr))) (sz := 1) En4 (by kernel_rfl) (by kernel_rfl) rfl (by decide) Hv0 ?_
 intro ac6 wo7 bk5 En8 Hv9
 refine f_o ?_
 refine c_l [0,1] (M := [.box bw [.slice none 0 0, .bool false] 115, .vec none 0 1 (bys []) 5]) En8 Hv9 (fun hM12 => all_str _ bw none 0 [] false 2 (by omega) 0 (by omega) (some ⟨bk5, 0, none⟩) 1 ([t] : List (RStr)) (Hv9.heap.innS (k := 3) (f := fStr) (sz := 1) (by_ := 16) rfl (fun _ => rfl) (by decide) [0, 1] (by kernel_rfl) rfl (show 1 * 16 ≤ 140737488351232 by decide) (fun y hy => by obtain rfl := List.mem_singleton.1 hy; exact ht)) (nm_bd ht) (by rw [nm_1, wput_len]; simp; omega) hM12) ?_
 rintro _ wo13 ⟨wa10, wc11, rfl, he14⟩
 refine ⟨_, _, [.box bw [.slice wa10 (List.length (wput 2 [] (allM nmF (List.map (fun y : RStr => y) ([t] : List (RStr)))).1)) wc11, .bool (wbad 2 0 16777215 (List.length (allM nmF (List.map (fun y : RStr => y) ([t] : List (RStr)))).1) (false || (allM nmF (List.map (fun y : RStr => y) ([t] : List (RStr)))).2))] 115, .vec wa10 wc11 1 (bys (wput 2 [] (allM nmF (List.map (fun y : RStr => y) ([t] : List (RStr)))).1)) 5, .box bt [.string (bstr t)] 9, .vec (some ⟨bk5, 0, none⟩) 1 1 (List.flatMap fStr ([t] : List (RStr))) 9], rfl, he14, by kernel_rfl, fun ac16 En17 Hv18 => ?_⟩
 refine f_e ?_
 refine d_end0 En17 (by kernel_rfl) ?_
 exact ⟨wa10, wc11, rfl, Hv18.pk [0, 1]⟩

theorem put_name (w : World) (bt : Nat) (t : Bs) (ht : List.length t ≤ 140737488351232) (hH : Heap w [.box bt [.string (bstr t)] 9]) : Calls Try.prog 99 #[.func (.func 107) #[] #[pt bt]] w fun e w' => ∃ a' c', e = .returned (.slice a' (List.length (doneL (wbad 2 0 16777215 (List.length (allM nmF (List.map (fun y : RStr => y) ([t] : List (RStr)))).1) (false || (allM nmF (List.map (fun y : RStr => y) ([t] : List (RStr)))).2)) (wput 2 [] (allM nmF (List.map (fun y : RStr => y) ([t] : List (RStr)))).1))) c') ∧ Ev w [.box bt [.string (bstr t)] 9] w' [.vec a' c' 1 (bys (doneL (wbad 2 0 16777215 (List.length (allM nmF (List.map (fun y : RStr => y) ([t] : List (RStr)))).1) (false || (allM nmF (List.map (fun y : RStr => y) ([t] : List (RStr)))).2)) (wput 2 [] (allM nmF (List.map (fun y : RStr => y) ([t] : List (RStr)))).1))) 5] := by
 refine d_0 [(0, .func (.func 107) #[] #[pt bt])] 11 Go.Proofs.Try.func99 Go.Proofs.Try.ntmps99 (hH) fun act0 En0 Hv0 => ?_
 refine d_s [0,2] [] En0 fun ac1 En2 => ?_
 refine wp_seq ?_
 refine region_from ?_
 refine d_k [0,2,4] [] 1 En2 fun ac3 En4 => ?_
 refine f_o ?_
 refine m_m 115 [.slice none 0 0, .bool false] En4 Hv0 fun ac6 wo7 bk5 En8 Hv9 => ?_
 refine d_e [0,2,3] [] En8 fun ac10 En11 => ?_
 refine then_normal ?_
 refine wp_seq ?_
 refine region_from ?_
 refine d_k [2,3,6,7] [] 2 En11 fun ac12 En13 => ?_
 refine f_o ?_
 have Hv14 : Ev w [.box bt [.string (bstr t)] 9] wo7 [.box bt [.string (bstr t)] 9, .box bk5 [.slice none 0 0, .bool false] 115, .vec none 0 1 (bys []) 5] := Ev.nil (sz := 1) (T := 5) Hv9
 refine c_l [1,2,0] (M := [.box bk5 [.slice none 0 0, .bool false] 115, .vec none 0 1 (bys []) 5, .box bt [.string (bstr t)] 9]) En13 Hv14 (fun hM17 => putname1 _ bk5 bt t ht hM17) ?_
 rintro _ wo18 ⟨wa15, wc16, rfl, he19⟩
 refine ⟨_, _, [.box bk5 [.slice wa15 (List.length (wput 2 [] (allM nmF (List.map (fun y : RStr => y) ([t] : List (RStr)))).1)) wc16, .bool (wbad 2 0 16777215 (List.length (allM nmF (List.map (fun y : RStr => y) ([t] : List (RStr)))).1) (false || (allM nmF (List.map (fun y : RStr => y) ([t] : List (RStr)))).2))] 115, .vec wa15 wc16 1 (bys (wput 2 [] (allM nmF (List.map (fun y : RStr => y) ([t] : List (RStr)))).1)) 5], rfl, he19, by kernel_rfl, fun ac21 En22 Hv23 => ?_⟩
 refine f_e ?_
 refine then_normal ?_
 refine wp_seq ?_
 refine region_from ?_
 refine d_k [2,3,9] [] 1 En22 fun ac24 En25 => ?_
 refine f_o ?_
 refine c_l [0,1] (M := [.box bk5 [.slice wa15 (List.length (wput 2 [] (allM nmF (List.map (fun y : RStr => y) ([t] : List (RStr)))).1)) wc16, .bool (wbad 2 0 16777215 (List.length (allM nmF (List.map (fun y : RStr => y) ([t] : List (RStr)))).1) (false || (allM nmF (List.map (fun y : RStr => y) ([t] : List (RStr)))).2))] 115, .vec wa15 wc16 1 (bys (wput 2 [] (allM nmF (List.map (fun y : RStr => y) ([t] : List (RStr)))).1)) 5]) En25 Hv23 (fun hM28 => wdone_go _ bk5 wa15 wc16 (wput 2 [] (allM nmF (List.map (fun y : RStr => y) ([t] : List (RStr)))).1) (wbad 2 0 16777215 (List.length (allM nmF (List.map (fun y : RStr => y) ([t] : List (RStr)))).1) (false || (allM nmF (List.map (fun y : RStr => y) ([t] : List (RStr)))).2)) hM28) ?_
 rintro _ wo29 ⟨da26, dc27, rfl, he30⟩
 refine ⟨_, _, [.vec da26 dc27 1 (bys (doneL (wbad 2 0 16777215 (List.length (allM nmF (List.map (fun y : RStr => y) ([t] : List (RStr)))).1) (false || (allM nmF (List.map (fun y : RStr => y) ([t] : List (RStr)))).2)) (wput 2 [] (allM nmF (List.map (fun y : RStr => y) ([t] : List (RStr)))).1))) 5], rfl, he30, by kernel_rfl, fun ac32 En33 Hv34 => ?_⟩
 refine d_e [2,3] [] En33 fun ac35 En36 => ?_
 refine then_normal ?_
 refine wp_ret ?_
 refine d_ret1 (t := 2) (v := .slice da26 (List.length (doneL (wbad 2 0 16777215 (List.length (allM nmF (List.map (fun y : RStr => y) ([t] : List (RStr)))).1) (false || (allM nmF (List.map (fun y : RStr => y) ([t] : List (RStr)))).2)) (wput 2 [] (allM nmF (List.map (fun y : RStr => y) ([t] : List (RStr)))).1))) dc27) En36 (by kernel_rfl) (by kernel_rfl) ?_
 exact ⟨da26, dc27, rfl, Hv34.pk [0]⟩

theorem putname_go (w : World) (t : Bs) (ht : List.length t ≤ 140737488351232) : Calls Try.prog 17 #[.string (bstr t)] w fun e w' => ∃ a' c', e = .returned (.slice a' (List.length (nmP t)) c') ∧ Ev w [] w' [.vec a' c' 1 (bys (nmP t)) 5] := by
 refine d_0 [(0, .string (bstr t))] 5 Go.Proofs.Try.func17 Go.Proofs.Try.ntmps17 (Heap.nil _) fun act0 En0 Hv0 => ?_
 refine wp_seq ?_
 refine region_from ?_
 refine f_o ?_
 refine m_m 9 [.string (bstr t)] En0 Hv0 fun ac2 wo3 bk1 En4 Hv5 => ?_
 refine d_e [1,2] [] En4 fun ac6 En7 => ?_
 refine then_normal ?_
 refine wp_seq ?_
 refine region_from ?_
 refine d_k [2,3] [] 1 En7 fun ac8 En9 => ?_
 refine f_o ?_
 refine c_l [0] (M := [.box bk1 [.string (bstr t)] 9]) En9 Hv5 (fun hM12 => put_name _ bk1 t ht hM12) ?_
 rintro _ wo13 ⟨pa10, pc11, rfl, he14⟩
 refine ⟨_, _, [.vec pa10 pc11 1 (bys (nmP t)) 5], rfl, he14, by kernel_rfl, fun ac16 En17 Hv18 => ?_⟩
 refine d_e [2] [] En17 fun ac19 En20 => ?_
 refine then_normal ?_
 refine wp_ret ?_
 refine d_ret1 (t := 2) (v := .slice pa10 (List.length (nmP t)) pc11) En20 (by kernel_rfl) (by kernel_rfl) ?_
 exact ⟨pa10, pc11, rfl, Hv18.pk [0]⟩

theorem head_g : gotA (manyM u16M 2 2 [0, 0] false false) = 50 := by decide +kernel
theorem head_n : nmP [97, 46, 98] = [0, 6, 0, 0, 3, 97, 46, 98] := by decide +kernel

theorem head_ok (w : World) : Calls Try.prog 10 #[] w fun e w' => e = .returned (.bool true) ∧ Ev w [] w' [] := by
 refine d_0 [] 15 Go.Proofs.Try.func10 Go.Proofs.Try.ntmps10 (Heap.nil _) fun act0 En0 Hv0 => ?_
 refine d_s [0] [] En0 fun ac1 En2 => ?_
 refine wp_seq ?_
 refine region_from ?_
 refine f_o ?_
 refine op_lit (d := some 4) (t := 23) (T := 5) (m := 2) (parts := #[(0, .int .u8 0), (1, .int .u8 0)]) (xs := bys [(0 : UInt8), (0 : UInt8)]) (sz := 1) En2 (by kernel_rfl) (by kernel_rfl) rfl (by decide) Hv0 ?_
 intro ac4 wo5 bk3 En6 Hv7
 refine f_o ?_
 refine c_0 En6 Hv7 (getlist_go _ (some ⟨bk3, 0, none⟩) 2 2 [(0 : UInt8), (0 : UInt8)] (by first | rfl | (simp; done) | (simp; omega) | omega) (bys_in Hv7.heap (k := 0) rfl [] (by kernel_rfl) rfl (by first | omega | (simp; done) | (simp; omega)))) ?_
 rintro _ wo14 ⟨oa8, oc9, xs10, rfl, he15, hpu11, hf12⟩
 refine ⟨_, _, _, rfl, he15, rfl, fun ac17 En18 Hv19 => ?_⟩
 refine d_e [0,2] [] En18 fun ac20 En21 => ?_
 refine then_normal ?_
 refine wp_seq ?_
 refine region_from ?_
 refine f_o ?_
 refine c_0 En21 Hv19 (putname_go _ [97, 46, 98] (by first | assumption | decide | omega)) ?_
 rintro _ wo25 ⟨pa22, pc23, rfl, he26⟩
 refine ⟨_, _, _, rfl, he26, rfl, fun ac28 En29 Hv30 => ?_⟩
 refine f_o ?_
 refine op_str (d := some 9) (src := 23) (dst := 9) (e := 5) (ao := pa22) (cap := pc23) (p := List.length (nmP [97, 46, 98])) (bs := nmP [97, 46, 98]) En29 (by kernel_rfl) rfl (by kernel_rfl) (by kernel_rfl) (by kernel_rfl) (Hv30.heap.reads (k := 0) rfl) (bys_vnz Hv30.heap (k := 0) rfl) ?_
 intro ac31 En32
 refine d_e [0] [(2, g_v (show (.bool (ByteArray.toList (bstr (nmP [97, 46, 98])) == ByteArray.toList (bstr [0, 6, 0, 0, 3, 97, 46, 98])) : Value) = .bool true by rw [Go.Dbr.bstr_eq (nmP [97, 46, 98]) [0, 6, 0, 0, 3, 97, 46, 98], show ((nmP [97, 46, 98]) == [0, 6, 0, 0, 3, 97, 46, 98]) = true from (by rw [head_n]; exact beq_self_eq_true _)] <;> rfl)), (5, g_b (show (gotA (manyM u16M 2 2 [(0 : UInt8), (0 : UInt8)] false false) == (50 : Int)) = true from (by rw [head_g]; rfl)))] En32 fun ac33 En34 => ?_
 refine then_normal ?_
 refine wp_ret ?_
 refine d_ret1 (t := 0) (v := .bool true) En34 (by kernel_rfl) (by kernel_rfl) ?_
 exact ⟨rfl, Hv30.pk []⟩

end Go.Proofs.Ytofecellbfhnjaa

/- Layer 17: bytes, numbers, a host's name are read, by both. -/

namespace Go.Proofs.Ytofecellbfhnjaa
open Go.Dbr
set_option maxRecDepth 100000
set_option maxHeartbeats 2000000
set_option linter.unusedVariables false
set_option linter.unusedSimpArgs false

theorem bytes2_go (w : World) (br : Nat) (a : Option Addr) (c : Nat) (l : List UInt8) (s o : Bool) (i : InB w [.box br [.slice a (List.length l) c, .bool s, .bool o] 120] a c l) (hH : Heap w [.box br [.slice a (List.length l) c, .bool s, .bool o] 120]) : Calls Try.prog 138 #[pt br] w fun e w' => ∃ ta tc oa oc bl, e = .returned (.slice oa (List.length bl) oc) ∧ Ev w [.box br [.slice a (List.length l) c, .bool s, .bool o] 120] w' [.box br [.slice ta (List.length ((listM 2 1 65535 l s o).2.1)) tc, .bool ((listM 2 1 65535 l s o).2.2.1), .bool ((listM 2 1 65535 l s o).2.2.2)] 120, .vec oa oc 1 (bys bl) 5] ∧ Sub a c l ta tc (listM 2 1 65535 l s o).2.1 ∧ bl = (listM 2 1 65535 l s o).1 := by
 refine d_0 [(0, pt br)] 5 Go.Proofs.Try.func138 Go.Proofs.Try.ntmps138 (hH) fun act0 En0 Hv0 => ?_
 refine d_s [0,2] [] En0 fun ac1 En2 => ?_
 refine wp_seq ?_
 refine region_from ?_
 refine d_k [2,3] [] 1 En2 fun ac3 En4 => ?_
 refine f_o ?_
 refine c_l [0] (M := [.box br [.slice a (List.length l) c, .bool s, .bool o] 120]) En4 Hv0 (fun hM10 => list_go _ br 2 (by omega) 1 65535 (by omega) (by omega) a c l s o ((i.ev Hv0).pick [0] (by kernel_rfl)) hM10) ?_
 rintro _ wo11 ⟨ao5, cp6, ta7, tc8, rfl, he12, hs9⟩
 refine ⟨_, _, [.box br [.slice ta7 (List.length (lsR 2 1 65535 l s)) tc8, .bool (lsS 2 1 65535 l s), .bool o] 120, .vec ao5 cp6 1 (bys (lsO 2 1 65535 l s)) 5], rfl, he12, by kernel_rfl, fun ac14 En15 Hv16 => ?_⟩
 refine d_e [2] [] En15 fun ac17 En18 => ?_
 refine then_normal ?_
 refine wp_ret ?_
 refine d_ret1 (t := 2) (v := .slice ao5 (List.length (lsO 2 1 65535 l s)) cp6) En18 (by kernel_rfl) (by kernel_rfl) ?_
 exact ⟨ta7, tc8, ao5, cp6, (lsO 2 1 65535 l s), rfl, Hv16.pk [0, 1], hs9, rfl⟩

theorem bytes3_go (w : World) (br : Nat) (a : Option Addr) (c : Nat) (l : List UInt8) (s o : Bool) (i : InB w [.box br [.slice a (List.length l) c, .bool s, .bool o] 120] a c l) (hH : Heap w [.box br [.slice a (List.length l) c, .bool s, .bool o] 120]) : Calls Try.prog 171 #[pt br] w fun e w' => ∃ ta tc oa oc bl, e = .returned (.slice oa (List.length bl) oc) ∧ Ev w [.box br [.slice a (List.length l) c, .bool s, .bool o] 120] w' [.box br [.slice ta (List.length ((listM 3 1 16777215 l s o).2.1)) tc, .bool ((listM 3 1 16777215 l s o).2.2.1), .bool ((listM 3 1 16777215 l s o).2.2.2)] 120, .vec oa oc 1 (bys bl) 5] ∧ Sub a c l ta tc (listM 3 1 16777215 l s o).2.1 ∧ bl = (listM 3 1 16777215 l s o).1 := by
 refine d_0 [(0, pt br)] 5 Go.Proofs.Try.func171 Go.Proofs.Try.ntmps171 (hH) fun act0 En0 Hv0 => ?_
 refine d_s [0,2] [] En0 fun ac1 En2 => ?_
 refine wp_seq ?_
 refine region_from ?_
 refine d_k [2,3] [] 1 En2 fun ac3 En4 => ?_
 refine f_o ?_
 refine c_l [0] (M := [.box br [.slice a (List.length l) c, .bool s, .bool o] 120]) En4 Hv0 (fun hM10 => list_go _ br 3 (by omega) 1 16777215 (by omega) (by omega) a c l s o ((i.ev Hv0).pick [0] (by kernel_rfl)) hM10) ?_
 rintro _ wo11 ⟨ao5, cp6, ta7, tc8, rfl, he12, hs9⟩
 refine ⟨_, _, [.box br [.slice ta7 (List.length (lsR 3 1 16777215 l s)) tc8, .bool (lsS 3 1 16777215 l s), .bool o] 120, .vec ao5 cp6 1 (bys (lsO 3 1 16777215 l s)) 5], rfl, he12, by kernel_rfl, fun ac14 En15 Hv16 => ?_⟩
 refine d_e [2] [] En15 fun ac17 En18 => ?_
 refine then_normal ?_
 refine wp_ret ?_
 refine d_ret1 (t := 2) (v := .slice ao5 (List.length (lsO 3 1 16777215 l s)) cp6) En18 (by kernel_rfl) (by kernel_rfl) ?_
 exact ⟨ta7, tc8, ao5, cp6, (lsO 3 1 16777215 l s), rfl, Hv16.pk [0, 1], hs9, rfl⟩

end Go.Proofs.Ytofecellbfhnjaa

/- Layer 17: the document reads bytes, numbers, a host's name. -/

namespace Go.Proofs.Ytofecellbfhnjaa
open Go.Dbr
set_option maxRecDepth 100000
set_option maxHeartbeats 2000000
set_option linter.unusedVariables false
set_option linter.unusedSimpArgs false

end Go.Proofs.Ytofecellbfhnjaa

/- Layer 17: texts are read, by both. -/

namespace Go.Proofs.Ytofecellbfhnjaa
open Go.Dbr
set_option maxRecDepth 100000
set_option maxHeartbeats 2000000
set_option linter.unusedVariables false
set_option linter.unusedSimpArgs false

theorem list_dec {n x y : Nat} (hn : 0 < n) : Dec (listM n x y) := ⟨fun l o h hs => by
  have h1 : tkS (nbV n l false) (tkR n l false) (lsT n x y l false) = false := hs
  have h2 : tkS n l false = false := by
    rw [tkS, Bool.or_eq_false_iff] at h1
    have h3 := h1.1
    rw [lsT, Bool.or_eq_false_iff] at h3
    exact h3.1
  exact Nat.lt_of_le_of_lt (tkR_len _ _ _) (tk_lt hn h), fun l o => lsR_len _ _ _ _ _⟩
theorem all_snoc {α : Type} {P : α → Prop} {xs : List α} {y : α} (h : ∀ x ∈ xs, P x) (hy : P y) : ∀ x ∈ xs ++ [y], P x := fun x hx => (List.mem_append.1 hx).elim (h x) fun g => by
  obtain rfl := List.mem_singleton.1 g
  exact hy

end Go.Proofs.Ytofecellbfhnjaa

/- Layer 17: shares of keys are read, by both. -/


namespace Go.Proofs.Ytofecellbfhnjaa
open Go.Dbr
set_option maxRecDepth 100000
set_option maxHeartbeats 2000000
set_option linter.unusedVariables false
set_option linter.unusedSimpArgs false

theorem lsS_f {n x y : Nat} {l : Bs} {s : Bool} (h : lsS n x y l s = false) : tkS n l s = false ∧ s = false := by
  rw [lsS, tkS, Bool.or_eq_false_iff, lsT, Bool.or_eq_false_iff] at h
  have h2 := h.1.1
  refine ⟨h2, ?_⟩
  rw [tkS, Bool.or_eq_false_iff] at h2
  exact h2.1
end Go.Proofs.Ytofecellbfhnjaa

/- Layer 17: shares of keys are read by the document; compared. -/

namespace Go.Proofs.Ytofecellbfhnjaa
open Go.Dbr
set_option maxRecDepth 100000
set_option maxHeartbeats 2000000
set_option linter.unusedVariables false
set_option linter.unusedSimpArgs false

theorem pair_eq {α β : Type} {a c : α} {b d : β} (h : a = c) (h2 : b = d) : (a, b) = (c, d) := by rw [h, h2]

end Go.Proofs.Ytofecellbfhnjaa

/- Layer 17: offered tickets: their parts, by the program. -/

namespace Go.Proofs.Ytofecellbfhnjaa
open Go.Dbr
set_option maxRecDepth 100000
set_option maxHeartbeats 2000000
set_option linter.unusedVariables false
set_option linter.unusedSimpArgs false

abbrev RPsk := (Sl UInt8) × (UInt32) × (Sl UInt8) × Unit
abbrev fPsk : RPsk → List Value := (fun p : (Sl UInt8) × (UInt32) × (Sl UInt8) × Unit => (fun s : Sl UInt8 => s.f) p.1 ++ (fun p : (UInt32) × (Sl UInt8) × Unit => (fun n : UInt32 => [uv32 n]) p.1 ++ (fun p : (Sl UInt8) × Unit => (fun s : Sl UInt8 => s.f) p.1 ++ (fun _ : Unit => []) p.2) p.2) p.2)
abbrev RByl := Sl UInt8
abbrev fByl : RByl → List Value := (fun s : Sl UInt8 => s.f)
def innPsk (y : RPsk) : List Inn := [(y.1.a, y.1.c, 1, bys y.1.l, 5), (y.2.2.1.a, y.2.2.1.c, 1, bys y.2.2.1.l, 5)]
def innByl (y : RByl) : List Inn := [(y.a, y.c, 1, bys y.l, 5)]
abbrev PK := Bs × UInt32 × Bs
def puPsk (y : RPsk) : PK := (y.1.l, y.2.1, y.2.2.1.l)
def psk1M (l : Bs) (s o : Bool) : PK × PS := ((lsO 2 1 65535 l s, UInt32.ofNat (nbV 4 (lsR 2 1 65535 l s) (lsS 2 1 65535 l s)), []), tkR 4 (lsR 2 1 65535 l s) (lsS 2 1 65535 l s), tkS 4 (lsR 2 1 65535 l s) (lsS 2 1 65535 l s), o)
theorem tkS_f {n : Nat} {l : Bs} {s : Bool} (h : tkS n l s = false) : s = false := by
  rw [tkS, Bool.or_eq_false_iff] at h
  exact h.1
theorem psk1_dec : Dec psk1M := ⟨fun l o h hs => Nat.lt_of_le_of_lt (tkR_len _ _ _) ((list_dec (n := 2) (x := 1) (y := 65535) (by decide)).lt l o h (tkS_f hs)), fun l o => Nat.le_trans (tkR_len _ _ _) (lsR_len _ _ _ _ _)⟩
/-- the first ones get what belongs to them -/
def bnd {α β : Type} (u : α → β → α) : Nat → List α → List β → List α
  | 0, xs, _ => xs
  | _ + 1, [], _ => []
  | _ + 1, xs, [] => xs
  | n + 1, x :: xs, y :: ys => u x y :: bnd u n xs ys
section
variable {α β γ δ : Type} {u : α → β → α} {u2 : γ → δ → γ}
theorem bnd_len : ∀ (n : Nat) (xs : List α) (ys : List β), (bnd u n xs ys).length = xs.length
  | 0, _, _ => rfl
  | _ + 1, [], _ => rfl
  | _ + 1, _ :: _, [] => rfl
  | n + 1, x :: xs, y :: ys => congrArg (· + 1) (bnd_len n xs ys)
theorem bnd_map {f : α → γ} {g : β → δ} (h : ∀ x y, f (u x y) = u2 (f x) (g y)) : ∀ (n : Nat) (xs : List α) (ys : List β), List.map f (bnd u n xs ys) = bnd u2 n (List.map f xs) (List.map g ys)
  | 0, _, _ => rfl
  | _ + 1, [], _ => rfl
  | _ + 1, _ :: _, [] => rfl
  | n + 1, x :: xs, y :: ys => by
    show f (u x y) :: List.map f (bnd u n xs ys) = u2 (f x) (g y) :: bnd u2 n (List.map f xs) (List.map g ys)
    rw [h, bnd_map h n xs ys]
theorem bnd_set : ∀ {n : Nat} {xs : List α} {ys : List β} {x : α} {y : β}, (bnd u n xs ys)[n]? = some x → ys[n]? = some y → List.set (bnd u n xs ys) n (u x y) = bnd u (n + 1) xs ys
  | 0, [], _, _, _, h, _ => by simp [bnd] at h
  | 0, x :: xs, [], _, _, _, h => by simp at h
  | 0, x :: xs, y :: ys, _, _, h, h2 => by
    simp only [bnd, List.getElem?_cons_zero, Option.some.injEq] at h h2
    subst h h2
    rfl
  | n + 1, [], _, _, _, h, _ => by simp [bnd] at h
  | n + 1, x :: xs, [], _, _, _, h => by simp at h
  | n + 1, x :: xs, y :: ys, _, _, h, h2 => congrArg (u x y :: ·) (bnd_set (n := n) h h2)
theorem bnd_over : ∀ {n m : Nat} {xs : List α} {ys : List β}, xs.length ≤ n ∨ ys.length ≤ n → n ≤ m → bnd u n xs ys = bnd u m xs ys
  | 0, 0, _, _, _, _ => rfl
  | 0, m + 1, [], _, _, _ => rfl
  | 0, m + 1, _ :: _, [], _, _ => rfl
  | 0, m + 1, _ :: _, _ :: _, h, _ => by simp at h
  | n + 1, 0, _, _, _, h => by omega
  | n + 1, m + 1, [], _, _, _ => rfl
  | n + 1, m + 1, _ :: _, [], _, _ => rfl
  | n + 1, m + 1, x :: xs, y :: ys, h, h2 => congrArg (u x y :: ·) (bnd_over (n := n) (m := m) (by simpa using h) (by omega))
theorem bnd_mem : ∀ {n : Nat} {xs : List α} {ys : List β} {z : α}, z ∈ bnd u n xs ys → z ∈ xs ∨ ∃ x y, x ∈ xs ∧ y ∈ ys ∧ z = u x y
  | 0, _, _, _, h => .inl h
  | _ + 1, [], _, _, h => .inl h
  | _ + 1, _ :: _, [], _, h => .inl h
  | n + 1, x :: xs, y :: ys, z, h => by
    rcases List.mem_cons.1 h with e | h
    · exact .inr ⟨x, y, List.mem_cons_self, List.mem_cons_self, e⟩
    · rcases bnd_mem h with h | ⟨x2, y2, h1, h2, e⟩
      · exact .inl (List.mem_cons_of_mem _ h)
      · exact .inr ⟨x2, y2, List.mem_cons_of_mem _ h1, List.mem_cons_of_mem _ h2, e⟩
end
theorem flat_set {α : Type} {f : α → List Value} {sz : Nat} (hf : ∀ x, (f x).length = sz) {x x' : α} {v : Value} : ∀ {xs : List α} {i off : Nat}, xs[i]? = some x → off < sz → (f x).set off v = f x' → (xs.flatMap f).set (i * sz + off) v = (xs.set i x').flatMap f
  | [], _, _, h, _, _ => by simp at h
  | y :: r, 0, off, h, ho, he => by
    simp only [List.getElem?_cons_zero, Option.some.injEq] at h
    subst h
    rw [List.flatMap_cons, Nat.zero_mul, Nat.zero_add, List.set_append_left _ _ (by rw [hf]; exact ho), he]
    rfl
  | y :: r, i + 1, off, h, ho, he => by
    have h2 : r[i]? = some x := h
    rw [List.flatMap_cons, List.set_append_right _ _ (by rw [hf, Nat.succ_mul]; omega), hf, show (i + 1) * sz + off - sz = i * sz + off by rw [Nat.succ_mul]; omega, flat_set hf h2 ho he]
    rfl
def upR (x : RPsk) (y : RByl) : RPsk := (x.1, x.2.1, y, ())
def upP (x : PK) (y : Bs) : PK := (x.1, x.2.1, y)
theorem min_nat (a b : Nat) : (if (b : Int) < (a : Int) then (b : Int) else (a : Int)) = ((min a b : Nat) : Int) := by
  by_cases h : b < a
  · rw [if_pos (by omega), Nat.min_eq_right (by omega)]
  · rw [if_neg (by omega), Nat.min_eq_left (by omega)]

theorem psk11 (w : World) (br : Nat) (a : Option Addr) (c : Nat) (l : List UInt8) (s o : Bool) (i : InB w [.box br [.slice a (List.length l) c, .bool s, .bool o] 120] a c l) (hH : Heap w [.box br [.slice a (List.length l) c, .bool s, .bool o] 120]) : Calls Try.prog 167 #[pt br] w fun e w' => ∃ ta tc oa oc bl ag, e = .returned (.agg #[.slice oa (List.length bl) oc, uv32 ag, .slice none 0 0]) ∧ Ev w [.box br [.slice a (List.length l) c, .bool s, .bool o] 120] w' [.box br [.slice ta (List.length ((psk1M l s o).2.1)) tc, .bool ((psk1M l s o).2.2.1), .bool ((psk1M l s o).2.2.2)] 120, .vec oa oc 1 (bys bl) 5] ∧ Sub a c l ta tc (psk1M l s o).2.1 ∧ ((bl, ag, []) : PK) = (psk1M l s o).1 ∧ List.length bl ≤ 4294967296 := by
 refine d_0 [(0, pt br)] 11 Go.Proofs.Try.func167 Go.Proofs.Try.ntmps167 (hH) fun act0 En0 Hv0 => ?_
 refine wp_seq ?_
 refine region_from ?_
 refine f_o ?_
 refine m_z 140 [.slice none 0 0, .int .u32 0, .slice none 0 0] En0 Hv0 fun ac2 wo3 bk1 En4 Hv5 => ?_
 refine f_e ?_
 refine then_normal ?_
 refine wp_seq ?_
 refine region_from ?_
 refine d_k [0,2,4] [] 1 En4 fun ac6 En7 => ?_
 refine f_o ?_
 refine c_l [0] (M := [.box br [.slice a (List.length l) c, .bool s, .bool o] 120]) En7 Hv5 (fun hM15 => bytes2_go _ br a c l s o ((i.ev Hv5).pick [0] (by kernel_rfl)) hM15) ?_
 rintro _ wo16 ⟨ta8, tc9, oa12, oc13, bl14, rfl, he17, hs10, hpu11⟩
 refine ⟨_, _, [.box br [.slice ta8 (List.length ((listM 2 1 65535 l s o).2.1)) tc9, .bool ((listM 2 1 65535 l s o).2.2.1), .bool ((listM 2 1 65535 l s o).2.2.2)] 120, .vec oa12 oc13 1 (bys bl14) 5, .box bk1 [.slice none 0 0, .int .u32 0, .slice none 0 0] 140], rfl, he17, by kernel_rfl, fun ac19 En20 Hv21 => ?_⟩
 refine d_e [0,2,3] [] En20 fun ac22 En23 => ?_
 refine then_normal ?_
 refine wp_seq ?_
 refine region_from ?_
 refine d_k [0,2,6,7] [] 2 En23 fun ac24 En25 => ?_
 refine f_o ?_
 refine c_l [0] (M := [.box br [.slice ta8 (List.length ((listM 2 1 65535 l s o).2.1)) tc9, .bool ((listM 2 1 65535 l s o).2.2.1), .bool ((listM 2 1 65535 l s o).2.2.2)] 120]) En25 Hv21 (fun hM29 => number_go _ br 4 (by omega) ta8 tc9 ((listM 2 1 65535 l s o).2.1) ((listM 2 1 65535 l s o).2.2.1) ((listM 2 1 65535 l s o).2.2.2) (hs10 _ _ ((i.ev Hv21).pick [0] (by kernel_rfl))) hM29) ?_
 rintro _ wo30 ⟨ta26, tc27, rfl, he31, hs28⟩
 refine ⟨_, _, [.box br [.slice ta26 (List.length (tkR 4 ((listM 2 1 65535 l s o).2.1) ((listM 2 1 65535 l s o).2.2.1))) tc27, .bool (tkS 4 ((listM 2 1 65535 l s o).2.1) ((listM 2 1 65535 l s o).2.2.1)), .bool ((listM 2 1 65535 l s o).2.2.2)] 120, .vec oa12 oc13 1 (bys bl14) 5, .box bk1 [.slice none 0 0, .int .u32 0, .slice none 0 0] 140], rfl, he31, by kernel_rfl, fun ac33 En34 Hv35 => ?_⟩
 refine d_k [0,2,10] [(3, g_i .u32 (Go.Dbr.nat_to_u32 (a := ((nbV 4 ((listM 2 1 65535 l s o).2.1) ((listM 2 1 65535 l s o).2.2.1) : Nat) : Int)) (n := nbV 4 ((listM 2 1 65535 l s o).2.1) ((listM 2 1 65535 l s o).2.2.1)) rfl))] 5 En34 fun ac36 En37 => ?_
 refine f_o ?_
 refine m_g 2 0 3 [.slice oa12 (List.length bl14) oc13, .int .u32 ((UInt32.toNat (UInt32.ofNat (nbV 4 ((listM 2 1 65535 l s o).2.1) ((listM 2 1 65535 l s o).2.2.1))) : Nat) : Int), .slice none 0 0] [.slice oa12 (List.length bl14) oc13, .int .u32 ((UInt32.toNat (UInt32.ofNat (nbV 4 ((listM 2 1 65535 l s o).2.1) ((listM 2 1 65535 l s o).2.2.1))) : Nat) : Int), .slice none 0 0] [.box br [.slice ta26 (List.length (tkR 4 ((listM 2 1 65535 l s o).2.1) ((listM 2 1 65535 l s o).2.2.1))) tc27, .bool (tkS 4 ((listM 2 1 65535 l s o).2.1) ((listM 2 1 65535 l s o).2.2.1)), .bool ((listM 2 1 65535 l s o).2.2.2)] 120, .vec oa12 oc13 1 (bys bl14) 5, .box bk1 [.slice oa12 (List.length bl14) oc13, .int .u32 ((UInt32.toNat (UInt32.ofNat (nbV 4 ((listM 2 1 65535 l s o).2.1) ((listM 2 1 65535 l s o).2.2.1))) : Nat) : Int), .slice none 0 0] 140] En37 Hv35 rfl rfl (by simp) (one_all (by kernel_rfl)) rfl rfl fun ac38 wo39 En40 Hv41 => ?_
 refine f_e ?_
 refine then_normal ?_
 refine wp_ret ?_
 refine d_cell1 (v := .agg #[.slice oa12 (List.length bl14) oc13, .int .u32 ((UInt32.toNat (UInt32.ofNat (nbV 4 ((listM 2 1 65535 l s o).2.1) ((listM 2 1 65535 l s o).2.2.1))) : Nat) : Int), .slice none 0 0]) (t := 2) (T := 140) (ad := ⟨bk1, 0, none⟩) En40 (by kernel_rfl) (by kernel_rfl) (Ev.cellAgg (t := 140) (k := 2) (off := 0) (m := 3) (xs := [.slice oa12 (List.length bl14) oc13, .int .u32 ((UInt32.toNat (UInt32.ofNat (nbV 4 ((listM 2 1 65535 l s o).2.1) ((listM 2 1 65535 l s o).2.2.1))) : Nat) : Int), .slice none 0 0]) Hv41 rfl rfl rfl (by kernel_rfl) (by kernel_rfl)) ?_
 exact ⟨ta26, tc27, oa12, oc13, bl14, (UInt32.ofNat (nbV 4 ((listM 2 1 65535 l s o).2.1) ((listM 2 1 65535 l s o).2.2.1))), rfl, Hv41.pk [0, 1], (hs10.trans hs28), (by rw [hpu11]; rfl), (by rw [hpu11]; exact Nat.le_trans (Nat.le_of_succ_le (lsO_32 (by decide) _ _)) (by decide))⟩

theorem many_psk (w : World) (br : Nat) (n : Nat) (hn : n ≤ 4) (x : Nat) (hx : x ≤ 4294967295) (a : Option Addr) (c : Nat) (l : List UInt8) (s o : Bool) (i : InB w [.box br [.slice a (List.length l) c, .bool s, .bool o] 120] a c l) (hH : Heap w [.box br [.slice a (List.length l) c, .bool s, .bool o] 120]) : Calls Try.prog 166 #[pt br, ni n, ni x, .func (.func 167) #[] #[]] w fun e w' => ∃ ta tc oa oc xs, e = .returned (.slice oa (List.length xs) oc) ∧ Ev w [.box br [.slice a (List.length l) c, .bool s, .bool o] 120] w' [.box br [.slice ta (List.length (lsR n x 16777215 l s)) tc, .bool (lsS n x 16777215 l s || (mn psk1M ((lsO n x 16777215 l s, lsS n x 16777215 l s, false) : PS)).2.2.1), .bool (o || (mn psk1M ((lsO n x 16777215 l s, lsS n x 16777215 l s, false) : PS)).2.2.2)] 120, .vec oa oc 3 (List.flatMap fPsk xs) 140, .grp (List.flatMap innPsk xs)] ∧ Sub a c l ta tc (lsR n x 16777215 l s) ∧ List.map puPsk xs = (mn psk1M ((lsO n x 16777215 l s, lsS n x 16777215 l s, false) : PS)).1 ∧ List.length xs ≤ List.length (lsO n x 16777215 l s) + 1 ∧ ∀ y ∈ xs, (List.length y.1.l ≤ 140737488351232 ∧ List.length y.2.2.1.l ≤ 140737488351232) := by
 refine d_0 [(0, pt br), (1, ni n), (2, ni x), (3, .func (.func 167) #[] #[])] 69 Go.Proofs.Try.func166 Go.Proofs.Try.ntmps166 (hH) fun act0 En0 Hv0 => ?_
 refine d_s [0,1,2,3,8] [] En0 fun ac1 En2 => ?_
 refine wp_seq ?_
 refine region_from ?_
 refine d_k [0,3,8,12,13,14] [] 3 En2 fun ac3 En4 => ?_
 refine f_o ?_
 refine c_l [0] (M := [.box br [.slice a (List.length l) c, .bool s, .bool o] 120]) En4 Hv0 (fun hM10 => list_go _ br n (by omega) x 16777215 (by omega) (by omega) a c l s o ((i.ev Hv0).pick [0] (by kernel_rfl)) hM10) ?_
 rintro _ wo11 ⟨ao5, cp6, ta7, tc8, rfl, he12, hs9⟩
 refine ⟨_, _, [.box br [.slice ta7 (List.length (lsR n x 16777215 l s)) tc8, .bool (lsS n x 16777215 l s), .bool o] 120, .vec ao5 cp6 1 (bys (lsO n x 16777215 l s)) 5], rfl, he12, by kernel_rfl, fun ac14 En15 Hv16 => ?_⟩
 refine d_e [0,3,8,9] [] En15 fun ac17 En18 => ?_
 refine then_normal ?_
 refine wp_seq ?_
 refine region_from ?_
 refine d_k [0,3,8,16,19] [] 4 En18 fun ac19 En20 => ?_
 refine f_o ?_
 refine m_l 0 En20 Hv16 fun ac21 En22 => ?_
 refine d_k [0,3,8,21] [] 6 En22 fun ac23 En24 => ?_
 refine f_o ?_
 refine m_m 120 [.slice ao5 (List.length (lsO n x 16777215 l s)) cp6, .bool (lsS n x 16777215 l s), .bool false] En24 Hv16 fun ac26 wo27 bk25 En28 Hv29 => ?_
 refine d_e [0,3,8,10] [] En28 fun ac30 En31 => ?_
 refine then_normal ?_
 refine d_s [0,3,8,10,11] [] En31 fun ac32 En33 => ?_
 refine wp_seq ?_
 refine region_cut (F := fun ac wo => ∃ (oa : Option Addr) (oc : Nat) (xs : List (RPsk)) (ra : Option Addr) (rc : Nat) (rl : Bs) (s1 : Bool) (o1 : Bool), Env ac 69 [(0, pt br), (3, .func (.func 167) #[] #[]), (8, .slice none 0 0), (10, pt bk25), (11, .slice oa (List.length xs) oc)] ∧ Ev w [.box br [.slice a (List.length l) c, .bool s, .bool o] 120] wo [.box br [.slice ta7 (List.length (lsR n x 16777215 l s)) tc8, .bool (lsS n x 16777215 l s), .bool o] 120, .box bk25 [.slice ra (List.length rl) rc, .bool s1, .bool o1] 120, .vec oa oc 3 (List.flatMap fPsk xs) 140, .grp (List.flatMap innPsk xs)] ∧ (mn psk1M ((lsO n x 16777215 l s, lsS n x 16777215 l s, false) : PS) = (List.map puPsk xs, rl, s1, o1)) ∧ (List.length xs ≤ List.length (lsO n x 16777215 l s) + 1) ∧ (∀ y ∈ xs, (List.length y.1.l ≤ 140737488351232 ∧ List.length y.2.2.1.l ≤ 140737488351232))) ?_ ?_
 ·
  refine wp_block ?_
  have Hv34 : Ev w [.box br [.slice a (List.length l) c, .bool s, .bool o] 120] wo27 [.box br [.slice ta7 (List.length (lsR n x 16777215 l s)) tc8, .bool (lsS n x 16777215 l s), .bool o] 120, .vec ao5 cp6 1 (bys (lsO n x 16777215 l s)) 5, .box bk25 [.slice ao5 (List.length (lsO n x 16777215 l s)) cp6, .bool (lsS n x 16777215 l s), .bool false] 120, .vec none 0 3 (List.flatMap fPsk []) 140] := Ev.nil (sz := 3) (T := 140) Hv29
  have Hv35 : Ev w [.box br [.slice a (List.length l) c, .bool s, .bool o] 120] wo27 [.box br [.slice ta7 (List.length (lsR n x 16777215 l s)) tc8, .bool (lsS n x 16777215 l s), .bool o] 120, .vec ao5 cp6 1 (bys (lsO n x 16777215 l s)) 5, .box bk25 [.slice ao5 (List.length (lsO n x 16777215 l s)) cp6, .bool (lsS n x 16777215 l s), .bool false] 120, .vec none 0 3 (List.flatMap fPsk []) 140, .grp (List.flatMap innPsk [])] := Ev.grp0 Hv34
  have hO32 : List.length (lsO n x 16777215 l s) ≤ 4294967295 := Nat.le_trans (tkO_len _ _ _) (Nat.le_of_lt_succ (nbV_4 hn l s))
  refine loop_m (fun ms36 ac wo => ∃ (oa : Option Addr) (oc : Nat) (xs : List (RPsk)) (ra : Option Addr) (rc : Nat) (rl : Bs) (s1 : Bool) (o1 : Bool), ms36 = (bif s1 then 0 else List.length rl + 1 : Nat) ∧ Env ac 69 [(0, pt br), (3, .func (.func 167) #[] #[]), (8, .slice none 0 0), (10, pt bk25), (11, .slice oa (List.length xs) oc)] ∧ Ev w [.box br [.slice a (List.length l) c, .bool s, .bool o] 120] wo [.box bk25 [.slice ra (List.length rl) rc, .bool s1, .bool o1] 120, .box br [.slice ta7 (List.length (lsR n x 16777215 l s)) tc8, .bool (lsS n x 16777215 l s), .bool o] 120, .vec ao5 cp6 1 (bys (lsO n x 16777215 l s)) 5, .vec oa oc 3 (List.flatMap fPsk xs) 140, .grp (List.flatMap innPsk xs)] ∧ (Sub ao5 cp6 (lsO n x 16777215 l s) ra rc rl) ∧ (mn psk1M ((lsO n x 16777215 l s, lsS n x 16777215 l s, false) : PS) = (List.map puPsk xs ++ (mn psk1M (rl, s1, o1)).1, (mn psk1M (rl, s1, o1)).2)) ∧ (List.length xs + List.length rl ≤ List.length (lsO n x 16777215 l s) + (bif s1 then 1 else 0)) ∧ (∀ y ∈ xs, (List.length y.1.l ≤ 140737488351232 ∧ List.length y.2.2.1.l ≤ 140737488351232))) ⟨_, none, 0, [], ao5, cp6, (lsO n x 16777215 l s), (lsS n x 16777215 l s), false, rfl, En33.sb, Hv35.pk [2, 0, 1, 3, 4], Sub.self, rfl, (by rw [List.length_nil, Nat.zero_add]; exact Nat.le_add_right _ _), (fun y hy => by cases hy)⟩ ?_
  rintro mm42 ac38 wo39 ⟨oa, oc, xs, ra, rc, rl, s1, o1, rfl, En40, Hv41, hsu, hmn, hct, hsm⟩
  refine wp_seq ?_
  refine wp_seq ?_
  refine region_from ?_
  refine d_k [0,3,8,10,11,25] [] 3 En40 fun ac43 En44 => ?_
  refine f_o ?_
  refine m_l 0 En44 Hv41 fun ac45 En46 => ?_
  refine d_k [0,3,8,10,11,28] [] 6 En46 fun ac47 En48 => ?_
  rcases Bool.eq_false_or_eq_true (!s1) with hb49 | hb49
  ·
   have En50 := En48.fx (t := 28) (congrArg Value.bool hb49)
   have hp51 : ¬ (s1 = true) := by simpa using hb49
   refine d_k [0,3,8,10,11,28,31] [] 9 En50 fun ac52 En53 => ?_
   refine f_o ?_
   refine m_l 0 En53 Hv41 fun ac54 En55 => ?_
   refine d_e [0,3,8,10,11,35] [] En55 fun ac56 En57 => ?_
   refine then_normal ?_
   refine c_d (((List.length rl : Nat) : Int) > (0 : Int)) En57 (fun hc58 => ?_) (fun hc58 => ?_)
   ·
    refine wp_skip ?_
    refine then_normal ?_
    refine wp_block ?_
    refine region_from ?_
    refine d_k [0,3,8,10,11,36,37,38] [] 3 En57 fun ac59 En60 => ?_
    refine f_o ?_
    refine c_l [0] (M := [.box bk25 [.slice ra (List.length rl) rc, .bool s1, .bool o1] 120]) En60 Hv41 (fun hM70 => psk11 _ bk25 ra rc rl s1 o1 (hsu _ _ (bys_in Hv41.heap (k := 2) rfl [0] (by kernel_rfl) rfl (by first | omega | (simp; done) | (simp; omega)))) hM70) ?_
    rintro _ wo71 ⟨ta61, tc62, oa65, oc66, bl67, ag68, rfl, he72, hs63, hpu64, hf69⟩
    refine ⟨_, _, [.box bk25 [.slice ta61 (List.length ((psk1M rl s1 o1).2.1)) tc62, .bool ((psk1M rl s1 o1).2.2.1), .bool ((psk1M rl s1 o1).2.2.2)] 120, .vec oa65 oc66 1 (bys bl67) 5, .box br [.slice ta7 (List.length (lsR n x 16777215 l s)) tc8, .bool (lsS n x 16777215 l s), .bool o] 120, .vec ao5 cp6 1 (bys (lsO n x 16777215 l s)) 5, .vec oa oc 3 (List.flatMap fPsk xs) 140, .grp (List.flatMap innPsk xs)], rfl, he72, by kernel_rfl, fun ac74 En75 Hv76 => ?_⟩
    refine f_o ?_
    refine op_lit (d := some 40) (t := 35) (T := 140) (m := 1) (parts := #[(0, .agg #[.slice oa65 (List.length bl67) oc66, uv32 ag68, .slice none 0 0])]) (xs := List.flatMap fPsk ([(⟨oa65, oc66, bl67⟩, ag68, ⟨none, 0, []⟩, ())] : List (RPsk))) (sz := 3) En75 (by kernel_rfl) (by kernel_rfl) rfl (by decide) Hv76 ?_
    intro ac78 wo79 bk77 En80 Hv81
    refine f_o ?_
    refine op_append (d := some 41) (t := 35) (tx := 35) (ty := 35) (k := 4) (p := List.length xs) (m := 1) (x := .slice (some ⟨bk77, 0, none⟩) 1 1) (bytes := 56) En80 (by kernel_rfl) Hv81 rfl (sv_len (f := fPsk) (sz := 3) (fun _ => rfl) _) (Reads.src (size := 3) (tx := 35) (e' := 140) (by kernel_rfl) (Hv81.heap.reads (k := 6) rfl) rfl (fun e => by cases e) (flat_one (f := fPsk) (fun _ => one_all rfl) _)) (by kernel_rfl) (z := .agg #[.slice none 0 0, .int .u32 0, .slice none 0 0]) (by kernel_rfl) rfl (by decide) (by have hb1 := mn_b1 s1; omega) (by unfold maxLen; have hb1 := mn_b1 s1; omega) ?_
    intro ac86 wo87 ao82 cp83 En88 Hv89 hnz _
    clear hnz
    rw [← List.flatMap_append] at Hv89
    have ehz84 : (List.length xs) + 1 = List.length (xs ++ ([(⟨oa65, oc66, bl67⟩, ag68, ⟨none, 0, []⟩, ())] : List (RPsk))) := (by first | (simp; done) | (simp; omega) | omega)
    rw [ehz84] at En88
    refine d_e [0,3,8,10,11] [] En88 fun ac90 En91 => ?_
    have Hv92 : Ev w [.box br [.slice a (List.length l) c, .bool s, .bool o] 120] wo87 [.box bk25 [.slice ta61 (List.length ((psk1M rl s1 o1).2.1)) tc62, .bool ((psk1M rl s1 o1).2.2.1), .bool ((psk1M rl s1 o1).2.2.2)] 120, .vec oa65 oc66 1 (bys bl67) 5, .box br [.slice ta7 (List.length (lsR n x 16777215 l s)) tc8, .bool (lsS n x 16777215 l s), .bool o] 120, .vec ao5 cp6 1 (bys (lsO n x 16777215 l s)) 5, .vec ao82 cp83 3 (List.flatMap fPsk (xs ++ ([(⟨oa65, oc66, bl67⟩, ag68, ⟨none, 0, []⟩, ())] : List (RPsk)))) 140, .grp (List.flatMap innPsk xs), .vec (some ⟨bk77, 0, none⟩) 1 3 (List.flatMap fPsk ([(⟨oa65, oc66, bl67⟩, ag68, ⟨none, 0, []⟩, ())] : List (RPsk))) 140, .vec none 0 1 (bys []) 5] := Ev.nil (sz := 1) (T := 5) Hv89
    have Hv93 : Ev w [.box br [.slice a (List.length l) c, .bool s, .bool o] 120] wo87 [.box bk25 [.slice ta61 (List.length ((psk1M rl s1 o1).2.1)) tc62, .bool ((psk1M rl s1 o1).2.2.1), .bool ((psk1M rl s1 o1).2.2.2)] 120, .box br [.slice ta7 (List.length (lsR n x 16777215 l s)) tc8, .bool (lsS n x 16777215 l s), .bool o] 120, .vec ao5 cp6 1 (bys (lsO n x 16777215 l s)) 5, .vec ao82 cp83 3 (List.flatMap fPsk (xs ++ ([(⟨oa65, oc66, bl67⟩, ag68, ⟨none, 0, []⟩, ())] : List (RPsk)))) 140, .vec (some ⟨bk77, 0, none⟩) 1 3 (List.flatMap fPsk ([(⟨oa65, oc66, bl67⟩, ag68, ⟨none, 0, []⟩, ())] : List (RPsk))) 140, .grp (List.flatMap innPsk (xs ++ ([(⟨oa65, oc66, bl67⟩, ag68, ⟨none, 0, []⟩, ())] : List (RPsk))))] := Ev.group (M := [.box bk25 [.slice ta61 (List.length ((psk1M rl s1 o1).2.1)) tc62, .bool ((psk1M rl s1 o1).2.2.1), .bool ((psk1M rl s1 o1).2.2.2)] 120, .box br [.slice ta7 (List.length (lsR n x 16777215 l s)) tc8, .bool (lsS n x 16777215 l s), .bool o] 120, .vec ao5 cp6 1 (bys (lsO n x 16777215 l s)) 5, .vec ao82 cp83 3 (List.flatMap fPsk (xs ++ ([(⟨oa65, oc66, bl67⟩, ag68, ⟨none, 0, []⟩, ())] : List (RPsk)))) 140, .vec (some ⟨bk77, 0, none⟩) 1 3 (List.flatMap fPsk ([(⟨oa65, oc66, bl67⟩, ag68, ⟨none, 0, []⟩, ())] : List (RPsk))) 140]) Hv92 [0,2,3,4,6] [5,1,7] (by kernel_rfl) (by rw [List.flatMap_append]; rfl) (by decide)
    refine block_normal ?_
    refine then_normal ?_
    have hl0 : 0 < List.length rl := by omega
    refine ⟨_, ⟨ao82, cp83, (xs ++ ([(⟨oa65, oc66, bl67⟩, ag68, ⟨none, 0, []⟩, ())] : List (RPsk))), ta61, tc62, ((psk1M rl s1 o1).2.1), ((psk1M rl s1 o1).2.2.1), ((psk1M rl s1 o1).2.2.2), rfl, En91.sb, Hv93.pk [0, 1, 2, 3, 5], (hsu.trans hs63), (by rw [hmn, mn_step psk1_dec (Bool.eq_false_iff.2 hp51) hl0, ← hpu64, List.map_append, List.append_assoc]; rfl), (mn_ct (Bool.eq_false_iff.2 hp51) hct (dec_lt (o := o1) psk1_dec (Bool.eq_false_iff.2 hp51) hl0) (dec_le (o := o1) psk1_dec (Bool.eq_false_iff.2 hp51)) hl0), (all_snoc hsm ⟨Nat.le_trans hf69 (by decide), Nat.zero_le _⟩)⟩, ?_⟩
    exact mn_mu (Bool.eq_false_iff.2 hp51) hl0 (dec_lt (o := o1) psk1_dec (Bool.eq_false_iff.2 hp51) hl0)
   ·
    refine wp_exit ?_
    refine then_exit ?_
    refine then_exit ?_
    refine block_exit ?_
    exact ⟨rfl, ⟨oa, oc, xs, ra, rc, rl, s1, o1, En57.sb, Hv41.pk [1, 0, 3, 4], (by rw [hmn, mn_end (p := (rl, s1, o1)) (by first | exact .inl (by assumption) | exact .inr (show rl = [] from List.length_eq_zero_iff.1 (by omega))), List.append_nil]), (mn_c1 hct), hsm⟩⟩
  ·
   have En94 := En48.fx (t := 28) (congrArg Value.bool hb49)
   have hp95 : s1 = true := by simpa using hb49
   refine d_e [0,3,8,10,11,35] [] En94 fun ac96 En97 => ?_
   refine then_normal ?_
   refine c_f En97 ?_
   refine wp_exit ?_
   refine then_exit ?_
   refine then_exit ?_
   refine block_exit ?_
   exact ⟨rfl, ⟨oa, oc, xs, ra, rc, rl, s1, o1, En97.sb, Hv41.pk [1, 0, 3, 4], (by rw [hmn, mn_end (p := (rl, s1, o1)) (by first | exact .inl (by assumption) | exact .inr (show rl = [] from List.length_eq_zero_iff.1 (by omega))), List.append_nil]), (mn_c1 hct), hsm⟩⟩
 ·
  rintro ac98 wo99 ⟨oa, oc, xs, ra, rc, rl, s1, o1, En100, Hv101, hmn, hct, hsm⟩
  refine then_normal ?_
  refine wp_seq ?_
  rcases Bool.eq_false_or_eq_true (lsS n x 16777215 l s) with hb102 | hb102
  ·
   have hb102p : lsS n x 16777215 l s = true := hb102
   rcases Bool.eq_false_or_eq_true (o) with hb103 | hb103
   ·
    have hb103p : o = true := hb103
    refine r_c (fun ac wo => Env ac 69 [(0, pt br), (3, .func (.func 167) #[] #[]), (8, .slice none 0 0), (10, pt bk25), (11, .slice oa (List.length xs) oc)] ∧ Ev w [.box br [.slice a (List.length l) c, .bool s, .bool o] 120] wo [.box br [.slice ta7 (List.length (lsR n x 16777215 l s)) tc8, .bool true, .bool true] 120, .box bk25 [.slice ra (List.length rl) rc, .bool s1, .bool o1] 120, .vec oa oc 3 (List.flatMap fPsk xs) 140, .grp (List.flatMap innPsk xs)]) ?_ ?_
    ·
     refine h_s (fun wv => Ev w [.box br [.slice a (List.length l) c, .bool s, .bool o] 120] wv [.box br [.slice ta7 (List.length (lsR n x 16777215 l s)) tc8, .bool (lsS n x 16777215 l s), .bool o] 120]) [24] 28 ?_
     have wo104 := Hv101.trans (Ev.drew Hv101.heap)
     refine q_s [0,1,2,3,4] [] 23 En100 (wo104.pk [0]) fun ac185 En186 => ?_
     refine q_l 0 5 En186 (wo104.pk [0]) fun ac187 En188 => ?_
     refine q_s [6] [] 21 En188 (wo104.pk [0]) fun ac189 En190 => ?_
     have En191 := En190.fx (t := 47) (congrArg Value.bool hb102)
     have En192 := En191.fx (t := 48) (congrArg Value.bool hb102)
     refine q_s [7,8,9,10,11,12,13,14] [] 13 En192 (wo104.pk [0]) fun ac193 En194 => ?_
     refine q_l 0 15 En194 (wo104.pk [0]) fun ac195 En196 => ?_
     refine q_s [16] [] 11 En196 (wo104.pk [0]) fun ac197 En198 => ?_
     have En199 := En198.fx (t := 57) (congrArg Value.bool hb103)
     have En200 := En199.fx (t := 58) (congrArg Value.bool hb103)
     refine q_s [17,18,19,20,21,22,23] [] 4 En200 (wo104.pk [0]) fun ac201 En202 => ?_
     refine q_t 24 ?_
     refine m_s 0 [.box br [.slice ta7 (List.length (lsR n x 16777215 l s)) tc8, .bool true, .bool o] 120, .box bk25 [.slice ra (List.length rl) rc, .bool s1, .bool o1] 120, .vec oa oc 3 (List.flatMap fPsk xs) 140, .grp (List.flatMap innPsk xs)] En202 wo104 fun ac203 wo204 En205 Hv206 => ?_
     refine ⟨q_y, ?_⟩
     refine q_n [25,26] [] 1 En205 fun ac207 En208 => ?_
     refine q_t 27 ?_
     refine m_s 0 [.box br [.slice ta7 (List.length (lsR n x 16777215 l s)) tc8, .bool true, .bool true] 120, .box bk25 [.slice ra (List.length rl) rc, .bool s1, .bool o1] 120, .vec oa oc 3 (List.flatMap fPsk xs) 140, .grp (List.flatMap innPsk xs)] En208 Hv206 fun ac209 wo210 En211 Hv212 => ?_
     refine ⟨q_y, ?_⟩
     exact h_e ⟨En211.sb, Hv212.pk [0, 1, 2, 3]⟩
    rintro ac213 wo214 ⟨En215, Hv216⟩
    refine then_normal ?_
    refine d_s [0,3,8,10,11] [] En215 fun ac217 En218 => ?_
    refine wp_ret ?_
    refine d_ret1 (t := 8) (v := .slice oa (List.length xs) oc) En218 (by kernel_rfl) (by kernel_rfl) ?_
    have e1 : (lsS n x 16777215 l s || s1) = true := by rw [hb102]; rfl
    have e2 : (o || o1) = true := by rw [hb103]; rfl
    have hfin : Ev w [.box br [.slice a (List.length l) c, .bool s, .bool o] 120] wo214 [.box br [.slice ta7 (List.length (lsR n x 16777215 l s)) tc8, .bool (lsS n x 16777215 l s || s1), .bool (o || o1)] 120, .vec oa oc 3 (List.flatMap fPsk xs) 140, .grp (List.flatMap innPsk xs)] := by rw [e1, e2]; exact Hv216.pk [0, 2, 3]
    exact ⟨ta7, tc8, oa, oc, xs, rfl, by rw [hmn]; exact hfin, hs9, by rw [hmn], hct, hsm⟩
   ·
    have hb103p : ¬ (o = true) := Bool.eq_false_iff.1 hb103
    refine r_c (fun ac wo => Env ac 69 [(0, pt br), (3, .func (.func 167) #[] #[]), (8, .slice none 0 0), (10, pt bk25), (11, .slice oa (List.length xs) oc)] ∧ Ev w [.box br [.slice a (List.length l) c, .bool s, .bool o] 120] wo [.box br [.slice ta7 (List.length (lsR n x 16777215 l s)) tc8, .bool true, .bool o1] 120, .box bk25 [.slice ra (List.length rl) rc, .bool s1, .bool o1] 120, .vec oa oc 3 (List.flatMap fPsk xs) 140, .grp (List.flatMap innPsk xs)]) ?_ ?_
    ·
     refine h_s (fun wv => Ev w [.box br [.slice a (List.length l) c, .bool s, .bool o] 120] wv [.box br [.slice ta7 (List.length (lsR n x 16777215 l s)) tc8, .bool (lsS n x 16777215 l s), .bool o] 120, .box bk25 [.slice ra (List.length rl) rc, .bool s1, .bool o1] 120]) [24] 28 ?_
     have wo219 := Hv101.trans (Ev.drew Hv101.heap)
     refine q_s [0,1,2,3,4] [] 23 En100 (wo219.pk [0, 1]) fun ac312 En313 => ?_
     refine q_l 0 5 En313 (wo219.pk [0, 1]) fun ac314 En315 => ?_
     refine q_s [6] [] 21 En315 (wo219.pk [0, 1]) fun ac316 En317 => ?_
     have En318 := En317.fx (t := 47) (congrArg Value.bool hb102)
     have En319 := En318.fx (t := 48) (congrArg Value.bool hb102)
     refine q_s [7,8,9,10,11,12,13,14] [] 13 En319 (wo219.pk [0, 1]) fun ac320 En321 => ?_
     refine q_l 0 15 En321 (wo219.pk [0, 1]) fun ac322 En323 => ?_
     refine q_s [16] [] 11 En323 (wo219.pk [0, 1]) fun ac324 En325 => ?_
     have En326 := En325.fx (t := 57) (congrArg Value.bool hb103)
     have En327 := En326.fx (t := 58) (congrArg Value.bool hb103)
     refine q_s [17,18,19] [] 8 En327 (wo219.pk [0, 1]) fun ac328 En329 => ?_
     refine q_l 1 20 En329 (wo219.pk [0, 1]) fun ac330 En331 => ?_
     refine q_s [21,22,23] [] 4 En331 (wo219.pk [0, 1]) fun ac332 En333 => ?_
     refine q_t 24 ?_
     refine m_s 0 [.box br [.slice ta7 (List.length (lsR n x 16777215 l s)) tc8, .bool true, .bool o] 120, .box bk25 [.slice ra (List.length rl) rc, .bool s1, .bool o1] 120, .vec oa oc 3 (List.flatMap fPsk xs) 140, .grp (List.flatMap innPsk xs)] En333 wo219 fun ac334 wo335 En336 Hv337 => ?_
     refine ⟨q_y, ?_⟩
     refine q_n [25,26] [] 1 En336 fun ac338 En339 => ?_
     refine q_t 27 ?_
     refine m_s 0 [.box br [.slice ta7 (List.length (lsR n x 16777215 l s)) tc8, .bool true, .bool o1] 120, .box bk25 [.slice ra (List.length rl) rc, .bool s1, .bool o1] 120, .vec oa oc 3 (List.flatMap fPsk xs) 140, .grp (List.flatMap innPsk xs)] En339 Hv337 fun ac340 wo341 En342 Hv343 => ?_
     refine ⟨q_y, ?_⟩
     exact h_e ⟨En342.sb, Hv343.pk [0, 1, 2, 3]⟩
    rintro ac344 wo345 ⟨En346, Hv347⟩
    refine then_normal ?_
    refine d_s [0,3,8,10,11] [] En346 fun ac348 En349 => ?_
    refine wp_ret ?_
    refine d_ret1 (t := 8) (v := .slice oa (List.length xs) oc) En349 (by kernel_rfl) (by kernel_rfl) ?_
    have e1 : (lsS n x 16777215 l s || s1) = true := by rw [hb102]; rfl
    have e2 : (o || o1) = o1 := by rw [hb103]; rfl
    have hfin : Ev w [.box br [.slice a (List.length l) c, .bool s, .bool o] 120] wo345 [.box br [.slice ta7 (List.length (lsR n x 16777215 l s)) tc8, .bool (lsS n x 16777215 l s || s1), .bool (o || o1)] 120, .vec oa oc 3 (List.flatMap fPsk xs) 140, .grp (List.flatMap innPsk xs)] := by rw [e1, e2]; exact Hv347.pk [0, 2, 3]
    exact ⟨ta7, tc8, oa, oc, xs, rfl, by rw [hmn]; exact hfin, hs9, by rw [hmn], hct, hsm⟩
  ·
   have hb102p : ¬ (lsS n x 16777215 l s = true) := Bool.eq_false_iff.1 hb102
   rcases Bool.eq_false_or_eq_true (o) with hb350 | hb350
   ·
    have hb350p : o = true := hb350
    refine r_c (fun ac wo => Env ac 69 [(0, pt br), (3, .func (.func 167) #[] #[]), (8, .slice none 0 0), (10, pt bk25), (11, .slice oa (List.length xs) oc)] ∧ Ev w [.box br [.slice a (List.length l) c, .bool s, .bool o] 120] wo [.box br [.slice ta7 (List.length (lsR n x 16777215 l s)) tc8, .bool s1, .bool true] 120, .box bk25 [.slice ra (List.length rl) rc, .bool s1, .bool o1] 120, .vec oa oc 3 (List.flatMap fPsk xs) 140, .grp (List.flatMap innPsk xs)]) ?_ ?_
    ·
     refine h_s (fun wv => Ev w [.box br [.slice a (List.length l) c, .bool s, .bool o] 120] wv [.box br [.slice ta7 (List.length (lsR n x 16777215 l s)) tc8, .bool (lsS n x 16777215 l s), .bool o] 120, .box bk25 [.slice ra (List.length rl) rc, .bool s1, .bool o1] 120]) [24] 28 ?_
     have wo351 := Hv101.trans (Ev.drew Hv101.heap)
     refine q_s [0,1,2,3,4] [] 23 En100 (wo351.pk [0, 1]) fun ac466 En467 => ?_
     refine q_l 0 5 En467 (wo351.pk [0, 1]) fun ac468 En469 => ?_
     refine q_s [6] [] 21 En469 (wo351.pk [0, 1]) fun ac470 En471 => ?_
     have En472 := En471.fx (t := 47) (congrArg Value.bool hb102)
     have En473 := En472.fx (t := 48) (congrArg Value.bool hb102)
     refine q_s [7,8,9] [] 18 En473 (wo351.pk [0, 1]) fun ac474 En475 => ?_
     refine q_l 1 10 En475 (wo351.pk [0, 1]) fun ac476 En477 => ?_
     refine q_s [11,12,13,14] [] 13 En477 (wo351.pk [0, 1]) fun ac478 En479 => ?_
     refine q_l 0 15 En479 (wo351.pk [0, 1]) fun ac480 En481 => ?_
     refine q_s [16] [] 11 En481 (wo351.pk [0, 1]) fun ac482 En483 => ?_
     have En484 := En483.fx (t := 57) (congrArg Value.bool hb350)
     have En485 := En484.fx (t := 58) (congrArg Value.bool hb350)
     refine q_s [17,18,19,20,21,22,23] [] 4 En485 (wo351.pk [0, 1]) fun ac486 En487 => ?_
     refine q_t 24 ?_
     refine m_s 0 [.box br [.slice ta7 (List.length (lsR n x 16777215 l s)) tc8, .bool s1, .bool o] 120, .box bk25 [.slice ra (List.length rl) rc, .bool s1, .bool o1] 120, .vec oa oc 3 (List.flatMap fPsk xs) 140, .grp (List.flatMap innPsk xs)] En487 wo351 fun ac488 wo489 En490 Hv491 => ?_
     refine ⟨q_y, ?_⟩
     refine q_n [25,26] [] 1 En490 fun ac492 En493 => ?_
     refine q_t 27 ?_
     refine m_s 0 [.box br [.slice ta7 (List.length (lsR n x 16777215 l s)) tc8, .bool s1, .bool true] 120, .box bk25 [.slice ra (List.length rl) rc, .bool s1, .bool o1] 120, .vec oa oc 3 (List.flatMap fPsk xs) 140, .grp (List.flatMap innPsk xs)] En493 Hv491 fun ac494 wo495 En496 Hv497 => ?_
     refine ⟨q_y, ?_⟩
     exact h_e ⟨En496.sb, Hv497.pk [0, 1, 2, 3]⟩
    rintro ac498 wo499 ⟨En500, Hv501⟩
    refine then_normal ?_
    refine d_s [0,3,8,10,11] [] En500 fun ac502 En503 => ?_
    refine wp_ret ?_
    refine d_ret1 (t := 8) (v := .slice oa (List.length xs) oc) En503 (by kernel_rfl) (by kernel_rfl) ?_
    have e1 : (lsS n x 16777215 l s || s1) = s1 := by rw [hb102]; rfl
    have e2 : (o || o1) = true := by rw [hb350]; rfl
    have hfin : Ev w [.box br [.slice a (List.length l) c, .bool s, .bool o] 120] wo499 [.box br [.slice ta7 (List.length (lsR n x 16777215 l s)) tc8, .bool (lsS n x 16777215 l s || s1), .bool (o || o1)] 120, .vec oa oc 3 (List.flatMap fPsk xs) 140, .grp (List.flatMap innPsk xs)] := by rw [e1, e2]; exact Hv501.pk [0, 2, 3]
    exact ⟨ta7, tc8, oa, oc, xs, rfl, by rw [hmn]; exact hfin, hs9, by rw [hmn], hct, hsm⟩
   ·
    have hb350p : ¬ (o = true) := Bool.eq_false_iff.1 hb350
    refine r_c (fun ac wo => Env ac 69 [(0, pt br), (3, .func (.func 167) #[] #[]), (8, .slice none 0 0), (10, pt bk25), (11, .slice oa (List.length xs) oc)] ∧ Ev w [.box br [.slice a (List.length l) c, .bool s, .bool o] 120] wo [.box br [.slice ta7 (List.length (lsR n x 16777215 l s)) tc8, .bool s1, .bool o1] 120, .box bk25 [.slice ra (List.length rl) rc, .bool s1, .bool o1] 120, .vec oa oc 3 (List.flatMap fPsk xs) 140, .grp (List.flatMap innPsk xs)]) ?_ ?_
    ·
     refine h_s (fun wv => Ev w [.box br [.slice a (List.length l) c, .bool s, .bool o] 120] wv [.box br [.slice ta7 (List.length (lsR n x 16777215 l s)) tc8, .bool (lsS n x 16777215 l s), .bool o] 120, .box bk25 [.slice ra (List.length rl) rc, .bool s1, .bool o1] 120]) [24] 28 ?_
     have wo504 := Hv101.trans (Ev.drew Hv101.heap)
     refine q_s [0,1,2,3,4] [] 23 En100 (wo504.pk [0, 1]) fun ac639 En640 => ?_
     refine q_l 0 5 En640 (wo504.pk [0, 1]) fun ac641 En642 => ?_
     refine q_s [6] [] 21 En642 (wo504.pk [0, 1]) fun ac643 En644 => ?_
     have En645 := En644.fx (t := 47) (congrArg Value.bool hb102)
     have En646 := En645.fx (t := 48) (congrArg Value.bool hb102)
     refine q_s [7,8,9] [] 18 En646 (wo504.pk [0, 1]) fun ac647 En648 => ?_
     refine q_l 1 10 En648 (wo504.pk [0, 1]) fun ac649 En650 => ?_
     refine q_s [11,12,13,14] [] 13 En650 (wo504.pk [0, 1]) fun ac651 En652 => ?_
     refine q_l 0 15 En652 (wo504.pk [0, 1]) fun ac653 En654 => ?_
     refine q_s [16] [] 11 En654 (wo504.pk [0, 1]) fun ac655 En656 => ?_
     have En657 := En656.fx (t := 57) (congrArg Value.bool hb350)
     have En658 := En657.fx (t := 58) (congrArg Value.bool hb350)
     refine q_s [17,18,19] [] 8 En658 (wo504.pk [0, 1]) fun ac659 En660 => ?_
     refine q_l 1 20 En660 (wo504.pk [0, 1]) fun ac661 En662 => ?_
     refine q_s [21,22,23] [] 4 En662 (wo504.pk [0, 1]) fun ac663 En664 => ?_
     refine q_t 24 ?_
     refine m_s 0 [.box br [.slice ta7 (List.length (lsR n x 16777215 l s)) tc8, .bool s1, .bool o] 120, .box bk25 [.slice ra (List.length rl) rc, .bool s1, .bool o1] 120, .vec oa oc 3 (List.flatMap fPsk xs) 140, .grp (List.flatMap innPsk xs)] En664 wo504 fun ac665 wo666 En667 Hv668 => ?_
     refine ⟨q_y, ?_⟩
     refine q_n [25,26] [] 1 En667 fun ac669 En670 => ?_
     refine q_t 27 ?_
     refine m_s 0 [.box br [.slice ta7 (List.length (lsR n x 16777215 l s)) tc8, .bool s1, .bool o1] 120, .box bk25 [.slice ra (List.length rl) rc, .bool s1, .bool o1] 120, .vec oa oc 3 (List.flatMap fPsk xs) 140, .grp (List.flatMap innPsk xs)] En670 Hv668 fun ac671 wo672 En673 Hv674 => ?_
     refine ⟨q_y, ?_⟩
     exact h_e ⟨En673.sb, Hv674.pk [0, 1, 2, 3]⟩
    rintro ac675 wo676 ⟨En677, Hv678⟩
    refine then_normal ?_
    refine d_s [0,3,8,10,11] [] En677 fun ac679 En680 => ?_
    refine wp_ret ?_
    refine d_ret1 (t := 8) (v := .slice oa (List.length xs) oc) En680 (by kernel_rfl) (by kernel_rfl) ?_
    have e1 : (lsS n x 16777215 l s || s1) = s1 := by rw [hb102]; rfl
    have e2 : (o || o1) = o1 := by rw [hb350]; rfl
    have hfin : Ev w [.box br [.slice a (List.length l) c, .bool s, .bool o] 120] wo676 [.box br [.slice ta7 (List.length (lsR n x 16777215 l s)) tc8, .bool (lsS n x 16777215 l s || s1), .bool (o || o1)] 120, .vec oa oc 3 (List.flatMap fPsk xs) 140, .grp (List.flatMap innPsk xs)] := by rw [e1, e2]; exact Hv678.pk [0, 2, 3]
    exact ⟨ta7, tc8, oa, oc, xs, rfl, by rw [hmn]; exact hfin, hs9, by rw [hmn], hct, hsm⟩

theorem psk12 (w : World) (br : Nat) (a : Option Addr) (c : Nat) (l : List UInt8) (s o : Bool) (i : InB w [.box br [.slice a (List.length l) c, .bool s, .bool o] 120] a c l) (hH : Heap w [.box br [.slice a (List.length l) c, .bool s, .bool o] 120]) : Calls Try.prog 169 #[pt br] w fun e w' => ∃ ta tc oa oc bl, e = .returned (.slice oa (List.length bl) oc) ∧ Ev w [.box br [.slice a (List.length l) c, .bool s, .bool o] 120] w' [.box br [.slice ta (List.length ((listM 1 32 255 l s o).2.1)) tc, .bool ((listM 1 32 255 l s o).2.2.1), .bool ((listM 1 32 255 l s o).2.2.2)] 120, .vec oa oc 1 (bys bl) 5] ∧ Sub a c l ta tc (listM 1 32 255 l s o).2.1 ∧ bl = (listM 1 32 255 l s o).1 := by
 refine d_0 [(0, pt br)] 5 Go.Proofs.Try.func169 Go.Proofs.Try.ntmps169 (hH) fun act0 En0 Hv0 => ?_
 refine d_s [0,2] [] En0 fun ac1 En2 => ?_
 refine wp_seq ?_
 refine region_from ?_
 refine d_k [2,3] [] 1 En2 fun ac3 En4 => ?_
 refine f_o ?_
 refine c_l [0] (M := [.box br [.slice a (List.length l) c, .bool s, .bool o] 120]) En4 Hv0 (fun hM10 => list_go _ br 1 (by omega) 32 255 (by omega) (by omega) a c l s o ((i.ev Hv0).pick [0] (by kernel_rfl)) hM10) ?_
 rintro _ wo11 ⟨ao5, cp6, ta7, tc8, rfl, he12, hs9⟩
 refine ⟨_, _, [.box br [.slice ta7 (List.length (lsR 1 32 255 l s)) tc8, .bool (lsS 1 32 255 l s), .bool o] 120, .vec ao5 cp6 1 (bys (lsO 1 32 255 l s)) 5], rfl, he12, by kernel_rfl, fun ac14 En15 Hv16 => ?_⟩
 refine d_e [2] [] En15 fun ac17 En18 => ?_
 refine then_normal ?_
 refine wp_ret ?_
 refine d_ret1 (t := 2) (v := .slice ao5 (List.length (lsO 1 32 255 l s)) cp6) En18 (by kernel_rfl) (by kernel_rfl) ?_
 exact ⟨ta7, tc8, ao5, cp6, (lsO 1 32 255 l s), rfl, Hv16.pk [0, 1], hs9, rfl⟩

theorem many_byl (w : World) (br : Nat) (n : Nat) (hn : n ≤ 4) (x : Nat) (hx : x ≤ 4294967295) (a : Option Addr) (c : Nat) (l : List UInt8) (s o : Bool) (i : InB w [.box br [.slice a (List.length l) c, .bool s, .bool o] 120] a c l) (hH : Heap w [.box br [.slice a (List.length l) c, .bool s, .bool o] 120]) : Calls Try.prog 168 #[pt br, ni n, ni x, .func (.func 169) #[] #[]] w fun e w' => ∃ ta tc oa oc xs, e = .returned (.slice oa (List.length xs) oc) ∧ Ev w [.box br [.slice a (List.length l) c, .bool s, .bool o] 120] w' [.box br [.slice ta (List.length (lsR n x 16777215 l s)) tc, .bool (lsS n x 16777215 l s || (mn (listM 1 32 255) ((lsO n x 16777215 l s, lsS n x 16777215 l s, false) : PS)).2.2.1), .bool (o || (mn (listM 1 32 255) ((lsO n x 16777215 l s, lsS n x 16777215 l s, false) : PS)).2.2.2)] 120, .vec oa oc 1 (List.flatMap fByl xs) 23, .grp (List.flatMap innByl xs)] ∧ Sub a c l ta tc (lsR n x 16777215 l s) ∧ List.map (fun y : RByl => y.l) xs = (mn (listM 1 32 255) ((lsO n x 16777215 l s, lsS n x 16777215 l s, false) : PS)).1 ∧ List.length xs ≤ List.length (lsO n x 16777215 l s) + 1 ∧ ∀ y ∈ xs, List.length y.l ≤ 140737488351232 := by
 refine d_0 [(0, pt br), (1, ni n), (2, ni x), (3, .func (.func 169) #[] #[])] 69 Go.Proofs.Try.func168 Go.Proofs.Try.ntmps168 (hH) fun act0 En0 Hv0 => ?_
 refine d_s [0,1,2,3,8] [] En0 fun ac1 En2 => ?_
 refine wp_seq ?_
 refine region_from ?_
 refine d_k [0,3,8,12,13,14] [] 3 En2 fun ac3 En4 => ?_
 refine f_o ?_
 refine c_l [0] (M := [.box br [.slice a (List.length l) c, .bool s, .bool o] 120]) En4 Hv0 (fun hM10 => list_go _ br n (by omega) x 16777215 (by omega) (by omega) a c l s o ((i.ev Hv0).pick [0] (by kernel_rfl)) hM10) ?_
 rintro _ wo11 ⟨ao5, cp6, ta7, tc8, rfl, he12, hs9⟩
 refine ⟨_, _, [.box br [.slice ta7 (List.length (lsR n x 16777215 l s)) tc8, .bool (lsS n x 16777215 l s), .bool o] 120, .vec ao5 cp6 1 (bys (lsO n x 16777215 l s)) 5], rfl, he12, by kernel_rfl, fun ac14 En15 Hv16 => ?_⟩
 refine d_e [0,3,8,9] [] En15 fun ac17 En18 => ?_
 refine then_normal ?_
 refine wp_seq ?_
 refine region_from ?_
 refine d_k [0,3,8,16,19] [] 4 En18 fun ac19 En20 => ?_
 refine f_o ?_
 refine m_l 0 En20 Hv16 fun ac21 En22 => ?_
 refine d_k [0,3,8,21] [] 6 En22 fun ac23 En24 => ?_
 refine f_o ?_
 refine m_m 120 [.slice ao5 (List.length (lsO n x 16777215 l s)) cp6, .bool (lsS n x 16777215 l s), .bool false] En24 Hv16 fun ac26 wo27 bk25 En28 Hv29 => ?_
 refine d_e [0,3,8,10] [] En28 fun ac30 En31 => ?_
 refine then_normal ?_
 refine d_s [0,3,8,10,11] [] En31 fun ac32 En33 => ?_
 refine wp_seq ?_
 refine region_cut (F := fun ac wo => ∃ (oa : Option Addr) (oc : Nat) (xs : List (RByl)) (ra : Option Addr) (rc : Nat) (rl : Bs) (s1 : Bool) (o1 : Bool), Env ac 69 [(0, pt br), (3, .func (.func 169) #[] #[]), (8, .slice none 0 0), (10, pt bk25), (11, .slice oa (List.length xs) oc)] ∧ Ev w [.box br [.slice a (List.length l) c, .bool s, .bool o] 120] wo [.box br [.slice ta7 (List.length (lsR n x 16777215 l s)) tc8, .bool (lsS n x 16777215 l s), .bool o] 120, .box bk25 [.slice ra (List.length rl) rc, .bool s1, .bool o1] 120, .vec oa oc 1 (List.flatMap fByl xs) 23, .grp (List.flatMap innByl xs)] ∧ (mn (listM 1 32 255) ((lsO n x 16777215 l s, lsS n x 16777215 l s, false) : PS) = (List.map (fun y : RByl => y.l) xs, rl, s1, o1)) ∧ (List.length xs ≤ List.length (lsO n x 16777215 l s) + 1) ∧ (∀ y ∈ xs, List.length y.l ≤ 140737488351232)) ?_ ?_
 ·
  refine wp_block ?_
  have Hv34 : Ev w [.box br [.slice a (List.length l) c, .bool s, .bool o] 120] wo27 [.box br [.slice ta7 (List.length (lsR n x 16777215 l s)) tc8, .bool (lsS n x 16777215 l s), .bool o] 120, .vec ao5 cp6 1 (bys (lsO n x 16777215 l s)) 5, .box bk25 [.slice ao5 (List.length (lsO n x 16777215 l s)) cp6, .bool (lsS n x 16777215 l s), .bool false] 120, .vec none 0 1 (List.flatMap fByl []) 23] := Ev.nil (sz := 1) (T := 23) Hv29
  have Hv35 : Ev w [.box br [.slice a (List.length l) c, .bool s, .bool o] 120] wo27 [.box br [.slice ta7 (List.length (lsR n x 16777215 l s)) tc8, .bool (lsS n x 16777215 l s), .bool o] 120, .vec ao5 cp6 1 (bys (lsO n x 16777215 l s)) 5, .box bk25 [.slice ao5 (List.length (lsO n x 16777215 l s)) cp6, .bool (lsS n x 16777215 l s), .bool false] 120, .vec none 0 1 (List.flatMap fByl []) 23, .grp (List.flatMap innByl [])] := Ev.grp0 Hv34
  have hO32 : List.length (lsO n x 16777215 l s) ≤ 4294967295 := Nat.le_trans (tkO_len _ _ _) (Nat.le_of_lt_succ (nbV_4 hn l s))
  refine loop_m (fun ms36 ac wo => ∃ (oa : Option Addr) (oc : Nat) (xs : List (RByl)) (ra : Option Addr) (rc : Nat) (rl : Bs) (s1 : Bool) (o1 : Bool), ms36 = (bif s1 then 0 else List.length rl + 1 : Nat) ∧ Env ac 69 [(0, pt br), (3, .func (.func 169) #[] #[]), (8, .slice none 0 0), (10, pt bk25), (11, .slice oa (List.length xs) oc)] ∧ Ev w [.box br [.slice a (List.length l) c, .bool s, .bool o] 120] wo [.box bk25 [.slice ra (List.length rl) rc, .bool s1, .bool o1] 120, .box br [.slice ta7 (List.length (lsR n x 16777215 l s)) tc8, .bool (lsS n x 16777215 l s), .bool o] 120, .vec ao5 cp6 1 (bys (lsO n x 16777215 l s)) 5, .vec oa oc 1 (List.flatMap fByl xs) 23, .grp (List.flatMap innByl xs)] ∧ (Sub ao5 cp6 (lsO n x 16777215 l s) ra rc rl) ∧ (mn (listM 1 32 255) ((lsO n x 16777215 l s, lsS n x 16777215 l s, false) : PS) = (List.map (fun y : RByl => y.l) xs ++ (mn (listM 1 32 255) (rl, s1, o1)).1, (mn (listM 1 32 255) (rl, s1, o1)).2)) ∧ (List.length xs + List.length rl ≤ List.length (lsO n x 16777215 l s) + (bif s1 then 1 else 0)) ∧ (∀ y ∈ xs, List.length y.l ≤ 140737488351232)) ⟨_, none, 0, [], ao5, cp6, (lsO n x 16777215 l s), (lsS n x 16777215 l s), false, rfl, En33.sb, Hv35.pk [2, 0, 1, 3, 4], Sub.self, rfl, (by rw [List.length_nil, Nat.zero_add]; exact Nat.le_add_right _ _), (fun y hy => by cases hy)⟩ ?_
  rintro mm42 ac38 wo39 ⟨oa, oc, xs, ra, rc, rl, s1, o1, rfl, En40, Hv41, hsu, hmn, hct, hsm⟩
  refine wp_seq ?_
  refine wp_seq ?_
  refine region_from ?_
  refine d_k [0,3,8,10,11,25] [] 3 En40 fun ac43 En44 => ?_
  refine f_o ?_
  refine m_l 0 En44 Hv41 fun ac45 En46 => ?_
  refine d_k [0,3,8,10,11,28] [] 6 En46 fun ac47 En48 => ?_
  rcases Bool.eq_false_or_eq_true (!s1) with hb49 | hb49
  ·
   have En50 := En48.fx (t := 28) (congrArg Value.bool hb49)
   have hp51 : ¬ (s1 = true) := by simpa using hb49
   refine d_k [0,3,8,10,11,28,31] [] 9 En50 fun ac52 En53 => ?_
   refine f_o ?_
   refine m_l 0 En53 Hv41 fun ac54 En55 => ?_
   refine d_e [0,3,8,10,11,35] [] En55 fun ac56 En57 => ?_
   refine then_normal ?_
   refine c_d (((List.length rl : Nat) : Int) > (0 : Int)) En57 (fun hc58 => ?_) (fun hc58 => ?_)
   ·
    refine wp_skip ?_
    refine then_normal ?_
    refine wp_block ?_
    refine region_from ?_
    refine d_k [0,3,8,10,11,36,37,38] [] 3 En57 fun ac59 En60 => ?_
    refine f_o ?_
    refine c_l [0] (M := [.box bk25 [.slice ra (List.length rl) rc, .bool s1, .bool o1] 120]) En60 Hv41 (fun hM68 => psk12 _ bk25 ra rc rl s1 o1 (hsu _ _ (bys_in Hv41.heap (k := 2) rfl [0] (by kernel_rfl) rfl (by first | omega | (simp; done) | (simp; omega)))) hM68) ?_
    rintro _ wo69 ⟨ta61, tc62, oa65, oc66, bl67, rfl, he70, hs63, hpu64⟩
    refine ⟨_, _, [.box bk25 [.slice ta61 (List.length ((listM 1 32 255 rl s1 o1).2.1)) tc62, .bool ((listM 1 32 255 rl s1 o1).2.2.1), .bool ((listM 1 32 255 rl s1 o1).2.2.2)] 120, .vec oa65 oc66 1 (bys bl67) 5, .box br [.slice ta7 (List.length (lsR n x 16777215 l s)) tc8, .bool (lsS n x 16777215 l s), .bool o] 120, .vec ao5 cp6 1 (bys (lsO n x 16777215 l s)) 5, .vec oa oc 1 (List.flatMap fByl xs) 23, .grp (List.flatMap innByl xs)], rfl, he70, by kernel_rfl, fun ac72 En73 Hv74 => ?_⟩
    refine f_o ?_
    refine op_lit (d := some 40) (t := 180) (T := 23) (m := 1) (parts := #[(0, .slice oa65 (List.length bl67) oc66)]) (xs := List.flatMap fByl ([⟨oa65, oc66, bl67⟩] : List (RByl))) (sz := 1) En73 (by kernel_rfl) (by kernel_rfl) rfl (by decide) Hv74 ?_
    intro ac76 wo77 bk75 En78 Hv79
    refine f_o ?_
    refine op_append (d := some 41) (t := 180) (tx := 180) (ty := 180) (k := 4) (p := List.length xs) (m := 1) (x := .slice (some ⟨bk75, 0, none⟩) 1 1) (bytes := 24) En78 (by kernel_rfl) Hv79 rfl (sv_len (f := fByl) (sz := 1) (fun _ => rfl) _) (Reads.src (size := 1) (tx := 180) (e' := 23) (by kernel_rfl) (Hv79.heap.reads (k := 6) rfl) rfl (fun e => by cases e) (flat_one (f := fByl) (fun _ => one_all rfl) _)) (by kernel_rfl) (z := .slice none 0 0) (by kernel_rfl) rfl (by decide) (by have hb1 := mn_b1 s1; omega) (by unfold maxLen; have hb1 := mn_b1 s1; omega) ?_
    intro ac84 wo85 ao80 cp81 En86 Hv87 hnz _
    clear hnz
    rw [← List.flatMap_append] at Hv87
    have ehz82 : (List.length xs) + 1 = List.length (xs ++ ([⟨oa65, oc66, bl67⟩] : List (RByl))) := (by first | (simp; done) | (simp; omega) | omega)
    rw [ehz82] at En86
    refine d_e [0,3,8,10,11] [] En86 fun ac88 En89 => ?_
    have Hv90 : Ev w [.box br [.slice a (List.length l) c, .bool s, .bool o] 120] wo85 [.box bk25 [.slice ta61 (List.length ((listM 1 32 255 rl s1 o1).2.1)) tc62, .bool ((listM 1 32 255 rl s1 o1).2.2.1), .bool ((listM 1 32 255 rl s1 o1).2.2.2)] 120, .box br [.slice ta7 (List.length (lsR n x 16777215 l s)) tc8, .bool (lsS n x 16777215 l s), .bool o] 120, .vec ao5 cp6 1 (bys (lsO n x 16777215 l s)) 5, .vec ao80 cp81 1 (List.flatMap fByl (xs ++ ([⟨oa65, oc66, bl67⟩] : List (RByl)))) 23, .vec (some ⟨bk75, 0, none⟩) 1 1 (List.flatMap fByl ([⟨oa65, oc66, bl67⟩] : List (RByl))) 23, .grp (List.flatMap innByl (xs ++ ([⟨oa65, oc66, bl67⟩] : List (RByl))))] := Ev.group (M := [.box bk25 [.slice ta61 (List.length ((listM 1 32 255 rl s1 o1).2.1)) tc62, .bool ((listM 1 32 255 rl s1 o1).2.2.1), .bool ((listM 1 32 255 rl s1 o1).2.2.2)] 120, .box br [.slice ta7 (List.length (lsR n x 16777215 l s)) tc8, .bool (lsS n x 16777215 l s), .bool o] 120, .vec ao5 cp6 1 (bys (lsO n x 16777215 l s)) 5, .vec ao80 cp81 1 (List.flatMap fByl (xs ++ ([⟨oa65, oc66, bl67⟩] : List (RByl)))) 23, .vec (some ⟨bk75, 0, none⟩) 1 1 (List.flatMap fByl ([⟨oa65, oc66, bl67⟩] : List (RByl))) 23]) Hv87 [0,2,3,4,6] [5,1] (by kernel_rfl) (by rw [List.flatMap_append]; rfl) (by decide)
    refine block_normal ?_
    refine then_normal ?_
    have hl0 : 0 < List.length rl := by omega
    refine ⟨_, ⟨ao80, cp81, (xs ++ ([⟨oa65, oc66, bl67⟩] : List (RByl))), ta61, tc62, ((listM 1 32 255 rl s1 o1).2.1), ((listM 1 32 255 rl s1 o1).2.2.1), ((listM 1 32 255 rl s1 o1).2.2.2), rfl, En89.sb, Hv90.pk [0, 1, 2, 3, 5], (hsu.trans hs63), (by rw [hmn, mn_step (list_dec (by decide)) (Bool.eq_false_iff.2 hp51) hl0, ← hpu64, List.map_append, List.append_assoc]; rfl), (mn_ct (Bool.eq_false_iff.2 hp51) hct (dec_lt (o := o1) (list_dec (by decide)) (Bool.eq_false_iff.2 hp51) hl0) (dec_le (o := o1) (list_dec (by decide)) (Bool.eq_false_iff.2 hp51)) hl0), (all_snoc hsm (by show List.length bl67 ≤ _; rw [hpu64]; exact Nat.le_trans (Nat.le_of_succ_le (lsO_32 (by decide) _ _)) (by decide)))⟩, ?_⟩
    exact mn_mu (Bool.eq_false_iff.2 hp51) hl0 (dec_lt (o := o1) (list_dec (by decide)) (Bool.eq_false_iff.2 hp51) hl0)
   ·
    refine wp_exit ?_
    refine then_exit ?_
    refine then_exit ?_
    refine block_exit ?_
    exact ⟨rfl, ⟨oa, oc, xs, ra, rc, rl, s1, o1, En57.sb, Hv41.pk [1, 0, 3, 4], (by rw [hmn, mn_end (p := (rl, s1, o1)) (by first | exact .inl (by assumption) | exact .inr (show rl = [] from List.length_eq_zero_iff.1 (by omega))), List.append_nil]), (mn_c1 hct), hsm⟩⟩
  ·
   have En91 := En48.fx (t := 28) (congrArg Value.bool hb49)
   have hp92 : s1 = true := by simpa using hb49
   refine d_e [0,3,8,10,11,35] [] En91 fun ac93 En94 => ?_
   refine then_normal ?_
   refine c_f En94 ?_
   refine wp_exit ?_
   refine then_exit ?_
   refine then_exit ?_
   refine block_exit ?_
   exact ⟨rfl, ⟨oa, oc, xs, ra, rc, rl, s1, o1, En94.sb, Hv41.pk [1, 0, 3, 4], (by rw [hmn, mn_end (p := (rl, s1, o1)) (by first | exact .inl (by assumption) | exact .inr (show rl = [] from List.length_eq_zero_iff.1 (by omega))), List.append_nil]), (mn_c1 hct), hsm⟩⟩
 ·
  rintro ac95 wo96 ⟨oa, oc, xs, ra, rc, rl, s1, o1, En97, Hv98, hmn, hct, hsm⟩
  refine then_normal ?_
  refine wp_seq ?_
  rcases Bool.eq_false_or_eq_true (lsS n x 16777215 l s) with hb99 | hb99
  ·
   have hb99p : lsS n x 16777215 l s = true := hb99
   rcases Bool.eq_false_or_eq_true (o) with hb100 | hb100
   ·
    have hb100p : o = true := hb100
    refine r_c (fun ac wo => Env ac 69 [(0, pt br), (3, .func (.func 169) #[] #[]), (8, .slice none 0 0), (10, pt bk25), (11, .slice oa (List.length xs) oc)] ∧ Ev w [.box br [.slice a (List.length l) c, .bool s, .bool o] 120] wo [.box br [.slice ta7 (List.length (lsR n x 16777215 l s)) tc8, .bool true, .bool true] 120, .box bk25 [.slice ra (List.length rl) rc, .bool s1, .bool o1] 120, .vec oa oc 1 (List.flatMap fByl xs) 23, .grp (List.flatMap innByl xs)]) ?_ ?_
    ·
     refine h_s (fun wv => Ev w [.box br [.slice a (List.length l) c, .bool s, .bool o] 120] wv [.box br [.slice ta7 (List.length (lsR n x 16777215 l s)) tc8, .bool (lsS n x 16777215 l s), .bool o] 120]) [24] 28 ?_
     have wo101 := Hv98.trans (Ev.drew Hv98.heap)
     refine q_s [0,1,2,3,4] [] 23 En97 (wo101.pk [0]) fun ac182 En183 => ?_
     refine q_l 0 5 En183 (wo101.pk [0]) fun ac184 En185 => ?_
     refine q_s [6] [] 21 En185 (wo101.pk [0]) fun ac186 En187 => ?_
     have En188 := En187.fx (t := 47) (congrArg Value.bool hb99)
     have En189 := En188.fx (t := 48) (congrArg Value.bool hb99)
     refine q_s [7,8,9,10,11,12,13,14] [] 13 En189 (wo101.pk [0]) fun ac190 En191 => ?_
     refine q_l 0 15 En191 (wo101.pk [0]) fun ac192 En193 => ?_
     refine q_s [16] [] 11 En193 (wo101.pk [0]) fun ac194 En195 => ?_
     have En196 := En195.fx (t := 57) (congrArg Value.bool hb100)
     have En197 := En196.fx (t := 58) (congrArg Value.bool hb100)
     refine q_s [17,18,19,20,21,22,23] [] 4 En197 (wo101.pk [0]) fun ac198 En199 => ?_
     refine q_t 24 ?_
     refine m_s 0 [.box br [.slice ta7 (List.length (lsR n x 16777215 l s)) tc8, .bool true, .bool o] 120, .box bk25 [.slice ra (List.length rl) rc, .bool s1, .bool o1] 120, .vec oa oc 1 (List.flatMap fByl xs) 23, .grp (List.flatMap innByl xs)] En199 wo101 fun ac200 wo201 En202 Hv203 => ?_
     refine ⟨q_y, ?_⟩
     refine q_n [25,26] [] 1 En202 fun ac204 En205 => ?_
     refine q_t 27 ?_
     refine m_s 0 [.box br [.slice ta7 (List.length (lsR n x 16777215 l s)) tc8, .bool true, .bool true] 120, .box bk25 [.slice ra (List.length rl) rc, .bool s1, .bool o1] 120, .vec oa oc 1 (List.flatMap fByl xs) 23, .grp (List.flatMap innByl xs)] En205 Hv203 fun ac206 wo207 En208 Hv209 => ?_
     refine ⟨q_y, ?_⟩
     exact h_e ⟨En208.sb, Hv209.pk [0, 1, 2, 3]⟩
    rintro ac210 wo211 ⟨En212, Hv213⟩
    refine then_normal ?_
    refine d_s [0,3,8,10,11] [] En212 fun ac214 En215 => ?_
    refine wp_ret ?_
    refine d_ret1 (t := 8) (v := .slice oa (List.length xs) oc) En215 (by kernel_rfl) (by kernel_rfl) ?_
    have e1 : (lsS n x 16777215 l s || s1) = true := by rw [hb99]; rfl
    have e2 : (o || o1) = true := by rw [hb100]; rfl
    have hfin : Ev w [.box br [.slice a (List.length l) c, .bool s, .bool o] 120] wo211 [.box br [.slice ta7 (List.length (lsR n x 16777215 l s)) tc8, .bool (lsS n x 16777215 l s || s1), .bool (o || o1)] 120, .vec oa oc 1 (List.flatMap fByl xs) 23, .grp (List.flatMap innByl xs)] := by rw [e1, e2]; exact Hv213.pk [0, 2, 3]
    exact ⟨ta7, tc8, oa, oc, xs, rfl, by rw [hmn]; exact hfin, hs9, by rw [hmn], hct, hsm⟩
   ·
    have hb100p : ¬ (o = true) := Bool.eq_false_iff.1 hb100
    refine r_c (fun ac wo => Env ac 69 [(0, pt br), (3, .func (.func 169) #[] #[]), (8, .slice none 0 0), (10, pt bk25), (11, .slice oa (List.length xs) oc)] ∧ Ev w [.box br [.slice a (List.length l) c, .bool s, .bool o] 120] wo [.box br [.slice ta7 (List.length (lsR n x 16777215 l s)) tc8, .bool true, .bool o1] 120, .box bk25 [.slice ra (List.length rl) rc, .bool s1, .bool o1] 120, .vec oa oc 1 (List.flatMap fByl xs) 23, .grp (List.flatMap innByl xs)]) ?_ ?_
    ·
     refine h_s (fun wv => Ev w [.box br [.slice a (List.length l) c, .bool s, .bool o] 120] wv [.box br [.slice ta7 (List.length (lsR n x 16777215 l s)) tc8, .bool (lsS n x 16777215 l s), .bool o] 120, .box bk25 [.slice ra (List.length rl) rc, .bool s1, .bool o1] 120]) [24] 28 ?_
     have wo216 := Hv98.trans (Ev.drew Hv98.heap)
     refine q_s [0,1,2,3,4] [] 23 En97 (wo216.pk [0, 1]) fun ac309 En310 => ?_
     refine q_l 0 5 En310 (wo216.pk [0, 1]) fun ac311 En312 => ?_
     refine q_s [6] [] 21 En312 (wo216.pk [0, 1]) fun ac313 En314 => ?_
     have En315 := En314.fx (t := 47) (congrArg Value.bool hb99)
     have En316 := En315.fx (t := 48) (congrArg Value.bool hb99)
     refine q_s [7,8,9,10,11,12,13,14] [] 13 En316 (wo216.pk [0, 1]) fun ac317 En318 => ?_
     refine q_l 0 15 En318 (wo216.pk [0, 1]) fun ac319 En320 => ?_
     refine q_s [16] [] 11 En320 (wo216.pk [0, 1]) fun ac321 En322 => ?_
     have En323 := En322.fx (t := 57) (congrArg Value.bool hb100)
     have En324 := En323.fx (t := 58) (congrArg Value.bool hb100)
     refine q_s [17,18,19] [] 8 En324 (wo216.pk [0, 1]) fun ac325 En326 => ?_
     refine q_l 1 20 En326 (wo216.pk [0, 1]) fun ac327 En328 => ?_
     refine q_s [21,22,23] [] 4 En328 (wo216.pk [0, 1]) fun ac329 En330 => ?_
     refine q_t 24 ?_
     refine m_s 0 [.box br [.slice ta7 (List.length (lsR n x 16777215 l s)) tc8, .bool true, .bool o] 120, .box bk25 [.slice ra (List.length rl) rc, .bool s1, .bool o1] 120, .vec oa oc 1 (List.flatMap fByl xs) 23, .grp (List.flatMap innByl xs)] En330 wo216 fun ac331 wo332 En333 Hv334 => ?_
     refine ⟨q_y, ?_⟩
     refine q_n [25,26] [] 1 En333 fun ac335 En336 => ?_
     refine q_t 27 ?_
     refine m_s 0 [.box br [.slice ta7 (List.length (lsR n x 16777215 l s)) tc8, .bool true, .bool o1] 120, .box bk25 [.slice ra (List.length rl) rc, .bool s1, .bool o1] 120, .vec oa oc 1 (List.flatMap fByl xs) 23, .grp (List.flatMap innByl xs)] En336 Hv334 fun ac337 wo338 En339 Hv340 => ?_
     refine ⟨q_y, ?_⟩
     exact h_e ⟨En339.sb, Hv340.pk [0, 1, 2, 3]⟩
    rintro ac341 wo342 ⟨En343, Hv344⟩
    refine then_normal ?_
    refine d_s [0,3,8,10,11] [] En343 fun ac345 En346 => ?_
    refine wp_ret ?_
    refine d_ret1 (t := 8) (v := .slice oa (List.length xs) oc) En346 (by kernel_rfl) (by kernel_rfl) ?_
    have e1 : (lsS n x 16777215 l s || s1) = true := by rw [hb99]; rfl
    have e2 : (o || o1) = o1 := by rw [hb100]; rfl
    have hfin : Ev w [.box br [.slice a (List.length l) c, .bool s, .bool o] 120] wo342 [.box br [.slice ta7 (List.length (lsR n x 16777215 l s)) tc8, .bool (lsS n x 16777215 l s || s1), .bool (o || o1)] 120, .vec oa oc 1 (List.flatMap fByl xs) 23, .grp (List.flatMap innByl xs)] := by rw [e1, e2]; exact Hv344.pk [0, 2, 3]
    exact ⟨ta7, tc8, oa, oc, xs, rfl, by rw [hmn]; exact hfin, hs9, by rw [hmn], hct, hsm⟩
  ·
   have hb99p : ¬ (lsS n x 16777215 l s = true) := Bool.eq_false_iff.1 hb99
   rcases Bool.eq_false_or_eq_true (o) with hb347 | hb347
   ·
    have hb347p : o = true := hb347
    refine r_c (fun ac wo => Env ac 69 [(0, pt br), (3, .func (.func 169) #[] #[]), (8, .slice none 0 0), (10, pt bk25), (11, .slice oa (List.length xs) oc)] ∧ Ev w [.box br [.slice a (List.length l) c, .bool s, .bool o] 120] wo [.box br [.slice ta7 (List.length (lsR n x 16777215 l s)) tc8, .bool s1, .bool true] 120, .box bk25 [.slice ra (List.length rl) rc, .bool s1, .bool o1] 120, .vec oa oc 1 (List.flatMap fByl xs) 23, .grp (List.flatMap innByl xs)]) ?_ ?_
    ·
     refine h_s (fun wv => Ev w [.box br [.slice a (List.length l) c, .bool s, .bool o] 120] wv [.box br [.slice ta7 (List.length (lsR n x 16777215 l s)) tc8, .bool (lsS n x 16777215 l s), .bool o] 120, .box bk25 [.slice ra (List.length rl) rc, .bool s1, .bool o1] 120]) [24] 28 ?_
     have wo348 := Hv98.trans (Ev.drew Hv98.heap)
     refine q_s [0,1,2,3,4] [] 23 En97 (wo348.pk [0, 1]) fun ac463 En464 => ?_
     refine q_l 0 5 En464 (wo348.pk [0, 1]) fun ac465 En466 => ?_
     refine q_s [6] [] 21 En466 (wo348.pk [0, 1]) fun ac467 En468 => ?_
     have En469 := En468.fx (t := 47) (congrArg Value.bool hb99)
     have En470 := En469.fx (t := 48) (congrArg Value.bool hb99)
     refine q_s [7,8,9] [] 18 En470 (wo348.pk [0, 1]) fun ac471 En472 => ?_
     refine q_l 1 10 En472 (wo348.pk [0, 1]) fun ac473 En474 => ?_
     refine q_s [11,12,13,14] [] 13 En474 (wo348.pk [0, 1]) fun ac475 En476 => ?_
     refine q_l 0 15 En476 (wo348.pk [0, 1]) fun ac477 En478 => ?_
     refine q_s [16] [] 11 En478 (wo348.pk [0, 1]) fun ac479 En480 => ?_
     have En481 := En480.fx (t := 57) (congrArg Value.bool hb347)
     have En482 := En481.fx (t := 58) (congrArg Value.bool hb347)
     refine q_s [17,18,19,20,21,22,23] [] 4 En482 (wo348.pk [0, 1]) fun ac483 En484 => ?_
     refine q_t 24 ?_
     refine m_s 0 [.box br [.slice ta7 (List.length (lsR n x 16777215 l s)) tc8, .bool s1, .bool o] 120, .box bk25 [.slice ra (List.length rl) rc, .bool s1, .bool o1] 120, .vec oa oc 1 (List.flatMap fByl xs) 23, .grp (List.flatMap innByl xs)] En484 wo348 fun ac485 wo486 En487 Hv488 => ?_
     refine ⟨q_y, ?_⟩
     refine q_n [25,26] [] 1 En487 fun ac489 En490 => ?_
     refine q_t 27 ?_
     refine m_s 0 [.box br [.slice ta7 (List.length (lsR n x 16777215 l s)) tc8, .bool s1, .bool true] 120, .box bk25 [.slice ra (List.length rl) rc, .bool s1, .bool o1] 120, .vec oa oc 1 (List.flatMap fByl xs) 23, .grp (List.flatMap innByl xs)] En490 Hv488 fun ac491 wo492 En493 Hv494 => ?_
     refine ⟨q_y, ?_⟩
     exact h_e ⟨En493.sb, Hv494.pk [0, 1, 2, 3]⟩
    rintro ac495 wo496 ⟨En497, Hv498⟩
    refine then_normal ?_
    refine d_s [0,3,8,10,11] [] En497 fun ac499 En500 => ?_
    refine wp_ret ?_
    refine d_ret1 (t := 8) (v := .slice oa (List.length xs) oc) En500 (by kernel_rfl) (by kernel_rfl) ?_
    have e1 : (lsS n x 16777215 l s || s1) = s1 := by rw [hb99]; rfl
    have e2 : (o || o1) = true := by rw [hb347]; rfl
    have hfin : Ev w [.box br [.slice a (List.length l) c, .bool s, .bool o] 120] wo496 [.box br [.slice ta7 (List.length (lsR n x 16777215 l s)) tc8, .bool (lsS n x 16777215 l s || s1), .bool (o || o1)] 120, .vec oa oc 1 (List.flatMap fByl xs) 23, .grp (List.flatMap innByl xs)] := by rw [e1, e2]; exact Hv498.pk [0, 2, 3]
    exact ⟨ta7, tc8, oa, oc, xs, rfl, by rw [hmn]; exact hfin, hs9, by rw [hmn], hct, hsm⟩
   ·
    have hb347p : ¬ (o = true) := Bool.eq_false_iff.1 hb347
    refine r_c (fun ac wo => Env ac 69 [(0, pt br), (3, .func (.func 169) #[] #[]), (8, .slice none 0 0), (10, pt bk25), (11, .slice oa (List.length xs) oc)] ∧ Ev w [.box br [.slice a (List.length l) c, .bool s, .bool o] 120] wo [.box br [.slice ta7 (List.length (lsR n x 16777215 l s)) tc8, .bool s1, .bool o1] 120, .box bk25 [.slice ra (List.length rl) rc, .bool s1, .bool o1] 120, .vec oa oc 1 (List.flatMap fByl xs) 23, .grp (List.flatMap innByl xs)]) ?_ ?_
    ·
     refine h_s (fun wv => Ev w [.box br [.slice a (List.length l) c, .bool s, .bool o] 120] wv [.box br [.slice ta7 (List.length (lsR n x 16777215 l s)) tc8, .bool (lsS n x 16777215 l s), .bool o] 120, .box bk25 [.slice ra (List.length rl) rc, .bool s1, .bool o1] 120]) [24] 28 ?_
     have wo501 := Hv98.trans (Ev.drew Hv98.heap)
     refine q_s [0,1,2,3,4] [] 23 En97 (wo501.pk [0, 1]) fun ac636 En637 => ?_
     refine q_l 0 5 En637 (wo501.pk [0, 1]) fun ac638 En639 => ?_
     refine q_s [6] [] 21 En639 (wo501.pk [0, 1]) fun ac640 En641 => ?_
     have En642 := En641.fx (t := 47) (congrArg Value.bool hb99)
     have En643 := En642.fx (t := 48) (congrArg Value.bool hb99)
     refine q_s [7,8,9] [] 18 En643 (wo501.pk [0, 1]) fun ac644 En645 => ?_
     refine q_l 1 10 En645 (wo501.pk [0, 1]) fun ac646 En647 => ?_
     refine q_s [11,12,13,14] [] 13 En647 (wo501.pk [0, 1]) fun ac648 En649 => ?_
     refine q_l 0 15 En649 (wo501.pk [0, 1]) fun ac650 En651 => ?_
     refine q_s [16] [] 11 En651 (wo501.pk [0, 1]) fun ac652 En653 => ?_
     have En654 := En653.fx (t := 57) (congrArg Value.bool hb347)
     have En655 := En654.fx (t := 58) (congrArg Value.bool hb347)
     refine q_s [17,18,19] [] 8 En655 (wo501.pk [0, 1]) fun ac656 En657 => ?_
     refine q_l 1 20 En657 (wo501.pk [0, 1]) fun ac658 En659 => ?_
     refine q_s [21,22,23] [] 4 En659 (wo501.pk [0, 1]) fun ac660 En661 => ?_
     refine q_t 24 ?_
     refine m_s 0 [.box br [.slice ta7 (List.length (lsR n x 16777215 l s)) tc8, .bool s1, .bool o] 120, .box bk25 [.slice ra (List.length rl) rc, .bool s1, .bool o1] 120, .vec oa oc 1 (List.flatMap fByl xs) 23, .grp (List.flatMap innByl xs)] En661 wo501 fun ac662 wo663 En664 Hv665 => ?_
     refine ⟨q_y, ?_⟩
     refine q_n [25,26] [] 1 En664 fun ac666 En667 => ?_
     refine q_t 27 ?_
     refine m_s 0 [.box br [.slice ta7 (List.length (lsR n x 16777215 l s)) tc8, .bool s1, .bool o1] 120, .box bk25 [.slice ra (List.length rl) rc, .bool s1, .bool o1] 120, .vec oa oc 1 (List.flatMap fByl xs) 23, .grp (List.flatMap innByl xs)] En667 Hv665 fun ac668 wo669 En670 Hv671 => ?_
     refine ⟨q_y, ?_⟩
     exact h_e ⟨En670.sb, Hv671.pk [0, 1, 2, 3]⟩
    rintro ac672 wo673 ⟨En674, Hv675⟩
    refine then_normal ?_
    refine d_s [0,3,8,10,11] [] En674 fun ac676 En677 => ?_
    refine wp_ret ?_
    refine d_ret1 (t := 8) (v := .slice oa (List.length xs) oc) En677 (by kernel_rfl) (by kernel_rfl) ?_
    have e1 : (lsS n x 16777215 l s || s1) = s1 := by rw [hb99]; rfl
    have e2 : (o || o1) = o1 := by rw [hb347]; rfl
    have hfin : Ev w [.box br [.slice a (List.length l) c, .bool s, .bool o] 120] wo673 [.box br [.slice ta7 (List.length (lsR n x 16777215 l s)) tc8, .bool (lsS n x 16777215 l s || s1), .bool (o || o1)] 120, .vec oa oc 1 (List.flatMap fByl xs) 23, .grp (List.flatMap innByl xs)] := by rw [e1, e2]; exact Hv675.pk [0, 2, 3]
    exact ⟨ta7, tc8, oa, oc, xs, rfl, by rw [hmn]; exact hfin, hs9, by rw [hmn], hct, hsm⟩

end Go.Proofs.Ytofecellbfhnjaa
