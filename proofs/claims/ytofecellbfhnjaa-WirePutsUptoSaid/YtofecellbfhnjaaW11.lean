/- Layer 17: a host's name; the head; what frames ask. -/
import Derived.Test.YtofecellbfhnjaaW10
import Derived.Test.YtofecellbfhnjaaShape
namespace Go.Proofs.Ytofecellbfhnjaa
open Go.Dbr
set_option maxRecDepth 100000
set_option maxHeartbeats 2000000
set_option linter.unusedVariables false
set_option linter.unusedSimpArgs false

theorem nm_1 (t : Bs) : allM nmF (List.map (fun y : RStr => y) [t]) = (wput 2 [0] t, wbad 2 1 65535 t.length false) := rfl
theorem nm_bd {t : Bs} (h : t.length ≤ 140737488351232) : ∀ i, i ≤ ([t] : List RStr).length → (allM nmF (List.take i (List.map (fun y : RStr => y) ([t] : List RStr)))).1.length ≤ 140737489403904
  | 0, _ => by show (0 : Nat) ≤ _; omega
  | 1, _ => by
    rw [show List.take 1 (List.map (fun y : RStr => y) ([t] : List RStr)) = List.map (fun y : RStr => y) [t] from rfl, nm_1, wput_len]
    simp only [List.length_singleton]
    omega
  | i + 2, h => by simp at h
/-- a host's name -/
def nmP (t : Bs) : Bs := doneL (wbad 2 0 16777215 (wput 2 [0] t).length (false || wbad 2 1 65535 t.length false)) (wput 2 [] (wput 2 [0] t))

theorem putname1 (w : World) (bw : Nat) (bt : Nat) (t : Bs) (ht : List.length t ≤ 140737488351232) (hH : Heap w [.box bw [.slice none 0 0, .bool false] 115, .vec none 0 1 (bys []) 5, .box bt [.string (bstr t)] 9]) : Calls Try.prog 107 #[pt bw, pt bt] w fun e w' => ∃ a' c', e = .returned (.tuple #[]) ∧ Ev w [.box bw [.slice none 0 0, .bool false] 115, .vec none 0 1 (bys []) 5, .box bt [.string (bstr t)] 9] w' [.box bw [.slice a' (List.length (wput 2 [] (allM nmF (List.map (fun y : RStr => y) ([t] : List (RStr)))).1)) c', .bool (wbad 2 0 16777215 (List.length (allM nmF (List.map (fun y : RStr => y) ([t] : List (RStr)))).1) (false || (allM nmF (List.map (fun y : RStr => y) ([t] : List (RStr)))).2))] 115, .vec a' c' 1 (bys (wput 2 [] (allM nmF (List.map (fun y : RStr => y) ([t] : List (RStr)))).1)) 5] := by
 refine d_0 [(0, pt bw), (1, pt bt)] 7 Go.Proofs.Try.func107 Go.Proofs.Try.ntmps107 (hH) fun act0 En0 Hv0 => ?_
 refine region_from ?_
 refine d_k [1,3] [] 1 En0 fun ac1 En2 => ?_
 refine f_o ?_
 refine m_l 2 En2 Hv0 fun ac3 En4 => ?_
 refine f_o ?_
 refine op_lit (d := some 5) (t := 33) (T := 9) (m := 1) (parts := #[(0, .string (bstr t))]) (xs := List.flatMap fStr ([t] : List (RStr))) (sz := 1) En4 (by kernel_rfl) (by kernel_rfl) rfl (by decide) Hv0 ?_
 intro ac6 wo7 bk5 En8 Hv9
 refine f_o ?_
 refine c_l [0,1] (M := [.box bw [.slice none 0 0, .bool false] 115, .vec none 0 1 (bys []) 5]) En8 Hv9 (fun hM12 => all_str _ bw none 0 [] false 2 (by omega) 0 (by omega) (some ⟨bk5, 0, none⟩) 1 ([t] : List (RStr)) (Hv9.heap.innS (k := 3) (f := fStr) (sz := 1) (by_ := 16) rfl (fun _ => rfl) (by decide) [0, 1] (by kernel_rfl) rfl (show 1 * 16 ≤ 140737488351232 by decide) (fun y hy => by obtain rfl := List.mem_singleton.1 hy; exact ht)) (nm_bd ht) (by rw [nm_1, wput_len]; simp; omega) hM12) ?_
 rintro _ wo13 ⟨wa10, wc11, rfl, he14⟩
 refine ⟨_, _, [.box bw [.slice wa10 (List.length (wput 2 [] (allM nmF (List.map (fun y : RStr => y) ([t] : List (RStr)))).1)) wc11, .bool (wbad 2 0 16777215 (List.length (allM nmF (List.map (fun y : RStr => y) ([t] : List (RStr)))).1) (false || (allM nmF (List.map (fun y : RStr => y) ([t] : List (RStr)))).2))] 115, .vec wa10 wc11 1 (bys (wput 2 [] (allM nmF (List.map (fun y : RStr => y) ([t] : List (RStr)))).1)) 5, .box bt [.string (bstr t)] 9, .vec (some ⟨bk5, 0, none⟩) 1 1 (List.flatMap fStr ([t] : List (RStr))) 9], rfl, he14, by kernel_rfl, fun ac16 En17 Hv18 => ?_⟩
 refine f_e ?_
 refine d_end0 En17 (by kernel_rfl) ?_
 exact ⟨wa10, wc11, rfl, Hv18.pk [0, 1]⟩

theorem put_name (w : World) (bt : Nat) (t : Bs) (ht : List.length t ≤ 140737488351232) (hH : Heap w [.box bt [.string (bstr t)] 9]) : Calls Try.prog 99 #[.func (.func 107) #[] #[pt bt]] w fun e w' => ∃ a' c', e = .returned (.slice a' (List.length (doneL (wbad 2 0 16777215 (List.length (allM nmF (List.map (fun y : RStr => y) ([t] : List (RStr)))).1) (false || (allM nmF (List.map (fun y : RStr => y) ([t] : List (RStr)))).2)) (wput 2 [] (allM nmF (List.map (fun y : RStr => y) ([t] : List (RStr)))).1))) c') ∧ Ev w [.box bt [.string (bstr t)] 9] w' [.vec a' c' 1 (bys (doneL (wbad 2 0 16777215 (List.length (allM nmF (List.map (fun y : RStr => y) ([t] : List (RStr)))).1) (false || (allM nmF (List.map (fun y : RStr => y) ([t] : List (RStr)))).2)) (wput 2 [] (allM nmF (List.map (fun y : RStr => y) ([t] : List (RStr)))).1))) 5] := by
 refine d_0 [(0, .func (.func 107) #[] #[pt bt])] 11 Go.Proofs.Try.func99 Go.Proofs.Try.ntmps99 (hH) fun act0 En0 Hv0 => ?_
 refine d_s [0,2] [] En0 fun ac1 En2 => ?_
 refine wp_seq ?_
 refine region_from ?_
 refine d_k [0,2,4] [] 1 En2 fun ac3 En4 => ?_
 refine f_o ?_
 refine m_m 115 [.slice none 0 0, .bool false] En4 Hv0 fun ac6 wo7 bk5 En8 Hv9 => ?_
 refine d_e [0,2,3] [] En8 fun ac10 En11 => ?_
 refine then_normal ?_
 refine wp_seq ?_
 refine region_from ?_
 refine d_k [2,3,6,7] [] 2 En11 fun ac12 En13 => ?_
 refine f_o ?_
 have Hv14 : Ev w [.box bt [.string (bstr t)] 9] wo7 [.box bt [.string (bstr t)] 9, .box bk5 [.slice none 0 0, .bool false] 115, .vec none 0 1 (bys []) 5] := Ev.nil (sz := 1) (T := 5) Hv9
 refine c_l [1,2,0] (M := [.box bk5 [.slice none 0 0, .bool false] 115, .vec none 0 1 (bys []) 5, .box bt [.string (bstr t)] 9]) En13 Hv14 (fun hM17 => putname1 _ bk5 bt t ht hM17) ?_
 rintro _ wo18 ⟨wa15, wc16, rfl, he19⟩
 refine ⟨_, _, [.box bk5 [.slice wa15 (List.length (wput 2 [] (allM nmF (List.map (fun y : RStr => y) ([t] : List (RStr)))).1)) wc16, .bool (wbad 2 0 16777215 (List.length (allM nmF (List.map (fun y : RStr => y) ([t] : List (RStr)))).1) (false || (allM nmF (List.map (fun y : RStr => y) ([t] : List (RStr)))).2))] 115, .vec wa15 wc16 1 (bys (wput 2 [] (allM nmF (List.map (fun y : RStr => y) ([t] : List (RStr)))).1)) 5], rfl, he19, by kernel_rfl, fun ac21 En22 Hv23 => ?_⟩
 refine f_e ?_
 refine then_normal ?_
 refine wp_seq ?_
 refine region_from ?_
 refine d_k [2,3,9] [] 1 En22 fun ac24 En25 => ?_
 refine f_o ?_
 refine c_l [0,1] (M := [.box bk5 [.slice wa15 (List.length (wput 2 [] (allM nmF (List.map (fun y : RStr => y) ([t] : List (RStr)))).1)) wc16, .bool (wbad 2 0 16777215 (List.length (allM nmF (List.map (fun y : RStr => y) ([t] : List (RStr)))).1) (false || (allM nmF (List.map (fun y : RStr => y) ([t] : List (RStr)))).2))] 115, .vec wa15 wc16 1 (bys (wput 2 [] (allM nmF (List.map (fun y : RStr => y) ([t] : List (RStr)))).1)) 5]) En25 Hv23 (fun hM28 => wdone_go _ bk5 wa15 wc16 (wput 2 [] (allM nmF (List.map (fun y : RStr => y) ([t] : List (RStr)))).1) (wbad 2 0 16777215 (List.length (allM nmF (List.map (fun y : RStr => y) ([t] : List (RStr)))).1) (false || (allM nmF (List.map (fun y : RStr => y) ([t] : List (RStr)))).2)) hM28) ?_
 rintro _ wo29 ⟨da26, dc27, rfl, he30⟩
 refine ⟨_, _, [.vec da26 dc27 1 (bys (doneL (wbad 2 0 16777215 (List.length (allM nmF (List.map (fun y : RStr => y) ([t] : List (RStr)))).1) (false || (allM nmF (List.map (fun y : RStr => y) ([t] : List (RStr)))).2)) (wput 2 [] (allM nmF (List.map (fun y : RStr => y) ([t] : List (RStr)))).1))) 5], rfl, he30, by kernel_rfl, fun ac32 En33 Hv34 => ?_⟩
 refine d_e [2,3] [] En33 fun ac35 En36 => ?_
 refine then_normal ?_
 refine wp_ret ?_
 refine d_ret1 (t := 2) (v := .slice da26 (List.length (doneL (wbad 2 0 16777215 (List.length (allM nmF (List.map (fun y : RStr => y) ([t] : List (RStr)))).1) (false || (allM nmF (List.map (fun y : RStr => y) ([t] : List (RStr)))).2)) (wput 2 [] (allM nmF (List.map (fun y : RStr => y) ([t] : List (RStr)))).1))) dc27) En36 (by kernel_rfl) (by kernel_rfl) ?_
 exact ⟨da26, dc27, rfl, Hv34.pk [0]⟩

theorem putname_go (w : World) (t : Bs) (ht : List.length t ≤ 140737488351232) : Calls Try.prog 17 #[.string (bstr t)] w fun e w' => ∃ a' c', e = .returned (.slice a' (List.length (nmP t)) c') ∧ Ev w [] w' [.vec a' c' 1 (bys (nmP t)) 5] := by
 refine d_0 [(0, .string (bstr t))] 5 Go.Proofs.Try.func17 Go.Proofs.Try.ntmps17 (Heap.nil _) fun act0 En0 Hv0 => ?_
 refine wp_seq ?_
 refine region_from ?_
 refine f_o ?_
 refine m_m 9 [.string (bstr t)] En0 Hv0 fun ac2 wo3 bk1 En4 Hv5 => ?_
 refine d_e [1,2] [] En4 fun ac6 En7 => ?_
 refine then_normal ?_
 refine wp_seq ?_
 refine region_from ?_
 refine d_k [2,3] [] 1 En7 fun ac8 En9 => ?_
 refine f_o ?_
 refine c_l [0] (M := [.box bk1 [.string (bstr t)] 9]) En9 Hv5 (fun hM12 => put_name _ bk1 t ht hM12) ?_
 rintro _ wo13 ⟨pa10, pc11, rfl, he14⟩
 refine ⟨_, _, [.vec pa10 pc11 1 (bys (nmP t)) 5], rfl, he14, by kernel_rfl, fun ac16 En17 Hv18 => ?_⟩
 refine d_e [2] [] En17 fun ac19 En20 => ?_
 refine then_normal ?_
 refine wp_ret ?_
 refine d_ret1 (t := 2) (v := .slice pa10 (List.length (nmP t)) pc11) En20 (by kernel_rfl) (by kernel_rfl) ?_
 exact ⟨pa10, pc11, rfl, Hv18.pk [0]⟩

theorem head_g : gotA (manyM u16M 2 2 [0, 0] false false) = 50 := by decide +kernel
theorem head_n : nmP [97, 46, 98] = [0, 6, 0, 0, 3, 97, 46, 98] := by decide +kernel

theorem head_ok (w : World) : Calls Try.prog 10 #[] w fun e w' => e = .returned (.bool true) ∧ Ev w [] w' [] := by
 refine d_0 [] 15 Go.Proofs.Try.func10 Go.Proofs.Try.ntmps10 (Heap.nil _) fun act0 En0 Hv0 => ?_
 refine d_s [0] [] En0 fun ac1 En2 => ?_
 refine wp_seq ?_
 refine region_from ?_
 refine f_o ?_
 refine op_lit (d := some 4) (t := 23) (T := 5) (m := 2) (parts := #[(0, .int .u8 0), (1, .int .u8 0)]) (xs := bys [(0 : UInt8), (0 : UInt8)]) (sz := 1) En2 (by kernel_rfl) (by kernel_rfl) rfl (by decide) Hv0 ?_
 intro ac4 wo5 bk3 En6 Hv7
 refine f_o ?_
 refine c_0 En6 Hv7 (getlist_go _ (some ⟨bk3, 0, none⟩) 2 2 [(0 : UInt8), (0 : UInt8)] (by first | rfl | (simp; done) | (simp; omega) | omega) (bys_in Hv7.heap (k := 0) rfl [] (by kernel_rfl) rfl (by first | omega | (simp; done) | (simp; omega)))) ?_
 rintro _ wo14 ⟨oa8, oc9, xs10, rfl, he15, hpu11, hf12⟩
 refine ⟨_, _, _, rfl, he15, rfl, fun ac17 En18 Hv19 => ?_⟩
 refine d_e [0,2] [] En18 fun ac20 En21 => ?_
 refine then_normal ?_
 refine wp_seq ?_
 refine region_from ?_
 refine f_o ?_
 refine c_0 En21 Hv19 (putname_go _ [97, 46, 98] (by first | assumption | decide | omega)) ?_
 rintro _ wo25 ⟨pa22, pc23, rfl, he26⟩
 refine ⟨_, _, _, rfl, he26, rfl, fun ac28 En29 Hv30 => ?_⟩
 refine f_o ?_
 refine op_str (d := some 9) (src := 23) (dst := 9) (e := 5) (ao := pa22) (cap := pc23) (p := List.length (nmP [97, 46, 98])) (bs := nmP [97, 46, 98]) En29 (by kernel_rfl) rfl (by kernel_rfl) (by kernel_rfl) (by kernel_rfl) (Hv30.heap.reads (k := 0) rfl) (bys_vnz Hv30.heap (k := 0) rfl) ?_
 intro ac31 En32
 refine d_e [0] [(2, g_v (show (.bool (ByteArray.toList (bstr (nmP [97, 46, 98])) == ByteArray.toList (bstr [0, 6, 0, 0, 3, 97, 46, 98])) : Value) = .bool true by rw [Go.Dbr.bstr_eq (nmP [97, 46, 98]) [0, 6, 0, 0, 3, 97, 46, 98], show ((nmP [97, 46, 98]) == [0, 6, 0, 0, 3, 97, 46, 98]) = true from (by rw [head_n]; exact beq_self_eq_true _)] <;> rfl)), (5, g_b (show (gotA (manyM u16M 2 2 [(0 : UInt8), (0 : UInt8)] false false) == (50 : Int)) = true from (by rw [head_g]; rfl)))] En32 fun ac33 En34 => ?_
 refine then_normal ?_
 refine wp_ret ?_
 refine d_ret1 (t := 0) (v := .bool true) En34 (by kernel_rfl) (by kernel_rfl) ?_
 exact ⟨rfl, Hv30.pk []⟩

end Go.Proofs.Ytofecellbfhnjaa
