/- Layer 17: lists of parts are written by the document. -/
import Derived.Test.YtofecellbfhnjaaW28
namespace Go.Proofs.Ytofecellbfhnjaa
open Go.Dbr
set_option maxRecDepth 100000
set_option maxHeartbeats 2000000
set_option linter.unusedVariables false
set_option linter.unusedSimpArgs false

def dk1F (p : WS) (x : PK) : WS := (dput 2 1 65535 p.1 x.1 ++ beN 4 x.2.1.toNat, p.2 || dbad 2 1 65535 x.1.length)
def dk2F (p : WS) (x : PK) : WS := (dput 1 32 255 p.1 x.2.2, p.2 || dbad 1 32 255 x.2.2.length)
def dputP {β : Type} (F : WS → β → WS) (n x : Nat) (ps : List β) : Bs := doneL ((false || (allM F ps).2) || dbad n x 16777215 (allM F ps).1.length) (dput n x 16777215 [] (allM F ps).1)
def dpskP (ps : List PK) : Bs := doneL (((((false || (allM dk1F ps).2) || dbad 2 1 16777215 (allM dk1F ps).1.length) || (allM dk2F ps).2)) || dbad 2 1 16777215 (allM dk2F ps).1.length) (dput 2 1 16777215 (dput 2 1 16777215 [] (allM dk1F ps).1) (allM dk2F ps).1)

theorem dpnumbers_go (w : World) (al : Option Addr) (cl : Nat) (xs : List RU16) (il : InS fU16 2 (fun y : RU16 => True) w [] al cl xs) (hq0 : allB u16F (List.map (fun y : RU16 => y) xs)) (n : Nat) (hn : n ≤ 4) : Calls Try.prog 114 #[.slice al (List.length xs) cl, ni n] w fun e w' => ∃ a' c', e = .returned (.slice a' (List.length (dputP u16F n 2 (List.map (fun y : RU16 => y) xs))) c') ∧ Ev w [] w' [.vec a' c' 1 (bys (dputP u16F n 2 (List.map (fun y : RU16 => y) xs))) 5] := by
 refine d_0 [(0, .slice al (List.length xs) cl), (1, ni n)] 31 Go.Proofs.Try.func114 Go.Proofs.Try.ntmps114 (Heap.nil _) fun act0 En0 Hv0 => ?_
 refine wp_seq ?_
 refine d_r [0,1,4] [] En0 fun ac1 En2 => ?_
 refine then_normal ?_
 refine wp_seq ?_
 refine region_from ?_
 refine d_k [0,1,4,8] [] 1 En2 fun ac3 En4 => ?_
 refine f_o ?_
 refine m_m 126 [.slice none 0 0, .bool false] En4 Hv0 fun ac6 wo7 bk5 En8 Hv9 => ?_
 refine d_e [0,1,4,5] [] En8 fun ac10 En11 => ?_
 refine then_normal ?_
 refine wp_seq ?_
 refine wp_seq ?_
 refine d_r [0,1,4,5,6] [] En11 fun ac12 En13 => ?_
 refine then_normal ?_
 refine wp_block ?_
 have Hv14 : Ev w [] wo7 [.box bk5 [.slice none 0 0, .bool false] 126, .vec none 0 1 (bys []) 5] := Ev.nil (sz := 1) (T := 5) Hv9
 refine loop_m (fun ms15 ac wo => ∃ (i : Nat) (wa0 : Option Addr) (wc0 : Nat) (m0 : Bs) (bd0 : Bool), ms15 = (List.length xs + 1 - i : Nat) ∧ Env ac 31 [(0, .slice al (List.length xs) cl), (1, ni n), (4, .slice none 0 0), (5, pt bk5), (6, ni i)] ∧ Ev w [] wo [.box bk5 [.slice wa0 (List.length m0) wc0, .bool bd0] 126, .vec wa0 wc0 1 (bys m0) 5] ∧ ((m0, bd0) = allM u16F (List.take i (List.map (fun y : RU16 => y) xs)))) ⟨_, 0, none, 0, [], false, rfl, En13.sb, Hv14.pk [0, 1], rfl⟩ ?_
 rintro mm21 ac17 wo18 ⟨i, wa0, wc0, m0, bd0, rfl, En19, Hv20, hfo0⟩
 refine wp_seq ?_
 refine wp_seq ?_
 refine d_r [0,1,4,5,6,13] [] En19 fun ac22 En23 => ?_
 refine then_normal ?_
 refine c_d (((i : Nat) : Int) < ((List.length xs : Nat) : Int)) En23 (fun hc24 => ?_) (fun hc24 => ?_)
 ·
  refine wp_skip ?_
  refine then_normal ?_
  refine wp_seq ?_
  refine wp_block ?_
  have hb25 : i < List.length xs := by omega
  obtain ⟨x27, hx26⟩ : ∃ x, (xs)[i]? = some x := ⟨_, List.getElem?_eq_getElem hb25⟩
  obtain _ := il.each _ (List.mem_of_getElem? hx26)
  have hzl := il.small
  have hn0 := hq0 (i + 1)
  rw [allM_take hx26, ← hfo0] at hn0
  have hm0 := hq0 i
  rw [← hfo0] at hm0
  dsimp only at hm0
  have hgl := UInt16.toNat_lt x27
  have hb30 : i < List.length xs := (by omega)
  obtain ⟨adr28, had29⟩ := some_of il.nz hb30
  refine region_from ?_
  refine d_k [0,1,4,5,6,16,17,18] [] 3 En23 fun ac31 En32 => ?_
  refine f_o ?_
  refine q_v (x := Instr.indexAt 32 (.slice al (List.length xs) cl) (ni i)) (v := .pointer (some (Addr.add adr28 i))) En32 (Go.Dbr.run_indexsl (e := 37) (sz := 1) (j := i) (jo := i) had29 (by kernel_rfl) (by kernel_rfl) (by omega) hb30 (Nat.mul_one _) _) fun ac33 En34 => ?_
  refine f_o ?_
  refine op_loadf (d := some 20) (t := 37) (ad := adr28) (ao := al) (ys := List.flatMap fU16 xs) (o := i) (v := uv16 x27) En34 (by kernel_rfl) rfl (il.ro.ev Hv20).reads had29 ((flat_get1 (fun _ _ => rfl) hx26).trans rfl) (by kernel_rfl) ?_
  intro ac35 En36
  refine d_k [0,1,4,5,6,16,21] [(5, g_i .i64 (Go.Dbr.u16_to_i64 (x := x27) rfl))] 6 En36 fun ac37 En38 => ?_
  refine f_o ?_
  refine c_l [0,1] (M := [.box bk5 [.slice wa0 (List.length m0) wc0, .bool bd0] 126, .vec wa0 wc0 1 (bys m0) 5]) En38 Hv20 (fun hM41 => dwnum_go _ bk5 wa0 wc0 m0 bd0 2 (by omega) (UInt16.toNat x27) (by omega) (by first | omega | (simp; omega)) hM41) ?_
  rintro _ wo42 ⟨wa39, wc40, rfl, he43⟩
  refine ⟨_, _, [.box bk5 [.slice wa39 (List.length (m0 ++ beN 2 (UInt16.toNat x27))) wc40, .bool bd0] 126, .vec wa39 wc40 1 (bys (m0 ++ beN 2 (UInt16.toNat x27))) 5], rfl, he43, by kernel_rfl, fun ac45 En46 Hv47 => ?_⟩
  refine f_e ?_
  refine block_normal ?_
  refine then_normal ?_
  refine d_r [0,1,4,5,6] [(1, g_n (w_a i 1))] En46 fun ac48 En49 => ?_
  refine then_normal ?_
  refine ⟨_, ⟨i + 1, wa39, wc40, (m0 ++ beN 2 (UInt16.toNat x27)), bd0, rfl, En49.sb, Hv47.pk [0, 1], (by rw [allM_take hx26, ← hfo0] <;> rfl)⟩, ?_⟩
  omega
 ·
  refine wp_exit ?_
  refine then_exit ?_
  refine then_exit ?_
  refine block_exit ?_
  refine then_normal ?_
  refine wp_seq ?_
  have hfe0 := allM_all (F := u16F) (f := (fun y : RU16 => y)) (xs := xs) (i := i) (by omega)
  rw [← hfo0] at hfe0
  have ha0 := allB_all hq0
  rw [← hfe0] at ha0
  dsimp only at ha0
  refine region_from ?_
  refine d_k [0,1,4,5,6,23] [] 1 En23 fun ac50 En51 => ?_
  refine f_o ?_
  refine m_m 126 [.slice none 0 0, .bool false] En51 Hv20 fun ac53 wo54 bk52 En55 Hv56 => ?_
  refine d_e [0,1,4,5,6,7] [] En55 fun ac57 En58 => ?_
  refine then_normal ?_
  refine wp_seq ?_
  refine region_from ?_
  refine d_k [0,4,5,6,7,25,26,27] [] 3 En58 fun ac59 En60 => ?_
  refine f_o ?_
  have Hv61 : Ev w [] wo54 [.box bk5 [.slice wa0 (List.length m0) wc0, .bool bd0] 126, .vec wa0 wc0 1 (bys m0) 5, .box bk52 [.slice none 0 0, .bool false] 126, .vec none 0 1 (bys []) 5] := Ev.nil (sz := 1) (T := 5) Hv56
  refine c_l [2,3,0,1] (M := [.box bk52 [.slice none 0 0, .bool false] 126, .vec none 0 1 (bys []) 5, .box bk5 [.slice wa0 (List.length m0) wc0, .bool bd0] 126, .vec wa0 wc0 1 (bys m0) 5]) En60 Hv61 (fun hM64 => dpartw_go _ bk52 none 0 [] false bk5 wa0 wc0 m0 bd0 n (by omega) 2 (by omega) (by first | omega | (simp [wput_len, beN_len]; done) | (simp [wput_len, beN_len]; omega)) hM64) ?_
  rintro _ wo65 ⟨wa62, wc63, rfl, he66⟩
  refine ⟨_, _, [.box bk52 [.slice wa62 (List.length (dput n 2 16777215 [] m0)) wc63, .bool ((false || bd0) || dbad n 2 16777215 (List.length m0))] 126, .vec wa62 wc63 1 (bys (dput n 2 16777215 [] m0)) 5, .box bk5 [.slice wa0 (List.length m0) wc0, .bool bd0] 126, .vec wa0 wc0 1 (bys m0) 5], rfl, he66, by kernel_rfl, fun ac68 En69 Hv70 => ?_⟩
  refine f_e ?_
  refine then_normal ?_
  refine wp_seq ?_
  refine region_from ?_
  refine d_k [0,4,5,6,7,29] [] 1 En69 fun ac71 En72 => ?_
  refine f_o ?_
  refine c_l [0,1] (M := [.box bk52 [.slice wa62 (List.length (dput n 2 16777215 [] m0)) wc63, .bool ((false || bd0) || dbad n 2 16777215 (List.length m0))] 126, .vec wa62 wc63 1 (bys (dput n 2 16777215 [] m0)) 5]) En72 Hv70 (fun hM75 => ddone_go _ bk52 wa62 wc63 (dput n 2 16777215 [] m0) ((false || bd0) || dbad n 2 16777215 (List.length m0)) hM75) ?_
  rintro _ wo76 ⟨da73, dc74, rfl, he77⟩
  refine ⟨_, _, [.vec da73 dc74 1 (bys (doneL ((false || bd0) || dbad n 2 16777215 (List.length m0)) (dput n 2 16777215 [] m0))) 5, .box bk5 [.slice wa0 (List.length m0) wc0, .bool bd0] 126, .vec wa0 wc0 1 (bys m0) 5], rfl, he77, by kernel_rfl, fun ac79 En80 Hv81 => ?_⟩
  refine d_e [0,4,5,6,7] [] En80 fun ac82 En83 => ?_
  refine then_normal ?_
  refine wp_ret ?_
  refine d_ret1 (t := 4) (v := .slice da73 (List.length (doneL ((false || bd0) || dbad n 2 16777215 (List.length m0)) (dput n 2 16777215 [] m0))) dc74) En83 (by kernel_rfl) (by kernel_rfl) ?_
  unfold dputP
  rw [← hfe0]
  exact ⟨da73, dc74, rfl, Hv81.pk [0]⟩

theorem dputlist_go (w : World) (al : Option Addr) (cl : Nat) (xs : List RU16) (il : InS fU16 2 (fun y : RU16 => True) w [] al cl xs) (hq0 : allB u16F (List.map (fun y : RU16 => y) xs)) : Calls Try.prog 20 #[.slice al (List.length xs) cl] w fun e w' => ∃ a' c', e = .returned (.slice a' (List.length (dputP u16F 2 2 (List.map (fun y : RU16 => y) xs))) c') ∧ Ev w [] w' [.vec a' c' 1 (bys (dputP u16F 2 2 (List.map (fun y : RU16 => y) xs))) 5] := by
 refine d_0 [(0, .slice al (List.length xs) cl)] 5 Go.Proofs.Try.func20 Go.Proofs.Try.ntmps20 (Heap.nil _) fun act0 En0 Hv0 => ?_
 refine d_s [0,2] [] En0 fun ac1 En2 => ?_
 refine wp_seq ?_
 refine region_from ?_
 refine d_k [2,3] [] 1 En2 fun ac3 En4 => ?_
 refine f_o ?_
 refine c_0 En4 Hv0 (dpnumbers_go _ al cl xs (il.go Hv0 [] (by kernel_rfl) (fun _ h => h)) hq0 2 (by omega)) ?_
 rintro _ wo8 ⟨pa5, pc6, rfl, he9⟩
 refine ⟨_, _, _, rfl, he9, rfl, fun ac11 En12 Hv13 => ?_⟩
 refine d_e [2] [] En12 fun ac14 En15 => ?_
 refine then_normal ?_
 refine wp_ret ?_
 refine d_ret1 (t := 2) (v := .slice pa5 (List.length (dputP u16F 2 2 (List.map (fun y : RU16 => y) xs))) pc6) En15 (by kernel_rfl) (by kernel_rfl) ?_
 exact ⟨pa5, pc6, rfl, Hv13.pk [0]⟩

theorem dputversions_go (w : World) (al : Option Addr) (cl : Nat) (xs : List RU16) (il : InS fU16 2 (fun y : RU16 => True) w [] al cl xs) (hq0 : allB u16F (List.map (fun y : RU16 => y) xs)) : Calls Try.prog 22 #[.slice al (List.length xs) cl] w fun e w' => ∃ a' c', e = .returned (.slice a' (List.length (dputP u16F 1 2 (List.map (fun y : RU16 => y) xs))) c') ∧ Ev w [] w' [.vec a' c' 1 (bys (dputP u16F 1 2 (List.map (fun y : RU16 => y) xs))) 5] := by
 refine d_0 [(0, .slice al (List.length xs) cl)] 5 Go.Proofs.Try.func22 Go.Proofs.Try.ntmps22 (Heap.nil _) fun act0 En0 Hv0 => ?_
 refine d_s [0,2] [] En0 fun ac1 En2 => ?_
 refine wp_seq ?_
 refine region_from ?_
 refine d_k [2,3] [] 1 En2 fun ac3 En4 => ?_
 refine f_o ?_
 refine c_0 En4 Hv0 (dpnumbers_go _ al cl xs (il.go Hv0 [] (by kernel_rfl) (fun _ h => h)) hq0 1 (by omega)) ?_
 rintro _ wo8 ⟨pa5, pc6, rfl, he9⟩
 refine ⟨_, _, _, rfl, he9, rfl, fun ac11 En12 Hv13 => ?_⟩
 refine d_e [2] [] En12 fun ac14 En15 => ?_
 refine then_normal ?_
 refine wp_ret ?_
 refine d_ret1 (t := 2) (v := .slice pa5 (List.length (dputP u16F 1 2 (List.map (fun y : RU16 => y) xs))) pc6) En15 (by kernel_rfl) (by kernel_rfl) ?_
 exact ⟨pa5, pc6, rfl, Hv13.pk [0]⟩

theorem dpalpn_go (w : World) (al : Option Addr) (cl : Nat) (xs : List RStr) (il : InS fStr 16 (fun y : RStr => List.length y ≤ 140737488351232) w [] al cl xs) (hq0 : allB dalF (List.map (fun y : RStr => y) xs)) : Calls Try.prog 24 #[.slice al (List.length xs) cl] w fun e w' => ∃ a' c', e = .returned (.slice a' (List.length (dputP dalF 2 1 (List.map (fun y : RStr => y) xs))) c') ∧ Ev w [] w' [.vec a' c' 1 (bys (dputP dalF 2 1 (List.map (fun y : RStr => y) xs))) 5] := by
 refine d_0 [(0, .slice al (List.length xs) cl)] 28 Go.Proofs.Try.func24 Go.Proofs.Try.ntmps24 (Heap.nil _) fun act0 En0 Hv0 => ?_
 refine wp_seq ?_
 refine d_r [0,2] [] En0 fun ac1 En2 => ?_
 refine then_normal ?_
 refine wp_seq ?_
 refine region_from ?_
 refine d_k [0,2,6] [] 1 En2 fun ac3 En4 => ?_
 refine f_o ?_
 refine m_m 126 [.slice none 0 0, .bool false] En4 Hv0 fun ac6 wo7 bk5 En8 Hv9 => ?_
 refine d_e [0,2,3] [] En8 fun ac10 En11 => ?_
 refine then_normal ?_
 refine wp_seq ?_
 refine wp_seq ?_
 refine d_r [0,2,3,4] [] En11 fun ac12 En13 => ?_
 refine then_normal ?_
 refine wp_block ?_
 have Hv14 : Ev w [] wo7 [.box bk5 [.slice none 0 0, .bool false] 126, .vec none 0 1 (bys []) 5] := Ev.nil (sz := 1) (T := 5) Hv9
 refine loop_m (fun ms15 ac wo => ∃ (i : Nat) (wa0 : Option Addr) (wc0 : Nat) (m0 : Bs) (bd0 : Bool), ms15 = (List.length xs + 1 - i : Nat) ∧ Env ac 28 [(0, .slice al (List.length xs) cl), (2, .slice none 0 0), (3, pt bk5), (4, ni i)] ∧ Ev w [] wo [.box bk5 [.slice wa0 (List.length m0) wc0, .bool bd0] 126, .vec wa0 wc0 1 (bys m0) 5] ∧ ((m0, bd0) = allM dalF (List.take i (List.map (fun y : RStr => y) xs)))) ⟨_, 0, none, 0, [], false, rfl, En13.sb, Hv14.pk [0, 1], rfl⟩ ?_
 rintro mm21 ac17 wo18 ⟨i, wa0, wc0, m0, bd0, rfl, En19, Hv20, hfo0⟩
 refine wp_seq ?_
 refine wp_seq ?_
 refine d_r [0,2,3,4,11] [] En19 fun ac22 En23 => ?_
 refine then_normal ?_
 refine c_d (((i : Nat) : Int) < ((List.length xs : Nat) : Int)) En23 (fun hc24 => ?_) (fun hc24 => ?_)
 ·
  refine wp_skip ?_
  refine then_normal ?_
  refine wp_seq ?_
  refine wp_block ?_
  have hb25 : i < List.length xs := by omega
  obtain ⟨x27, hx26⟩ : ∃ x, (xs)[i]? = some x := ⟨_, List.getElem?_eq_getElem hb25⟩
  obtain s_x27 := il.each _ (List.mem_of_getElem? hx26)
  replace s_x27 : (List.length x27 ≤ 140737488351232) := s_x27
  have hzl := il.small
  have hn0 := hq0 (i + 1)
  rw [allM_take hx26, ← hfo0] at hn0
  have hm0 := hq0 i
  rw [← hfo0] at hm0
  dsimp only at hm0
  have hb30 : i < List.length xs := (by omega)
  obtain ⟨adr28, had29⟩ := some_of il.nz hb30
  refine region_from ?_
  refine d_k [0,2,3,4,14,15,16] [] 3 En23 fun ac31 En32 => ?_
  refine f_o ?_
  refine q_v (x := Instr.indexAt 33 (.slice al (List.length xs) cl) (ni i)) (v := .pointer (some (Addr.add adr28 i))) En32 (Go.Dbr.run_indexsl (e := 9) (sz := 1) (j := i) (jo := i) had29 (by kernel_rfl) (by kernel_rfl) (by omega) hb30 (Nat.mul_one _) _) fun ac33 En34 => ?_
  refine f_o ?_
  refine op_loadf (d := some 18) (t := 9) (ad := adr28) (ao := al) (ys := List.flatMap fStr xs) (o := i) (v := .string (bstr x27)) En34 (by kernel_rfl) rfl (il.ro.ev Hv20).reads had29 ((flat_get1 (fun _ _ => rfl) hx26).trans rfl) (by kernel_rfl) ?_
  intro ac35 En36
  refine f_o ?_
  refine op_bytes (d := some 19) (src := 9) (dst := 23) (e := 5) (s := x27) En36 (by kernel_rfl) (by kernel_rfl) (by kernel_rfl) (by kernel_rfl) Hv20 (by unfold maxLen; first | omega | (simp; omega)) ?_
  intro ac40 wo41 bk37 cp38 En42 Hv43 hcb39
  refine f_o ?_
  refine c_l [0,1] (M := [.box bk5 [.slice wa0 (List.length m0) wc0, .bool bd0] 126, .vec wa0 wc0 1 (bys m0) 5]) En42 Hv43 (fun hM46 => dwlist_go _ bk5 wa0 wc0 m0 bd0 1 (by omega) 1 255 (by omega) (by omega) (some ⟨bk37, 0, none⟩) cp38 x27 (bys_in Hv43.heap (k := 2) rfl [0, 1] (by kernel_rfl) rfl (by first | omega | (simp; done) | (simp; omega))) (by first | omega | (simp [wput_len, beN_len]; done) | (simp [wput_len, beN_len]; omega)) hM46) ?_
  rintro _ wo47 ⟨wa44, wc45, rfl, he48⟩
  refine ⟨_, _, [.box bk5 [.slice wa44 (List.length (dput 1 1 255 m0 x27)) wc45, .bool (bd0 || dbad 1 1 255 (List.length x27))] 126, .vec wa44 wc45 1 (bys (dput 1 1 255 m0 x27)) 5, .vec (some ⟨bk37, 0, none⟩) cp38 1 (bys x27) 5], rfl, he48, by kernel_rfl, fun ac50 En51 Hv52 => ?_⟩
  refine f_e ?_
  refine block_normal ?_
  refine then_normal ?_
  refine d_r [0,2,3,4] [(1, g_n (w_a i 1))] En51 fun ac53 En54 => ?_
  refine then_normal ?_
  refine ⟨_, ⟨i + 1, wa44, wc45, (dput 1 1 255 m0 x27), (bd0 || dbad 1 1 255 (List.length x27)), rfl, En54.sb, Hv52.pk [0, 1], (by rw [allM_take hx26, ← hfo0] <;> rfl)⟩, ?_⟩
  omega
 ·
  refine wp_exit ?_
  refine then_exit ?_
  refine then_exit ?_
  refine block_exit ?_
  refine then_normal ?_
  refine wp_seq ?_
  have hfe0 := allM_all (F := dalF) (f := (fun y : RStr => y)) (xs := xs) (i := i) (by omega)
  rw [← hfo0] at hfe0
  have ha0 := allB_all hq0
  rw [← hfe0] at ha0
  dsimp only at ha0
  refine region_from ?_
  refine d_k [0,2,3,4,21] [] 1 En23 fun ac55 En56 => ?_
  refine f_o ?_
  refine m_m 126 [.slice none 0 0, .bool false] En56 Hv20 fun ac58 wo59 bk57 En60 Hv61 => ?_
  refine d_e [0,2,3,4,5] [] En60 fun ac62 En63 => ?_
  refine then_normal ?_
  refine wp_seq ?_
  refine region_from ?_
  refine d_k [0,2,3,4,5,23,24] [] 2 En63 fun ac64 En65 => ?_
  refine f_o ?_
  have Hv66 : Ev w [] wo59 [.box bk5 [.slice wa0 (List.length m0) wc0, .bool bd0] 126, .vec wa0 wc0 1 (bys m0) 5, .box bk57 [.slice none 0 0, .bool false] 126, .vec none 0 1 (bys []) 5] := Ev.nil (sz := 1) (T := 5) Hv61
  refine c_l [2,3,0,1] (M := [.box bk57 [.slice none 0 0, .bool false] 126, .vec none 0 1 (bys []) 5, .box bk5 [.slice wa0 (List.length m0) wc0, .bool bd0] 126, .vec wa0 wc0 1 (bys m0) 5]) En65 Hv66 (fun hM69 => dpartw_go _ bk57 none 0 [] false bk5 wa0 wc0 m0 bd0 2 (by omega) 1 (by omega) (by first | omega | (simp [wput_len, beN_len]; done) | (simp [wput_len, beN_len]; omega)) hM69) ?_
  rintro _ wo70 ⟨wa67, wc68, rfl, he71⟩
  refine ⟨_, _, [.box bk57 [.slice wa67 (List.length (dput 2 1 16777215 [] m0)) wc68, .bool ((false || bd0) || dbad 2 1 16777215 (List.length m0))] 126, .vec wa67 wc68 1 (bys (dput 2 1 16777215 [] m0)) 5, .box bk5 [.slice wa0 (List.length m0) wc0, .bool bd0] 126, .vec wa0 wc0 1 (bys m0) 5], rfl, he71, by kernel_rfl, fun ac73 En74 Hv75 => ?_⟩
  refine f_e ?_
  refine then_normal ?_
  refine wp_seq ?_
  refine region_from ?_
  refine d_k [0,2,3,4,5,26] [] 1 En74 fun ac76 En77 => ?_
  refine f_o ?_
  refine c_l [0,1] (M := [.box bk57 [.slice wa67 (List.length (dput 2 1 16777215 [] m0)) wc68, .bool ((false || bd0) || dbad 2 1 16777215 (List.length m0))] 126, .vec wa67 wc68 1 (bys (dput 2 1 16777215 [] m0)) 5]) En77 Hv75 (fun hM80 => ddone_go _ bk57 wa67 wc68 (dput 2 1 16777215 [] m0) ((false || bd0) || dbad 2 1 16777215 (List.length m0)) hM80) ?_
  rintro _ wo81 ⟨da78, dc79, rfl, he82⟩
  refine ⟨_, _, [.vec da78 dc79 1 (bys (doneL ((false || bd0) || dbad 2 1 16777215 (List.length m0)) (dput 2 1 16777215 [] m0))) 5, .box bk5 [.slice wa0 (List.length m0) wc0, .bool bd0] 126, .vec wa0 wc0 1 (bys m0) 5], rfl, he82, by kernel_rfl, fun ac84 En85 Hv86 => ?_⟩
  refine d_e [0,2,3,4,5] [] En85 fun ac87 En88 => ?_
  refine then_normal ?_
  refine wp_ret ?_
  refine d_ret1 (t := 2) (v := .slice da78 (List.length (doneL ((false || bd0) || dbad 2 1 16777215 (List.length m0)) (dput 2 1 16777215 [] m0))) dc79) En88 (by kernel_rfl) (by kernel_rfl) ?_
  unfold dputP
  rw [← hfe0]
  exact ⟨da78, dc79, rfl, Hv86.pk [0]⟩

theorem dpshares_go (w : World) (al : Option Addr) (cl : Nat) (xs : List RSha) (il : InS fSha 32 (fun y : RSha => (True ∧ (InB w [] y.2.1.a y.2.1.c y.2.1.l ∧ (True)))) w [] al cl xs) (hq0 : allB dshF (List.map (fun y : RSha => (y.1, y.2.1.l)) xs)) : Calls Try.prog 28 #[.slice al (List.length xs) cl] w fun e w' => ∃ a' c', e = .returned (.slice a' (List.length (dputP dshF 2 0 (List.map (fun y : RSha => (y.1, y.2.1.l)) xs))) c') ∧ Ev w [] w' [.vec a' c' 1 (bys (dputP dshF 2 0 (List.map (fun y : RSha => (y.1, y.2.1.l)) xs))) 5] := by
 refine d_0 [(0, .slice al (List.length xs) cl)] 27 Go.Proofs.Try.func28 Go.Proofs.Try.ntmps28 (Heap.nil _) fun act0 En0 Hv0 => ?_
 refine wp_seq ?_
 refine d_r [0,2] [] En0 fun ac1 En2 => ?_
 refine then_normal ?_
 refine wp_seq ?_
 refine region_from ?_
 refine d_k [0,2,6] [] 1 En2 fun ac3 En4 => ?_
 refine f_o ?_
 refine m_m 126 [.slice none 0 0, .bool false] En4 Hv0 fun ac6 wo7 bk5 En8 Hv9 => ?_
 refine d_e [0,2,3] [] En8 fun ac10 En11 => ?_
 refine then_normal ?_
 refine wp_seq ?_
 refine wp_seq ?_
 refine d_r [0,2,3,4] [] En11 fun ac12 En13 => ?_
 refine then_normal ?_
 refine wp_block ?_
 have Hv14 : Ev w [] wo7 [.box bk5 [.slice none 0 0, .bool false] 126, .vec none 0 1 (bys []) 5] := Ev.nil (sz := 1) (T := 5) Hv9
 refine loop_m (fun ms15 ac wo => ∃ (i : Nat) (wa0 : Option Addr) (wc0 : Nat) (m0 : Bs) (bd0 : Bool), ms15 = (List.length xs + 1 - i : Nat) ∧ Env ac 27 [(0, .slice al (List.length xs) cl), (2, .slice none 0 0), (3, pt bk5), (4, ni i)] ∧ Ev w [] wo [.box bk5 [.slice wa0 (List.length m0) wc0, .bool bd0] 126, .vec wa0 wc0 1 (bys m0) 5] ∧ ((m0, bd0) = allM dshF (List.take i (List.map (fun y : RSha => (y.1, y.2.1.l)) xs)))) ⟨_, 0, none, 0, [], false, rfl, En13.sb, Hv14.pk [0, 1], rfl⟩ ?_
 rintro mm21 ac17 wo18 ⟨i, wa0, wc0, m0, bd0, rfl, En19, Hv20, hfo0⟩
 refine wp_seq ?_
 refine wp_seq ?_
 refine d_r [0,2,3,4,11] [] En19 fun ac22 En23 => ?_
 refine then_normal ?_
 refine c_d (((i : Nat) : Int) < ((List.length xs : Nat) : Int)) En23 (fun hc24 => ?_) (fun hc24 => ?_)
 ·
  refine wp_skip ?_
  refine then_normal ?_
  refine wp_seq ?_
  refine wp_block ?_
  have hb25 : i < List.length xs := by omega
  obtain ⟨⟨x27a, ⟨a_x27b, c_x27b, x27b⟩, _⟩, hx26⟩ : ∃ x, (xs)[i]? = some x := ⟨_, List.getElem?_eq_getElem hb25⟩
  obtain ⟨_, i_x27b, _⟩ := il.each _ (List.mem_of_getElem? hx26)
  replace i_x27b : InB w [] a_x27b c_x27b x27b := i_x27b
  have hzl := il.small
  have hn0 := hq0 (i + 1)
  rw [allM_take hx26, ← hfo0] at hn0
  have hm0 := hq0 i
  rw [← hfo0] at hm0
  dsimp only at hm0
  have hks := i_x27b.small
  have hb30 : i < List.length xs := (by omega)
  obtain ⟨adr28, had29⟩ := some_of il.nz hb30
  refine region_from ?_
  refine d_k [0,2,3,4,14,15,16] [] 3 En23 fun ac31 En32 => ?_
  refine f_o ?_
  refine q_v (x := Instr.indexAt 34 (.slice al (List.length xs) cl) (ni i)) (v := .pointer (some (Addr.add adr28 (i * 2)))) En32 (Go.Dbr.run_indexsl (e := 49) (sz := 2) (j := i) (jo := i * 2) had29 (by kernel_rfl) (by kernel_rfl) (by omega) hb30 rfl _) fun ac33 En34 => ?_
  refine f_o ?_
  refine op_loadaggat (d := some 18) (t := 49) (ad := adr28) (ao := al) (ys := List.flatMap fSha xs) (o := i * 2) (m := 2) (xs := [uv16 x27a, .slice a_x27b (List.length x27b) c_x27b]) En34 (by kernel_rfl) rfl (il.ro.ev Hv20).reads had29 (fun j hj => ?_) rfl (by kernel_rfl) (by kernel_rfl) ?_
  ·
   exact flat_sub (sz := 2) (off := 0) (m := 2) (fun _ _ => rfl) hx26 (by decide) rfl j hj
  intro ac35 En36
  refine f_o ?_
  refine c_l [0,1] (M := [.box bk5 [.slice wa0 (List.length m0) wc0, .bool bd0] 126, .vec wa0 wc0 1 (bys m0) 5]) En36 Hv20 (fun hM39 => dwshare_go _ bk5 wa0 wc0 m0 bd0 x27a a_x27b c_x27b x27b ((i_x27b.ev Hv20).pick [0, 1] (by kernel_rfl)) (by first | omega | (simp [wput_len, beN_len]; done) | (simp [wput_len, beN_len]; omega)) hM39) ?_
  rintro _ wo40 ⟨wa37, wc38, rfl, he41⟩
  refine ⟨_, _, [.box bk5 [.slice wa37 (List.length ((dshF (m0, bd0) (x27a, x27b)).1)) wc38, .bool ((dshF (m0, bd0) (x27a, x27b)).2)] 126, .vec wa37 wc38 1 (bys ((dshF (m0, bd0) (x27a, x27b)).1)) 5], rfl, he41, by kernel_rfl, fun ac43 En44 Hv45 => ?_⟩
  refine f_e ?_
  refine block_normal ?_
  refine then_normal ?_
  refine d_r [0,2,3,4] [(1, g_n (w_a i 1))] En44 fun ac46 En47 => ?_
  refine then_normal ?_
  refine ⟨_, ⟨i + 1, wa37, wc38, ((dshF (m0, bd0) (x27a, x27b)).1), ((dshF (m0, bd0) (x27a, x27b)).2), rfl, En47.sb, Hv45.pk [0, 1], (by rw [allM_take hx26, ← hfo0] <;> rfl)⟩, ?_⟩
  omega
 ·
  refine wp_exit ?_
  refine then_exit ?_
  refine then_exit ?_
  refine block_exit ?_
  refine then_normal ?_
  refine wp_seq ?_
  have hfe0 := allM_all (F := dshF) (f := (fun y : RSha => (y.1, y.2.1.l))) (xs := xs) (i := i) (by omega)
  rw [← hfo0] at hfe0
  have ha0 := allB_all hq0
  rw [← hfe0] at ha0
  dsimp only at ha0
  refine region_from ?_
  refine d_k [0,2,3,4,20] [] 1 En23 fun ac48 En49 => ?_
  refine f_o ?_
  refine m_m 126 [.slice none 0 0, .bool false] En49 Hv20 fun ac51 wo52 bk50 En53 Hv54 => ?_
  refine d_e [0,2,3,4,5] [] En53 fun ac55 En56 => ?_
  refine then_normal ?_
  refine wp_seq ?_
  refine region_from ?_
  refine d_k [0,2,3,4,5,22,23] [] 2 En56 fun ac57 En58 => ?_
  refine f_o ?_
  have Hv59 : Ev w [] wo52 [.box bk5 [.slice wa0 (List.length m0) wc0, .bool bd0] 126, .vec wa0 wc0 1 (bys m0) 5, .box bk50 [.slice none 0 0, .bool false] 126, .vec none 0 1 (bys []) 5] := Ev.nil (sz := 1) (T := 5) Hv54
  refine c_l [2,3,0,1] (M := [.box bk50 [.slice none 0 0, .bool false] 126, .vec none 0 1 (bys []) 5, .box bk5 [.slice wa0 (List.length m0) wc0, .bool bd0] 126, .vec wa0 wc0 1 (bys m0) 5]) En58 Hv59 (fun hM62 => dpartw_go _ bk50 none 0 [] false bk5 wa0 wc0 m0 bd0 2 (by omega) 0 (by omega) (by first | omega | (simp [wput_len, beN_len]; done) | (simp [wput_len, beN_len]; omega)) hM62) ?_
  rintro _ wo63 ⟨wa60, wc61, rfl, he64⟩
  refine ⟨_, _, [.box bk50 [.slice wa60 (List.length (dput 2 0 16777215 [] m0)) wc61, .bool ((false || bd0) || dbad 2 0 16777215 (List.length m0))] 126, .vec wa60 wc61 1 (bys (dput 2 0 16777215 [] m0)) 5, .box bk5 [.slice wa0 (List.length m0) wc0, .bool bd0] 126, .vec wa0 wc0 1 (bys m0) 5], rfl, he64, by kernel_rfl, fun ac66 En67 Hv68 => ?_⟩
  refine f_e ?_
  refine then_normal ?_
  refine wp_seq ?_
  refine region_from ?_
  refine d_k [0,2,3,4,5,25] [] 1 En67 fun ac69 En70 => ?_
  refine f_o ?_
  refine c_l [0,1] (M := [.box bk50 [.slice wa60 (List.length (dput 2 0 16777215 [] m0)) wc61, .bool ((false || bd0) || dbad 2 0 16777215 (List.length m0))] 126, .vec wa60 wc61 1 (bys (dput 2 0 16777215 [] m0)) 5]) En70 Hv68 (fun hM73 => ddone_go _ bk50 wa60 wc61 (dput 2 0 16777215 [] m0) ((false || bd0) || dbad 2 0 16777215 (List.length m0)) hM73) ?_
  rintro _ wo74 ⟨da71, dc72, rfl, he75⟩
  refine ⟨_, _, [.vec da71 dc72 1 (bys (doneL ((false || bd0) || dbad 2 0 16777215 (List.length m0)) (dput 2 0 16777215 [] m0))) 5, .box bk5 [.slice wa0 (List.length m0) wc0, .bool bd0] 126, .vec wa0 wc0 1 (bys m0) 5], rfl, he75, by kernel_rfl, fun ac77 En78 Hv79 => ?_⟩
  refine d_e [0,2,3,4,5] [] En78 fun ac80 En81 => ?_
  refine then_normal ?_
  refine wp_ret ?_
  refine d_ret1 (t := 2) (v := .slice da71 (List.length (doneL ((false || bd0) || dbad 2 0 16777215 (List.length m0)) (dput 2 0 16777215 [] m0))) dc72) En81 (by kernel_rfl) (by kernel_rfl) ?_
  unfold dputP
  rw [← hfe0]
  exact ⟨da71, dc72, rfl, Hv79.pk [0]⟩

theorem dppsks_go (w : World) (al : Option Addr) (cl : Nat) (xs : List RPsk) (il : InS fPsk 56 (fun y : RPsk => (InB w [] y.1.a y.1.c y.1.l ∧ (True ∧ (InB w [] y.2.2.1.a y.2.2.1.c y.2.2.1.l ∧ (True))))) w [] al cl xs) (hq0 : allB dk1F (List.map puPsk xs)) (hq1 : allB dk2F (List.map puPsk xs)) : Calls Try.prog 30 #[.slice al (List.length xs) cl] w fun e w' => ∃ a' c', e = .returned (.slice a' (List.length (dpskP (List.map puPsk xs))) c') ∧ Ev w [] w' [.vec a' c' 1 (bys (dpskP (List.map puPsk xs))) 5] := by
 refine d_0 [(0, .slice al (List.length xs) cl)] 49 Go.Proofs.Try.func30 Go.Proofs.Try.ntmps30 (Heap.nil _) fun act0 En0 Hv0 => ?_
 refine wp_seq ?_
 refine d_r [0,2] [] En0 fun ac1 En2 => ?_
 refine then_normal ?_
 refine wp_seq ?_
 refine region_from ?_
 refine d_k [0,2,7] [] 1 En2 fun ac3 En4 => ?_
 refine f_o ?_
 refine m_m 126 [.slice none 0 0, .bool false] En4 Hv0 fun ac6 wo7 bk5 En8 Hv9 => ?_
 refine d_e [0,2,3] [] En8 fun ac10 En11 => ?_
 refine then_normal ?_
 refine wp_seq ?_
 refine region_from ?_
 refine d_k [0,2,3,9] [] 1 En11 fun ac12 En13 => ?_
 refine f_o ?_
 refine m_m 126 [.slice none 0 0, .bool false] En13 Hv9 fun ac15 wo16 bk14 En17 Hv18 => ?_
 refine d_e [0,2,3,4] [] En17 fun ac19 En20 => ?_
 refine then_normal ?_
 refine wp_seq ?_
 refine wp_seq ?_
 refine d_r [0,2,3,4,5] [] En20 fun ac21 En22 => ?_
 refine then_normal ?_
 refine wp_block ?_
 have Hv23 : Ev w [] wo16 [.box bk5 [.slice none 0 0, .bool false] 126, .box bk14 [.slice none 0 0, .bool false] 126, .vec none 0 1 (bys []) 5] := Ev.nil (sz := 1) (T := 5) Hv18
 have Hv24 : Ev w [] wo16 [.box bk5 [.slice none 0 0, .bool false] 126, .box bk14 [.slice none 0 0, .bool false] 126, .vec none 0 1 (bys []) 5, .vec none 0 1 (bys []) 5] := Ev.nil (sz := 1) (T := 5) Hv23
 refine loop_m (fun ms25 ac wo => ∃ (i : Nat) (wa0 : Option Addr) (wc0 : Nat) (m0 : Bs) (bd0 : Bool) (wa1 : Option Addr) (wc1 : Nat) (m1 : Bs) (bd1 : Bool), ms25 = (List.length xs + 1 - i : Nat) ∧ Env ac 49 [(0, .slice al (List.length xs) cl), (2, .slice none 0 0), (3, pt bk5), (4, pt bk14), (5, ni i)] ∧ Ev w [] wo [.box bk5 [.slice wa0 (List.length m0) wc0, .bool bd0] 126, .vec wa0 wc0 1 (bys m0) 5, .box bk14 [.slice wa1 (List.length m1) wc1, .bool bd1] 126, .vec wa1 wc1 1 (bys m1) 5] ∧ ((m0, bd0) = allM dk1F (List.take i (List.map puPsk xs))) ∧ ((m1, bd1) = allM dk2F (List.take i (List.map puPsk xs)))) ⟨_, 0, none, 0, [], false, none, 0, [], false, rfl, En22.sb, Hv24.pk [0, 2, 1, 3], rfl, rfl⟩ ?_
 rintro mm31 ac27 wo28 ⟨i, wa0, wc0, m0, bd0, wa1, wc1, m1, bd1, rfl, En29, Hv30, hfo0, hfo1⟩
 refine wp_seq ?_
 refine wp_seq ?_
 refine d_r [0,2,3,4,5,14] [] En29 fun ac32 En33 => ?_
 refine then_normal ?_
 refine c_d (((i : Nat) : Int) < ((List.length xs : Nat) : Int)) En33 (fun hc34 => ?_) (fun hc34 => ?_)
 ·
  refine wp_skip ?_
  refine then_normal ?_
  refine wp_seq ?_
  refine wp_block ?_
  refine wp_seq ?_
  have hb35 : i < List.length xs := by omega
  obtain ⟨⟨⟨a_x37a, c_x37a, x37a⟩, x37b, ⟨a_x37c, c_x37c, x37c⟩, _⟩, hx36⟩ : ∃ x, (xs)[i]? = some x := ⟨_, List.getElem?_eq_getElem hb35⟩
  obtain ⟨i_x37a, _, i_x37c, _⟩ := il.each _ (List.mem_of_getElem? hx36)
  replace i_x37a : InB w [] a_x37a c_x37a x37a := i_x37a
  replace i_x37c : InB w [] a_x37c c_x37c x37c := i_x37c
  have hzl := il.small
  have hn0 := hq0 (i + 1)
  rw [allM_take hx36, ← hfo0] at hn0
  have hm0 := hq0 i
  rw [← hfo0] at hm0
  dsimp only at hm0
  have hn1 := hq1 (i + 1)
  rw [allM_take hx36, ← hfo1] at hn1
  have hm1 := hq1 i
  rw [← hfo1] at hm1
  dsimp only at hm1
  have hks := i_x37a.small
  have hkt := i_x37c.small
  have hgl := UInt32.toNat_lt x37b
  have hdl := dput_len 2 1 65535 m0 x37a
  have hb40 : i < List.length xs := (by omega)
  obtain ⟨adr38, had39⟩ := some_of il.nz hb40
  refine region_from ?_
  refine d_k [0,2,3,4,5,17,18,19] [] 3 En33 fun ac41 En42 => ?_
  refine f_o ?_
  refine q_v (x := Instr.indexAt 35 (.slice al (List.length xs) cl) (ni i)) (v := .pointer (some (Addr.add adr38 (i * 3)))) En42 (Go.Dbr.run_indexsl (e := 140) (sz := 3) (j := i) (jo := i * 3) had39 (by kernel_rfl) (by kernel_rfl) (by omega) hb40 rfl _) fun ac43 En44 => ?_
  refine d_k [0,2,3,4,5,17,21] [] 5 En44 fun ac45 En46 => ?_
  refine f_o ?_
  refine op_loadf (d := some 22) (t := 23) (ad := adr38) (ao := al) (ys := List.flatMap fPsk xs) (o := i * 3) (v := .slice a_x37a (List.length x37a) c_x37a) En46 (by kernel_rfl) rfl (il.ro.ev Hv30).reads had39 ((flat_get (sz := 3) (j := 0) (fun _ _ => rfl) hx36 (by decide)).trans rfl) (by kernel_rfl) ?_
  intro ac47 En48
  refine f_o ?_
  refine c_l [0,1] (M := [.box bk5 [.slice wa0 (List.length m0) wc0, .bool bd0] 126, .vec wa0 wc0 1 (bys m0) 5]) En48 Hv30 (fun hM51 => dwlist_go _ bk5 wa0 wc0 m0 bd0 2 (by omega) 1 65535 (by omega) (by omega) a_x37a c_x37a x37a ((i_x37a.ev Hv30).pick [0, 1] (by kernel_rfl)) (by first | omega | (simp [wput_len, beN_len]; done) | (simp [wput_len, beN_len]; omega)) hM51) ?_
  rintro _ wo52 ⟨wa49, wc50, rfl, he53⟩
  refine ⟨_, _, [.box bk5 [.slice wa49 (List.length (dput 2 1 65535 m0 x37a)) wc50, .bool (bd0 || dbad 2 1 65535 (List.length x37a))] 126, .vec wa49 wc50 1 (bys (dput 2 1 65535 m0 x37a)) 5, .box bk14 [.slice wa1 (List.length m1) wc1, .bool bd1] 126, .vec wa1 wc1 1 (bys m1) 5], rfl, he53, by kernel_rfl, fun ac55 En56 Hv57 => ?_⟩
  refine f_e ?_
  refine then_normal ?_
  refine wp_seq ?_
  have hb60 : i < List.length xs := (by omega)
  obtain ⟨adr58, had59⟩ := some_of il.nz hb60
  refine region_from ?_
  refine d_k [0,2,3,4,5,24,25,26] [] 3 En56 fun ac61 En62 => ?_
  refine f_o ?_
  refine q_v (x := Instr.indexAt 35 (.slice al (List.length xs) cl) (ni i)) (v := .pointer (some (Addr.add adr58 (i * 3)))) En62 (Go.Dbr.run_indexsl (e := 140) (sz := 3) (j := i) (jo := i * 3) had59 (by kernel_rfl) (by kernel_rfl) (by omega) hb60 rfl _) fun ac63 En64 => ?_
  refine d_k [0,2,3,4,5,24,28] [] 5 En64 fun ac65 En66 => ?_
  refine f_o ?_
  refine op_loadf (d := some 29) (t := 84) (ad := adr58) (ao := al) (ys := List.flatMap fPsk xs) (o := i * 3 + 1) (v := uv32 x37b) En66 (by kernel_rfl) (Deep.add_add _ _ _) (il.ro.ev Hv57).reads had59 ((flat_get (sz := 3) (j := 1) (fun _ _ => rfl) hx36 (by decide)).trans rfl) (by kernel_rfl) ?_
  intro ac67 En68
  refine d_k [0,2,3,4,5,24,30] [(6, g_i .i64 (Go.Dbr.u32_to_i64 (x := x37b) rfl))] 7 En68 fun ac69 En70 => ?_
  refine f_o ?_
  refine c_l [0,1] (M := [.box bk5 [.slice wa49 (List.length (dput 2 1 65535 m0 x37a)) wc50, .bool (bd0 || dbad 2 1 65535 (List.length x37a))] 126, .vec wa49 wc50 1 (bys (dput 2 1 65535 m0 x37a)) 5]) En70 Hv57 (fun hM73 => dwnum_go _ bk5 wa49 wc50 (dput 2 1 65535 m0 x37a) (bd0 || dbad 2 1 65535 (List.length x37a)) 4 (by omega) (UInt32.toNat x37b) (by omega) (by first | omega | (simp; omega)) hM73) ?_
  rintro _ wo74 ⟨wa71, wc72, rfl, he75⟩
  refine ⟨_, _, [.box bk5 [.slice wa71 (List.length ((dput 2 1 65535 m0 x37a) ++ beN 4 (UInt32.toNat x37b))) wc72, .bool (bd0 || dbad 2 1 65535 (List.length x37a))] 126, .vec wa71 wc72 1 (bys ((dput 2 1 65535 m0 x37a) ++ beN 4 (UInt32.toNat x37b))) 5, .box bk14 [.slice wa1 (List.length m1) wc1, .bool bd1] 126, .vec wa1 wc1 1 (bys m1) 5], rfl, he75, by kernel_rfl, fun ac77 En78 Hv79 => ?_⟩
  refine f_e ?_
  refine then_normal ?_
  have hb82 : i < List.length xs := (by omega)
  obtain ⟨adr80, had81⟩ := some_of il.nz hb82
  refine region_from ?_
  refine d_k [0,2,3,4,5,32,33,34] [] 3 En78 fun ac83 En84 => ?_
  refine f_o ?_
  refine q_v (x := Instr.indexAt 35 (.slice al (List.length xs) cl) (ni i)) (v := .pointer (some (Addr.add adr80 (i * 3)))) En84 (Go.Dbr.run_indexsl (e := 140) (sz := 3) (j := i) (jo := i * 3) had81 (by kernel_rfl) (by kernel_rfl) (by omega) hb82 rfl _) fun ac85 En86 => ?_
  refine d_k [0,2,3,4,5,32,36] [] 5 En86 fun ac87 En88 => ?_
  refine f_o ?_
  refine op_loadf (d := some 37) (t := 23) (ad := adr80) (ao := al) (ys := List.flatMap fPsk xs) (o := i * 3 + 2) (v := .slice a_x37c (List.length x37c) c_x37c) En88 (by kernel_rfl) (Deep.add_add _ _ _) (il.ro.ev Hv79).reads had81 ((flat_get (sz := 3) (j := 2) (fun _ _ => rfl) hx36 (by decide)).trans rfl) (by kernel_rfl) ?_
  intro ac89 En90
  refine f_o ?_
  refine c_l [2,3] (M := [.box bk14 [.slice wa1 (List.length m1) wc1, .bool bd1] 126, .vec wa1 wc1 1 (bys m1) 5]) En90 Hv79 (fun hM93 => dwlist_go _ bk14 wa1 wc1 m1 bd1 1 (by omega) 32 255 (by omega) (by omega) a_x37c c_x37c x37c ((i_x37c.ev Hv79).pick [2, 3] (by kernel_rfl)) (by first | omega | (simp [wput_len, beN_len]; done) | (simp [wput_len, beN_len]; omega)) hM93) ?_
  rintro _ wo94 ⟨wa91, wc92, rfl, he95⟩
  refine ⟨_, _, [.box bk14 [.slice wa91 (List.length (dput 1 32 255 m1 x37c)) wc92, .bool (bd1 || dbad 1 32 255 (List.length x37c))] 126, .vec wa91 wc92 1 (bys (dput 1 32 255 m1 x37c)) 5, .box bk5 [.slice wa71 (List.length ((dput 2 1 65535 m0 x37a) ++ beN 4 (UInt32.toNat x37b))) wc72, .bool (bd0 || dbad 2 1 65535 (List.length x37a))] 126, .vec wa71 wc72 1 (bys ((dput 2 1 65535 m0 x37a) ++ beN 4 (UInt32.toNat x37b))) 5], rfl, he95, by kernel_rfl, fun ac97 En98 Hv99 => ?_⟩
  refine f_e ?_
  refine block_normal ?_
  refine then_normal ?_
  refine d_r [0,2,3,4,5] [(1, g_n (w_a i 1))] En98 fun ac100 En101 => ?_
  refine then_normal ?_
  refine ⟨_, ⟨i + 1, wa71, wc72, ((dput 2 1 65535 m0 x37a) ++ beN 4 (UInt32.toNat x37b)), (bd0 || dbad 2 1 65535 (List.length x37a)), wa91, wc92, (dput 1 32 255 m1 x37c), (bd1 || dbad 1 32 255 (List.length x37c)), rfl, En101.sb, Hv99.pk [2, 3, 0, 1], (by rw [allM_take hx36, ← hfo0] <;> rfl), (by rw [allM_take hx36, ← hfo1] <;> rfl)⟩, ?_⟩
  omega
 ·
  refine wp_exit ?_
  refine then_exit ?_
  refine then_exit ?_
  refine block_exit ?_
  refine then_normal ?_
  refine wp_seq ?_
  have hfe0 := allM_all (F := dk1F) (f := puPsk) (xs := xs) (i := i) (by omega)
  rw [← hfo0] at hfe0
  have ha0 := allB_all hq0
  rw [← hfe0] at ha0
  dsimp only at ha0
  have hfe1 := allM_all (F := dk2F) (f := puPsk) (xs := xs) (i := i) (by omega)
  rw [← hfo1] at hfe1
  have ha1 := allB_all hq1
  rw [← hfe1] at ha1
  dsimp only at ha1
  have hdl := dput_len 2 1 16777215 [] m0
  rw [List.length_nil] at hdl
  refine region_from ?_
  refine d_k [0,2,3,4,5,39] [] 1 En33 fun ac102 En103 => ?_
  refine f_o ?_
  refine m_m 126 [.slice none 0 0, .bool false] En103 Hv30 fun ac105 wo106 bk104 En107 Hv108 => ?_
  refine d_e [0,2,3,4,5,6] [] En107 fun ac109 En110 => ?_
  refine then_normal ?_
  refine wp_seq ?_
  refine region_from ?_
  refine d_k [0,2,3,4,5,6,41,42] [] 2 En110 fun ac111 En112 => ?_
  refine f_o ?_
  have Hv113 : Ev w [] wo106 [.box bk5 [.slice wa0 (List.length m0) wc0, .bool bd0] 126, .vec wa0 wc0 1 (bys m0) 5, .box bk14 [.slice wa1 (List.length m1) wc1, .bool bd1] 126, .vec wa1 wc1 1 (bys m1) 5, .box bk104 [.slice none 0 0, .bool false] 126, .vec none 0 1 (bys []) 5] := Ev.nil (sz := 1) (T := 5) Hv108
  refine c_l [4,5,0,1] (M := [.box bk104 [.slice none 0 0, .bool false] 126, .vec none 0 1 (bys []) 5, .box bk5 [.slice wa0 (List.length m0) wc0, .bool bd0] 126, .vec wa0 wc0 1 (bys m0) 5]) En112 Hv113 (fun hM116 => dpartw_go _ bk104 none 0 [] false bk5 wa0 wc0 m0 bd0 2 (by omega) 1 (by omega) (by first | omega | (simp [wput_len, beN_len]; done) | (simp [wput_len, beN_len]; omega)) hM116) ?_
  rintro _ wo117 ⟨wa114, wc115, rfl, he118⟩
  refine ⟨_, _, [.box bk104 [.slice wa114 (List.length (dput 2 1 16777215 [] m0)) wc115, .bool ((false || bd0) || dbad 2 1 16777215 (List.length m0))] 126, .vec wa114 wc115 1 (bys (dput 2 1 16777215 [] m0)) 5, .box bk5 [.slice wa0 (List.length m0) wc0, .bool bd0] 126, .vec wa0 wc0 1 (bys m0) 5, .box bk14 [.slice wa1 (List.length m1) wc1, .bool bd1] 126, .vec wa1 wc1 1 (bys m1) 5], rfl, he118, by kernel_rfl, fun ac120 En121 Hv122 => ?_⟩
  refine f_e ?_
  refine then_normal ?_
  refine wp_seq ?_
  refine region_from ?_
  refine d_k [0,2,3,4,5,6,44,45] [] 2 En121 fun ac123 En124 => ?_
  refine f_o ?_
  refine c_l [0,1,4,5] (M := [.box bk104 [.slice wa114 (List.length (dput 2 1 16777215 [] m0)) wc115, .bool ((false || bd0) || dbad 2 1 16777215 (List.length m0))] 126, .vec wa114 wc115 1 (bys (dput 2 1 16777215 [] m0)) 5, .box bk14 [.slice wa1 (List.length m1) wc1, .bool bd1] 126, .vec wa1 wc1 1 (bys m1) 5]) En124 Hv122 (fun hM127 => dpartw_go _ bk104 wa114 wc115 (dput 2 1 16777215 [] m0) ((false || bd0) || dbad 2 1 16777215 (List.length m0)) bk14 wa1 wc1 m1 bd1 2 (by omega) 1 (by omega) (by first | omega | (simp [wput_len, beN_len]; done) | (simp [wput_len, beN_len]; omega)) hM127) ?_
  rintro _ wo128 ⟨wa125, wc126, rfl, he129⟩
  refine ⟨_, _, [.box bk104 [.slice wa125 (List.length (dput 2 1 16777215 (dput 2 1 16777215 [] m0) m1)) wc126, .bool ((((false || bd0) || dbad 2 1 16777215 (List.length m0)) || bd1) || dbad 2 1 16777215 (List.length m1))] 126, .vec wa125 wc126 1 (bys (dput 2 1 16777215 (dput 2 1 16777215 [] m0) m1)) 5, .box bk14 [.slice wa1 (List.length m1) wc1, .bool bd1] 126, .vec wa1 wc1 1 (bys m1) 5, .box bk5 [.slice wa0 (List.length m0) wc0, .bool bd0] 126, .vec wa0 wc0 1 (bys m0) 5], rfl, he129, by kernel_rfl, fun ac131 En132 Hv133 => ?_⟩
  refine f_e ?_
  refine then_normal ?_
  refine wp_seq ?_
  refine region_from ?_
  refine d_k [0,2,3,4,5,6,47] [] 1 En132 fun ac134 En135 => ?_
  refine f_o ?_
  refine c_l [0,1] (M := [.box bk104 [.slice wa125 (List.length (dput 2 1 16777215 (dput 2 1 16777215 [] m0) m1)) wc126, .bool ((((false || bd0) || dbad 2 1 16777215 (List.length m0)) || bd1) || dbad 2 1 16777215 (List.length m1))] 126, .vec wa125 wc126 1 (bys (dput 2 1 16777215 (dput 2 1 16777215 [] m0) m1)) 5]) En135 Hv133 (fun hM138 => ddone_go _ bk104 wa125 wc126 (dput 2 1 16777215 (dput 2 1 16777215 [] m0) m1) ((((false || bd0) || dbad 2 1 16777215 (List.length m0)) || bd1) || dbad 2 1 16777215 (List.length m1)) hM138) ?_
  rintro _ wo139 ⟨da136, dc137, rfl, he140⟩
  refine ⟨_, _, [.vec da136 dc137 1 (bys (doneL ((((false || bd0) || dbad 2 1 16777215 (List.length m0)) || bd1) || dbad 2 1 16777215 (List.length m1)) (dput 2 1 16777215 (dput 2 1 16777215 [] m0) m1))) 5, .box bk14 [.slice wa1 (List.length m1) wc1, .bool bd1] 126, .vec wa1 wc1 1 (bys m1) 5, .box bk5 [.slice wa0 (List.length m0) wc0, .bool bd0] 126, .vec wa0 wc0 1 (bys m0) 5], rfl, he140, by kernel_rfl, fun ac142 En143 Hv144 => ?_⟩
  refine d_e [0,2,3,4,5,6] [] En143 fun ac145 En146 => ?_
  refine then_normal ?_
  refine wp_ret ?_
  refine d_ret1 (t := 2) (v := .slice da136 (List.length (doneL ((((false || bd0) || dbad 2 1 16777215 (List.length m0)) || bd1) || dbad 2 1 16777215 (List.length m1)) (dput 2 1 16777215 (dput 2 1 16777215 [] m0) m1))) dc137) En146 (by kernel_rfl) (by kernel_rfl) ?_
  unfold dpskP
  rw [← hfe0, ← hfe1]
  exact ⟨da136, dc137, rfl, Hv144.pk [0]⟩

end Go.Proofs.Ytofecellbfhnjaa
