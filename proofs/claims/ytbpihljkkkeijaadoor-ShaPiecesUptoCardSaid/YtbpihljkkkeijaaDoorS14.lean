/- Layer 5: the sum of the document. -/
import Derived.Test.YtbpihljkkkeijaaDoorS12x32
import Derived.Test.YtbpihljkkkeijaaDoorS12x64
import Derived.Test.YtbpihljkkkeijaaDoorS13
namespace Go.Proofs.YtbpihljkkkeijaaDoor
open Go.Dbr
set_option maxRecDepth 100000
set_option maxHeartbeats 2000000
set_option linter.unusedVariables false
set_option linter.unusedSimpArgs false

theorem sum32_doc (w : World) (ax : Option Addr) (nx cx : Nat) (lx : List UInt8) (ex : nx = List.length lx) (ix : InB w [] ax cx lx) : Calls Tryd.prog 33 #[.slice ax nx cx] w fun e w' => ∃ ao co, e = .returned (.slice ao (List.length (sumF 1 lx)) co) ∧ Ev w [] w' [.vec ao co 1 (bys (sumF 1 lx)) 5] := by
  have h := sum32_ref w ax nx cx lx ex ix
  rw [sum_same1] at h
  exact h

theorem docof1 (w : World) (ax : Option Addr) (nx cx : Nat) (lx : List UInt8) (ex : nx = List.length lx) (ix : InB w [] ax cx lx) : Calls Tryd.prog 14 #[.int .i64 1, .slice ax nx cx] w fun e w' => ∃ ao co, e = .returned (.slice ao (List.length (sumF 1 lx)) co) ∧ Ev w [] w' [.vec ao co 1 (bys (sumF 1 lx)) 5] := by
 subst ex
 have hs := ix.small
 have hcx := ix.cap
 refine d_0 [(0, .int .i64 1), (1, .slice ax (List.length lx) cx)] 21 Go.Proofs.Tryd.func14 Go.Proofs.Tryd.ntmps14 (Heap.nil _) fun act0 En0 Hv0 => ?_
 refine wp_seq ?_
 refine d_r [0,1,4] [] En0 fun ac1 En2 => ?_
 refine then_normal ?_
 refine wp_seq ?_
 refine wp_seq ?_
 refine d_r [1,4,5] [] En2 fun ac3 En4 => ?_
 refine then_normal ?_
 refine wp_block ?_
 refine wp_seq ?_
 refine d_r [1,4,5,6] [] En4 fun ac5 En6 => ?_
 refine then_normal ?_
 refine c_t En6 ?_
 refine wp_seq ?_
 refine region_from ?_
 refine d_k [1,4,5,8] [] 1 En6 fun ac7 En8 => ?_
 refine f_o ?_
 refine c_0 En8 Hv0 (sum32_doc _ ax (List.length lx) cx lx (by first | rfl | (simp; done) | (simp; omega) | omega) ((ix.ev Hv0).pick [] (by kernel_rfl))) ?_
 rintro _ wo11 ⟨aoq9, coq9, rfl, he12⟩
 refine ⟨_, _, _, rfl, he12, rfl, fun ac14 En15 Hv16 => ?_⟩
 refine d_e [1,4,5] [] En15 fun ac17 En18 => ?_
 refine then_normal ?_
 refine wp_ret ?_
 refine block_ret ?_
 refine then_ret ?_
 refine d_ret1 (t := 4) (v := .slice aoq9 (List.length (sumF 1 lx)) coq9) En18 (by kernel_rfl) (by kernel_rfl) ?_
 have Hf19 := Hv16.pk [0] (M := [.vec aoq9 coq9 1 (bys (sumF 1 lx)) 5])
 exact ⟨_, _, rfl, Hf19⟩

theorem docof2 (w : World) (ax : Option Addr) (nx cx : Nat) (lx : List UInt8) (ex : nx = List.length lx) (ix : InB w [] ax cx lx) : Calls Tryd.prog 14 #[.int .i64 2, .slice ax nx cx] w fun e w' => ∃ ao co, e = .returned (.slice ao (List.length (sumF 2 lx)) co) ∧ Ev w [] w' [.vec ao co 1 (bys (sumF 2 lx)) 5] := by
 subst ex
 have hs := ix.small
 have hcx := ix.cap
 refine d_0 [(0, .int .i64 2), (1, .slice ax (List.length lx) cx)] 21 Go.Proofs.Tryd.func14 Go.Proofs.Tryd.ntmps14 (Heap.nil _) fun act0 En0 Hv0 => ?_
 refine wp_seq ?_
 refine d_r [0,1,4] [] En0 fun ac1 En2 => ?_
 refine then_normal ?_
 refine wp_seq ?_
 refine wp_seq ?_
 refine d_r [1,4,5] [] En2 fun ac3 En4 => ?_
 refine then_normal ?_
 refine wp_block ?_
 refine wp_seq ?_
 refine d_r [1,4,5,6] [] En4 fun ac5 En6 => ?_
 refine then_normal ?_
 refine c_f En6 ?_
 refine wp_seq ?_
 refine d_r [1,4,5,10] [] En6 fun ac7 En8 => ?_
 refine then_normal ?_
 refine c_t En8 ?_
 refine wp_seq ?_
 have hl64 : ∀ s, List.length (ro64 s 8) = 64 := fun s => by rw [ro64_eq, out64_len]
 have hl := hl64 (rfeed64 (init64 2) (lx ++ padB 128 (List.length lx % 128) (List.length lx)) (List.length (lx ++ padB 128 (List.length lx % 128) (List.length lx)) / 128))
 refine region_from ?_
 refine d_k [1,4,5,12,13] [] 2 En8 fun ac9 En10 => ?_
 refine f_o ?_
 refine c_0 En10 Hv0 (sum64_ref _ ax (List.length lx) cx lx (by first | rfl | (simp; done) | (simp; omega) | omega) ((ix.ev Hv0).pick [] (by kernel_rfl)) (init64 2) (init64_len _)) ?_
 rintro _ wo13 ⟨aoq11, coq11, rfl, he14⟩
 refine ⟨_, _, _, rfl, he14, rfl, fun ac16 En17 Hv18 => ?_⟩
 refine f_o ?_
 have hcap19 := bys_vcap Hv18.heap (k := 0) rfl
 refine op_slice0 (d := some 15) (t := 23) (e := 5) (sz := 1) (len := List.length (ro64 (rfeed64 (init64 2) (lx ++ padB 128 (List.length lx % 128) (List.length lx)) (List.length (lx ++ padB 128 (List.length lx % 128) (List.length lx)) / 128)) 8)) (cap := coq11) (hi := 48) (ao := aoq11) (lov := none) (hiv := (some (.int .i64 48))) En17 (by kernel_rfl) (by kernel_rfl) (by kernel_rfl) (by omega) (.inl ⟨rfl, rfl⟩) (.inr ⟨.i64, rfl⟩) ?_
 intro ac20 En21
 have Hv22 : Ev w [] wo13 [.vec aoq11 coq11 1 (bys (List.take 48 (ro64 (rfeed64 (init64 2) (lx ++ padB 128 (List.length lx % 128) (List.length lx)) (List.length (lx ++ padB 128 (List.length lx % 128) (List.length lx)) / 128)) 8))) 5] := by
  have h := Ev.cut (k := 0) (n := List.length (ro64 (rfeed64 (init64 2) (lx ++ padB 128 (List.length lx % 128) (List.length lx)) (List.length (lx ++ padB 128 (List.length lx % 128) (List.length lx)) / 128)) 8)) (sz := 1) Hv18 rfl (bys_len _) (by omega) 0 48 (by omega) (by omega)
  rw [cutAt_zero] at h
  rw [bys_cut0] at h
  exact h
 have el23 : 48 = List.length (List.take 48 (ro64 (rfeed64 (init64 2) (lx ++ padB 128 (List.length lx % 128) (List.length lx)) (List.length (lx ++ padB 128 (List.length lx % 128) (List.length lx)) / 128)) 8)) := by first | (simp; done) | (rw [List.length_take]; omega) | (rw [List.length_drop]; omega) | (simp; omega)
 rw [el23] at En21
 refine d_e [1,4,5] [] En21 fun ac24 En25 => ?_
 refine then_normal ?_
 refine wp_ret ?_
 refine block_ret ?_
 refine then_ret ?_
 refine d_ret1 (t := 4) (v := .slice aoq11 (List.length (List.take 48 (ro64 (rfeed64 (init64 2) (lx ++ padB 128 (List.length lx % 128) (List.length lx)) (List.length (lx ++ padB 128 (List.length lx % 128) (List.length lx)) / 128)) 8))) coq11) En25 (by kernel_rfl) (by kernel_rfl) ?_
 have Hf26 := Hv22.pk [0] (M := [.vec aoq11 coq11 1 (bys (List.take 48 (ro64 (rfeed64 (init64 2) (lx ++ padB 128 (List.length lx % 128) (List.length lx)) (List.length (lx ++ padB 128 (List.length lx % 128) (List.length lx)) / 128)) 8))) 5])
 have hse : List.take 48 (ro64 (rfeed64 (init64 2) (lx ++ padB 128 (List.length lx % 128) (List.length lx)) (List.length (lx ++ padB 128 (List.length lx % 128) (List.length lx)) / 128)) 8) = sumF 2 lx := by rw [← sum_same2 (h := 2) (by decide), show sizeOfH 2 = 48 from rfl]
 rw [hse] at Hf26
 exact ⟨_, _, by rw [hse], Hf26⟩

theorem docof3 (w : World) (ax : Option Addr) (nx cx : Nat) (lx : List UInt8) (ex : nx = List.length lx) (ix : InB w [] ax cx lx) : Calls Tryd.prog 14 #[.int .i64 3, .slice ax nx cx] w fun e w' => ∃ ao co, e = .returned (.slice ao (List.length (sumF 3 lx)) co) ∧ Ev w [] w' [.vec ao co 1 (bys (sumF 3 lx)) 5] := by
 subst ex
 have hs := ix.small
 have hcx := ix.cap
 refine d_0 [(0, .int .i64 3), (1, .slice ax (List.length lx) cx)] 21 Go.Proofs.Tryd.func14 Go.Proofs.Tryd.ntmps14 (Heap.nil _) fun act0 En0 Hv0 => ?_
 refine wp_seq ?_
 refine d_r [0,1,4] [] En0 fun ac1 En2 => ?_
 refine then_normal ?_
 refine wp_seq ?_
 refine wp_seq ?_
 refine d_r [1,4,5] [] En2 fun ac3 En4 => ?_
 refine then_normal ?_
 refine wp_block ?_
 refine wp_seq ?_
 refine d_r [1,4,5,6] [] En4 fun ac5 En6 => ?_
 refine then_normal ?_
 refine c_f En6 ?_
 refine wp_seq ?_
 refine d_r [1,4,5,10] [] En6 fun ac7 En8 => ?_
 refine then_normal ?_
 refine c_f En8 ?_
 refine wp_seq ?_
 refine d_r [1,4,5,16] [] En8 fun ac9 En10 => ?_
 refine then_normal ?_
 refine c_t En10 ?_
 refine wp_seq ?_
 have hl64 : ∀ s, List.length (ro64 s 8) = 64 := fun s => by rw [ro64_eq, out64_len]
 have hl := hl64 (rfeed64 (init64 3) (lx ++ padB 128 (List.length lx % 128) (List.length lx)) (List.length (lx ++ padB 128 (List.length lx % 128) (List.length lx)) / 128))
 refine region_from ?_
 refine d_k [1,4,5,18,19] [] 2 En10 fun ac11 En12 => ?_
 refine f_o ?_
 refine c_0 En12 Hv0 (sum64_ref _ ax (List.length lx) cx lx (by first | rfl | (simp; done) | (simp; omega) | omega) ((ix.ev Hv0).pick [] (by kernel_rfl)) (init64 3) (init64_len _)) ?_
 rintro _ wo15 ⟨aoq13, coq13, rfl, he16⟩
 refine ⟨_, _, _, rfl, he16, rfl, fun ac18 En19 Hv20 => ?_⟩
 refine d_e [1,4,5] [] En19 fun ac21 En22 => ?_
 refine then_normal ?_
 refine wp_ret ?_
 refine block_ret ?_
 refine then_ret ?_
 refine d_ret1 (t := 4) (v := .slice aoq13 (List.length (ro64 (rfeed64 (init64 3) (lx ++ padB 128 (List.length lx % 128) (List.length lx)) (List.length (lx ++ padB 128 (List.length lx % 128) (List.length lx)) / 128)) 8)) coq13) En22 (by kernel_rfl) (by kernel_rfl) ?_
 have Hf23 := Hv20.pk [0] (M := [.vec aoq13 coq13 1 (bys (ro64 (rfeed64 (init64 3) (lx ++ padB 128 (List.length lx % 128) (List.length lx)) (List.length (lx ++ padB 128 (List.length lx % 128) (List.length lx)) / 128)) 8)) 5])
 have hse : ro64 (rfeed64 (init64 3) (lx ++ padB 128 (List.length lx % 128) (List.length lx)) (List.length (lx ++ padB 128 (List.length lx % 128) (List.length lx)) / 128)) 8 = sumF 3 lx := by rw [← sum_same2 (h := 3) (by decide), show sizeOfH 3 = 64 from rfl]; rw [List.take_of_length_le (by omega)]
 rw [hse] at Hf23
 exact ⟨_, _, by rw [hse], Hf23⟩

theorem docof_go (w : World) (h : Int) (hh : h = 1 ∨ h = 2 ∨ h = 3) (ax : Option Addr) (nx cx : Nat) (lx : List UInt8) (ex : nx = List.length lx) (ix : InB w [] ax cx lx) : Calls Tryd.prog 14 #[.int .i64 h, .slice ax nx cx] w fun e w' => ∃ ao co, e = .returned (.slice ao (List.length (sumF h lx)) co) ∧ Ev w [] w' [.vec ao co 1 (bys (sumF h lx)) 5] := by
  rcases hh with rfl | rfl | rfl
  · exact docof1 w ax nx cx lx ex ix
  · exact docof2 w ax nx cx lx ex ix
  · exact docof3 w ax nx cx lx ex ix

theorem docof_nil (w : World) (h : Int) (hh : ¬ (h = 1 ∨ h = 2 ∨ h = 3)) (ax : Option Addr) (nx cx : Nat) (lx : List UInt8) (ex : nx = List.length lx) (ix : InB w [] ax cx lx) : Calls Tryd.prog 14 #[.int .i64 h, .slice ax nx cx] w fun e w' => e = .returned (.slice none 0 0) ∧ Ev w [] w' [] := by
 subst ex
 refine d_0 [(0, .int .i64 h), (1, .slice ax (List.length lx) cx)] 21 Go.Proofs.Tryd.func14 Go.Proofs.Tryd.ntmps14 (Heap.nil _) fun act0 En0 Hv0 => ?_
 refine d_s [0,1,4] [] En0 fun ac1 En2 => ?_
 refine wp_seq ?_
 refine d_s [1,4,5] [] En2 fun ac3 En4 => ?_
 refine wp_block ?_
 refine d_s [1,4,5,6] [] En4 fun ac5 En6 => ?_
 refine c_e h (1 : Int) En6 (fun hc7 => ?_) (fun hc7 => ?_)
 ·
  exact absurd hc7 (by omega)
 ·
  refine d_s [1,4,5,10] [] En6 fun ac8 En9 => ?_
  refine c_e h (2 : Int) En9 (fun hc10 => ?_) (fun hc10 => ?_)
  ·
   exact absurd hc10 (by omega)
  ·
   refine d_s [1,4,5,16] [] En9 fun ac11 En12 => ?_
   refine c_e h (3 : Int) En12 (fun hc13 => ?_) (fun hc13 => ?_)
   ·
    exact absurd hc13 (by omega)
   ·
    refine wp_skip ?_
    refine block_normal ?_
    refine then_normal ?_
    refine d_s [1,4,5] [] En12 fun ac14 En15 => ?_
    refine wp_ret ?_
    refine d_ret1 (t := 4) (v := .slice none 0 0) En15 (by kernel_rfl) (by kernel_rfl) ?_
    exact ⟨rfl, Hv0.pk []⟩

theorem dblock1 (w : World) : Calls Tryd.prog 18 #[.int .i64 1] w fun e w' => e = .returned (ni (blockOf 1)) ∧ Ev w [] w' [] := by
 refine d_0 [(0, .int .i64 1)] 9 Go.Proofs.Tryd.func18 Go.Proofs.Tryd.ntmps18 (Heap.nil _) fun act0 En0 Hv0 => ?_
 refine d_s [0,2] [] En0 fun ac1 En2 => ?_
 refine wp_seq ?_
 refine d_s [2,3] [] En2 fun ac3 En4 => ?_
 refine wp_block ?_
 refine d_s [2,3,4] [] En4 fun ac5 En6 => ?_
 refine c_t En6 ?_
 refine d_s [2,3] [] En6 fun ac7 En8 => ?_
 refine wp_ret ?_
 refine block_ret ?_
 refine then_ret ?_
 refine d_ret1 (t := 2) (v := .int .i64 64) En8 (by kernel_rfl) (by kernel_rfl) ?_
 exact ⟨rfl, Hv0.pk []⟩

theorem dblock2 (w : World) : Calls Tryd.prog 18 #[.int .i64 2] w fun e w' => e = .returned (ni (blockOf 2)) ∧ Ev w [] w' [] := by
 refine d_0 [(0, .int .i64 2)] 9 Go.Proofs.Tryd.func18 Go.Proofs.Tryd.ntmps18 (Heap.nil _) fun act0 En0 Hv0 => ?_
 refine d_s [0,2] [] En0 fun ac1 En2 => ?_
 refine wp_seq ?_
 refine d_s [2,3] [] En2 fun ac3 En4 => ?_
 refine wp_block ?_
 refine d_s [2,3,4] [] En4 fun ac5 En6 => ?_
 refine c_f En6 ?_
 refine wp_seq ?_
 refine d_s [2,3,6] [] En6 fun ac7 En8 => ?_
 refine c_t En8 ?_
 refine wp_skip ?_
 refine then_normal ?_
 refine c_t En8 ?_
 refine d_s [2,3,6] [] En8 fun ac9 En10 => ?_
 refine wp_ret ?_
 refine block_ret ?_
 refine then_ret ?_
 refine d_ret1 (t := 2) (v := .int .i64 128) En10 (by kernel_rfl) (by kernel_rfl) ?_
 exact ⟨rfl, Hv0.pk []⟩

theorem dblock3 (w : World) : Calls Tryd.prog 18 #[.int .i64 3] w fun e w' => e = .returned (ni (blockOf 3)) ∧ Ev w [] w' [] := by
 refine d_0 [(0, .int .i64 3)] 9 Go.Proofs.Tryd.func18 Go.Proofs.Tryd.ntmps18 (Heap.nil _) fun act0 En0 Hv0 => ?_
 refine d_s [0,2] [] En0 fun ac1 En2 => ?_
 refine wp_seq ?_
 refine d_s [2,3] [] En2 fun ac3 En4 => ?_
 refine wp_block ?_
 refine d_s [2,3,4] [] En4 fun ac5 En6 => ?_
 refine c_f En6 ?_
 refine wp_seq ?_
 refine d_s [2,3,6] [] En6 fun ac7 En8 => ?_
 refine c_f En8 ?_
 refine d_r [2,3,6] [] En8 fun ac9 En10 => ?_
 refine then_normal ?_
 refine c_t En10 ?_
 refine d_s [2,3,6] [] En10 fun ac11 En12 => ?_
 refine wp_ret ?_
 refine block_ret ?_
 refine then_ret ?_
 refine d_ret1 (t := 2) (v := .int .i64 128) En12 (by kernel_rfl) (by kernel_rfl) ?_
 exact ⟨rfl, Hv0.pk []⟩

theorem dblock0 (w : World) (h : Int) (h1 : ¬ (h = 1 ∨ h = 2 ∨ h = 3)) : Calls Tryd.prog 18 #[.int .i64 h] w fun e w' => e = .returned (ni (blockOf h)) ∧ Ev w [] w' [] := by
 refine d_0 [(0, .int .i64 h)] 9 Go.Proofs.Tryd.func18 Go.Proofs.Tryd.ntmps18 (Heap.nil _) fun act0 En0 Hv0 => ?_
 refine d_s [0,2] [] En0 fun ac1 En2 => ?_
 refine wp_seq ?_
 refine d_s [2,3] [] En2 fun ac3 En4 => ?_
 refine wp_block ?_
 refine d_s [2,3,4] [] En4 fun ac5 En6 => ?_
 refine c_e h (1 : Int) En6 (fun hc7 => ?_) (fun hc7 => ?_)
 ·
  exact absurd hc7 (by omega)
 ·
  refine wp_seq ?_
  refine d_s [2,3,6] [] En6 fun ac8 En9 => ?_
  refine c_e h (2 : Int) En9 (fun hc10 => ?_) (fun hc10 => ?_)
  ·
   exact absurd hc10 (by omega)
  ·
   refine d_r [2,3,6] [] En9 fun ac11 En12 => ?_
   refine then_normal ?_
   refine c_e h (3 : Int) En12 (fun hc13 => ?_) (fun hc13 => ?_)
   ·
    exact absurd hc13 (by omega)
   ·
    refine wp_skip ?_
    refine block_normal ?_
    refine then_normal ?_
    refine d_s [2,3,6] [] En12 fun ac14 En15 => ?_
    refine wp_ret ?_
    refine d_ret1 (t := 2) (v := .int .i64 0) En15 (by kernel_rfl) (by kernel_rfl) ?_
    exact ⟨by rw [show blockOf h = 0 from by unfold blockOf; rw [if_neg (by omega), if_neg (by omega), if_neg (by omega)]]; rfl, Hv0.pk []⟩

theorem dblock_go (w : World) (h : Int) : Calls Tryd.prog 18 #[.int .i64 h] w fun e w' => e = .returned (ni (blockOf h)) ∧ Ev w [] w' [] := by
  by_cases h1 : h = 1 ∨ h = 2 ∨ h = 3
  · rcases h1 with rfl | rfl | rfl
    · exact dblock1 w
    · exact dblock2 w
    · exact dblock3 w
  · exact dblock0 w h h1

theorem dsize1 (w : World) : Calls Tryd.prog 16 #[.int .i64 1] w fun e w' => e = .returned (ni (sizeOfH 1)) ∧ Ev w [] w' [] := by
 refine d_0 [(0, .int .i64 1)] 10 Go.Proofs.Tryd.func16 Go.Proofs.Tryd.ntmps16 (Heap.nil _) fun act0 En0 Hv0 => ?_
 refine d_s [0,2] [] En0 fun ac1 En2 => ?_
 refine wp_seq ?_
 refine d_s [2,3] [] En2 fun ac3 En4 => ?_
 refine wp_block ?_
 refine d_s [2,3,4] [] En4 fun ac5 En6 => ?_
 refine c_t En6 ?_
 refine d_s [2,3] [] En6 fun ac7 En8 => ?_
 refine wp_ret ?_
 refine block_ret ?_
 refine then_ret ?_
 refine d_ret1 (t := 2) (v := .int .i64 32) En8 (by kernel_rfl) (by kernel_rfl) ?_
 exact ⟨rfl, Hv0.pk []⟩

theorem dsize2 (w : World) : Calls Tryd.prog 16 #[.int .i64 2] w fun e w' => e = .returned (ni (sizeOfH 2)) ∧ Ev w [] w' [] := by
 refine d_0 [(0, .int .i64 2)] 10 Go.Proofs.Tryd.func16 Go.Proofs.Tryd.ntmps16 (Heap.nil _) fun act0 En0 Hv0 => ?_
 refine d_s [0,2] [] En0 fun ac1 En2 => ?_
 refine wp_seq ?_
 refine d_s [2,3] [] En2 fun ac3 En4 => ?_
 refine wp_block ?_
 refine d_s [2,3,4] [] En4 fun ac5 En6 => ?_
 refine c_f En6 ?_
 refine d_s [2,3,6] [] En6 fun ac7 En8 => ?_
 refine c_t En8 ?_
 refine d_s [2,3] [] En8 fun ac9 En10 => ?_
 refine wp_ret ?_
 refine block_ret ?_
 refine then_ret ?_
 refine d_ret1 (t := 2) (v := .int .i64 48) En10 (by kernel_rfl) (by kernel_rfl) ?_
 exact ⟨rfl, Hv0.pk []⟩

theorem dsize3 (w : World) : Calls Tryd.prog 16 #[.int .i64 3] w fun e w' => e = .returned (ni (sizeOfH 3)) ∧ Ev w [] w' [] := by
 refine d_0 [(0, .int .i64 3)] 10 Go.Proofs.Tryd.func16 Go.Proofs.Tryd.ntmps16 (Heap.nil _) fun act0 En0 Hv0 => ?_
 refine d_s [0,2] [] En0 fun ac1 En2 => ?_
 refine wp_seq ?_
 refine d_s [2,3] [] En2 fun ac3 En4 => ?_
 refine wp_block ?_
 refine d_s [2,3,4] [] En4 fun ac5 En6 => ?_
 refine c_f En6 ?_
 refine d_s [2,3,6] [] En6 fun ac7 En8 => ?_
 refine c_f En8 ?_
 refine d_s [2,3,8] [] En8 fun ac9 En10 => ?_
 refine c_t En10 ?_
 refine d_s [2,3] [] En10 fun ac11 En12 => ?_
 refine wp_ret ?_
 refine block_ret ?_
 refine then_ret ?_
 refine d_ret1 (t := 2) (v := .int .i64 64) En12 (by kernel_rfl) (by kernel_rfl) ?_
 exact ⟨rfl, Hv0.pk []⟩

theorem dsize0 (w : World) (h : Int) (h1 : ¬ (h = 1 ∨ h = 2 ∨ h = 3)) : Calls Tryd.prog 16 #[.int .i64 h] w fun e w' => e = .returned (ni (sizeOfH h)) ∧ Ev w [] w' [] := by
 refine d_0 [(0, .int .i64 h)] 10 Go.Proofs.Tryd.func16 Go.Proofs.Tryd.ntmps16 (Heap.nil _) fun act0 En0 Hv0 => ?_
 refine d_s [0,2] [] En0 fun ac1 En2 => ?_
 refine wp_seq ?_
 refine d_s [2,3] [] En2 fun ac3 En4 => ?_
 refine wp_block ?_
 refine d_s [2,3,4] [] En4 fun ac5 En6 => ?_
 refine c_e h (1 : Int) En6 (fun hc7 => ?_) (fun hc7 => ?_)
 ·
  exact absurd hc7 (by omega)
 ·
  refine d_s [2,3,6] [] En6 fun ac8 En9 => ?_
  refine c_e h (2 : Int) En9 (fun hc10 => ?_) (fun hc10 => ?_)
  ·
   exact absurd hc10 (by omega)
  ·
   refine d_s [2,3,8] [] En9 fun ac11 En12 => ?_
   refine c_e h (3 : Int) En12 (fun hc13 => ?_) (fun hc13 => ?_)
   ·
    exact absurd hc13 (by omega)
   ·
    refine wp_skip ?_
    refine block_normal ?_
    refine then_normal ?_
    refine d_s [2,3] [] En12 fun ac14 En15 => ?_
    refine wp_ret ?_
    refine d_ret1 (t := 2) (v := .int .i64 0) En15 (by kernel_rfl) (by kernel_rfl) ?_
    exact ⟨by rw [show sizeOfH h = 0 from by unfold sizeOfH; rw [if_neg (by omega), if_neg (by omega), if_neg (by omega)]]; rfl, Hv0.pk []⟩

theorem dsize_go (w : World) (h : Int) : Calls Tryd.prog 16 #[.int .i64 h] w fun e w' => e = .returned (ni (sizeOfH h)) ∧ Ev w [] w' [] := by
  by_cases h1 : h = 1 ∨ h = 2 ∨ h = 3
  · rcases h1 with rfl | rfl | rfl
    · exact dsize1 w
    · exact dsize2 w
    · exact dsize3 w
  · exact dsize0 w h h1

end Go.Proofs.YtbpihljkkkeijaaDoor
