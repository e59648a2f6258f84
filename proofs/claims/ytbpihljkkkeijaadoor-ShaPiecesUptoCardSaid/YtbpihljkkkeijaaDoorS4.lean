/- Layer 5: Block, Size, New. -/
import Derived.Test.YtbpihljkkkeijaaDoorS3
namespace Go.Proofs.YtbpihljkkkeijaaDoor
open Go.Dbr
set_option maxRecDepth 100000
set_option maxHeartbeats 2000000
set_option linter.unusedVariables false
set_option linter.unusedSimpArgs false

def blockOf (h : Int) : Nat := if h = 1 then 64 else if h = 2 then 128 else if h = 3 then 128 else 0
def sizeOfH (h : Int) : Nat := if h = 1 then 32 else if h = 2 then 48 else if h = 3 then 64 else 0
theorem block_in {h : Int} (hh : h = 1 ∨ h = 2 ∨ h = 3) : blockOf h = 64 ∧ h = 1 ∨ blockOf h = 128 ∧ (h = 2 ∨ h = 3) := by
  rcases hh with rfl | rfl | rfl
  · exact .inl ⟨rfl, rfl⟩
  · exact .inr ⟨rfl, .inl rfl⟩
  · exact .inr ⟨rfl, .inr rfl⟩
def init32 : List UInt32 := [1779033703, 3144134277, 1013904242, 2773480762, 1359893119, 2600822924, 528734635, 1541459225]
def zero32 : List UInt32 := List.replicate 8 0
def init64 (h : Int) : List UInt64 := if h = 2 then [14680500436340154072, 7105036623409894663, 10473403895298186519, 1526699215303891257, 7436329637833083697, 10282925794625328401, 15784041429090275239, 5167115440072839076] else if h = 3 then [7640891576956012808, 13503953896175478587, 4354685564936845355, 11912009170470909681, 5840696475078001361, 11170449401992604703, 2270897969802886507, 6620516959819538809] else List.replicate 8 0
def in32 (h : Int) : List UInt32 := if h = 1 then init32 else zero32
theorem in32_len (h : Int) : (in32 h).length = 8 := by unfold in32; split <;> rfl
theorem init64_len (h : Int) : (init64 h).length = 8 := by unfold init64; split; rfl; split <;> rfl

theorem block_go1 (w : World) : Calls Tryd.prog 17 #[.int .i64 1] w fun e w' => e = .returned (ni (blockOf 1)) ∧ Ev w [] w' [] := by
 refine d_0 [(0, .int .i64 1)] 9 Go.Proofs.Tryd.func17 Go.Proofs.Tryd.ntmps17 (Heap.nil _) fun act0 En0 Hv0 => ?_
 refine d_s [0,2] [] En0 fun ac1 En2 => ?_
 refine wp_seq ?_
 refine d_s [2,3] [] En2 fun ac3 En4 => ?_
 refine wp_block ?_
 refine d_s [2,3,4] [] En4 fun ac5 En6 => ?_
 refine c_t En6 ?_
 refine d_s [2,3] [] En6 fun ac7 En8 => ?_
 refine wp_ret ?_
 refine block_ret ?_
 refine then_ret ?_
 refine d_ret1 (t := 2) (v := .int .i64 64) En8 (by kernel_rfl) (by kernel_rfl) ?_
 exact ⟨rfl, Hv0.pk []⟩

theorem block_go2 (w : World) : Calls Tryd.prog 17 #[.int .i64 2] w fun e w' => e = .returned (ni (blockOf 2)) ∧ Ev w [] w' [] := by
 refine d_0 [(0, .int .i64 2)] 9 Go.Proofs.Tryd.func17 Go.Proofs.Tryd.ntmps17 (Heap.nil _) fun act0 En0 Hv0 => ?_
 refine d_s [0,2] [] En0 fun ac1 En2 => ?_
 refine wp_seq ?_
 refine d_s [2,3] [] En2 fun ac3 En4 => ?_
 refine wp_block ?_
 refine d_s [2,3,4] [] En4 fun ac5 En6 => ?_
 refine c_f En6 ?_
 refine wp_seq ?_
 refine d_s [2,3,6] [] En6 fun ac7 En8 => ?_
 refine c_t En8 ?_
 refine wp_skip ?_
 refine then_normal ?_
 refine c_t En8 ?_
 refine d_s [2,3,6] [] En8 fun ac9 En10 => ?_
 refine wp_ret ?_
 refine block_ret ?_
 refine then_ret ?_
 refine d_ret1 (t := 2) (v := .int .i64 128) En10 (by kernel_rfl) (by kernel_rfl) ?_
 exact ⟨rfl, Hv0.pk []⟩

theorem block_go3 (w : World) : Calls Tryd.prog 17 #[.int .i64 3] w fun e w' => e = .returned (ni (blockOf 3)) ∧ Ev w [] w' [] := by
 refine d_0 [(0, .int .i64 3)] 9 Go.Proofs.Tryd.func17 Go.Proofs.Tryd.ntmps17 (Heap.nil _) fun act0 En0 Hv0 => ?_
 refine d_s [0,2] [] En0 fun ac1 En2 => ?_
 refine wp_seq ?_
 refine d_s [2,3] [] En2 fun ac3 En4 => ?_
 refine wp_block ?_
 refine d_s [2,3,4] [] En4 fun ac5 En6 => ?_
 refine c_f En6 ?_
 refine wp_seq ?_
 refine d_s [2,3,6] [] En6 fun ac7 En8 => ?_
 refine c_f En8 ?_
 refine d_r [2,3,6] [] En8 fun ac9 En10 => ?_
 refine then_normal ?_
 refine c_t En10 ?_
 refine d_s [2,3,6] [] En10 fun ac11 En12 => ?_
 refine wp_ret ?_
 refine block_ret ?_
 refine then_ret ?_
 refine d_ret1 (t := 2) (v := .int .i64 128) En12 (by kernel_rfl) (by kernel_rfl) ?_
 exact ⟨rfl, Hv0.pk []⟩

theorem block_go0 (w : World) (h : Int) (h1 : ¬ (h = 1 ∨ h = 2 ∨ h = 3)) : Calls Tryd.prog 17 #[.int .i64 h] w fun e w' => e = .returned (ni (blockOf h)) ∧ Ev w [] w' [] := by
 refine d_0 [(0, .int .i64 h)] 9 Go.Proofs.Tryd.func17 Go.Proofs.Tryd.ntmps17 (Heap.nil _) fun act0 En0 Hv0 => ?_
 refine d_s [0,2] [] En0 fun ac1 En2 => ?_
 refine wp_seq ?_
 refine d_s [2,3] [] En2 fun ac3 En4 => ?_
 refine wp_block ?_
 refine d_s [2,3,4] [] En4 fun ac5 En6 => ?_
 refine c_e h (1 : Int) En6 (fun hc7 => ?_) (fun hc7 => ?_)
 ·
  exact absurd hc7 (by omega)
 ·
  refine wp_seq ?_
  refine d_s [2,3,6] [] En6 fun ac8 En9 => ?_
  refine c_e h (2 : Int) En9 (fun hc10 => ?_) (fun hc10 => ?_)
  ·
   exact absurd hc10 (by omega)
  ·
   refine d_r [2,3,6] [] En9 fun ac11 En12 => ?_
   refine then_normal ?_
   refine c_e h (3 : Int) En12 (fun hc13 => ?_) (fun hc13 => ?_)
   ·
    exact absurd hc13 (by omega)
   ·
    refine wp_skip ?_
    refine block_normal ?_
    refine then_normal ?_
    refine d_s [2,3,6] [] En12 fun ac14 En15 => ?_
    refine wp_ret ?_
    refine d_ret1 (t := 2) (v := .int .i64 0) En15 (by kernel_rfl) (by kernel_rfl) ?_
    exact ⟨by rw [show blockOf h = 0 from by unfold blockOf; rw [if_neg (by omega), if_neg (by omega), if_neg (by omega)]]; rfl, Hv0.pk []⟩

theorem block_go (w : World) (h : Int) : Calls Tryd.prog 17 #[.int .i64 h] w fun e w' => e = .returned (ni (blockOf h)) ∧ Ev w [] w' [] := by
  by_cases h1 : h = 1 ∨ h = 2 ∨ h = 3
  · rcases h1 with rfl | rfl | rfl
    · exact block_go1 w
    · exact block_go2 w
    · exact block_go3 w
  · exact block_go0 w h h1

theorem size_go1 (w : World) : Calls Tryd.prog 15 #[.int .i64 1] w fun e w' => e = .returned (ni (sizeOfH 1)) ∧ Ev w [] w' [] := by
 refine d_0 [(0, .int .i64 1)] 11 Go.Proofs.Tryd.func15 Go.Proofs.Tryd.ntmps15 (Heap.nil _) fun act0 En0 Hv0 => ?_
 refine d_s [0,2] [] En0 fun ac1 En2 => ?_
 refine wp_seq ?_
 refine d_s [0,2,3] [] En2 fun ac3 En4 => ?_
 refine wp_block ?_
 refine wp_seq ?_
 refine d_s [0,2,3,4] [] En4 fun ac5 En6 => ?_
 refine c_t En6 ?_
 refine wp_skip ?_
 refine then_normal ?_
 refine c_t En6 ?_
 refine d_s [0,2,3,4] [] En6 fun ac7 En8 => ?_
 refine wp_ret ?_
 refine block_ret ?_
 refine then_ret ?_
 refine d_ret1 (t := 2) (v := .int .i64 32) En8 (by kernel_rfl) (by kernel_rfl) ?_
 exact ⟨rfl, Hv0.pk []⟩

theorem size_go2 (w : World) : Calls Tryd.prog 15 #[.int .i64 2] w fun e w' => e = .returned (ni (sizeOfH 2)) ∧ Ev w [] w' [] := by
 refine d_0 [(0, .int .i64 2)] 11 Go.Proofs.Tryd.func15 Go.Proofs.Tryd.ntmps15 (Heap.nil _) fun act0 En0 Hv0 => ?_
 refine d_s [0,2] [] En0 fun ac1 En2 => ?_
 refine wp_seq ?_
 refine d_s [0,2,3] [] En2 fun ac3 En4 => ?_
 refine wp_block ?_
 refine wp_seq ?_
 refine d_s [0,2,3,4] [] En4 fun ac5 En6 => ?_
 refine c_f En6 ?_
 refine d_s [0,2,3,4] [] En6 fun ac7 En8 => ?_
 refine c_t En8 ?_
 refine wp_skip ?_
 refine then_normal ?_
 refine c_t En8 ?_
 refine d_s [0,2,3,4] [] En8 fun ac9 En10 => ?_
 refine wp_ret ?_
 refine block_ret ?_
 refine then_ret ?_
 refine d_ret1 (t := 2) (v := .int .i64 48) En10 (by kernel_rfl) (by kernel_rfl) ?_
 exact ⟨rfl, Hv0.pk []⟩

theorem size_go3 (w : World) : Calls Tryd.prog 15 #[.int .i64 3] w fun e w' => e = .returned (ni (sizeOfH 3)) ∧ Ev w [] w' [] := by
 refine d_0 [(0, .int .i64 3)] 11 Go.Proofs.Tryd.func15 Go.Proofs.Tryd.ntmps15 (Heap.nil _) fun act0 En0 Hv0 => ?_
 refine d_s [0,2] [] En0 fun ac1 En2 => ?_
 refine wp_seq ?_
 refine d_s [0,2,3] [] En2 fun ac3 En4 => ?_
 refine wp_block ?_
 refine wp_seq ?_
 refine d_s [0,2,3,4] [] En4 fun ac5 En6 => ?_
 refine c_f En6 ?_
 refine d_s [0,2,3,4] [] En6 fun ac7 En8 => ?_
 refine c_f En8 ?_
 refine d_r [0,2,3,4] [] En8 fun ac9 En10 => ?_
 refine then_normal ?_
 refine c_t En10 ?_
 refine d_s [0,2,3,4] [] En10 fun ac11 En12 => ?_
 refine wp_ret ?_
 refine block_ret ?_
 refine then_ret ?_
 refine d_ret1 (t := 2) (v := .int .i64 64) En12 (by kernel_rfl) (by kernel_rfl) ?_
 exact ⟨rfl, Hv0.pk []⟩

theorem size_go0 (w : World) (h : Int) (h1 : ¬ (h = 1 ∨ h = 2 ∨ h = 3)) : Calls Tryd.prog 15 #[.int .i64 h] w fun e w' => e = .returned (ni (sizeOfH h)) ∧ Ev w [] w' [] := by
 refine d_0 [(0, .int .i64 h)] 11 Go.Proofs.Tryd.func15 Go.Proofs.Tryd.ntmps15 (Heap.nil _) fun act0 En0 Hv0 => ?_
 refine d_s [0,2] [] En0 fun ac1 En2 => ?_
 refine wp_seq ?_
 refine d_s [0,2,3] [] En2 fun ac3 En4 => ?_
 refine wp_block ?_
 refine wp_seq ?_
 refine d_s [0,2,3,4] [] En4 fun ac5 En6 => ?_
 refine c_e h (1 : Int) En6 (fun hc7 => ?_) (fun hc7 => ?_)
 ·
  exact absurd hc7 (by omega)
 ·
  refine d_s [0,2,3,4] [] En6 fun ac8 En9 => ?_
  refine c_e h (2 : Int) En9 (fun hc10 => ?_) (fun hc10 => ?_)
  ·
   exact absurd hc10 (by omega)
  ·
   refine d_r [0,2,3,4] [] En9 fun ac11 En12 => ?_
   refine then_normal ?_
   refine c_e h (3 : Int) En12 (fun hc13 => ?_) (fun hc13 => ?_)
   ·
    exact absurd hc13 (by omega)
   ·
    refine wp_skip ?_
    refine block_normal ?_
    refine then_normal ?_
    refine d_s [0,2,3,4] [] En12 fun ac14 En15 => ?_
    refine wp_ret ?_
    refine d_ret1 (t := 2) (v := .int .i64 0) En15 (by kernel_rfl) (by kernel_rfl) ?_
    exact ⟨by rw [show sizeOfH h = 0 from by unfold sizeOfH; rw [if_neg (by omega), if_neg (by omega), if_neg (by omega)]]; rfl, Hv0.pk []⟩

theorem size_go (w : World) (h : Int) : Calls Tryd.prog 15 #[.int .i64 h] w fun e w' => e = .returned (ni (sizeOfH h)) ∧ Ev w [] w' [] := by
  by_cases h1 : h = 1 ∨ h = 2 ∨ h = 3
  · rcases h1 with rfl | rfl | rfl
    · exact size_go1 w
    · exact size_go2 w
    · exact size_go3 w
  · exact size_go0 w h h1

theorem new1 (w : World) : Calls Tryd.prog 19 #[.int .i64 1] w fun e w' => ∃ bd, e = .returned (pt bd) ∧ Ev w [] w' [dB bd 1 (in32 1) (init64 1) none 0 0 0] := by
 refine d_0 [(0, .int .i64 1)] 27 Go.Proofs.Tryd.func19 Go.Proofs.Tryd.ntmps19 (Heap.nil _) fun act0 En0 Hv0 => ?_
 refine d_s [0,2] [] En0 fun ac1 En2 => ?_
 refine wp_seq ?_
 refine region_from ?_
 refine d_k [0,2,5] [] 2 En2 fun ac3 En4 => ?_
 refine f_o ?_
 refine m_m 58 [.int .i64 1, .int .u32 0, .int .u32 0, .int .u32 0, .int .u32 0, .int .u32 0, .int .u32 0, .int .u32 0, .int .u32 0, .int .u64 0, .int .u64 0, .int .u64 0, .int .u64 0, .int .u64 0, .int .u64 0, .int .u64 0, .int .u64 0, .slice none 0 0, .int .u64 0] En4 Hv0 fun ac6 wo7 bk5 En8 Hv9 => ?_
 refine d_e [0,2,3] [] En8 fun ac10 En11 => ?_
 refine then_normal ?_
 refine wp_seq ?_
 refine d_s [0,2,3,7] [] En11 fun ac12 En13 => ?_
 refine wp_block ?_
 refine d_s [0,2,3,7,8] [] En13 fun ac14 En15 => ?_
 refine c_t En15 ?_
 refine region_from ?_
 refine d_k [0,2,3,7,11,13] [] 4 En15 fun ac16 En17 => ?_
 refine f_o ?_
 refine m_g 0 1 8 (u32s ([1779033703, 3144134277, 1013904242, 2773480762, 1359893119, 2600822924, 528734635, 1541459225] : List UInt32)) (([.int .i64 1] : List Value) ++ ((u32s ([1779033703, 3144134277, 1013904242, 2773480762, 1359893119, 2600822924, 528734635, 1541459225] : List UInt32)) ++ ([.int .u64 0, .int .u64 0, .int .u64 0, .int .u64 0, .int .u64 0, .int .u64 0, .int .u64 0, .int .u64 0, .slice none 0 0, .int .u64 0] : List Value))) [.box bk5 (([.int .i64 1] : List Value) ++ ((u32s ([1779033703, 3144134277, 1013904242, 2773480762, 1359893119, 2600822924, 528734635, 1541459225] : List UInt32)) ++ ([.int .u64 0, .int .u64 0, .int .u64 0, .int .u64 0, .int .u64 0, .int .u64 0, .int .u64 0, .int .u64 0, .slice none 0 0, .int .u64 0] : List Value))) 58] En17 Hv9 rfl (u32s_lenh (show List.length ([1779033703, 3144134277, 1013904242, 2773480762, 1359893119, 2600822924, 528734635, 1541459225] : List UInt32) = 8 from rfl)) (by simp) (u32s_one _) (by simp [List.drop_append, List.take_append]) rfl fun ac18 wo19 En20 Hv21 => ?_
 refine f_e ?_
 refine block_normal ?_
 refine then_normal ?_
 refine d_s [0,2,3,7] [] En20 fun ac22 En23 => ?_
 refine wp_ret ?_
 refine d_ret1 (t := 2) (v := pt bk5) En23 (by kernel_rfl) (by kernel_rfl) ?_
 have Hf24 : Ev w [] wo19 [dB bk5 1 (in32 1) (init64 1) none 0 0 0] := Hv21.pk [0]
 exact ⟨_, rfl, Hf24⟩

theorem new2 (w : World) : Calls Tryd.prog 19 #[.int .i64 2] w fun e w' => ∃ bd, e = .returned (pt bd) ∧ Ev w [] w' [dB bd 2 (in32 2) (init64 2) none 0 0 0] := by
 refine d_0 [(0, .int .i64 2)] 27 Go.Proofs.Tryd.func19 Go.Proofs.Tryd.ntmps19 (Heap.nil _) fun act0 En0 Hv0 => ?_
 refine d_s [0,2] [] En0 fun ac1 En2 => ?_
 refine wp_seq ?_
 refine region_from ?_
 refine d_k [0,2,5] [] 2 En2 fun ac3 En4 => ?_
 refine f_o ?_
 refine m_m 58 [.int .i64 2, .int .u32 0, .int .u32 0, .int .u32 0, .int .u32 0, .int .u32 0, .int .u32 0, .int .u32 0, .int .u32 0, .int .u64 0, .int .u64 0, .int .u64 0, .int .u64 0, .int .u64 0, .int .u64 0, .int .u64 0, .int .u64 0, .slice none 0 0, .int .u64 0] En4 Hv0 fun ac6 wo7 bk5 En8 Hv9 => ?_
 refine d_e [0,2,3] [] En8 fun ac10 En11 => ?_
 refine then_normal ?_
 refine wp_seq ?_
 refine d_s [0,2,3,7] [] En11 fun ac12 En13 => ?_
 refine wp_block ?_
 refine d_s [0,2,3,7,8] [] En13 fun ac14 En15 => ?_
 refine c_f En15 ?_
 refine d_s [0,2,3,7,14] [] En15 fun ac16 En17 => ?_
 refine c_t En17 ?_
 refine region_from ?_
 refine d_k [0,2,3,7,17,19] [] 4 En17 fun ac18 En19 => ?_
 refine f_o ?_
 refine m_g 0 9 8 (u64s ([14680500436340154072, 7105036623409894663, 10473403895298186519, 1526699215303891257, 7436329637833083697, 10282925794625328401, 15784041429090275239, 5167115440072839076] : List UInt64)) (([.int .i64 2, .int .u32 0, .int .u32 0, .int .u32 0, .int .u32 0, .int .u32 0, .int .u32 0, .int .u32 0, .int .u32 0] : List Value) ++ ((u64s ([14680500436340154072, 7105036623409894663, 10473403895298186519, 1526699215303891257, 7436329637833083697, 10282925794625328401, 15784041429090275239, 5167115440072839076] : List UInt64)) ++ ([.slice none 0 0, .int .u64 0] : List Value))) [.box bk5 (([.int .i64 2, .int .u32 0, .int .u32 0, .int .u32 0, .int .u32 0, .int .u32 0, .int .u32 0, .int .u32 0, .int .u32 0] : List Value) ++ ((u64s ([14680500436340154072, 7105036623409894663, 10473403895298186519, 1526699215303891257, 7436329637833083697, 10282925794625328401, 15784041429090275239, 5167115440072839076] : List UInt64)) ++ ([.slice none 0 0, .int .u64 0] : List Value))) 58] En19 Hv9 rfl (u64s_lenh (show List.length ([14680500436340154072, 7105036623409894663, 10473403895298186519, 1526699215303891257, 7436329637833083697, 10282925794625328401, 15784041429090275239, 5167115440072839076] : List UInt64) = 8 from rfl)) (by simp) (u64s_one _) (by simp [List.drop_append, List.take_append]) rfl fun ac20 wo21 En22 Hv23 => ?_
 refine f_e ?_
 refine block_normal ?_
 refine then_normal ?_
 refine d_s [0,2,3,7] [] En22 fun ac24 En25 => ?_
 refine wp_ret ?_
 refine d_ret1 (t := 2) (v := pt bk5) En25 (by kernel_rfl) (by kernel_rfl) ?_
 have Hf26 : Ev w [] wo21 [dB bk5 2 (in32 2) (init64 2) none 0 0 0] := Hv23.pk [0]
 exact ⟨_, rfl, Hf26⟩

theorem new3 (w : World) : Calls Tryd.prog 19 #[.int .i64 3] w fun e w' => ∃ bd, e = .returned (pt bd) ∧ Ev w [] w' [dB bd 3 (in32 3) (init64 3) none 0 0 0] := by
 refine d_0 [(0, .int .i64 3)] 27 Go.Proofs.Tryd.func19 Go.Proofs.Tryd.ntmps19 (Heap.nil _) fun act0 En0 Hv0 => ?_
 refine d_s [0,2] [] En0 fun ac1 En2 => ?_
 refine wp_seq ?_
 refine region_from ?_
 refine d_k [0,2,5] [] 2 En2 fun ac3 En4 => ?_
 refine f_o ?_
 refine m_m 58 [.int .i64 3, .int .u32 0, .int .u32 0, .int .u32 0, .int .u32 0, .int .u32 0, .int .u32 0, .int .u32 0, .int .u32 0, .int .u64 0, .int .u64 0, .int .u64 0, .int .u64 0, .int .u64 0, .int .u64 0, .int .u64 0, .int .u64 0, .slice none 0 0, .int .u64 0] En4 Hv0 fun ac6 wo7 bk5 En8 Hv9 => ?_
 refine d_e [0,2,3] [] En8 fun ac10 En11 => ?_
 refine then_normal ?_
 refine wp_seq ?_
 refine d_s [0,2,3,7] [] En11 fun ac12 En13 => ?_
 refine wp_block ?_
 refine d_s [0,2,3,7,8] [] En13 fun ac14 En15 => ?_
 refine c_f En15 ?_
 refine d_s [0,2,3,7,14] [] En15 fun ac16 En17 => ?_
 refine c_f En17 ?_
 refine d_s [0,2,3,7,20] [] En17 fun ac18 En19 => ?_
 refine c_t En19 ?_
 refine region_from ?_
 refine d_k [0,2,3,7,23,25] [] 4 En19 fun ac20 En21 => ?_
 refine f_o ?_
 refine m_g 0 9 8 (u64s ([7640891576956012808, 13503953896175478587, 4354685564936845355, 11912009170470909681, 5840696475078001361, 11170449401992604703, 2270897969802886507, 6620516959819538809] : List UInt64)) (([.int .i64 3, .int .u32 0, .int .u32 0, .int .u32 0, .int .u32 0, .int .u32 0, .int .u32 0, .int .u32 0, .int .u32 0] : List Value) ++ ((u64s ([7640891576956012808, 13503953896175478587, 4354685564936845355, 11912009170470909681, 5840696475078001361, 11170449401992604703, 2270897969802886507, 6620516959819538809] : List UInt64)) ++ ([.slice none 0 0, .int .u64 0] : List Value))) [.box bk5 (([.int .i64 3, .int .u32 0, .int .u32 0, .int .u32 0, .int .u32 0, .int .u32 0, .int .u32 0, .int .u32 0, .int .u32 0] : List Value) ++ ((u64s ([7640891576956012808, 13503953896175478587, 4354685564936845355, 11912009170470909681, 5840696475078001361, 11170449401992604703, 2270897969802886507, 6620516959819538809] : List UInt64)) ++ ([.slice none 0 0, .int .u64 0] : List Value))) 58] En21 Hv9 rfl (u64s_lenh (show List.length ([7640891576956012808, 13503953896175478587, 4354685564936845355, 11912009170470909681, 5840696475078001361, 11170449401992604703, 2270897969802886507, 6620516959819538809] : List UInt64) = 8 from rfl)) (by simp) (u64s_one _) (by simp [List.drop_append, List.take_append]) rfl fun ac22 wo23 En24 Hv25 => ?_
 refine f_e ?_
 refine block_normal ?_
 refine then_normal ?_
 refine d_s [0,2,3,7] [] En24 fun ac26 En27 => ?_
 refine wp_ret ?_
 refine d_ret1 (t := 2) (v := pt bk5) En27 (by kernel_rfl) (by kernel_rfl) ?_
 have Hf28 : Ev w [] wo23 [dB bk5 3 (in32 3) (init64 3) none 0 0 0] := Hv25.pk [0]
 exact ⟨_, rfl, Hf28⟩

theorem new0 (w : World) (h : Int) (h1 : ¬ (h = 1 ∨ h = 2 ∨ h = 3)) : Calls Tryd.prog 19 #[.int .i64 h] w fun e w' => e = .returned (.pointer none) ∧ Ev w [] w' [] := by
 refine d_0 [(0, .int .i64 h)] 27 Go.Proofs.Tryd.func19 Go.Proofs.Tryd.ntmps19 (Heap.nil _) fun act0 En0 Hv0 => ?_
 refine d_s [0,2] [] En0 fun ac1 En2 => ?_
 refine wp_seq ?_
 refine region_from ?_
 refine d_k [0,2,5] [] 2 En2 fun ac3 En4 => ?_
 refine f_o ?_
 refine m_m 58 [.int .i64 h, .int .u32 0, .int .u32 0, .int .u32 0, .int .u32 0, .int .u32 0, .int .u32 0, .int .u32 0, .int .u32 0, .int .u64 0, .int .u64 0, .int .u64 0, .int .u64 0, .int .u64 0, .int .u64 0, .int .u64 0, .int .u64 0, .slice none 0 0, .int .u64 0] En4 Hv0 fun ac6 wo7 bk5 En8 Hv9 => ?_
 refine d_e [0,2,3] [] En8 fun ac10 En11 => ?_
 refine then_normal ?_
 refine wp_seq ?_
 refine d_s [0,2,3,7] [] En11 fun ac12 En13 => ?_
 refine wp_block ?_
 refine d_s [0,2,3,7,8] [] En13 fun ac14 En15 => ?_
 refine c_e h (1 : Int) En15 (fun hc16 => ?_) (fun hc16 => ?_)
 ·
  exact absurd hc16 (by omega)
 ·
  refine d_s [0,2,3,7,14] [] En15 fun ac17 En18 => ?_
  refine c_e h (2 : Int) En18 (fun hc19 => ?_) (fun hc19 => ?_)
  ·
   exact absurd hc19 (by omega)
  ·
   refine d_s [0,2,3,7,20] [] En18 fun ac20 En21 => ?_
   refine c_e h (3 : Int) En21 (fun hc22 => ?_) (fun hc22 => ?_)
   ·
    exact absurd hc22 (by omega)
   ·
    refine d_s [0,2,3,7] [] En21 fun ac23 En24 => ?_
    refine wp_ret ?_
    refine block_ret ?_
    refine then_ret ?_
    refine d_ret1 (t := 2) (v := .pointer none) En24 (by kernel_rfl) (by kernel_rfl) ?_
    exact ⟨rfl, Hv9.pk []⟩

theorem new_go (w : World) (h : Int) (h1 : h = 1 ∨ h = 2 ∨ h = 3) : Calls Tryd.prog 19 #[.int .i64 h] w fun e w' => ∃ bd, e = .returned (pt bd) ∧ Ev w [] w' [dB bd h (in32 h) (init64 h) none 0 0 0] := by
  rcases h1 with rfl | rfl | rfl
  · exact new1 w
  · exact new2 w
  · exact new3 w

end Go.Proofs.YtbpihljkkkeijaaDoor
