/- Layer 5: the sum of parts. -/
import Derived.Test.YtbpihljkkkeijaaDoorS9x32
import Derived.Test.YtbpihljkkkeijaaDoorS9x64
namespace Go.Proofs.YtbpihljkkkeijaaDoor
open Go.Dbr
set_option maxRecDepth 100000
set_option maxHeartbeats 2000000
set_option linter.unusedVariables false
set_option linter.unusedSimpArgs false

theorem sum_go (w : World) (bd : Nat) (h : Int) (hh : h = 1 ∨ h = 2 ∨ h = 3) (al : List UInt8) (ar : Option Addr) (cr : Nat) (gk32 : InU32 w [.box bd (([.int .i64 h] : List Value) ++ ((u32s (S32 h al)) ++ ((u64s (S64 h al)) ++ ([.slice ar (List.length (restH h al)) cr, uv64 (UInt64.ofNat (List.length al))] : List Value)))) 58, .vec ar cr 1 (bys (restH h al)) 5] (some ⟨0, 0, none⟩) 64 K32) (gk64 : InU64 w [.box bd (([.int .i64 h] : List Value) ++ ((u32s (S32 h al)) ++ ((u64s (S64 h al)) ++ ([.slice ar (List.length (restH h al)) cr, uv64 (UInt64.ofNat (List.length al))] : List Value)))) 58, .vec ar cr 1 (bys (restH h al)) 5] (some ⟨1, 0, none⟩) 80 K64) (hH : Heap w [.box bd (([.int .i64 h] : List Value) ++ ((u32s (S32 h al)) ++ ((u64s (S64 h al)) ++ ([.slice ar (List.length (restH h al)) cr, uv64 (UInt64.ofNat (List.length al))] : List Value)))) 58, .vec ar cr 1 (bys (restH h al)) 5]) : Calls Tryd.prog 21 #[pt bd] w fun e w' => ∃ ao co, e = .returned (.slice ao (List.length (sumF h al)) co) ∧ Ev w [.box bd (([.int .i64 h] : List Value) ++ ((u32s (S32 h al)) ++ ((u64s (S64 h al)) ++ ([.slice ar (List.length (restH h al)) cr, uv64 (UInt64.ofNat (List.length al))] : List Value)))) 58, .vec ar cr 1 (bys (restH h al)) 5] w' [.box bd (([.int .i64 h] : List Value) ++ ((u32s (S32 h al)) ++ ((u64s (S64 h al)) ++ ([.slice ar (List.length (restH h al)) cr, uv64 (UInt64.ofNat (List.length al))] : List Value)))) 58, .vec ar cr 1 (bys (restH h al)) 5, .vec ao co 1 (bys (sumF h al)) 5] := by
  rcases hh with rfl | h2
  · exact sum32_go w bd al ar cr gk32 gk64 hH
  · exact sum64_go w bd h h2 al ar cr gk32 gk64 hH

theorem flat_take_succ {l : List (Sl UInt8)} {k : Nat} {x : Sl UInt8} (h : l[k]? = some x) : (l.take (k + 1)).flatMap (fun s => s.l) = (l.take k).flatMap (fun s => s.l) ++ x.l := by
  rw [List.take_add_one, h, List.flatMap_append]
  simp

theorem of_go (w : World) (h : Int) (hh : h = 1 ∨ h = 2 ∨ h = 3) (ax : Option Addr) (nx cx : Nat) (lx : List (Sl UInt8)) (ex : nx = List.length lx) (ix : InS (fun s : Sl UInt8 => s.f) 24 (fun x : Sl UInt8 => InB w [] x.a x.c x.l) w [] ax cx lx) (hT : ∀ (k : Nat) (x : Sl UInt8), lx[k]? = some x → List.length (restH h (List.flatMap (fun s : Sl UInt8 => s.l) (List.take k lx))) + List.length x.l ≤ 140737488355200) (gk32 : InU32 w [] (some ⟨0, 0, none⟩) 64 K32) (gk64 : InU64 w [] (some ⟨1, 0, none⟩) 80 K64) : Calls Tryd.prog 13 #[.int .i64 h, .slice ax nx cx] w fun e w' => ∃ ao co, e = .returned (.slice ao (List.length (sumF h (List.flatMap (fun s : Sl UInt8 => s.l) lx))) co) ∧ Ev w [] w' [.vec ao co 1 (bys (sumF h (List.flatMap (fun s : Sl UInt8 => s.l) lx))) 5] := by
 subst ex
 have hs := ix.small
 have hc2 := ix.cap
 refine d_0 [(0, .int .i64 h), (1, .slice ax (List.length lx) cx)] 24 Go.Proofs.Tryd.func13 Go.Proofs.Tryd.ntmps13 (Heap.nil _) fun act0 En0 Hv0 => ?_
 refine wp_seq ?_
 refine d_r [0,1,4] [] En0 fun ac1 En2 => ?_
 refine then_normal ?_
 refine wp_seq ?_
 refine region_from ?_
 refine d_k [1,4,8] [] 1 En2 fun ac3 En4 => ?_
 refine f_o ?_
 refine c_0 En4 Hv0 (new_dig _ h hh) ?_
 rintro _ wo7 ⟨bq5, rfl, he8⟩
 refine ⟨_, _, _, rfl, he8, rfl, fun ac10 En11 Hv12 => ?_⟩
 refine d_e [1,4,5] [] En11 fun ac13 En14 => ?_
 refine then_normal ?_
 refine wp_seq ?_
 refine wp_seq ?_
 refine d_r [1,4,5,11] [] En14 fun ac15 En16 => ?_
 refine then_normal ?_
 refine c_f En16 ?_
 refine wp_skip ?_
 refine then_normal ?_
 refine wp_seq ?_
 refine wp_seq ?_
 refine d_r [4,5,12,13,14] [] En16 fun ac17 En18 => ?_
 refine then_normal ?_
 refine wp_block ?_
 refine loop_m (fun ms19 ac wo => ∃ (k : Nat) (al : List UInt8) (ar : Option Addr) (cr : Nat), ms19 = (List.length lx - k : Nat) ∧ Env ac 24 [(4, .slice none 0 0), (5, pt bq5), (12, .slice ax (List.length lx) cx), (13, ni (List.length lx)), (14, ni k)] ∧ Ev w [] wo [.box bq5 (([.int .i64 h] : List Value) ++ ((u32s (S32 h al)) ++ ((u64s (S64 h al)) ++ ([.slice ar (List.length (restH h al)) cr, uv64 (UInt64.ofNat (List.length al))] : List Value)))) 58, .vec ar cr 1 (bys (restH h al)) 5] ∧ (k ≤ List.length lx) ∧ (al = (List.flatMap (fun s : Sl UInt8 => s.l) (List.take k lx)))) ⟨_, 0, [], none, 0, rfl, En18.sb, Hv12.pk [0, 1], by omega, by rfl⟩ ?_
 rintro mm25 ac21 wo22 ⟨k, al, ar, cr, rfl, En23, Hv24, hk, hal⟩
 refine wp_seq ?_
 refine d_r [4,5,12,13,14,15] [] En23 fun ac26 En27 => ?_
 refine then_normal ?_
 refine wp_seq ?_
 refine c_d (((k : Nat) : Int) < ((List.length lx : Nat) : Int)) En27 (fun hc28 => ?_) (fun hc28 => ?_)
 ·
  refine wp_skip ?_
  refine then_normal ?_
  refine wp_seq ?_
  refine wp_block ?_
  refine wp_seq ?_
  have hb31 : k < List.length lx := (by omega)
  obtain ⟨adr29, had30⟩ := some_of ix.nz hb31
  have hb32 : k < List.length lx := by omega
  obtain ⟨⟨a_x34, c_x34, x34⟩, hx33⟩ : ∃ x, (lx)[k]? = some x := ⟨_, List.getElem?_eq_getElem hb32⟩
  obtain i_x34 := ix.each _ (List.mem_of_getElem? hx33)
  replace i_x34 : InB w [] a_x34 c_x34 x34 := i_x34
  refine region_from ?_
  refine f_o ?_
  refine q_v (x := Instr.indexAt 30 (.slice ax (List.length lx) cx) (ni k)) (v := .pointer (some (Addr.add adr29 k))) En27 (Go.Dbr.run_indexsl (e := 23) (sz := 1) (j := k) (jo := k) had30 (by kernel_rfl) (by kernel_rfl) (by omega) hb31 (Nat.mul_one _) _) fun ac35 En36 => ?_
  refine f_o ?_
  refine op_loadf (d := some 17) (t := 23) (ad := adr29) (ao := ax) (ys := List.flatMap (fun s : Sl UInt8 => s.f) lx) (o := k) (v := .slice a_x34 (List.length x34) c_x34) En36 (by kernel_rfl) rfl (ix.ro.ev Hv24).reads had30 ((flat_get1 (fun _ _ => rfl) hx33).trans rfl) (by kernel_rfl) ?_
  intro ac37 En38
  refine d_e [4,5,7,12,13,14] [] En38 fun ac39 En40 => ?_
  refine then_normal ?_
  have hTk := hT k _ hx33
  rw [← hal] at hTk
  simp only at hTk
  refine region_from ?_
  refine d_k [4,5,12,13,14,18,19] [] 2 En40 fun ac41 En42 => ?_
  refine f_o ?_
  refine c_l [0,1] (M := [.box bq5 (([.int .i64 h] : List Value) ++ ((u32s (S32 h al)) ++ ((u64s (S64 h al)) ++ ([.slice ar (List.length (restH h al)) cr, uv64 (UInt64.ofNat (List.length al))] : List Value)))) 58, .vec ar cr 1 (bys (restH h al)) 5]) En42 Hv24 (fun hM44 => write_go _ bq5 h hh al ar cr a_x34 (List.length x34) c_x34 x34 (by first | rfl | (simp; done) | (simp; omega) | omega) ((i_x34.ev Hv24).pick [0, 1] (by kernel_rfl)) (by omega) ((gk32.ev Hv24).pick [0, 1] (by kernel_rfl)) ((gk64.ev Hv24).pick [0, 1] (by kernel_rfl)) hM44) ?_
  rintro _ wo45 ⟨aoq43, coq43, rfl, he46⟩
  refine ⟨_, _, [.box bq5 (([.int .i64 h] : List Value) ++ ((u32s (S32 h (al ++ x34))) ++ ((u64s (S64 h (al ++ x34))) ++ ([.slice aoq43 (List.length (restH h (al ++ x34))) coq43, uv64 (UInt64.ofNat (List.length (al ++ x34)))] : List Value)))) 58, .vec aoq43 coq43 1 (bys (restH h (al ++ x34))) 5], rfl, he46, by kernel_rfl, fun ac48 En49 Hv50 => ?_⟩
  refine f_e ?_
  refine block_normal ?_
  refine then_normal ?_
  refine d_r [4,5,12,13,14] [(0, g_n (w_a k 1))] En49 fun ac51 En52 => ?_
  refine then_normal ?_
  refine ⟨_, ⟨k + 1, al ++ x34, aoq43, coq43, rfl, En52.sb, Hv50.pk [0, 1], by omega, by rw [flat_take_succ hx33, hal]⟩, ?_⟩
  omega
 ·
  refine wp_exit ?_
  refine then_exit ?_
  refine then_exit ?_
  refine block_exit ?_
  refine then_normal ?_
  refine wp_seq ?_
  refine region_from ?_
  refine d_k [4,5,12,13,14,22] [] 1 En27 fun ac53 En54 => ?_
  refine f_o ?_
  refine c_l [0,1] (M := [.box bq5 (([.int .i64 h] : List Value) ++ ((u32s (S32 h al)) ++ ((u64s (S64 h al)) ++ ([.slice ar (List.length (restH h al)) cr, uv64 (UInt64.ofNat (List.length al))] : List Value)))) 58, .vec ar cr 1 (bys (restH h al)) 5]) En54 Hv24 (fun hM56 => sum_go _ bq5 h hh al ar cr ((gk32.ev Hv24).pick [0, 1] (by kernel_rfl)) ((gk64.ev Hv24).pick [0, 1] (by kernel_rfl)) hM56) ?_
  rintro _ wo57 ⟨aoq55, coq55, rfl, he58⟩
  refine ⟨_, _, [.box bq5 (([.int .i64 h] : List Value) ++ ((u32s (S32 h al)) ++ ((u64s (S64 h al)) ++ ([.slice ar (List.length (restH h al)) cr, uv64 (UInt64.ofNat (List.length al))] : List Value)))) 58, .vec ar cr 1 (bys (restH h al)) 5, .vec aoq55 coq55 1 (bys (sumF h al)) 5], rfl, he58, by kernel_rfl, fun ac60 En61 Hv62 => ?_⟩
  refine d_e [4,5,12,13,14] [] En61 fun ac63 En64 => ?_
  refine then_normal ?_
  refine wp_ret ?_
  refine d_ret1 (t := 4) (v := .slice aoq55 (List.length (sumF h al)) coq55) En64 (by kernel_rfl) (by kernel_rfl) ?_
  have hkk : k = List.length lx := by omega
  have hae : al = (List.flatMap (fun s : Sl UInt8 => s.l) lx) := by rw [hal, hkk, List.take_length]
  have Hf65 := Hv62.pk [2] (M := [.vec aoq55 coq55 1 (bys (sumF h al)) 5])
  subst hae
  exact ⟨_, _, rfl, Hf65⟩

theorem of_nil (w : World) (h : Int) (hh : ¬ (h = 1 ∨ h = 2 ∨ h = 3)) (ax : Option Addr) (nx cx : Nat) (lx : List (Sl UInt8)) (ex : nx = List.length lx) (ix : InS (fun s : Sl UInt8 => s.f) 24 (fun x : Sl UInt8 => InB w [] x.a x.c x.l) w [] ax cx lx) : Calls Tryd.prog 13 #[.int .i64 h, .slice ax nx cx] w fun e w' => e = .returned (.slice none 0 0) ∧ Ev w [] w' [] := by
 subst ex
 refine d_0 [(0, .int .i64 h), (1, .slice ax (List.length lx) cx)] 24 Go.Proofs.Tryd.func13 Go.Proofs.Tryd.ntmps13 (Heap.nil _) fun act0 En0 Hv0 => ?_
 refine d_s [0,1,4] [] En0 fun ac1 En2 => ?_
 refine wp_seq ?_
 refine region_from ?_
 refine d_k [1,4,8] [] 1 En2 fun ac3 En4 => ?_
 refine f_o ?_
 refine c_p En4 Hv0 (new0 _ h hh) fun ac9 wo6 En10 Hv11 => ?_
 refine d_e [1,4,5] [] En10 fun ac12 En13 => ?_
 refine then_normal ?_
 refine wp_seq ?_
 refine d_s [1,4,5,11] [] En13 fun ac14 En15 => ?_
 refine c_t En15 ?_
 refine d_s [1,4,5] [] En15 fun ac16 En17 => ?_
 refine wp_ret ?_
 refine then_ret ?_
 refine d_ret1 (t := 4) (v := .slice none 0 0) En17 (by kernel_rfl) (by kernel_rfl) ?_
 exact ⟨rfl, Hv11.pk []⟩

end Go.Proofs.YtbpihljkkkeijaaDoor
