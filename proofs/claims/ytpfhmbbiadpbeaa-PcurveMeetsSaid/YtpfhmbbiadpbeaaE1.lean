/- Layer 4: bytes, the highest first. -/
import Derived.Test.YtpfhmbbiadpbeaaD3
import Derived.Test.YtpfhmbbiadpbeaaToArr
namespace Go.Proofs.Ytpfhmbbiadpbeaa
open Go.Dbr
set_option maxRecDepth 100000
set_option maxHeartbeats 2000000
set_option linter.unusedVariables false
set_option linter.unusedSimpArgs false

theorem getD8_eq {u : List UInt8} {i : Nat} (x : UInt8) (h : i < u.length) : List.getD (List.set u i x) i 0 = x := by
  rw [List.getD_eq_getElem?_getD, List.getElem?_set_self h]; rfl
theorem getD8_other {u : List UInt8} {i j : Nat} (x : UInt8) (h : i ≠ j) : List.getD (List.set u i x) j 0 = List.getD u j 0 := by
  rw [List.getD_eq_getElem?_getD, List.getElem?_set_ne h]; rfl
theorem rev_of {b x : List UInt8} (hb : b.length = 32) (hx : x.length = 32) (h : ∀ j, j < 32 → List.getD x j 0 = List.getD b (31 - j) 0) : x = b.reverse := by
  refine List.ext_getElem (by simp [hb, hx]) fun j h1 h2 => ?_
  have e := h j (by omega)
  rw [List.getD_eq_getElem?_getD, List.getElem?_eq_getElem h1, List.getD_eq_getElem?_getD, List.getElem?_eq_getElem (by omega)] at e
  rw [List.getElem_reverse]
  have e2 : b.length - 1 - j = 31 - j := by omega
  simp only [e2]
  exact e
theorem turn_in {b x : List UInt8} {i : Nat} (hx : x.length = 32) (hi : i < 32) (h : ∀ j, j < i → List.getD x j 0 = List.getD b (31 - j) 0) : ∀ j, j < i + 1 → List.getD (List.set x i (List.getD b (31 - i) 0)) j 0 = List.getD b (31 - j) 0 := fun j hj => by
  by_cases e : i = j
  · subst e; exact getD8_eq _ (by omega)
  · rw [getD8_other _ e, h j (by omega)]
def Swp (b x : List UInt8) (i : Nat) : Prop := ∀ j, j < 32 → List.getD x j 0 = if j < i ∨ 32 ≤ i + j then List.getD b (31 - j) 0 else List.getD b j 0
theorem Swp.zero {b : List UInt8} : Swp b b 0 := fun j hj => by rw [if_neg (by omega)]
theorem Swp.all {b x : List UInt8} {i : Nat} (hb : b.length = 32) (hx : x.length = 32) (hi : i = 16) (h : Swp b x i) : x = b.reverse := rev_of hb hx fun j hj => by
  rw [h j hj, if_pos (by omega)]
theorem swp_in {b x : List UInt8} {i : Nat} (hx : x.length = 32) (hi : i < 16) (h : Swp b x i) : Swp b (List.set (List.set x i (List.getD x (31 - i) 0)) (31 - i) (List.getD x i 0)) (i + 1) := fun j hj => by
  by_cases e1 : 31 - i = j
  · subst e1
    rw [getD8_eq _ (by simp; omega), h i (by omega), if_neg (by omega), if_pos (by omega)]
    congr 1; omega
  · rw [getD8_other _ e1]
    by_cases e2 : i = j
    · subst e2
      rw [getD8_eq _ (by omega), h (31 - i) (by omega), if_neg (by omega), if_pos (by omega)]
    · rw [getD8_other _ e2, h j hj]
      by_cases c : j < i ∨ 32 ≤ i + j
      · rw [if_pos c, if_pos (by omega)]
      · rw [if_neg c, if_neg (by omega)]
theorem rev_len {b : List UInt8} {n : Nat} (h : b.length = n) : b.reverse.length = n := by rw [List.length_reverse, h]

theorem rturned_go (w : World) (b : List UInt8) (hb : List.length b = 32) : Calls Try.prog 73 #[.agg (List.toArray (bys b))] w fun e w' => e = .returned (.agg (List.toArray (bys (List.reverse b)))) ∧ Ev w [] w' [] := by
 refine d_0 [(0, .agg (List.toArray (bys b)))] 16 Go.Proofs.Try.func73 Go.Proofs.Try.ntmps73 (Heap.nil _) fun act0 En0 Hv0 => ?_
 refine wp_seq ?_
 refine region_from ?_
 refine f_o ?_
 refine m_m 41 (bys b) En0 Hv0 fun ac2 wo3 bk1 En4 Hv5 => ?_
 refine f_o ?_
 refine m_z 41 (bys (List.replicate 32 0)) En4 Hv5 fun ac7 wo8 bk6 En9 Hv10 => ?_
 refine f_e ?_
 refine then_normal ?_
 refine wp_seq ?_
 refine region_from ?_
 refine f_o ?_
 refine m_z 41 (bys (List.replicate 32 0)) En9 Hv10 fun ac12 wo13 bk11 En14 Hv15 => ?_
 refine f_e ?_
 refine then_normal ?_
 refine wp_seq ?_
 refine d_s [1,2,3,4] [] En14 fun ac16 En17 => ?_
 refine wp_block ?_
 refine loop_m (fun ms18 ac wo => ∃ (i : Nat) (x : List UInt8), ms18 = (33 - i : Nat) ∧ Env ac 16 [(1, pt bk1), (2, pt bk6), (3, pt bk11), (4, ni i)] ∧ Ev w [] wo [.box bk11 (bys x) 41, .box bk1 (bys b) 41, .box bk6 (bys (List.replicate 32 0)) 41] ∧ (i ≤ 32) ∧ (List.length x = 32) ∧ (∀ j, j < i → List.getD x j 0 = List.getD b (31 - j) 0)) ⟨_, 0, List.replicate 32 0, rfl, En17.sb, Hv15.pk [2, 0, 1], by omega, List.length_replicate, fun j hj => by omega⟩ ?_
 rintro mm24 ac20 wo21 ⟨i, x, rfl, En22, Hv23, hi, hx, hp⟩
 refine wp_seq ?_
 refine d_s [1,2,3,4,6] [] En22 fun ac25 En26 => ?_
 refine c_d (((i : Nat) : Int) < (32 : Int)) En26 (fun hc27 => ?_) (fun hc27 => ?_)
 ·
  refine wp_skip ?_
  refine then_normal ?_
  refine wp_seq ?_
  refine wp_block ?_
  refine region_from ?_
  refine d_k [1,2,3,4,9,11] [(2, g_n (w_r (e := (31 : Int) - ((i : Nat) : Int)) (x := ((31 - i : Nat) : Int)) (by omega)))] 3 En26 fun ac28 En29 => ?_
  refine f_o ?_
  refine q_v (x := Instr.indexAt 41 (pt bk1) (ni (31 - i))) (v := .pointer (some ⟨bk1, 31 - i, none⟩)) En29 (Go.Dbr.run_indexarr (e := 5) (sz := 1) (m := 32) (j := 31 - i) (o := 31 - i) (by kernel_rfl) (by kernel_rfl) (by omega) (by omega) (by omega) _) fun ac30 En31 => ?_
  refine f_o ?_
  have hb32 : 31 - i < List.length b := by rw [hb]; omega
  refine m_v 1 (31 - i) (bv (List.getD b (31 - i) 0)) En31 Hv23 rfl (bys_getD hb32) fun ac33 En34 => ?_
  refine f_o ?_
  refine q_v (x := Instr.indexAt 41 (pt bk11) (ni i)) (v := .pointer (some ⟨bk11, i, none⟩)) En34 (Go.Dbr.run_indexarr (e := 5) (sz := 1) (m := 32) (j := i) (o := i) (by kernel_rfl) (by kernel_rfl) (by omega) (by omega) (by omega) _) fun ac35 En36 => ?_
  refine f_o ?_
  have hb37 : i < List.length x := by rw [hx]; omega
  refine m_t 0 i (bv (List.getD b (31 - i) 0)) [.box bk11 (bys (List.set x i (List.getD b (31 - i) 0))) 41, .box bk1 (bys b) 41, .box bk6 (bys (List.replicate 32 0)) 41] En36 Hv23 rfl (bys_getD hb37) (bys_set _ _ _) rfl fun ac38 wo39 En40 Hv41 => ?_
  refine f_e ?_
  refine block_normal ?_
  refine then_normal ?_
  refine d_r [1,2,3,4] [(1, g_n (w_a i 1))] En40 fun ac42 En43 => ?_
  refine then_normal ?_
  refine ⟨_, ⟨i + 1, (List.set x i (List.getD b (31 - i) 0)), rfl, En43.sb, Hv41.pk [0, 1, 2], by omega, (List.length_set.trans hx), turn_in hx (by omega) hp⟩, ?_⟩
  omega
 ·
  refine wp_exit ?_
  refine then_exit ?_
  refine then_exit ?_
  refine block_exit ?_
  refine then_normal ?_
  refine wp_seq ?_
  refine region_from ?_
  refine f_o ?_
  refine m_a 0 0 32 (bys x) En26 Hv23 rfl (load_whole (bys_lenh hx)) (bys_lenh hx) fun ac44 En45 => ?_
  refine f_o ?_
  refine m_g 2 0 32 (bys x) (bys x) [.box bk11 (bys x) 41, .box bk1 (bys b) 41, .box bk6 (bys x) 41] En45 Hv23 rfl (bys_lenh hx) (by rw [(bys_lenh (List.length_replicate))]; decide) (bys_one _) (store_whole (bys_lenh (List.length_replicate))) rfl fun ac46 wo47 En48 Hv49 => ?_
  refine f_e ?_
  refine then_normal ?_
  refine wp_ret ?_
  refine d_cell1 (v := .agg (List.toArray (bys x))) (t := 2) (T := 41) (ad := ⟨bk6, 0, none⟩) En48 (by kernel_rfl) (by kernel_rfl) (Ev.cellAgg (t := 41) (k := 2) (off := 0) (m := 32) (xs := bys x) Hv49 rfl (load_whole (bys_lenh hx)) (bys_lenh hx) (by kernel_rfl) (by kernel_rfl)) ?_
  have hxe : x = b.reverse := rev_of hb hx fun j hj => hp j (by omega)
  exact ⟨congrArg (fun l : List UInt8 => Ending.returned (Value.agg (bys l).toArray)) hxe, Hv49.pk []⟩

theorem tobe_go (w : World) (a : List UInt64) (ha : List.length a = 4) : Calls Try.prog 52 #[.agg (List.toArray (u64s a))] w fun e w' => e = .returned (.agg (List.toArray (bys (List.reverse (lb 32 (nv a)))))) ∧ Ev w [] w' [] := by
 refine d_0 [(0, .agg (List.toArray (u64s a)))] 24 Go.Proofs.Try.func52 Go.Proofs.Try.ntmps52 (Heap.nil _) fun act0 En0 Hv0 => ?_
 refine wp_seq ?_
 refine region_from ?_
 refine f_o ?_
 refine m_m 24 (u64s a) En0 Hv0 fun ac2 wo3 bk1 En4 Hv5 => ?_
 refine f_o ?_
 refine m_z 41 (bys (List.replicate 32 0)) En4 Hv5 fun ac7 wo8 bk6 En9 Hv10 => ?_
 refine f_e ?_
 refine then_normal ?_
 refine wp_seq ?_
 refine region_from ?_
 refine f_o ?_
 refine m_a 0 0 4 (u64s a) En9 Hv10 rfl (load_whole (u64s_lenh ha)) (u64s_lenh ha) fun ac11 En12 => ?_
 refine f_o ?_
 refine c_p En12 Hv10 (tole_go _ a ha) fun ac17 wo14 En18 Hv19 => ?_
 refine f_o ?_
 refine m_z 41 (bys (List.replicate 32 0)) En18 Hv19 fun ac21 wo22 bk20 En23 Hv24 => ?_
 refine f_o ?_
 refine m_g 2 0 32 (bys (lb 32 (nv a))) (bys (lb 32 (nv a))) [.box bk1 (u64s a) 24, .box bk6 (bys (List.replicate 32 0)) 41, .box bk20 (bys (lb 32 (nv a))) 41] En23 Hv24 rfl (bys_lenh (lb_len _ _)) (by rw [(bys_lenh (List.length_replicate))]; decide) (bys_one _) (store_whole (bys_lenh (List.length_replicate))) rfl fun ac25 wo26 En27 Hv28 => ?_
 refine f_e ?_
 refine then_normal ?_
 refine wp_seq ?_
 refine wp_seq ?_
 refine d_r [2,3,7] [] En27 fun ac29 En30 => ?_
 refine then_normal ?_
 refine wp_block ?_
 refine loop_m (fun ms31 ac wo => ∃ (i : Nat) (x : List UInt8), ms31 = (17 - i : Nat) ∧ Env ac 24 [(2, pt bk6), (3, pt bk20), (7, ni i)] ∧ Ev w [] wo [.box bk20 (bys x) 41, .box bk6 (bys (List.replicate 32 0)) 41] ∧ (i ≤ 16) ∧ (List.length x = 32) ∧ (Swp (lb 32 (nv a)) x i)) ⟨_, 0, (lb 32 (nv a)), rfl, En30.sb, Hv28.pk [2, 1], by omega, (lb_len _ _), Swp.zero⟩ ?_
 rintro mm37 ac33 wo34 ⟨i, x, rfl, En35, Hv36, hi, hx, hp⟩
 refine wp_seq ?_
 refine d_r [2,3,7,8] [] En35 fun ac38 En39 => ?_
 refine then_normal ?_
 refine wp_seq ?_
 refine c_d (((i : Nat) : Int) < (16 : Int)) En39 (fun hc40 => ?_) (fun hc40 => ?_)
 ·
  refine wp_skip ?_
  refine then_normal ?_
  refine wp_seq ?_
  refine wp_block ?_
  refine wp_seq ?_
  refine d_r [2,3,4,7] [] En39 fun ac41 En42 => ?_
  refine then_normal ?_
  refine r_c (fun ac wo => Env ac 24 [(2, pt bk6), (3, pt bk20), (7, ni i)] ∧ Ev w [] wo [.box bk20 (bys (List.set (List.set x i (List.getD x (31 - i) 0)) (31 - i) (List.getD x i 0))) 41, .box bk6 (bys (List.replicate 32 0)) 41]) ?_ ?_
  ·
   refine h_s (fun wv => Ev w [] wv [.box bk20 (bys x) 41]) [11] 14 ?_
   have wo43 := Hv36.trans (Ev.drew Hv36.heap)
   refine q_s [0,1,2,3,4] [(2, g_n (w_r (e := (31 : Int) - ((i : Nat) : Int)) (x := ((31 - i : Nat) : Int)) (by omega))), (4, g_n (w_r (e := (31 : Int) - ((i : Nat) : Int)) (x := ((31 - i : Nat) : Int)) (by omega)))] 9 En42 (wo43.pk [0]) fun ac120 En121 => ?_
   refine q_f 5 (s := Instr.indexAt 41 (pt bk20) (ni (31 - i))) (v := .pointer (some ⟨bk20, 31 - i, none⟩)) En121 (fun _ => Go.Dbr.run_indexarr (e := 5) (sz := 1) (m := 32) (j := 31 - i) (o := 31 - i) (by kernel_rfl) (by kernel_rfl) (by omega) (by omega) (by omega) _) (fun _ => wo43.pk [0]) fun ac122 En123 => ?_
   have hb124 : 31 - i < List.length x := by rw [hx]; omega
   refine q_r 6 (s := Instr.loadAt 5 (.pointer (some ⟨bk20, 31 - i, none⟩))) (v := bv (List.getD x (31 - i) 0)) En123 (fun w hS => run_load1 (by kernel_rfl) (hS.heap.cell (k := 0) rfl (bys_getD hb124))) (wo43.pk [0]) fun ac125 En126 => ?_
   refine q_s [7] [] 6 En126 (wo43.pk [0]) fun ac127 En128 => ?_
   refine q_f 8 (s := Instr.indexAt 41 (pt bk20) (ni i)) (v := .pointer (some ⟨bk20, i, none⟩)) En128 (fun _ => Go.Dbr.run_indexarr (e := 5) (sz := 1) (m := 32) (j := i) (o := i) (by kernel_rfl) (by kernel_rfl) (by omega) (by omega) (by omega) _) (fun _ => wo43.pk [0]) fun ac129 En130 => ?_
   have hb131 : i < List.length x := by rw [hx]; omega
   refine q_r 9 (s := Instr.loadAt 5 (.pointer (some ⟨bk20, i, none⟩))) (v := bv (List.getD x i 0)) En130 (fun w hS => run_load1 (by kernel_rfl) (hS.heap.cell (k := 0) rfl (bys_getD hb131))) (wo43.pk [0]) fun ac132 En133 => ?_
   refine q_f 10 (s := Instr.indexAt 41 (pt bk20) (ni i)) (v := .pointer (some ⟨bk20, i, none⟩)) En133 (fun _ => Go.Dbr.run_indexarr (e := 5) (sz := 1) (m := 32) (j := i) (o := i) (by kernel_rfl) (by kernel_rfl) (by omega) (by omega) (by omega) _) (fun _ => wo43.pk [0]) fun ac134 En135 => ?_
   refine q_t 11 ?_
   have hb136 : i < List.length x := by rw [hx]; omega
   refine m_t 0 i (bv (List.getD x (31 - i) 0)) [.box bk20 (bys (List.set x i (List.getD x (31 - i) 0))) 41, .box bk6 (bys (List.replicate 32 0)) 41] En135 wo43 rfl (bys_getD hb136) (bys_set _ _ _) rfl fun ac137 wo138 En139 Hv140 => ?_
   refine ⟨q_y, ?_⟩
   refine q_f 12 (s := Instr.indexAt 41 (pt bk20) (ni (31 - i))) (v := .pointer (some ⟨bk20, 31 - i, none⟩)) En139 (fun _ => Go.Dbr.run_indexarr (e := 5) (sz := 1) (m := 32) (j := 31 - i) (o := 31 - i) (by kernel_rfl) (by kernel_rfl) (by omega) (by omega) (by omega) _) q_y fun ac141 En142 => ?_
   refine q_t 13 ?_
   have hb143 : 31 - i < List.length (List.set x i (List.getD x (31 - i) 0)) := by rw [(List.length_set.trans hx)]; omega
   refine m_t 0 (31 - i) (bv (List.getD x i 0)) [.box bk20 (bys (List.set (List.set x i (List.getD x (31 - i) 0)) (31 - i) (List.getD x i 0))) 41, .box bk6 (bys (List.replicate 32 0)) 41] En142 Hv140 rfl (bys_getD hb143) (bys_set _ _ _) rfl fun ac144 wo145 En146 Hv147 => ?_
   refine ⟨q_y, ?_⟩
   exact h_e ⟨En146.sb, Hv147.pk [0, 1]⟩
  rintro ac148 wo149 ⟨En150, Hv151⟩
  refine block_normal ?_
  refine then_normal ?_
  refine d_r [2,3,7] [(0, g_n (w_a i 1))] En150 fun ac152 En153 => ?_
  refine then_normal ?_
  refine ⟨_, ⟨i + 1, (List.set (List.set x i (List.getD x (31 - i) 0)) (31 - i) (List.getD x i 0)), rfl, En153.sb, Hv151.pk [0, 1], by omega, (by simp [hx]), swp_in hx (by omega) hp⟩, ?_⟩
  omega
 ·
  refine wp_exit ?_
  refine then_exit ?_
  refine then_exit ?_
  refine block_exit ?_
  refine then_normal ?_
  refine wp_seq ?_
  have hxe := Swp.all (lb_len _ _) hx (by omega) hp
  rw [hxe] at Hv36
  refine region_from ?_
  refine f_o ?_
  refine m_a 0 0 32 (bys (List.reverse (lb 32 (nv a)))) En39 Hv36 rfl (load_whole (bys_lenh (rev_len (lb_len _ _)))) (bys_lenh (rev_len (lb_len _ _))) fun ac154 En155 => ?_
  refine f_o ?_
  refine m_g 1 0 32 (bys (List.reverse (lb 32 (nv a)))) (bys (List.reverse (lb 32 (nv a)))) [.box bk20 (bys (List.reverse (lb 32 (nv a)))) 41, .box bk6 (bys (List.reverse (lb 32 (nv a)))) 41] En155 Hv36 rfl (bys_lenh (rev_len (lb_len _ _))) (by rw [(bys_lenh (List.length_replicate))]; decide) (bys_one _) (store_whole (bys_lenh (List.length_replicate))) rfl fun ac156 wo157 En158 Hv159 => ?_
  refine f_e ?_
  refine then_normal ?_
  refine wp_ret ?_
  refine d_cell1 (v := .agg (List.toArray (bys (List.reverse (lb 32 (nv a)))))) (t := 2) (T := 41) (ad := ⟨bk6, 0, none⟩) En158 (by kernel_rfl) (by kernel_rfl) (Ev.cellAgg (t := 41) (k := 1) (off := 0) (m := 32) (xs := bys (List.reverse (lb 32 (nv a)))) Hv159 rfl (load_whole (bys_lenh (rev_len (lb_len _ _)))) (bys_lenh (rev_len (lb_len _ _))) (by kernel_rfl) (by kernel_rfl)) ?_
  exact ⟨rfl, Hv159.pk []⟩

theorem rtobe_go (w : World) (a : List UInt64) (ha : List.length a = 4) : Calls Try.prog 54 #[.agg (List.toArray (u64s a))] w fun e w' => e = .returned (.agg (List.toArray (bys (List.reverse (lb 32 (nv a)))))) ∧ Ev w [] w' [] := by
 refine d_0 [(0, .agg (List.toArray (u64s a)))] 6 Go.Proofs.Try.func54 Go.Proofs.Try.ntmps54 (Heap.nil _) fun act0 En0 Hv0 => ?_
 refine wp_seq ?_
 refine region_from ?_
 refine f_o ?_
 refine m_m 24 (u64s a) En0 Hv0 fun ac2 wo3 bk1 En4 Hv5 => ?_
 refine f_o ?_
 refine m_z 41 (bys (List.replicate 32 0)) En4 Hv5 fun ac7 wo8 bk6 En9 Hv10 => ?_
 refine f_e ?_
 refine then_normal ?_
 refine wp_seq ?_
 refine region_from ?_
 refine f_o ?_
 refine m_a 0 0 4 (u64s a) En9 Hv10 rfl (load_whole (u64s_lenh ha)) (u64s_lenh ha) fun ac11 En12 => ?_
 refine f_o ?_
 refine c_p En12 Hv10 (rtole_go _ a ha) fun ac17 wo14 En18 Hv19 => ?_
 refine f_o ?_
 refine c_p En18 Hv19 (rturned_go _ (lb 32 (nv a)) (lb_len _ _)) fun ac24 wo21 En25 Hv26 => ?_
 refine f_o ?_
 refine m_g 1 0 32 (bys (List.reverse (lb 32 (nv a)))) (bys (List.reverse (lb 32 (nv a)))) [.box bk1 (u64s a) 24, .box bk6 (bys (List.reverse (lb 32 (nv a)))) 41] En25 Hv26 rfl (bys_lenh (rev_len (lb_len _ _))) (by rw [(bys_lenh (List.length_replicate))]; decide) (bys_one _) (store_whole (bys_lenh (List.length_replicate))) rfl fun ac27 wo28 En29 Hv30 => ?_
 refine f_e ?_
 refine then_normal ?_
 refine wp_ret ?_
 refine d_cell1 (v := .agg (List.toArray (bys (List.reverse (lb 32 (nv a)))))) (t := 2) (T := 41) (ad := ⟨bk6, 0, none⟩) En29 (by kernel_rfl) (by kernel_rfl) (Ev.cellAgg (t := 41) (k := 1) (off := 0) (m := 32) (xs := bys (List.reverse (lb 32 (nv a)))) Hv30 rfl (load_whole (bys_lenh (rev_len (lb_len _ _)))) (bys_lenh (rev_len (lb_len _ _))) (by kernel_rfl) (by kernel_rfl)) ?_
 exact ⟨rfl, Hv30.pk []⟩

end Go.Proofs.Ytpfhmbbiadpbeaa
