/- Layer 4: bytes, the highest first; wide numbers. -/
import Derived.Test.YtamdjonejijndaaF12
import Derived.Test.YtamdjonejijndaaF14
namespace Go.Proofs.Ytamdjonejijndaa
open Go.Dbr
set_option maxRecDepth 100000
set_option maxHeartbeats 2000000
set_option linter.unusedVariables false
set_option linter.unusedSimpArgs false

theorem getD8_eq {u : List UInt8} {i : Nat} (x : UInt8) (h : i < u.length) : List.getD (List.set u i x) i 0 = x := by
  rw [List.getD_eq_getElem?_getD, List.getElem?_set_self h]; rfl
theorem getD8_other {u : List UInt8} {i j : Nat} (x : UInt8) (h : i ≠ j) : List.getD (List.set u i x) j 0 = List.getD u j 0 := by
  rw [List.getD_eq_getElem?_getD, List.getElem?_set_ne h]; rfl
theorem rev_of {b x : List UInt8} (hb : b.length = 32) (hx : x.length = 32) (h : ∀ j, j < 32 → List.getD x j 0 = List.getD b (31 - j) 0) : x = b.reverse := by
  refine List.ext_getElem (by simp [hb, hx]) fun j h1 h2 => ?_
  have e := h j (by omega)
  rw [List.getD_eq_getElem?_getD, List.getElem?_eq_getElem h1, List.getD_eq_getElem?_getD, List.getElem?_eq_getElem (by omega)] at e
  rw [List.getElem_reverse]
  have e2 : b.length - 1 - j = 31 - j := by omega
  simp only [e2]
  exact e
theorem turn_in {b x : List UInt8} {i : Nat} (hx : x.length = 32) (hi : i < 32) (h : ∀ j, j < i → List.getD x j 0 = List.getD b (31 - j) 0) : ∀ j, j < i + 1 → List.getD (List.set x i (List.getD b (31 - i) 0)) j 0 = List.getD b (31 - j) 0 := fun j hj => by
  by_cases e : i = j
  · subst e; exact getD8_eq _ (by omega)
  · rw [getD8_other _ e, h j (by omega)]
def Swp (b x : List UInt8) (i : Nat) : Prop := ∀ j, j < 32 → List.getD x j 0 = if j < i ∨ 32 ≤ i + j then List.getD b (31 - j) 0 else List.getD b j 0
theorem Swp.zero {b : List UInt8} : Swp b b 0 := fun j hj => by rw [if_neg (by omega)]
theorem Swp.all {b x : List UInt8} {i : Nat} (hb : b.length = 32) (hx : x.length = 32) (hi : i = 16) (h : Swp b x i) : x = b.reverse := rev_of hb hx fun j hj => by
  rw [h j hj, if_pos (by omega)]
theorem swp_in {b x : List UInt8} {i : Nat} (hx : x.length = 32) (hi : i < 16) (h : Swp b x i) : Swp b (List.set (List.set x i (List.getD x (31 - i) 0)) (31 - i) (List.getD x i 0)) (i + 1) := fun j hj => by
  by_cases e1 : 31 - i = j
  · subst e1
    rw [getD8_eq _ (by simp; omega), h i (by omega), if_neg (by omega), if_pos (by omega)]
    congr 1; omega
  · rw [getD8_other _ e1]
    by_cases e2 : i = j
    · subst e2
      rw [getD8_eq _ (by omega), h (31 - i) (by omega), if_neg (by omega), if_pos (by omega)]
    · rw [getD8_other _ e2, h j hj]
      by_cases c : j < i ∨ 32 ≤ i + j
      · rw [if_pos c, if_pos (by omega)]
      · rw [if_neg c, if_neg (by omega)]
theorem rev_len {b : List UInt8} {n : Nat} (h : b.length = n) : b.reverse.length = n := by rw [List.length_reverse, h]
theorem lv_app : ∀ (a b : List UInt8), lv (a ++ b) = lv a + 256 ^ a.length * lv b
  | [], b => by simp [lv]
  | x :: r, b => by
    rw [List.cons_append, lv, lv, lv_app r b, List.length_cons, Nat.pow_succ, Nat.mul_add, Nat.add_assoc]
    congr 2
    rw [← Nat.mul_assoc, Nat.mul_comm 256]
theorem lv_zeros : ∀ n, lv (List.replicate n 0) = 0
  | 0 => rfl
  | n + 1 => by rw [List.replicate_succ, lv, lv_zeros n]; rfl
theorem chunk_val {l : List UInt8} {s e : Nat} (he : e ≤ l.length) (hs : s ≤ e) (h31 : e - s ≤ 32) : lv (List.take 0 (List.replicate 32 (0 : UInt8)) ++ List.take (e - s) (List.drop s l) ++ List.drop (0 + (e - s)) (List.replicate 32 (0 : UInt8))) = lv (List.take (e - s) (List.drop s l)) := by
  rw [List.take_zero, List.nil_append, lv_app, List.drop_replicate, lv_zeros, Nat.mul_zero, Nat.add_zero]
theorem drop_split {l : List UInt8} {s e : Nat} (hs : s ≤ e) (he : e ≤ l.length) : lv (List.drop s l) = lv (List.take (e - s) (List.drop s l)) + 256 ^ (e - s) * lv (List.drop e l) := by
  have h := lv_app (List.take (e - s) (List.drop s l)) (List.drop (e - s) (List.drop s l))
  rw [List.take_append_drop, List.length_take, List.length_drop, Nat.min_eq_left (by omega), List.drop_drop, show s + (e - s) = e by omega] at h
  exact h
theorem wide_chunk {f : Int} (hf : f = 1 ∨ f = 2 ∨ f = 3 ∨ f = 4) {l : List UInt8} {e : Nat} {X : List UInt8} (he : e ≤ l.length) (h0 : 0 < e) (hm : e % 31 = 0 ∨ e = l.length) (hX : lv X = lv (List.take (e - (e - 1) / 31 * 31) (List.drop ((e - 1) / 31 * 31) l))) :
    nd (addM f (nv (nd (mulM f (nv (nd (lv (List.drop e l) % mF f))) (nv [0, 0, 0, 72057594037927936])))) (nv (nd (lv X)))) = nd (lv (List.drop ((e - 1) / 31 * 31) l) % mF f) := by
  have hs : (e - 1) / 31 * 31 ≤ e := by omega
  have hXl : lv X < W256 := by
    rw [hX]
    refine Nat.lt_of_lt_of_le (lv_lt _) ?_
    rw [List.length_take, List.length_drop]
    refine Nat.le_trans (Nat.pow_le_pow_right (by decide) (show _ ≤ 31 by omega)) (by decide)
  rw [nv_nd hXl, hX, nv_nd (mulM_lt hf _ _), nv_nd (mod_lt_w hf), ← add_mM, mulM, show nv [0, 0, 0, 72057594037927936] = 256 ^ 31 by decide +kernel, drop_split hs he]
  congr 1
  rcases hm with h | h
  · rw [show e - (e - 1) / 31 * 31 = 31 by omega]
    generalize lv (List.take 31 (List.drop ((e - 1) / 31 * 31) l)) = A
    generalize lv (List.drop e l) = B
    rw [Nat.mod_mul_mod, Nat.mod_mod, ← Nat.add_mod, Nat.add_comm, Nat.mul_comm]
  · rw [show lv (List.drop e l) = 0 by rw [h, List.drop_length]; rfl]
    simp

theorem rturned_go (w : World) (b : List UInt8) (hb : List.length b = 32) : Calls Try.prog 60 #[.agg (List.toArray (bys b))] w fun e w' => e = .returned (.agg (List.toArray (bys (List.reverse b)))) ∧ Ev w [] w' [] := by
 refine d_0 [(0, .agg (List.toArray (bys b)))] 16 Go.Proofs.Try.func60 Go.Proofs.Try.ntmps60 (Heap.nil _) fun act0 En0 Hv0 => ?_
 refine wp_seq ?_
 refine region_from ?_
 refine f_o ?_
 refine m_m 41 (bys b) En0 Hv0 fun ac2 wo3 bk1 En4 Hv5 => ?_
 refine f_o ?_
 refine m_z 41 (bys (List.replicate 32 0)) En4 Hv5 fun ac7 wo8 bk6 En9 Hv10 => ?_
 refine f_e ?_
 refine then_normal ?_
 refine wp_seq ?_
 refine region_from ?_
 refine f_o ?_
 refine m_z 41 (bys (List.replicate 32 0)) En9 Hv10 fun ac12 wo13 bk11 En14 Hv15 => ?_
 refine f_e ?_
 refine then_normal ?_
 refine wp_seq ?_
 refine d_s [1,2,3,4] [] En14 fun ac16 En17 => ?_
 refine wp_block ?_
 refine loop_m (fun ms18 ac wo => ∃ (i : Nat) (x : List UInt8), ms18 = (33 - i : Nat) ∧ Env ac 16 [(1, pt bk1), (2, pt bk6), (3, pt bk11), (4, ni i)] ∧ Ev w [] wo [.box bk11 (bys x) 41, .box bk1 (bys b) 41, .box bk6 (bys (List.replicate 32 0)) 41] ∧ (i ≤ 32) ∧ (List.length x = 32) ∧ (∀ j, j < i → List.getD x j 0 = List.getD b (31 - j) 0)) ⟨_, 0, List.replicate 32 0, rfl, En17.sb, Hv15.pk [2, 0, 1], by omega, List.length_replicate, fun j hj => by omega⟩ ?_
 rintro mm24 ac20 wo21 ⟨i, x, rfl, En22, Hv23, hi, hx, hp⟩
 refine wp_seq ?_
 refine d_s [1,2,3,4,6] [] En22 fun ac25 En26 => ?_
 refine c_d (((i : Nat) : Int) < (32 : Int)) En26 (fun hc27 => ?_) (fun hc27 => ?_)
 ·
  refine wp_skip ?_
  refine then_normal ?_
  refine wp_seq ?_
  refine wp_block ?_
  refine region_from ?_
  refine d_k [1,2,3,4,9,11] [(2, g_n (w_r (e := (31 : Int) - ((i : Nat) : Int)) (x := ((31 - i : Nat) : Int)) (by omega)))] 3 En26 fun ac28 En29 => ?_
  refine f_o ?_
  refine q_v (x := Instr.indexAt 41 (pt bk1) (ni (31 - i))) (v := .pointer (some ⟨bk1, 31 - i, none⟩)) En29 (Go.Dbr.run_indexarr (e := 5) (sz := 1) (m := 32) (j := 31 - i) (o := 31 - i) (by kernel_rfl) (by kernel_rfl) (by omega) (by omega) (by omega) _) fun ac30 En31 => ?_
  refine f_o ?_
  have hb32 : 31 - i < List.length b := by rw [hb]; omega
  refine m_v 1 (31 - i) (bv (List.getD b (31 - i) 0)) En31 Hv23 rfl (bys_getD hb32) fun ac33 En34 => ?_
  refine f_o ?_
  refine q_v (x := Instr.indexAt 41 (pt bk11) (ni i)) (v := .pointer (some ⟨bk11, i, none⟩)) En34 (Go.Dbr.run_indexarr (e := 5) (sz := 1) (m := 32) (j := i) (o := i) (by kernel_rfl) (by kernel_rfl) (by omega) (by omega) (by omega) _) fun ac35 En36 => ?_
  refine f_o ?_
  have hb37 : i < List.length x := by rw [hx]; omega
  refine m_t 0 i (bv (List.getD b (31 - i) 0)) [.box bk11 (bys (List.set x i (List.getD b (31 - i) 0))) 41, .box bk1 (bys b) 41, .box bk6 (bys (List.replicate 32 0)) 41] En36 Hv23 rfl (bys_getD hb37) (bys_set _ _ _) rfl fun ac38 wo39 En40 Hv41 => ?_
  refine f_e ?_
  refine block_normal ?_
  refine then_normal ?_
  refine d_r [1,2,3,4] [(1, g_n (w_a i 1))] En40 fun ac42 En43 => ?_
  refine then_normal ?_
  refine ⟨_, ⟨i + 1, (List.set x i (List.getD b (31 - i) 0)), rfl, En43.sb, Hv41.pk [0, 1, 2], by omega, (List.length_set.trans hx), turn_in hx (by omega) hp⟩, ?_⟩
  omega
 ·
  refine wp_exit ?_
  refine then_exit ?_
  refine then_exit ?_
  refine block_exit ?_
  refine then_normal ?_
  refine wp_seq ?_
  refine region_from ?_
  refine f_o ?_
  refine m_a 0 0 32 (bys x) En26 Hv23 rfl (load_whole (bys_lenh hx)) (bys_lenh hx) fun ac44 En45 => ?_
  refine f_o ?_
  refine m_g 2 0 32 (bys x) (bys x) [.box bk11 (bys x) 41, .box bk1 (bys b) 41, .box bk6 (bys x) 41] En45 Hv23 rfl (bys_lenh hx) (by rw [(bys_lenh (List.length_replicate))]; decide) (bys_one _) (store_whole (bys_lenh (List.length_replicate))) rfl fun ac46 wo47 En48 Hv49 => ?_
  refine f_e ?_
  refine then_normal ?_
  refine wp_ret ?_
  refine d_cell1 (v := .agg (List.toArray (bys x))) (t := 2) (T := 41) (ad := ⟨bk6, 0, none⟩) En48 (by kernel_rfl) (by kernel_rfl) (Ev.cellAgg (t := 41) (k := 2) (off := 0) (m := 32) (xs := bys x) Hv49 rfl (load_whole (bys_lenh hx)) (bys_lenh hx) (by kernel_rfl) (by kernel_rfl)) ?_
  have hxe : x = b.reverse := rev_of hb hx fun j hj => hp j (by omega)
  exact ⟨congrArg (fun l : List UInt8 => Ending.returned (Value.agg (bys l).toArray)) hxe, Hv49.pk []⟩

theorem frombe_go (w : World) (b : List UInt8) (hb : List.length b = 32) : Calls Try.prog 38 #[.agg (List.toArray (bys b))] w fun e w' => e = .returned (.agg (List.toArray (u64s (nd (lv (List.reverse b)))))) ∧ Ev w [] w' [] := by
 refine d_0 [(0, .agg (List.toArray (bys b)))] 22 Go.Proofs.Try.func38 Go.Proofs.Try.ntmps38 (Heap.nil _) fun act0 En0 Hv0 => ?_
 refine wp_seq ?_
 refine region_from ?_
 refine f_o ?_
 refine m_m 41 (bys b) En0 Hv0 fun ac2 wo3 bk1 En4 Hv5 => ?_
 refine f_o ?_
 refine m_z 25 (u64s (List.replicate 4 0)) En4 Hv5 fun ac7 wo8 bk6 En9 Hv10 => ?_
 refine f_e ?_
 refine then_normal ?_
 refine wp_seq ?_
 refine wp_seq ?_
 refine d_r [1,2,4] [] En9 fun ac11 En12 => ?_
 refine then_normal ?_
 refine wp_block ?_
 refine loop_m (fun ms13 ac wo => ∃ (i : Nat) (x : List UInt8), ms13 = (17 - i : Nat) ∧ Env ac 22 [(1, pt bk1), (2, pt bk6), (4, ni i)] ∧ Ev w [] wo [.box bk1 (bys x) 41, .box bk6 (u64s (List.replicate 4 0)) 25] ∧ (i ≤ 16) ∧ (List.length x = 32) ∧ (Swp b x i)) ⟨_, 0, b, rfl, En12.sb, Hv10.pk [0, 1], by omega, hb, Swp.zero⟩ ?_
 rintro mm19 ac15 wo16 ⟨i, x, rfl, En17, Hv18, hi, hx, hp⟩
 refine wp_seq ?_
 refine d_r [1,2,4,5] [] En17 fun ac20 En21 => ?_
 refine then_normal ?_
 refine wp_seq ?_
 refine c_d (((i : Nat) : Int) < (16 : Int)) En21 (fun hc22 => ?_) (fun hc22 => ?_)
 ·
  refine wp_skip ?_
  refine then_normal ?_
  refine wp_seq ?_
  refine wp_block ?_
  refine wp_seq ?_
  refine d_r [1,2,3,4] [] En21 fun ac23 En24 => ?_
  refine then_normal ?_
  refine r_c (fun ac wo => Env ac 22 [(1, pt bk1), (2, pt bk6), (4, ni i)] ∧ Ev w [] wo [.box bk1 (bys (List.set (List.set x i (List.getD x (31 - i) 0)) (31 - i) (List.getD x i 0))) 41, .box bk6 (u64s (List.replicate 4 0)) 25]) ?_ ?_
  ·
   refine h_s (fun wv => Ev w [] wv [.box bk1 (bys x) 41]) [11] 14 ?_
   have wo25 := Hv18.trans (Ev.drew Hv18.heap)
   refine q_s [0,1,2,3,4] [(2, g_n (w_r (e := (31 : Int) - ((i : Nat) : Int)) (x := ((31 - i : Nat) : Int)) (by omega))), (4, g_n (w_r (e := (31 : Int) - ((i : Nat) : Int)) (x := ((31 - i : Nat) : Int)) (by omega)))] 9 En24 (wo25.pk [0]) fun ac102 En103 => ?_
   refine q_f 5 (s := Instr.indexAt 41 (pt bk1) (ni (31 - i))) (v := .pointer (some ⟨bk1, 31 - i, none⟩)) En103 (fun _ => Go.Dbr.run_indexarr (e := 5) (sz := 1) (m := 32) (j := 31 - i) (o := 31 - i) (by kernel_rfl) (by kernel_rfl) (by omega) (by omega) (by omega) _) (fun _ => wo25.pk [0]) fun ac104 En105 => ?_
   have hb106 : 31 - i < List.length x := by rw [hx]; omega
   refine q_r 6 (s := Instr.loadAt 5 (.pointer (some ⟨bk1, 31 - i, none⟩))) (v := bv (List.getD x (31 - i) 0)) En105 (fun w hS => run_load1 (by kernel_rfl) (hS.heap.cell (k := 0) rfl (bys_getD hb106))) (wo25.pk [0]) fun ac107 En108 => ?_
   refine q_s [7] [] 6 En108 (wo25.pk [0]) fun ac109 En110 => ?_
   refine q_f 8 (s := Instr.indexAt 41 (pt bk1) (ni i)) (v := .pointer (some ⟨bk1, i, none⟩)) En110 (fun _ => Go.Dbr.run_indexarr (e := 5) (sz := 1) (m := 32) (j := i) (o := i) (by kernel_rfl) (by kernel_rfl) (by omega) (by omega) (by omega) _) (fun _ => wo25.pk [0]) fun ac111 En112 => ?_
   have hb113 : i < List.length x := by rw [hx]; omega
   refine q_r 9 (s := Instr.loadAt 5 (.pointer (some ⟨bk1, i, none⟩))) (v := bv (List.getD x i 0)) En112 (fun w hS => run_load1 (by kernel_rfl) (hS.heap.cell (k := 0) rfl (bys_getD hb113))) (wo25.pk [0]) fun ac114 En115 => ?_
   refine q_f 10 (s := Instr.indexAt 41 (pt bk1) (ni i)) (v := .pointer (some ⟨bk1, i, none⟩)) En115 (fun _ => Go.Dbr.run_indexarr (e := 5) (sz := 1) (m := 32) (j := i) (o := i) (by kernel_rfl) (by kernel_rfl) (by omega) (by omega) (by omega) _) (fun _ => wo25.pk [0]) fun ac116 En117 => ?_
   refine q_t 11 ?_
   have hb118 : i < List.length x := by rw [hx]; omega
   refine m_t 0 i (bv (List.getD x (31 - i) 0)) [.box bk1 (bys (List.set x i (List.getD x (31 - i) 0))) 41, .box bk6 (u64s (List.replicate 4 0)) 25] En117 wo25 rfl (bys_getD hb118) (bys_set _ _ _) rfl fun ac119 wo120 En121 Hv122 => ?_
   refine ⟨q_y, ?_⟩
   refine q_f 12 (s := Instr.indexAt 41 (pt bk1) (ni (31 - i))) (v := .pointer (some ⟨bk1, 31 - i, none⟩)) En121 (fun _ => Go.Dbr.run_indexarr (e := 5) (sz := 1) (m := 32) (j := 31 - i) (o := 31 - i) (by kernel_rfl) (by kernel_rfl) (by omega) (by omega) (by omega) _) q_y fun ac123 En124 => ?_
   refine q_t 13 ?_
   have hb125 : 31 - i < List.length (List.set x i (List.getD x (31 - i) 0)) := by rw [(List.length_set.trans hx)]; omega
   refine m_t 0 (31 - i) (bv (List.getD x i 0)) [.box bk1 (bys (List.set (List.set x i (List.getD x (31 - i) 0)) (31 - i) (List.getD x i 0))) 41, .box bk6 (u64s (List.replicate 4 0)) 25] En124 Hv122 rfl (bys_getD hb125) (bys_set _ _ _) rfl fun ac126 wo127 En128 Hv129 => ?_
   refine ⟨q_y, ?_⟩
   exact h_e ⟨En128.sb, Hv129.pk [0, 1]⟩
  rintro ac130 wo131 ⟨En132, Hv133⟩
  refine block_normal ?_
  refine then_normal ?_
  refine d_r [1,2,4] [(0, g_n (w_a i 1))] En132 fun ac134 En135 => ?_
  refine then_normal ?_
  refine ⟨_, ⟨i + 1, (List.set (List.set x i (List.getD x (31 - i) 0)) (31 - i) (List.getD x i 0)), rfl, En135.sb, Hv133.pk [0, 1], by omega, (by simp [hx]), swp_in hx (by omega) hp⟩, ?_⟩
  omega
 ·
  refine wp_exit ?_
  refine then_exit ?_
  refine then_exit ?_
  refine block_exit ?_
  refine then_normal ?_
  refine wp_seq ?_
  have hxe := Swp.all hb hx (by omega) hp
  rw [hxe] at Hv18
  refine region_from ?_
  refine f_o ?_
  refine m_a 0 0 32 (bys (List.reverse b)) En21 Hv18 rfl (load_whole (bys_lenh (rev_len hb))) (bys_lenh (rev_len hb)) fun ac136 En137 => ?_
  refine f_o ?_
  refine c_p En137 Hv18 (fromle_go _ (List.reverse b) (rev_len hb)) fun ac142 wo139 En143 Hv144 => ?_
  refine f_o ?_
  refine m_g 1 0 4 (u64s (nd (lv (List.reverse b)))) (u64s (nd (lv (List.reverse b)))) [.box bk1 (bys (List.reverse b)) 41, .box bk6 (u64s (nd (lv (List.reverse b)))) 25] En143 Hv144 rfl (u64s_lenh (nds_len _ _)) (by rw [(u64s_lenh (List.length_replicate))]; decide) (u64s_one _) (store_whole (u64s_lenh (List.length_replicate))) rfl fun ac145 wo146 En147 Hv148 => ?_
  refine f_e ?_
  refine then_normal ?_
  refine wp_ret ?_
  refine d_cell1 (v := .agg (List.toArray (u64s (nd (lv (List.reverse b)))))) (t := 2) (T := 25) (ad := ⟨bk6, 0, none⟩) En147 (by kernel_rfl) (by kernel_rfl) (Ev.cellAgg (t := 25) (k := 1) (off := 0) (m := 4) (xs := u64s (nd (lv (List.reverse b)))) Hv148 rfl (load_whole (u64s_lenh (nds_len _ _))) (u64s_lenh (nds_len _ _)) (by kernel_rfl) (by kernel_rfl)) ?_
  exact ⟨rfl, Hv148.pk []⟩

theorem tobe_go (w : World) (a : List UInt64) (ha : List.length a = 4) : Calls Try.prog 36 #[.agg (List.toArray (u64s a))] w fun e w' => e = .returned (.agg (List.toArray (bys (List.reverse (lb 32 (nv a)))))) ∧ Ev w [] w' [] := by
 refine d_0 [(0, .agg (List.toArray (u64s a)))] 24 Go.Proofs.Try.func36 Go.Proofs.Try.ntmps36 (Heap.nil _) fun act0 En0 Hv0 => ?_
 refine wp_seq ?_
 refine region_from ?_
 refine f_o ?_
 refine m_m 25 (u64s a) En0 Hv0 fun ac2 wo3 bk1 En4 Hv5 => ?_
 refine f_o ?_
 refine m_z 41 (bys (List.replicate 32 0)) En4 Hv5 fun ac7 wo8 bk6 En9 Hv10 => ?_
 refine f_e ?_
 refine then_normal ?_
 refine wp_seq ?_
 refine region_from ?_
 refine f_o ?_
 refine m_a 0 0 4 (u64s a) En9 Hv10 rfl (load_whole (u64s_lenh ha)) (u64s_lenh ha) fun ac11 En12 => ?_
 refine f_o ?_
 refine c_p En12 Hv10 (tole_go _ a ha) fun ac17 wo14 En18 Hv19 => ?_
 refine f_o ?_
 refine m_z 41 (bys (List.replicate 32 0)) En18 Hv19 fun ac21 wo22 bk20 En23 Hv24 => ?_
 refine f_o ?_
 refine m_g 2 0 32 (bys (lb 32 (nv a))) (bys (lb 32 (nv a))) [.box bk1 (u64s a) 25, .box bk6 (bys (List.replicate 32 0)) 41, .box bk20 (bys (lb 32 (nv a))) 41] En23 Hv24 rfl (bys_lenh (lb_len _ _)) (by rw [(bys_lenh (List.length_replicate))]; decide) (bys_one _) (store_whole (bys_lenh (List.length_replicate))) rfl fun ac25 wo26 En27 Hv28 => ?_
 refine f_e ?_
 refine then_normal ?_
 refine wp_seq ?_
 refine wp_seq ?_
 refine d_r [2,3,7] [] En27 fun ac29 En30 => ?_
 refine then_normal ?_
 refine wp_block ?_
 refine loop_m (fun ms31 ac wo => ∃ (i : Nat) (x : List UInt8), ms31 = (17 - i : Nat) ∧ Env ac 24 [(2, pt bk6), (3, pt bk20), (7, ni i)] ∧ Ev w [] wo [.box bk20 (bys x) 41, .box bk6 (bys (List.replicate 32 0)) 41] ∧ (i ≤ 16) ∧ (List.length x = 32) ∧ (Swp (lb 32 (nv a)) x i)) ⟨_, 0, (lb 32 (nv a)), rfl, En30.sb, Hv28.pk [2, 1], by omega, (lb_len _ _), Swp.zero⟩ ?_
 rintro mm37 ac33 wo34 ⟨i, x, rfl, En35, Hv36, hi, hx, hp⟩
 refine wp_seq ?_
 refine d_r [2,3,7,8] [] En35 fun ac38 En39 => ?_
 refine then_normal ?_
 refine wp_seq ?_
 refine c_d (((i : Nat) : Int) < (16 : Int)) En39 (fun hc40 => ?_) (fun hc40 => ?_)
 ·
  refine wp_skip ?_
  refine then_normal ?_
  refine wp_seq ?_
  refine wp_block ?_
  refine wp_seq ?_
  refine d_r [2,3,4,7] [] En39 fun ac41 En42 => ?_
  refine then_normal ?_
  refine r_c (fun ac wo => Env ac 24 [(2, pt bk6), (3, pt bk20), (7, ni i)] ∧ Ev w [] wo [.box bk20 (bys (List.set (List.set x i (List.getD x (31 - i) 0)) (31 - i) (List.getD x i 0))) 41, .box bk6 (bys (List.replicate 32 0)) 41]) ?_ ?_
  ·
   refine h_s (fun wv => Ev w [] wv [.box bk20 (bys x) 41]) [11] 14 ?_
   have wo43 := Hv36.trans (Ev.drew Hv36.heap)
   refine q_s [0,1,2,3,4] [(2, g_n (w_r (e := (31 : Int) - ((i : Nat) : Int)) (x := ((31 - i : Nat) : Int)) (by omega))), (4, g_n (w_r (e := (31 : Int) - ((i : Nat) : Int)) (x := ((31 - i : Nat) : Int)) (by omega)))] 9 En42 (wo43.pk [0]) fun ac120 En121 => ?_
   refine q_f 5 (s := Instr.indexAt 41 (pt bk20) (ni (31 - i))) (v := .pointer (some ⟨bk20, 31 - i, none⟩)) En121 (fun _ => Go.Dbr.run_indexarr (e := 5) (sz := 1) (m := 32) (j := 31 - i) (o := 31 - i) (by kernel_rfl) (by kernel_rfl) (by omega) (by omega) (by omega) _) (fun _ => wo43.pk [0]) fun ac122 En123 => ?_
   have hb124 : 31 - i < List.length x := by rw [hx]; omega
   refine q_r 6 (s := Instr.loadAt 5 (.pointer (some ⟨bk20, 31 - i, none⟩))) (v := bv (List.getD x (31 - i) 0)) En123 (fun w hS => run_load1 (by kernel_rfl) (hS.heap.cell (k := 0) rfl (bys_getD hb124))) (wo43.pk [0]) fun ac125 En126 => ?_
   refine q_s [7] [] 6 En126 (wo43.pk [0]) fun ac127 En128 => ?_
   refine q_f 8 (s := Instr.indexAt 41 (pt bk20) (ni i)) (v := .pointer (some ⟨bk20, i, none⟩)) En128 (fun _ => Go.Dbr.run_indexarr (e := 5) (sz := 1) (m := 32) (j := i) (o := i) (by kernel_rfl) (by kernel_rfl) (by omega) (by omega) (by omega) _) (fun _ => wo43.pk [0]) fun ac129 En130 => ?_
   have hb131 : i < List.length x := by rw [hx]; omega
   refine q_r 9 (s := Instr.loadAt 5 (.pointer (some ⟨bk20, i, none⟩))) (v := bv (List.getD x i 0)) En130 (fun w hS => run_load1 (by kernel_rfl) (hS.heap.cell (k := 0) rfl (bys_getD hb131))) (wo43.pk [0]) fun ac132 En133 => ?_
   refine q_f 10 (s := Instr.indexAt 41 (pt bk20) (ni i)) (v := .pointer (some ⟨bk20, i, none⟩)) En133 (fun _ => Go.Dbr.run_indexarr (e := 5) (sz := 1) (m := 32) (j := i) (o := i) (by kernel_rfl) (by kernel_rfl) (by omega) (by omega) (by omega) _) (fun _ => wo43.pk [0]) fun ac134 En135 => ?_
   refine q_t 11 ?_
   have hb136 : i < List.length x := by rw [hx]; omega
   refine m_t 0 i (bv (List.getD x (31 - i) 0)) [.box bk20 (bys (List.set x i (List.getD x (31 - i) 0))) 41, .box bk6 (bys (List.replicate 32 0)) 41] En135 wo43 rfl (bys_getD hb136) (bys_set _ _ _) rfl fun ac137 wo138 En139 Hv140 => ?_
   refine ⟨q_y, ?_⟩
   refine q_f 12 (s := Instr.indexAt 41 (pt bk20) (ni (31 - i))) (v := .pointer (some ⟨bk20, 31 - i, none⟩)) En139 (fun _ => Go.Dbr.run_indexarr (e := 5) (sz := 1) (m := 32) (j := 31 - i) (o := 31 - i) (by kernel_rfl) (by kernel_rfl) (by omega) (by omega) (by omega) _) q_y fun ac141 En142 => ?_
   refine q_t 13 ?_
   have hb143 : 31 - i < List.length (List.set x i (List.getD x (31 - i) 0)) := by rw [(List.length_set.trans hx)]; omega
   refine m_t 0 (31 - i) (bv (List.getD x i 0)) [.box bk20 (bys (List.set (List.set x i (List.getD x (31 - i) 0)) (31 - i) (List.getD x i 0))) 41, .box bk6 (bys (List.replicate 32 0)) 41] En142 Hv140 rfl (bys_getD hb143) (bys_set _ _ _) rfl fun ac144 wo145 En146 Hv147 => ?_
   refine ⟨q_y, ?_⟩
   exact h_e ⟨En146.sb, Hv147.pk [0, 1]⟩
  rintro ac148 wo149 ⟨En150, Hv151⟩
  refine block_normal ?_
  refine then_normal ?_
  refine d_r [2,3,7] [(0, g_n (w_a i 1))] En150 fun ac152 En153 => ?_
  refine then_normal ?_
  refine ⟨_, ⟨i + 1, (List.set (List.set x i (List.getD x (31 - i) 0)) (31 - i) (List.getD x i 0)), rfl, En153.sb, Hv151.pk [0, 1], by omega, (by simp [hx]), swp_in hx (by omega) hp⟩, ?_⟩
  omega
 ·
  refine wp_exit ?_
  refine then_exit ?_
  refine then_exit ?_
  refine block_exit ?_
  refine then_normal ?_
  refine wp_seq ?_
  have hxe := Swp.all (lb_len _ _) hx (by omega) hp
  rw [hxe] at Hv36
  refine region_from ?_
  refine f_o ?_
  refine m_a 0 0 32 (bys (List.reverse (lb 32 (nv a)))) En39 Hv36 rfl (load_whole (bys_lenh (rev_len (lb_len _ _)))) (bys_lenh (rev_len (lb_len _ _))) fun ac154 En155 => ?_
  refine f_o ?_
  refine m_g 1 0 32 (bys (List.reverse (lb 32 (nv a)))) (bys (List.reverse (lb 32 (nv a)))) [.box bk20 (bys (List.reverse (lb 32 (nv a)))) 41, .box bk6 (bys (List.reverse (lb 32 (nv a)))) 41] En155 Hv36 rfl (bys_lenh (rev_len (lb_len _ _))) (by rw [(bys_lenh (List.length_replicate))]; decide) (bys_one _) (store_whole (bys_lenh (List.length_replicate))) rfl fun ac156 wo157 En158 Hv159 => ?_
  refine f_e ?_
  refine then_normal ?_
  refine wp_ret ?_
  refine d_cell1 (v := .agg (List.toArray (bys (List.reverse (lb 32 (nv a)))))) (t := 2) (T := 41) (ad := ⟨bk6, 0, none⟩) En158 (by kernel_rfl) (by kernel_rfl) (Ev.cellAgg (t := 41) (k := 1) (off := 0) (m := 32) (xs := bys (List.reverse (lb 32 (nv a)))) Hv159 rfl (load_whole (bys_lenh (rev_len (lb_len _ _)))) (bys_lenh (rev_len (lb_len _ _))) (by kernel_rfl) (by kernel_rfl)) ?_
  exact ⟨rfl, Hv159.pk []⟩

theorem rfrombe_go (w : World) (b : List UInt8) (hb : List.length b = 32) : Calls Try.prog 39 #[.agg (List.toArray (bys b))] w fun e w' => e = .returned (.agg (List.toArray (u64s (nd (lv (List.reverse b)))))) ∧ Ev w [] w' [] := by
 refine d_0 [(0, .agg (List.toArray (bys b)))] 6 Go.Proofs.Try.func39 Go.Proofs.Try.ntmps39 (Heap.nil _) fun act0 En0 Hv0 => ?_
 refine wp_seq ?_
 refine region_from ?_
 refine f_o ?_
 refine m_m 41 (bys b) En0 Hv0 fun ac2 wo3 bk1 En4 Hv5 => ?_
 refine f_o ?_
 refine m_z 25 (u64s (List.replicate 4 0)) En4 Hv5 fun ac7 wo8 bk6 En9 Hv10 => ?_
 refine f_e ?_
 refine then_normal ?_
 refine wp_seq ?_
 refine region_from ?_
 refine f_o ?_
 refine m_a 0 0 32 (bys b) En9 Hv10 rfl (load_whole (bys_lenh hb)) (bys_lenh hb) fun ac11 En12 => ?_
 refine f_o ?_
 refine c_p En12 Hv10 (rturned_go _ b hb) fun ac17 wo14 En18 Hv19 => ?_
 refine f_o ?_
 refine c_p En18 Hv19 (rfromle_go _ (List.reverse b) (rev_len hb)) fun ac24 wo21 En25 Hv26 => ?_
 refine f_o ?_
 refine m_g 1 0 4 (u64s (nd (lv (List.reverse b)))) (u64s (nd (lv (List.reverse b)))) [.box bk1 (bys b) 41, .box bk6 (u64s (nd (lv (List.reverse b)))) 25] En25 Hv26 rfl (u64s_lenh (nds_len _ _)) (by rw [(u64s_lenh (List.length_replicate))]; decide) (u64s_one _) (store_whole (u64s_lenh (List.length_replicate))) rfl fun ac27 wo28 En29 Hv30 => ?_
 refine f_e ?_
 refine then_normal ?_
 refine wp_ret ?_
 refine d_cell1 (v := .agg (List.toArray (u64s (nd (lv (List.reverse b)))))) (t := 2) (T := 25) (ad := ⟨bk6, 0, none⟩) En29 (by kernel_rfl) (by kernel_rfl) (Ev.cellAgg (t := 25) (k := 1) (off := 0) (m := 4) (xs := u64s (nd (lv (List.reverse b)))) Hv30 rfl (load_whole (u64s_lenh (nds_len _ _))) (u64s_lenh (nds_len _ _)) (by kernel_rfl) (by kernel_rfl)) ?_
 exact ⟨rfl, Hv30.pk []⟩

theorem rtobe_go (w : World) (a : List UInt64) (ha : List.length a = 4) : Calls Try.prog 37 #[.agg (List.toArray (u64s a))] w fun e w' => e = .returned (.agg (List.toArray (bys (List.reverse (lb 32 (nv a)))))) ∧ Ev w [] w' [] := by
 refine d_0 [(0, .agg (List.toArray (u64s a)))] 6 Go.Proofs.Try.func37 Go.Proofs.Try.ntmps37 (Heap.nil _) fun act0 En0 Hv0 => ?_
 refine wp_seq ?_
 refine region_from ?_
 refine f_o ?_
 refine m_m 25 (u64s a) En0 Hv0 fun ac2 wo3 bk1 En4 Hv5 => ?_
 refine f_o ?_
 refine m_z 41 (bys (List.replicate 32 0)) En4 Hv5 fun ac7 wo8 bk6 En9 Hv10 => ?_
 refine f_e ?_
 refine then_normal ?_
 refine wp_seq ?_
 refine region_from ?_
 refine f_o ?_
 refine m_a 0 0 4 (u64s a) En9 Hv10 rfl (load_whole (u64s_lenh ha)) (u64s_lenh ha) fun ac11 En12 => ?_
 refine f_o ?_
 refine c_p En12 Hv10 (rtole_go _ a ha) fun ac17 wo14 En18 Hv19 => ?_
 refine f_o ?_
 refine c_p En18 Hv19 (rturned_go _ (lb 32 (nv a)) (lb_len _ _)) fun ac24 wo21 En25 Hv26 => ?_
 refine f_o ?_
 refine m_g 1 0 32 (bys (List.reverse (lb 32 (nv a)))) (bys (List.reverse (lb 32 (nv a)))) [.box bk1 (u64s a) 25, .box bk6 (bys (List.reverse (lb 32 (nv a)))) 41] En25 Hv26 rfl (bys_lenh (rev_len (lb_len _ _))) (by rw [(bys_lenh (List.length_replicate))]; decide) (bys_one _) (store_whole (bys_lenh (List.length_replicate))) rfl fun ac27 wo28 En29 Hv30 => ?_
 refine f_e ?_
 refine then_normal ?_
 refine wp_ret ?_
 refine d_cell1 (v := .agg (List.toArray (bys (List.reverse (lb 32 (nv a)))))) (t := 2) (T := 41) (ad := ⟨bk6, 0, none⟩) En29 (by kernel_rfl) (by kernel_rfl) (Ev.cellAgg (t := 41) (k := 1) (off := 0) (m := 32) (xs := bys (List.reverse (lb 32 (nv a)))) Hv30 rfl (load_whole (bys_lenh (rev_len (lb_len _ _)))) (bys_lenh (rev_len (lb_len _ _))) (by kernel_rfl) (by kernel_rfl)) ?_
 exact ⟨rfl, Hv30.pk []⟩

theorem wide_go (w : World) (f : Int) (hf : f = 1 ∨ f = 2 ∨ f = 3 ∨ f = 4) (ab : Option Addr) (nb cb : Nat) (lb : List UInt8) (eb : nb = List.length lb) (ib : InB w [] ab cb lb) : Calls Try.prog 30 #[.int .i64 f, .slice ab nb cb] w fun e w' => e = .returned (.agg (List.toArray (u64s (nd (lv lb % mF f))))) ∧ Ev w [] w' [] := by
 subst eb
 have hsm := ib.small
 have hcp := ib.cap
 refine d_0 [(0, .int .i64 f), (1, .slice ab (List.length lb) cb)] 37 Go.Proofs.Try.func30 Go.Proofs.Try.ntmps30 (Heap.nil _) fun act0 En0 Hv0 => ?_
 refine wp_seq ?_
 refine region_from ?_
 refine f_o ?_
 refine m_z 25 (u64s (List.replicate 4 0)) En0 Hv0 fun ac2 wo3 bk1 En4 Hv5 => ?_
 refine f_e ?_
 refine then_normal ?_
 refine wp_seq ?_
 refine region_from ?_
 refine f_o ?_
 refine m_z 25 (u64s (List.replicate 4 0)) En4 Hv5 fun ac7 wo8 bk6 En9 Hv10 => ?_
 refine f_e ?_
 refine then_normal ?_
 refine wp_seq ?_
 refine wp_seq ?_
 refine d_r [0,1,4,5,6] [] En9 fun ac11 En12 => ?_
 refine then_normal ?_
 refine wp_block ?_
 refine loop_m (fun ms13 ac wo => ∃ (e : Nat) (x : List UInt64), ms13 = (e + 1 : Nat) ∧ Env ac 37 [(0, .int .i64 f), (1, .slice ab (List.length lb) cb), (4, pt bk1), (5, pt bk6), (6, ni e)] ∧ Ev w [] wo [.box bk6 (u64s x) 25, .box bk1 (u64s (List.replicate 4 0)) 25] ∧ (e ≤ List.length lb) ∧ (e % 31 = 0 ∨ e = List.length lb) ∧ (List.length x = 4) ∧ (x = nd (lv (List.drop e lb) % mF f))) ⟨_, List.length lb, List.replicate 4 0, rfl, En12.sb, Hv10.pk [1, 0], by omega, by omega, List.length_replicate, by rw [List.drop_length, lv, Nat.zero_mod]; rfl⟩ ?_
 rintro mm19 ac15 wo16 ⟨e, x, rfl, En17, Hv18, he, hm, hx, hxe⟩
 refine wp_seq ?_
 refine wp_seq ?_
 refine region_from ?_
 refine d_k [0,1,4,5,6,13] [] 3 En17 fun ac20 En21 => ?_
 rcases Bool.eq_false_or_eq_true (decide (((e : Nat) : Int) > (0 : Int))) with hb22 | hb22
 ·
  have En23 := En21.fx (t := 13) (congrArg Value.bool hb22)
  have hp24 : ((e : Nat) : Int) > (0 : Int) := of_decide_eq_true hb22
  refine d_k [0,1,4,5,6,13,14] [] 4 En23 fun ac25 En26 => ?_
  refine f_o ?_
  refine c_p En26 Hv18 (is_go_yes _ f hf) fun ac31 wo28 En32 Hv33 => ?_
  refine d_e [0,1,4,5,6,16] [] En32 fun ac34 En35 => ?_
  refine then_normal ?_
  refine c_t En35 ?_
  refine wp_skip ?_
  refine then_normal ?_
  refine wp_block ?_
  refine wp_seq ?_
  rw [hxe] at Hv33
  refine d_r [0,1,4,5,6,7] [(1, g_n (w_r (e := ((e : Nat) : Int) - (1 : Int)) (x := ((e - 1 : Nat) : Int)) (by omega))), (2, g_i .i64 (show IntKind.wrap .i64 (Int.tdiv ((e - 1 : Nat) : Int) (31 : Int)) = (((e - 1) / 31 : Nat) : Int) from Go.Dbr.i64_quo_nat (a := ((e - 1 : Nat) : Int)) (n := e - 1) (m := 31) rfl (by omega))), (3, g_n (w_m ((e - 1) / 31) 31))] En35 fun ac36 En37 => ?_
  refine then_normal ?_
  refine wp_seq ?_
  refine region_from ?_
  refine f_o ?_
  refine m_z 41 (bys (List.replicate 32 0)) En37 Hv33 fun ac39 wo40 bk38 En41 Hv42 => ?_
  refine f_e ?_
  refine then_normal ?_
  refine wp_seq ?_
  refine r_c (fun ac wo => Env ac 37 [(0, .int .i64 f), (1, .slice ab (List.length lb) cb), (4, pt bk1), (5, pt bk6), (6, ni e), (7, ni (((e - 1) / 31) * 31)), (8, pt bk38)] ∧ Ev w [] wo [.box bk6 (u64s (nd (lv (List.drop e lb) % mF f))) 25, .box bk1 (u64s (List.replicate 4 0)) 25, .box bk38 (bys (List.take 0 (List.replicate 32 0) ++ (List.take (e - (((e - 1) / 31) * 31)) (List.drop (((e - 1) / 31) * 31) lb)) ++ List.drop (0 + (e - (((e - 1) / 31) * 31))) (List.replicate 32 0))) 41]) ?_ ?_
  ·
   refine h_s (fun wv => Ev w [] wv [.box bk38 (bys (List.replicate 32 0)) 41]) [5] 6 ?_
   have wo43 := Hv42.trans (Ev.drew Hv42.heap)
   refine h_name fun G hG => ?_
   have nd88 : ∀ (ac : Act) (wo : World), Env ac 37 [(0, .int .i64 f), (1, .slice ab (List.length lb) cb), (4, pt bk1), (5, pt bk6), (6, ni e), (7, ni (((e - 1) / 31) * 31)), (8, pt bk38), (21, .slice (some ⟨bk38, 0, none⟩) 32 32), (22, .slice ab (List.length lb) cb), (23, ni (((e - 1) / 31) * 31)), (24, ni e)] → Ev w [] wo [.box bk6 (u64s (nd (lv (List.drop e lb) % mF f))) 25, .box bk1 (u64s (List.replicate 4 0)) 25, .box bk38 (bys (List.replicate 32 0)) 41] → G 2 #[true, true, true, true, false, false] ac wo := by
    intro ac89 wo90 En91 Hv92
    refine h_from hG ?_
    refine q_t 4 ?_
    have hcap93 := ib.cap
    refine op_slice (d := some 25) (t := 40) (e := 5) (sz := 1) (len := List.length lb) (cap := cb) (lo := ((e - 1) / 31) * 31) (hi := e) (ao := ab) (lov := (some (ni (((e - 1) / 31) * 31)))) (hiv := (some (ni e))) En91 (by kernel_rfl) (by kernel_rfl) (by kernel_rfl) (by omega) (by omega) (.inr ⟨.i64, rfl⟩) (.inr ⟨.i64, rfl⟩) ?_
    intro ac94 En95
    refine ⟨fun _ => Hv92.pk [2], ?_⟩
    refine q_t 5 ?_
    have hcy96 : Nat.min (e - (((e - 1) / 31) * 31)) 32 = e - (((e - 1) / 31) * 31) := by show min _ _ = _; omega
    refine op_copybox (d := some 26) (dT := 40) (sT := 40) (ty := 3) (elem := 5) (b := bk38) (off := 0) (k := 2) (m := e - (((e - 1) / 31) * 31)) (xs := bys (List.take (e - (((e - 1) / 31) * 31)) (List.drop (((e - 1) / 31) * 31) lb))) (ys := bys (List.take (e - (((e - 1) / 31) * 31)) (List.drop (((e - 1) / 31) * 31) lb))) (dLen := 32) (dCap := 32) (so := cutAt ab cb (((e - 1) / 31) * 31) 1) (sLen := e - (((e - 1) / 31) * 31)) (sCap := cb - (((e - 1) / 31) * 31)) En95 (by kernel_rfl) Hv92 rfl (by kernel_rfl) (by kernel_rfl) (bys_cut_reads (ib.ev Hv92).reads (n := (List.length lb)) cb (((e - 1) / 31) * 31) e (by simp) (by omega) (by omega) (by omega)) (fun e => cut_nz ib.nz e (by omega)) hcy96 (List.take_of_length_le (by first | (simp [bys]; done) | (simp [bys]; omega))) (bys_lenh (by first | (simp; done) | (simp; omega))) (by rw [bys_lenh (List.length_replicate)]; omega) (bys_one _) (cs' := bys (List.take 0 (List.replicate 32 0) ++ (List.take (e - (((e - 1) / 31) * 31)) (List.drop (((e - 1) / 31) * 31) lb)) ++ List.drop (0 + (e - (((e - 1) / 31) * 31))) (List.replicate 32 0))) (by simp [bys, List.map_append, List.map_take, List.map_drop]) (L' := [.box bk6 (u64s (nd (lv (List.drop e lb) % mF f))) 25, .box bk1 (u64s (List.replicate 4 0)) 25, .box bk38 (bys (List.take 0 (List.replicate 32 0) ++ (List.take (e - (((e - 1) / 31) * 31)) (List.drop (((e - 1) / 31) * 31) lb)) ++ List.drop (0 + (e - (((e - 1) / 31) * 31))) (List.replicate 32 0))) 41]) rfl ?_
    intro ac97 wo98  En99 Hv100
    refine ⟨q_y, ?_⟩
    exact h_e ⟨En99.sb, Hv100.pk [0, 1, 2]⟩
   have nd101 : ∀ (ac : Act) (wo : World), Env ac 37 [(0, .int .i64 f), (1, .slice ab (List.length lb) cb), (4, pt bk1), (5, pt bk6), (6, ni e), (7, ni (((e - 1) / 31) * 31)), (8, pt bk38), (25, .slice (cutAt ab cb (((e - 1) / 31) * 31) 1) (e - (((e - 1) / 31) * 31)) (cb - (((e - 1) / 31) * 31)))] → Ev w [] wo [.box bk6 (u64s (nd (lv (List.drop e lb) % mF f))) 25, .box bk1 (u64s (List.replicate 4 0)) 25, .box bk38 (bys (List.replicate 32 0)) 41] → G 2 #[false, true, true, true, true, false] ac wo := by
    intro ac102 wo103 En104 Hv105
    refine h_from hG ?_
    refine q_t 0 ?_
    refine op_slicearr (d := some 21) (t := 41) (e := 5) (sz := 1) (m := 32) (lo := 0) (hi := 32) (b := bk38) (off := 0) (lov := none) (hiv := none) (o := 0) En104 (by kernel_rfl) (by kernel_rfl) (by kernel_rfl) (by omega) (by omega) (by omega) (.inl ⟨rfl, rfl⟩) (.inl ⟨rfl, rfl⟩) (by omega) ?_
    intro ac106 En107
    refine ⟨fun _ => Hv105.pk [2], ?_⟩
    refine q_t 5 ?_
    have hcy108 : Nat.min (e - (((e - 1) / 31) * 31)) 32 = e - (((e - 1) / 31) * 31) := by show min _ _ = _; omega
    refine op_copybox (d := some 26) (dT := 40) (sT := 40) (ty := 3) (elem := 5) (b := bk38) (off := 0) (k := 2) (m := e - (((e - 1) / 31) * 31)) (xs := bys (List.take (e - (((e - 1) / 31) * 31)) (List.drop (((e - 1) / 31) * 31) lb))) (ys := bys (List.take (e - (((e - 1) / 31) * 31)) (List.drop (((e - 1) / 31) * 31) lb))) (dLen := 32) (dCap := 32) (so := cutAt ab cb (((e - 1) / 31) * 31) 1) (sLen := e - (((e - 1) / 31) * 31)) (sCap := cb - (((e - 1) / 31) * 31)) En107 (by kernel_rfl) Hv105 rfl (by kernel_rfl) (by kernel_rfl) (bys_cut_reads (ib.ev Hv105).reads (n := (List.length lb)) cb (((e - 1) / 31) * 31) e (by simp) (by omega) (by omega) (by omega)) (fun e => cut_nz ib.nz e (by omega)) hcy108 (List.take_of_length_le (by first | (simp [bys]; done) | (simp [bys]; omega))) (bys_lenh (by first | (simp; done) | (simp; omega))) (by rw [bys_lenh (List.length_replicate)]; omega) (bys_one _) (cs' := bys (List.take 0 (List.replicate 32 0) ++ (List.take (e - (((e - 1) / 31) * 31)) (List.drop (((e - 1) / 31) * 31) lb)) ++ List.drop (0 + (e - (((e - 1) / 31) * 31))) (List.replicate 32 0))) (by simp [bys, List.map_append, List.map_take, List.map_drop]) (L' := [.box bk6 (u64s (nd (lv (List.drop e lb) % mF f))) 25, .box bk1 (u64s (List.replicate 4 0)) 25, .box bk38 (bys (List.take 0 (List.replicate 32 0) ++ (List.take (e - (((e - 1) / 31) * 31)) (List.drop (((e - 1) / 31) * 31) lb)) ++ List.drop (0 + (e - (((e - 1) / 31) * 31))) (List.replicate 32 0))) 41]) rfl ?_
    intro ac109 wo110  En111 Hv112
    refine ⟨q_y, ?_⟩
    exact h_e ⟨En111.sb, Hv112.pk [0, 1, 2]⟩
   refine h_from hG ?_
   refine q_s [1,2,3] [] 3 En41 (wo43.pk [2]) fun ac113 En114 => ?_
   refine h_ways [0, 4] (by kernel_rfl) rfl ?_
   refine ⟨?_, ?_, trivial⟩
   ·
    rintro _ rfl
    refine op_slicearr (d := some 21) (t := 41) (e := 5) (sz := 1) (m := 32) (lo := 0) (hi := 32) (b := bk38) (off := 0) (lov := none) (hiv := none) (o := 0) En114 (by kernel_rfl) (by kernel_rfl) (by kernel_rfl) (by omega) (by omega) (by omega) (.inl ⟨rfl, rfl⟩) (.inl ⟨rfl, rfl⟩) (by omega) ?_
    intro ac115 En116
    refine ⟨fun _ => wo43.pk [2], ?_⟩
    exact h_to hG (by kernel_rfl) (nd88 _ _ (En116.sb) (wo43.pk [0, 1, 2]))
   ·
    rintro _ rfl
    have hcap117 := ib.cap
    refine op_slice (d := some 25) (t := 40) (e := 5) (sz := 1) (len := List.length lb) (cap := cb) (lo := ((e - 1) / 31) * 31) (hi := e) (ao := ab) (lov := (some (ni (((e - 1) / 31) * 31)))) (hiv := (some (ni e))) En114 (by kernel_rfl) (by kernel_rfl) (by kernel_rfl) (by omega) (by omega) (.inr ⟨.i64, rfl⟩) (.inr ⟨.i64, rfl⟩) ?_
    intro ac118 En119
    refine ⟨fun _ => wo43.pk [2], ?_⟩
    exact h_to hG (by kernel_rfl) (nd101 _ _ (En119.sb) (wo43.pk [0, 1, 2]))
  rintro ac120 wo121 ⟨En122, Hv123⟩
  refine then_normal ?_
  refine wp_seq ?_
  refine r_c (fun ac wo => Env ac 37 [(0, .int .i64 f), (1, .slice ab (List.length lb) cb), (4, pt bk1), (5, pt bk6), (6, ni e), (7, ni (((e - 1) / 31) * 31)), (8, pt bk38)] ∧ Ev w [] wo [.box bk6 (u64s (nd (addM f (nv (nd (mulM f (nv (nd (lv (List.drop e lb) % mF f))) (nv ([0, 0, 0, 72057594037927936] : List UInt64))))) (nv (nd (lv (List.take 0 (List.replicate 32 0) ++ (List.take (e - (((e - 1) / 31) * 31)) (List.drop (((e - 1) / 31) * 31) lb)) ++ List.drop (0 + (e - (((e - 1) / 31) * 31))) (List.replicate 32 0)))))))) 25, .box bk1 (u64s (List.replicate 4 0)) 25, .box bk38 (bys (List.take 0 (List.replicate 32 0) ++ (List.take (e - (((e - 1) / 31) * 31)) (List.drop (((e - 1) / 31) * 31) lb)) ++ List.drop (0 + (e - (((e - 1) / 31) * 31))) (List.replicate 32 0))) 41]) ?_ ?_
  ·
   refine h_s (fun wv => Ev w [] wv [.box bk6 (u64s (nd (lv (List.drop e lb) % mF f))) 25, .box bk38 (bys (List.take 0 (List.replicate 32 0) ++ (List.take (e - (((e - 1) / 31) * 31)) (List.drop (((e - 1) / 31) * 31) lb)) ++ List.drop (0 + (e - (((e - 1) / 31) * 31))) (List.replicate 32 0))) 41]) [8] 9 ?_
   have wo124 := Hv123.trans (Ev.drew Hv123.heap)
   refine q_s [0,1] [] 7 En122 (wo124.pk [0, 2]) fun ac245 En246 => ?_
   refine q_r 2 (s := Instr.loadAt 25 (pt bk6)) (v := .agg (List.toArray (u64s (nd (lv (List.drop e lb) % mF f))))) En246 (fun w hS => run_loadAgg2 (m := 4) (cs := u64s (nd (lv (List.drop e lb) % mF f))) (u64s_lenh (nds_len _ _)) (by kernel_rfl) (by kernel_rfl) (hS.heap.cells (k := 0) (off := 0) (m := 4) rfl (load_whole (u64s_lenh (nds_len _ _))))) (wo124.pk [0, 2]) fun ac247 En248 => ?_
   refine q_s [3] [] 5 En248 (wo124.pk [0, 2]) fun ac249 En250 => ?_
   refine q_r 5 (s := Instr.loadAt 41 (pt bk38)) (v := .agg (List.toArray (bys (List.take 0 (List.replicate 32 0) ++ (List.take (e - (((e - 1) / 31) * 31)) (List.drop (((e - 1) / 31) * 31) lb)) ++ List.drop (0 + (e - (((e - 1) / 31) * 31))) (List.replicate 32 0))))) En250 (fun w hS => run_loadAgg2 (m := 32) (cs := bys (List.take 0 (List.replicate 32 0) ++ (List.take (e - (((e - 1) / 31) * 31)) (List.drop (((e - 1) / 31) * 31) lb)) ++ List.drop (0 + (e - (((e - 1) / 31) * 31))) (List.replicate 32 0))) (bys_lenh (copy_len (List.length_replicate) (by first | (simp; done) | (simp; omega)) (by omega))) (by kernel_rfl) (by kernel_rfl) (hS.heap.cells (k := 1) (off := 0) (m := 32) rfl (load_whole (bys_lenh (copy_len (List.length_replicate) (by first | (simp; done) | (simp; omega)) (by omega)))))) (wo124.pk [0, 2]) fun ac251 En252 => ?_
   refine q_t 4 ?_
   refine c_p En252 wo124 ((mulOk hf) _ (nd (lv (List.drop e lb) % mF f)) ([0, 0, 0, 72057594037927936] : List UInt64) (nds_len _ _) (show List.length ([0, 0, 0, 72057594037927936] : List UInt64) = 4 from rfl)) fun ac257 wo254 En258 Hv259 => ?_
   refine ⟨fun _ => Hv259.pk [0, 2], ?_⟩
   refine q_t 6 ?_
   refine c_p En258 Hv259 (fromle_go _ (List.take 0 (List.replicate 32 0) ++ (List.take (e - (((e - 1) / 31) * 31)) (List.drop (((e - 1) / 31) * 31) lb)) ++ List.drop (0 + (e - (((e - 1) / 31) * 31))) (List.replicate 32 0)) (copy_len (List.length_replicate) (by first | (simp; done) | (simp; omega)) (by omega))) fun ac264 wo261 En265 Hv266 => ?_
   refine ⟨fun _ => Hv266.pk [0, 2], ?_⟩
   refine q_t 7 ?_
   refine c_p En265 Hv266 (add_go _ f hf (nd (mulM f (nv (nd (lv (List.drop e lb) % mF f))) (nv ([0, 0, 0, 72057594037927936] : List UInt64)))) (nd (lv (List.take 0 (List.replicate 32 0) ++ (List.take (e - (((e - 1) / 31) * 31)) (List.drop (((e - 1) / 31) * 31) lb)) ++ List.drop (0 + (e - (((e - 1) / 31) * 31))) (List.replicate 32 0)))) (nds_len _ _) (nds_len _ _)) fun ac271 wo268 En272 Hv273 => ?_
   refine ⟨fun _ => Hv273.pk [0, 2], ?_⟩
   refine q_t 8 ?_
   refine m_g 0 0 4 (u64s (nd (addM f (nv (nd (mulM f (nv (nd (lv (List.drop e lb) % mF f))) (nv ([0, 0, 0, 72057594037927936] : List UInt64))))) (nv (nd (lv (List.take 0 (List.replicate 32 0) ++ (List.take (e - (((e - 1) / 31) * 31)) (List.drop (((e - 1) / 31) * 31) lb)) ++ List.drop (0 + (e - (((e - 1) / 31) * 31))) (List.replicate 32 0)))))))) (u64s (nd (addM f (nv (nd (mulM f (nv (nd (lv (List.drop e lb) % mF f))) (nv ([0, 0, 0, 72057594037927936] : List UInt64))))) (nv (nd (lv (List.take 0 (List.replicate 32 0) ++ (List.take (e - (((e - 1) / 31) * 31)) (List.drop (((e - 1) / 31) * 31) lb)) ++ List.drop (0 + (e - (((e - 1) / 31) * 31))) (List.replicate 32 0)))))))) [.box bk6 (u64s (nd (addM f (nv (nd (mulM f (nv (nd (lv (List.drop e lb) % mF f))) (nv ([0, 0, 0, 72057594037927936] : List UInt64))))) (nv (nd (lv (List.take 0 (List.replicate 32 0) ++ (List.take (e - (((e - 1) / 31) * 31)) (List.drop (((e - 1) / 31) * 31) lb)) ++ List.drop (0 + (e - (((e - 1) / 31) * 31))) (List.replicate 32 0)))))))) 25, .box bk1 (u64s (List.replicate 4 0)) 25, .box bk38 (bys (List.take 0 (List.replicate 32 0) ++ (List.take (e - (((e - 1) / 31) * 31)) (List.drop (((e - 1) / 31) * 31) lb)) ++ List.drop (0 + (e - (((e - 1) / 31) * 31))) (List.replicate 32 0))) 41] En272 Hv273 rfl (u64s_lenh (nds_len _ _)) (by rw [(u64s_lenh (nds_len _ _))]; decide) (u64s_one _) (store_whole (u64s_lenh (nds_len _ _))) rfl fun ac274 wo275 En276 Hv277 => ?_
   refine ⟨q_y, ?_⟩
   exact h_e ⟨En276.sb, Hv277.pk [0, 1, 2]⟩
  rintro ac278 wo279 ⟨En280, Hv281⟩
  refine then_normal ?_
  refine d_r [0,1,4,5,6,7,8] [] En280 fun ac282 En283 => ?_
  refine block_normal ?_
  refine then_normal ?_
  refine ⟨_, ⟨(e - 1) / 31 * 31, (nd (addM f (nv (nd (mulM f (nv (nd (lv (List.drop e lb) % mF f))) (nv ([0, 0, 0, 72057594037927936] : List UInt64))))) (nv (nd (lv (List.take 0 (List.replicate 32 0) ++ (List.take (e - (((e - 1) / 31) * 31)) (List.drop (((e - 1) / 31) * 31) lb)) ++ List.drop (0 + (e - (((e - 1) / 31) * 31))) (List.replicate 32 0))))))), rfl, En283.sb, Hv281.pk [0, 1], by omega, by omega, (nds_len _ _), wide_chunk hf (by omega) (by omega) hm (chunk_val (by omega) (by omega) (by omega))⟩, ?_⟩
  omega
 ·
  have En284 := En21.fx (t := 13) (congrArg Value.bool hb22)
  have hp285 : ¬ (((e : Nat) : Int) > (0 : Int)) := of_decide_eq_false hb22
  refine d_e [0,1,4,5,6,16] [] En284 fun ac286 En287 => ?_
  refine then_normal ?_
  refine c_f En287 ?_
  refine wp_exit ?_
  refine then_exit ?_
  refine then_exit ?_
  refine block_exit ?_
  refine then_normal ?_
  refine wp_seq ?_
  have he0 : e = 0 := by omega
  subst he0
  rw [hxe] at Hv18
  refine region_from ?_
  refine f_o ?_
  refine m_a 0 0 4 (u64s (nd (lv (List.drop 0 lb) % mF f))) En287 Hv18 rfl (load_whole (u64s_lenh (nds_len _ _))) (u64s_lenh (nds_len _ _)) fun ac288 En289 => ?_
  refine f_o ?_
  refine m_g 1 0 4 (u64s (nd (lv (List.drop 0 lb) % mF f))) (u64s (nd (lv (List.drop 0 lb) % mF f))) [.box bk6 (u64s (nd (lv (List.drop 0 lb) % mF f))) 25, .box bk1 (u64s (nd (lv (List.drop 0 lb) % mF f))) 25] En289 Hv18 rfl (u64s_lenh (nds_len _ _)) (by rw [(u64s_lenh (List.length_replicate))]; decide) (u64s_one _) (store_whole (u64s_lenh (List.length_replicate))) rfl fun ac290 wo291 En292 Hv293 => ?_
  refine f_e ?_
  refine then_normal ?_
  refine wp_ret ?_
  refine d_cell1 (v := .agg (List.toArray (u64s (nd (lv (List.drop 0 lb) % mF f))))) (t := 4) (T := 25) (ad := ⟨bk1, 0, none⟩) En292 (by kernel_rfl) (by kernel_rfl) (Ev.cellAgg (t := 25) (k := 1) (off := 0) (m := 4) (xs := u64s (nd (lv (List.drop 0 lb) % mF f))) Hv293 rfl (load_whole (u64s_lenh (nds_len _ _))) (u64s_lenh (nds_len _ _)) (by kernel_rfl) (by kernel_rfl)) ?_
  exact ⟨rfl, Hv293.pk []⟩

theorem wide_no (w : World) (f : Int) (hf : ¬ (f = 1 ∨ f = 2 ∨ f = 3 ∨ f = 4)) (ab : Option Addr) (nb cb : Nat) (lb : List UInt8) (eb : nb = List.length lb) (ib : InB w [] ab cb lb) : Calls Try.prog 30 #[.int .i64 f, .slice ab nb cb] w fun e w' => e = .returned (.agg (List.toArray (u64s (nd 0)))) ∧ Ev w [] w' [] := by
 subst eb
 have hsm := ib.small
 have hcp := ib.cap
 refine d_0 [(0, .int .i64 f), (1, .slice ab (List.length lb) cb)] 37 Go.Proofs.Try.func30 Go.Proofs.Try.ntmps30 (Heap.nil _) fun act0 En0 Hv0 => ?_
 refine wp_seq ?_
 refine region_from ?_
 refine f_o ?_
 refine m_z 25 (u64s (List.replicate 4 0)) En0 Hv0 fun ac2 wo3 bk1 En4 Hv5 => ?_
 refine f_e ?_
 refine then_normal ?_
 refine wp_seq ?_
 refine region_from ?_
 refine f_o ?_
 refine m_z 25 (u64s (List.replicate 4 0)) En4 Hv5 fun ac7 wo8 bk6 En9 Hv10 => ?_
 refine f_e ?_
 refine then_normal ?_
 refine wp_seq ?_
 refine d_s [0,1,4,5,6] [] En9 fun ac11 En12 => ?_
 refine wp_block ?_
 refine loop_enter ?_
 refine loop_once ?_
 refine wp_seq ?_
 refine wp_seq ?_
 refine region_from ?_
 refine d_k [0,1,4,5,6,13] [] 3 En12 fun ac13 En14 => ?_
 rcases Bool.eq_false_or_eq_true (decide (((List.length lb : Nat) : Int) > (0 : Int))) with hb15 | hb15
 ·
  have En16 := En14.fx (t := 13) (congrArg Value.bool hb15)
  have hp17 : ((List.length lb : Nat) : Int) > (0 : Int) := of_decide_eq_true hb15
  refine d_k [0,1,4,5,6,13,14] [] 4 En16 fun ac18 En19 => ?_
  refine f_o ?_
  refine c_p En19 Hv10 (is_go_no _ f hf) fun ac24 wo21 En25 Hv26 => ?_
  refine d_e [0,1,4,5,6,16] [] En25 fun ac27 En28 => ?_
  refine then_normal ?_
  refine c_f En28 ?_
  refine wp_exit ?_
  refine then_exit ?_
  refine then_exit ?_
  refine block_exit ?_
  refine then_normal ?_
  refine wp_seq ?_
  refine region_from ?_
  refine f_o ?_
  refine m_a 1 0 4 (u64s (List.replicate 4 0)) En28 Hv26 rfl (load_whole (u64s_lenh (List.length_replicate))) (u64s_lenh (List.length_replicate)) fun ac29 En30 => ?_
  refine f_o ?_
  refine m_g 0 0 4 (u64s (List.replicate 4 0)) (u64s (List.replicate 4 0)) [.box bk1 (u64s (List.replicate 4 0)) 25, .box bk6 (u64s (List.replicate 4 0)) 25] En30 Hv26 rfl (u64s_lenh (List.length_replicate)) (by rw [(u64s_lenh (List.length_replicate))]; decide) (u64s_one _) (store_whole (u64s_lenh (List.length_replicate))) rfl fun ac31 wo32 En33 Hv34 => ?_
  refine f_e ?_
  refine then_normal ?_
  refine wp_ret ?_
  refine d_cell1 (v := .agg (List.toArray (u64s (List.replicate 4 0)))) (t := 4) (T := 25) (ad := ⟨bk1, 0, none⟩) En33 (by kernel_rfl) (by kernel_rfl) (Ev.cellAgg (t := 25) (k := 0) (off := 0) (m := 4) (xs := u64s (List.replicate 4 0)) Hv34 rfl (load_whole (u64s_lenh (List.length_replicate))) (u64s_lenh (List.length_replicate)) (by kernel_rfl) (by kernel_rfl)) ?_
  exact ⟨by kernel_rfl, Hv34.pk []⟩
 ·
  have En35 := En14.fx (t := 13) (congrArg Value.bool hb15)
  have hp36 : ¬ (((List.length lb : Nat) : Int) > (0 : Int)) := of_decide_eq_false hb15
  refine d_e [0,1,4,5,6,16] [] En35 fun ac37 En38 => ?_
  refine then_normal ?_
  refine c_f En38 ?_
  refine wp_exit ?_
  refine then_exit ?_
  refine then_exit ?_
  refine block_exit ?_
  refine then_normal ?_
  refine wp_seq ?_
  refine region_from ?_
  refine f_o ?_
  refine m_a 1 0 4 (u64s (List.replicate 4 0)) En38 Hv10 rfl (load_whole (u64s_lenh (List.length_replicate))) (u64s_lenh (List.length_replicate)) fun ac39 En40 => ?_
  refine f_o ?_
  refine m_g 0 0 4 (u64s (List.replicate 4 0)) (u64s (List.replicate 4 0)) [.box bk1 (u64s (List.replicate 4 0)) 25, .box bk6 (u64s (List.replicate 4 0)) 25] En40 Hv10 rfl (u64s_lenh (List.length_replicate)) (by rw [(u64s_lenh (List.length_replicate))]; decide) (u64s_one _) (store_whole (u64s_lenh (List.length_replicate))) rfl fun ac41 wo42 En43 Hv44 => ?_
  refine f_e ?_
  refine then_normal ?_
  refine wp_ret ?_
  refine d_cell1 (v := .agg (List.toArray (u64s (List.replicate 4 0)))) (t := 4) (T := 25) (ad := ⟨bk1, 0, none⟩) En43 (by kernel_rfl) (by kernel_rfl) (Ev.cellAgg (t := 25) (k := 0) (off := 0) (m := 4) (xs := u64s (List.replicate 4 0)) Hv44 rfl (load_whole (u64s_lenh (List.length_replicate))) (u64s_lenh (List.length_replicate)) (by kernel_rfl) (by kernel_rfl)) ?_
  exact ⟨by kernel_rfl, Hv44.pk []⟩

theorem rwide_no (w : World) (f : Int) (hf : ¬ (f = 1 ∨ f = 2 ∨ f = 3 ∨ f = 4)) (ab : Option Addr) (nb cb : Nat) (lb : List UInt8) (eb : nb = List.length lb) (ib : InB w [] ab cb lb) : Calls Try.prog 31 #[.int .i64 f, .slice ab nb cb] w fun e w' => e = .returned (.agg (List.toArray (u64s (nd 0)))) ∧ Ev w [] w' [] := by
 subst eb
 have hsm := ib.small
 have hcp := ib.cap
 refine d_0 [(0, .int .i64 f), (1, .slice ab (List.length lb) cb)] 37 Go.Proofs.Try.func31 Go.Proofs.Try.ntmps31 (Heap.nil _) fun act0 En0 Hv0 => ?_
 refine wp_seq ?_
 refine region_from ?_
 refine f_o ?_
 refine m_z 25 (u64s (List.replicate 4 0)) En0 Hv0 fun ac2 wo3 bk1 En4 Hv5 => ?_
 refine f_e ?_
 refine then_normal ?_
 refine wp_seq ?_
 refine region_from ?_
 refine d_k [0,1,4,9] [] 1 En4 fun ac6 En7 => ?_
 refine f_o ?_
 refine c_p En7 Hv5 (ris_go_no _ f hf) fun ac12 wo9 En13 Hv14 => ?_
 refine d_e [0,1,4,5] [] En13 fun ac15 En16 => ?_
 refine then_normal ?_
 refine wp_seq ?_
 refine d_s [0,1,4,12] [] En16 fun ac17 En18 => ?_
 refine c_t En18 ?_
 refine wp_seq ?_
 refine region_from ?_
 refine d_k [0,1,4,13] [] 1 En18 fun ac19 En20 => ?_
 refine f_o ?_
 refine m_g 0 0 4 (u64s ([0, 0, 0, 0] : List UInt64)) (u64s ([0, 0, 0, 0] : List UInt64)) [.box bk1 (u64s ([0, 0, 0, 0] : List UInt64)) 25] En20 Hv14 rfl (u64s_lenh (show List.length ([0, 0, 0, 0] : List UInt64) = 4 from rfl)) (by rw [(u64s_lenh (List.length_replicate))]; decide) (u64s_one _) (store_whole (u64s_lenh (List.length_replicate))) rfl fun ac21 wo22 En23 Hv24 => ?_
 refine f_e ?_
 refine then_normal ?_
 refine wp_ret ?_
 refine then_ret ?_
 refine d_cell1 (v := .agg (List.toArray (u64s ([0, 0, 0, 0] : List UInt64)))) (t := 4) (T := 25) (ad := ⟨bk1, 0, none⟩) En23 (by kernel_rfl) (by kernel_rfl) (Ev.cellAgg (t := 25) (k := 0) (off := 0) (m := 4) (xs := u64s ([0, 0, 0, 0] : List UInt64)) Hv24 rfl (load_whole (u64s_lenh (show List.length ([0, 0, 0, 0] : List UInt64) = 4 from rfl))) (u64s_lenh (show List.length ([0, 0, 0, 0] : List UInt64) = 4 from rfl)) (by kernel_rfl) (by kernel_rfl)) ?_
 exact ⟨by kernel_rfl, Hv24.pk []⟩

end Go.Proofs.Ytamdjonejijndaa
