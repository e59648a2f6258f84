/- Layer 13: points as bytes; secrets; the head. -/
import Derived.Test.YtpfhmbbiadpbeaaE1
namespace Go.Proofs.Ytpfhmbbiadpbeaa
open Go.Dbr
set_option maxRecDepth 100000
set_option maxHeartbeats 2000000
set_option linter.unusedVariables false
set_option linter.unusedSimpArgs false

def encL (z : Bool) (x y : L4) : List UInt8 := bif onN z x y && !z then 4 :: (List.reverse (lb 32 (nv x)) ++ List.reverse (lb 32 (nv y))) else []
theorem enc_no1 {z : Bool} {x y : L4} (h : z = true) : encL z x y = [] := by subst h; rw [encL, Bool.not_true, Bool.and_false]; rfl
theorem enc_no2 {z : Bool} {x y : L4} (h : ¬ onN z x y = true) : encL z x y = [] := by rw [encL, Bool.eq_false_iff.2 h]; rfl
theorem enc_yes {z : Bool} {x y : L4} (h : onN z x y = true) (h2 : ¬ z = true) : encL z x y = 4 :: (List.reverse (lb 32 (nv x)) ++ List.reverse (lb 32 (nv y))) := by rw [encL, h, Bool.eq_false_iff.2 h2]; rfl
theorem enc_go (w : World) (z : Bool) (x y : List UInt64) (hx : List.length x = 4) (hy : List.length y = 4) : Calls Try.prog 26 #[.agg (List.toArray (([.bool z] : List Value) ++ ((u64s x) ++ (u64s y))))] w fun e w' => ∃ ao cap, e = .returned (.slice ao (List.length (encL z x y)) cap) ∧ Ev w [] w' [.vec ao cap 1 (bys (encL z x y)) 5] := by
 refine d_0 [(0, .agg (List.toArray (([.bool z] : List Value) ++ ((u64s x) ++ (u64s y)))))] 23 Go.Proofs.Try.func26 Go.Proofs.Try.ntmps26 (Heap.nil _) fun act0 En0 Hv0 => ?_
 refine wp_seq ?_
 refine region_from ?_
 refine f_o ?_
 refine m_m 26 (([.bool z] : List Value) ++ ((u64s x) ++ (u64s y))) En0 Hv0 fun ac2 wo3 bk1 En4 Hv5 => ?_
 refine d_e [1,2] [] En4 fun ac6 En7 => ?_
 refine then_normal ?_
 refine wp_seq ?_
 refine wp_seq ?_
 refine region_from ?_
 refine d_k [1,2,5] [] 1 En7 fun ac8 En9 => ?_
 refine f_o ?_
 refine m_v 0 0 (.bool z) En9 Hv5 rfl (seg_in rfl) fun ac10 En11 => ?_
 refine d_k [1,2,7] [] 3 En11 fun ac12 En13 => ?_
 rcases Bool.eq_false_or_eq_true (z) with hb14 | hb14
 ·
  have En15 := En13.fx (t := 7) (congrArg Value.bool hb14)
  have hp16 : z = true := hb14
  refine d_e [1,2,11] [] En15 fun ac17 En18 => ?_
  refine then_normal ?_
  refine c_t En18 ?_
  refine d_s [1,2] [] En18 fun ac19 En20 => ?_
  refine wp_ret ?_
  refine then_ret ?_
  refine d_ret1 (t := 2) (v := .slice none 0 0) En20 (by kernel_rfl) (by kernel_rfl) ?_
  have e : encL z x y = [] := by first | exact enc_no1 (by assumption) | exact enc_no2 (by assumption)
  rw [e]
  exact ⟨none, 0, rfl, (Ev.nil (sz := 1) (T := 5) Hv5).pk [1]⟩
 ·
  have En21 := En13.fx (t := 7) (congrArg Value.bool hb14)
  have hp22 : ¬ (z = true) := Bool.eq_false_iff.1 hb14
  refine f_o ?_
  refine m_a 0 0 9 (([.bool z] : List Value) ++ ((u64s x) ++ (u64s y))) En21 Hv5 rfl (load_whole (len_app rfl (len_app (u64s_lenh hx) (u64s_lenh hy)))) (len_app rfl (len_app (u64s_lenh hx) (u64s_lenh hy))) fun ac23 En24 => ?_
  refine f_o ?_
  refine c_p En24 Hv5 (on_go _ z x y hx hy) fun ac29 wo26 En30 Hv31 => ?_
  refine d_e [1,2,11] [] En30 fun ac32 En33 => ?_
  refine then_normal ?_
  refine cond_at En33 (t := !(onN z x y)) (by kernel_rfl) (fun hc34 => ?_) (fun hc34 => ?_)
  ·
   replace hc34 : ¬ (onN z x y = true) := by simpa using hc34
   refine d_s [1,2] [] En33 fun ac35 En36 => ?_
   refine wp_ret ?_
   refine then_ret ?_
   refine d_ret1 (t := 2) (v := .slice none 0 0) En36 (by kernel_rfl) (by kernel_rfl) ?_
   have e : encL z x y = [] := by first | exact enc_no1 (by assumption) | exact enc_no2 (by assumption)
   rw [e]
   exact ⟨none, 0, rfl, (Ev.nil (sz := 1) (T := 5) Hv31).pk [1]⟩
  ·
   replace hc34 : onN z x y = true := by simpa using hc34
   refine wp_skip ?_
   refine then_normal ?_
   refine wp_seq ?_
   refine r_c (fun ac wo => ∃ (bk69 : Nat) (bk70 : Nat), Env ac 23 [(1, pt bk1), (2, .slice none 0 0), (3, pt bk69), (4, pt bk70)] ∧ Ev w [] wo [.box bk1 (([.bool z] : List Value) ++ ((u64s x) ++ (u64s y))) 26, .box bk69 (bys (List.reverse (lb 32 (nv x)))) 41, .box bk70 (bys (List.reverse (lb 32 (nv y)))) 41]) ?_ ?_
   ·
    refine s_g2 [(1, pt bk1), (2, .slice none 0 0)] [0,1,2,3,4,5] [(12, .pointer (some ⟨bk1, 1, none⟩)), (13, .agg (List.toArray (u64s x))), (14, .agg (List.toArray (bys (List.reverse (lb 32 (nv x)))))), (15, .pointer (some ⟨bk1, 5, none⟩)), (16, .agg (List.toArray (u64s y))), (17, .agg (List.toArray (bys (List.reverse (lb 32 (nv y))))))] 2 [(1, pt bk1), (2, .slice none 0 0), (14, .agg (List.toArray (bys (List.reverse (lb 32 (nv x)))))), (17, .agg (List.toArray (bys (List.reverse (lb 32 (nv y))))))] 6 7 (bys (List.replicate 32 0)) (bys (List.replicate 32 0)) (En33.sb) (Hv31.trans (Ev.drew Hv31.heap)) ?_ fun ac65 wo66 bk69 bk70 En67 Hv68 => ?_
    ·
     refine s_p [] ?_
     refine s_a 0 1 4 (u64s x) rfl (by simp [u64s_lenh hx, u64s_lenh hy, List.drop_append, List.take_append]) (u64s_lenh hx) ?_
     refine s_f (fun _ => tobe_go _ x hx) ?_
     refine s_p [] ?_
     refine s_a 0 5 4 (u64s y) rfl (by simp [u64s_lenh hx, u64s_lenh hy, List.drop_append, List.take_append, List.take_of_length_le]) (u64s_lenh hy) ?_
     refine s_f (fun _ => tobe_go _ y hy) ?_
     exact s_n
    refine q_u 8 ?_
    refine m_g 1 0 32 (bys (List.reverse (lb 32 (nv x)))) (bys (List.reverse (lb 32 (nv x)))) [.box bk1 (([.bool z] : List Value) ++ ((u64s x) ++ (u64s y))) 26, .box bk69 (bys (List.reverse (lb 32 (nv x)))) 41, .box bk70 (bys (List.replicate 32 0)) 41] En67 Hv68 rfl (bys_lenh (rev_len (lb_len _ _))) (by rw [(bys_lenh (List.length_replicate))]; decide) (bys_one _) (store_whole (bys_lenh (List.length_replicate))) rfl fun ac79 wo80 En81 Hv82 => ?_
    refine q_u 9 ?_
    refine m_g 2 0 32 (bys (List.reverse (lb 32 (nv y)))) (bys (List.reverse (lb 32 (nv y)))) [.box bk1 (([.bool z] : List Value) ++ ((u64s x) ++ (u64s y))) 26, .box bk69 (bys (List.reverse (lb 32 (nv x)))) 41, .box bk70 (bys (List.reverse (lb 32 (nv y)))) 41] En81 Hv82 rfl (bys_lenh (rev_len (lb_len _ _))) (by rw [(bys_lenh (List.length_replicate))]; decide) (bys_one _) (store_whole (bys_lenh (List.length_replicate))) rfl fun ac83 wo84 En85 Hv86 => ?_
    exact a_e ⟨bk69, bk70, En85.sb, Hv86.pk [0, 1, 2]⟩
   rintro ac87 wo88 ⟨bk69, bk70, En89, Hv90⟩
   obtain ⟨qx, h_qx⟩ : ∃ q : List UInt8, q = List.reverse (lb 32 (nv x)) := ⟨_, rfl⟩
   rw [← h_qx] at Hv90
   have n_qx : List.length qx = 32 := by rw [h_qx]; exact (rev_len (lb_len _ _))
   obtain ⟨qy, h_qy⟩ : ∃ q : List UInt8, q = List.reverse (lb 32 (nv y)) := ⟨_, rfl⟩
   rw [← h_qy] at Hv90
   have n_qy : List.length qy = 32 := by rw [h_qy]; exact (rev_len (lb_len _ _))
   refine then_normal ?_
   refine wp_seq ?_
   refine r_c (fun ac wo => ∃ (ao219 : Option Addr) (cp220 : Nat), Env ac 23 [(1, pt bk1), (2, .slice ao219 (List.length (([(4 : UInt8)] ++ qx) ++ qy)) cp220), (3, pt bk69), (4, pt bk70)] ∧ Ev w [] wo [.box bk1 (([.bool z] : List Value) ++ ((u64s x) ++ (u64s y))) 26, .box bk69 (bys qx) 41, .box bk70 (bys qy) 41, .vec ao219 cp220 1 (bys (([(4 : UInt8)] ++ qx) ++ qy)) 5]) ?_ ?_
   ·
    refine h_s (fun wv => Ev w [] wv [.box bk69 (bys qx) 41, .box bk70 (bys qy) 41]) [] 6 ?_
    have wo91 := Hv90.trans (Ev.drew Hv90.heap)
    refine h_name fun G hG => ?_
    have nd312 : ∀ (ac : Act) (wo : World) (ao209 : Option Addr) (cp210 : Nat), Env ac 23 [(1, pt bk1), (2, .slice none 0 0), (3, pt bk69), (4, pt bk70), (20, .slice ao209 (List.length ([(4 : UInt8)] ++ qx)) cp210)] → Ev w [] wo [.box bk1 (([.bool z] : List Value) ++ ((u64s x) ++ (u64s y))) 26, .box bk69 (bys qx) 41, .box bk70 (bys qy) 41, .vec ao209 cp210 1 (bys ([(4 : UInt8)] ++ qx)) 5] → G 3 #[true, true, true, false, false, false] ac wo := by
     intro ac313 wo314 ao209 cp210 En315 Hv316
     refine h_from hG ?_
     refine q_t 3 ?_
     refine op_slicearr (d := some 21) (t := 41) (e := 5) (sz := 1) (m := 32) (lo := 0) (hi := 32) (b := bk70) (off := 0) (lov := none) (hiv := none) (o := 0) En315 (by kernel_rfl) (by kernel_rfl) (by kernel_rfl) (by omega) (by omega) (by omega) (.inl ⟨rfl, rfl⟩) (.inl ⟨rfl, rfl⟩) (by omega) ?_
     intro ac317 En318
     refine ⟨fun _ => Hv316.pk [1, 2], ?_⟩
     refine q_t 4 ?_
     refine op_append (d := some 22) (t := 46) (tx := 46) (ty := 46) (k := 3) (p := List.length ([(4 : UInt8)] ++ qx)) (m := 32) (x := .slice (some ⟨bk70, 0, none⟩) 32 32) (bytes := 1) En318 (by kernel_rfl) Hv316 rfl (bys_len _) (Reads.src (size := 1) (tx := 46) (e' := 5) (by kernel_rfl) (Hv316.heap.readsBox (k := 2) (m := 32) rfl (load_whole (bys_lenh n_qy))) (bys_lenn (by first | (rw [n_qy]) | (simp [n_qy]; done) | (simp [n_qy]; omega))) (fun e => by cases e) (bys_one _)) (by kernel_rfl) (z := .int .u8 0) (by kernel_rfl) rfl (by decide) (by first | omega | (simp; done) | (simp; omega)) (by unfold maxLen; first | omega | (simp; done) | (simp; omega)) ?_
     intro ac323 wo324 ao319 cp320 En325 Hv326 hnz _
     clear hnz
     rw [← bys_append] at Hv326
     have ehz321 : (List.length ([(4 : UInt8)] ++ qx)) + 32 = List.length (([(4 : UInt8)] ++ qx) ++ qy) := (by first | (simp; done) | (simp; omega) | omega)
     rw [ehz321] at En325
     refine ⟨fun _ => Hv326.pk [1, 2], ?_⟩
     refine q_s [5] [] 0 En325 (Hv326.pk [1, 2]) fun ac327 En328 => ?_
     exact h_e ⟨ao319, cp320, En328.sb, Hv326.pk [0, 1, 2, 3]⟩
    have nd329 : ∀ (ac : Act) (wo : World) (bk202 : Nat), Env ac 23 [(1, pt bk1), (2, .slice none 0 0), (3, pt bk69), (4, pt bk70), (18, .slice (some ⟨bk202, 0, none⟩) 1 1), (19, .slice (some ⟨bk69, 0, none⟩) 32 32), (21, .slice (some ⟨bk70, 0, none⟩) 32 32)] → Ev w [] wo [.box bk1 (([.bool z] : List Value) ++ ((u64s x) ++ (u64s y))) 26, .box bk69 (bys qx) 41, .box bk70 (bys qy) 41, .vec (some ⟨bk202, 0, none⟩) 1 1 (bys [(4 : UInt8)]) 5] → G 3 #[true, true, false, true, false, false] ac wo := by
     intro ac330 wo331 bk202 En332 Hv333
     refine h_from hG ?_
     refine q_t 2 ?_
     refine op_append (d := some 20) (t := 46) (tx := 46) (ty := 46) (k := 3) (p := 1) (m := 32) (x := .slice (some ⟨bk69, 0, none⟩) 32 32) (bytes := 1) En332 (by kernel_rfl) Hv333 rfl rfl (Reads.src (size := 1) (tx := 46) (e' := 5) (by kernel_rfl) (Hv333.heap.readsBox (k := 1) (m := 32) rfl (load_whole (bys_lenh n_qx))) (bys_lenn (by first | (rw [n_qx]) | (simp [n_qx]; done) | (simp [n_qx]; omega))) (fun e => by cases e) (bys_one _)) (by kernel_rfl) (z := .int .u8 0) (by kernel_rfl) rfl (by decide) (by first | omega | (simp; done) | (simp; omega)) (by unfold maxLen; first | omega | (simp; done) | (simp; omega)) ?_
     intro ac338 wo339 ao334 cp335 En340 Hv341 hnz _
     clear hnz
     rw [← bys_append] at Hv341
     have ehz336 : 1 + 32 = List.length ([(4 : UInt8)] ++ qx) := (by first | (simp; done) | (simp; omega) | omega)
     rw [ehz336] at En340
     refine ⟨fun _ => Hv341.pk [1, 2], ?_⟩
     refine q_t 4 ?_
     refine op_append (d := some 22) (t := 46) (tx := 46) (ty := 46) (k := 3) (p := List.length ([(4 : UInt8)] ++ qx)) (m := 32) (x := .slice (some ⟨bk70, 0, none⟩) 32 32) (bytes := 1) En340 (by kernel_rfl) Hv341 rfl (bys_len _) (Reads.src (size := 1) (tx := 46) (e' := 5) (by kernel_rfl) (Hv341.heap.readsBox (k := 2) (m := 32) rfl (load_whole (bys_lenh n_qy))) (bys_lenn (by first | (rw [n_qy]) | (simp [n_qy]; done) | (simp [n_qy]; omega))) (fun e => by cases e) (bys_one _)) (by kernel_rfl) (z := .int .u8 0) (by kernel_rfl) rfl (by decide) (by first | omega | (simp; done) | (simp; omega)) (by unfold maxLen; first | omega | (simp; done) | (simp; omega)) ?_
     intro ac346 wo347 ao342 cp343 En348 Hv349 hnz _
     clear hnz
     rw [← bys_append] at Hv349
     have ehz344 : (List.length ([(4 : UInt8)] ++ qx)) + 32 = List.length (([(4 : UInt8)] ++ qx) ++ qy) := (by first | (simp; done) | (simp; omega) | omega)
     rw [ehz344] at En348
     refine ⟨fun _ => Hv349.pk [1, 2], ?_⟩
     refine q_s [5] [] 0 En348 (Hv349.pk [1, 2]) fun ac350 En351 => ?_
     exact h_e ⟨ao342, cp343, En351.sb, Hv349.pk [0, 1, 2, 3]⟩
    have nd352 : ∀ (ac : Act) (wo : World) (bk202 : Nat), Env ac 23 [(1, pt bk1), (2, .slice none 0 0), (3, pt bk69), (4, pt bk70), (18, .slice (some ⟨bk202, 0, none⟩) 1 1), (19, .slice (some ⟨bk69, 0, none⟩) 32 32)] → Ev w [] wo [.box bk1 (([.bool z] : List Value) ++ ((u64s x) ++ (u64s y))) 26, .box bk69 (bys qx) 41, .box bk70 (bys qy) 41, .vec (some ⟨bk202, 0, none⟩) 1 1 (bys [(4 : UInt8)]) 5] → G 4 #[true, true, false, false, false, false] ac wo := by
     intro ac353 wo354 bk202 En355 Hv356
     refine h_from hG ?_
     refine h_ways [2, 3] (by kernel_rfl) rfl ?_
     refine ⟨?_, ?_, trivial⟩
     ·
      rintro _ rfl
      refine op_append (d := some 20) (t := 46) (tx := 46) (ty := 46) (k := 3) (p := 1) (m := 32) (x := .slice (some ⟨bk69, 0, none⟩) 32 32) (bytes := 1) En355 (by kernel_rfl) Hv356 rfl rfl (Reads.src (size := 1) (tx := 46) (e' := 5) (by kernel_rfl) (Hv356.heap.readsBox (k := 1) (m := 32) rfl (load_whole (bys_lenh n_qx))) (bys_lenn (by first | (rw [n_qx]) | (simp [n_qx]; done) | (simp [n_qx]; omega))) (fun e => by cases e) (bys_one _)) (by kernel_rfl) (z := .int .u8 0) (by kernel_rfl) rfl (by decide) (by first | omega | (simp; done) | (simp; omega)) (by unfold maxLen; first | omega | (simp; done) | (simp; omega)) ?_
      intro ac361 wo362 ao357 cp358 En363 Hv364 hnz _
      clear hnz
      rw [← bys_append] at Hv364
      have ehz359 : 1 + 32 = List.length ([(4 : UInt8)] ++ qx) := (by first | (simp; done) | (simp; omega) | omega)
      rw [ehz359] at En363
      refine ⟨fun _ => Hv364.pk [1, 2], ?_⟩
      exact h_to hG (by kernel_rfl) (nd312 _ _ ao357 cp358 (En363.sb) (Hv364.pk [0, 1, 2, 3]))
     ·
      rintro _ rfl
      refine op_slicearr (d := some 21) (t := 41) (e := 5) (sz := 1) (m := 32) (lo := 0) (hi := 32) (b := bk70) (off := 0) (lov := none) (hiv := none) (o := 0) En355 (by kernel_rfl) (by kernel_rfl) (by kernel_rfl) (by omega) (by omega) (by omega) (.inl ⟨rfl, rfl⟩) (.inl ⟨rfl, rfl⟩) (by omega) ?_
      intro ac365 En366
      refine ⟨fun _ => Hv356.pk [1, 2], ?_⟩
      exact h_to hG (by kernel_rfl) (nd329 _ _ bk202 (En366.sb) (Hv356.pk [0, 1, 2, 3]))
    have nd367 : ∀ (ac : Act) (wo : World) (bk202 : Nat), Env ac 23 [(1, pt bk1), (2, .slice none 0 0), (3, pt bk69), (4, pt bk70), (18, .slice (some ⟨bk202, 0, none⟩) 1 1), (21, .slice (some ⟨bk70, 0, none⟩) 32 32)] → Ev w [] wo [.box bk1 (([.bool z] : List Value) ++ ((u64s x) ++ (u64s y))) 26, .box bk69 (bys qx) 41, .box bk70 (bys qy) 41, .vec (some ⟨bk202, 0, none⟩) 1 1 (bys [(4 : UInt8)]) 5] → G 4 #[true, false, false, true, false, false] ac wo := by
     intro ac368 wo369 bk202 En370 Hv371
     refine h_from hG ?_
     refine q_t 1 ?_
     refine op_slicearr (d := some 19) (t := 41) (e := 5) (sz := 1) (m := 32) (lo := 0) (hi := 32) (b := bk69) (off := 0) (lov := none) (hiv := none) (o := 0) En370 (by kernel_rfl) (by kernel_rfl) (by kernel_rfl) (by omega) (by omega) (by omega) (.inl ⟨rfl, rfl⟩) (.inl ⟨rfl, rfl⟩) (by omega) ?_
     intro ac372 En373
     refine ⟨fun _ => Hv371.pk [1, 2], ?_⟩
     refine q_t 2 ?_
     refine op_append (d := some 20) (t := 46) (tx := 46) (ty := 46) (k := 3) (p := 1) (m := 32) (x := .slice (some ⟨bk69, 0, none⟩) 32 32) (bytes := 1) En373 (by kernel_rfl) Hv371 rfl rfl (Reads.src (size := 1) (tx := 46) (e' := 5) (by kernel_rfl) (Hv371.heap.readsBox (k := 1) (m := 32) rfl (load_whole (bys_lenh n_qx))) (bys_lenn (by first | (rw [n_qx]) | (simp [n_qx]; done) | (simp [n_qx]; omega))) (fun e => by cases e) (bys_one _)) (by kernel_rfl) (z := .int .u8 0) (by kernel_rfl) rfl (by decide) (by first | omega | (simp; done) | (simp; omega)) (by unfold maxLen; first | omega | (simp; done) | (simp; omega)) ?_
     intro ac378 wo379 ao374 cp375 En380 Hv381 hnz _
     clear hnz
     rw [← bys_append] at Hv381
     have ehz376 : 1 + 32 = List.length ([(4 : UInt8)] ++ qx) := (by first | (simp; done) | (simp; omega) | omega)
     rw [ehz376] at En380
     refine ⟨fun _ => Hv381.pk [1, 2], ?_⟩
     refine q_t 4 ?_
     refine op_append (d := some 22) (t := 46) (tx := 46) (ty := 46) (k := 3) (p := List.length ([(4 : UInt8)] ++ qx)) (m := 32) (x := .slice (some ⟨bk70, 0, none⟩) 32 32) (bytes := 1) En380 (by kernel_rfl) Hv381 rfl (bys_len _) (Reads.src (size := 1) (tx := 46) (e' := 5) (by kernel_rfl) (Hv381.heap.readsBox (k := 2) (m := 32) rfl (load_whole (bys_lenh n_qy))) (bys_lenn (by first | (rw [n_qy]) | (simp [n_qy]; done) | (simp [n_qy]; omega))) (fun e => by cases e) (bys_one _)) (by kernel_rfl) (z := .int .u8 0) (by kernel_rfl) rfl (by decide) (by first | omega | (simp; done) | (simp; omega)) (by unfold maxLen; first | omega | (simp; done) | (simp; omega)) ?_
     intro ac386 wo387 ao382 cp383 En388 Hv389 hnz _
     clear hnz
     rw [← bys_append] at Hv389
     have ehz384 : (List.length ([(4 : UInt8)] ++ qx)) + 32 = List.length (([(4 : UInt8)] ++ qx) ++ qy) := (by first | (simp; done) | (simp; omega) | omega)
     rw [ehz384] at En388
     refine ⟨fun _ => Hv389.pk [1, 2], ?_⟩
     refine q_s [5] [] 0 En388 (Hv389.pk [1, 2]) fun ac390 En391 => ?_
     exact h_e ⟨ao382, cp383, En391.sb, Hv389.pk [0, 1, 2, 3]⟩
    have nd392 : ∀ (ac : Act) (wo : World), Env ac 23 [(1, pt bk1), (2, .slice none 0 0), (3, pt bk69), (4, pt bk70), (19, .slice (some ⟨bk69, 0, none⟩) 32 32), (21, .slice (some ⟨bk70, 0, none⟩) 32 32)] → Ev w [] wo [.box bk1 (([.bool z] : List Value) ++ ((u64s x) ++ (u64s y))) 26, .box bk69 (bys qx) 41, .box bk70 (bys qy) 41] → G 4 #[false, true, false, true, false, false] ac wo := by
     intro ac393 wo394 En395 Hv396
     refine h_from hG ?_
     refine q_t 0 ?_
     refine op_lit (d := some 18) (t := 46) (T := 5) (m := 1) (parts := #[(0, .int .u8 4)]) (xs := bys [(4 : UInt8)]) (sz := 1) En395 (by kernel_rfl) (by kernel_rfl) rfl (by decide) Hv396 ?_
     intro ac398 wo399 bk397 En400 Hv401
     refine ⟨fun _ => Hv401.pk [1, 2], ?_⟩
     refine q_t 2 ?_
     refine op_append (d := some 20) (t := 46) (tx := 46) (ty := 46) (k := 3) (p := 1) (m := 32) (x := .slice (some ⟨bk69, 0, none⟩) 32 32) (bytes := 1) En400 (by kernel_rfl) Hv401 rfl rfl (Reads.src (size := 1) (tx := 46) (e' := 5) (by kernel_rfl) (Hv401.heap.readsBox (k := 1) (m := 32) rfl (load_whole (bys_lenh n_qx))) (bys_lenn (by first | (rw [n_qx]) | (simp [n_qx]; done) | (simp [n_qx]; omega))) (fun e => by cases e) (bys_one _)) (by kernel_rfl) (z := .int .u8 0) (by kernel_rfl) rfl (by decide) (by first | omega | (simp; done) | (simp; omega)) (by unfold maxLen; first | omega | (simp; done) | (simp; omega)) ?_
     intro ac406 wo407 ao402 cp403 En408 Hv409 hnz _
     clear hnz
     rw [← bys_append] at Hv409
     have ehz404 : 1 + 32 = List.length ([(4 : UInt8)] ++ qx) := (by first | (simp; done) | (simp; omega) | omega)
     rw [ehz404] at En408
     refine ⟨fun _ => Hv409.pk [1, 2], ?_⟩
     refine q_t 4 ?_
     refine op_append (d := some 22) (t := 46) (tx := 46) (ty := 46) (k := 3) (p := List.length ([(4 : UInt8)] ++ qx)) (m := 32) (x := .slice (some ⟨bk70, 0, none⟩) 32 32) (bytes := 1) En408 (by kernel_rfl) Hv409 rfl (bys_len _) (Reads.src (size := 1) (tx := 46) (e' := 5) (by kernel_rfl) (Hv409.heap.readsBox (k := 2) (m := 32) rfl (load_whole (bys_lenh n_qy))) (bys_lenn (by first | (rw [n_qy]) | (simp [n_qy]; done) | (simp [n_qy]; omega))) (fun e => by cases e) (bys_one _)) (by kernel_rfl) (z := .int .u8 0) (by kernel_rfl) rfl (by decide) (by first | omega | (simp; done) | (simp; omega)) (by unfold maxLen; first | omega | (simp; done) | (simp; omega)) ?_
     intro ac414 wo415 ao410 cp411 En416 Hv417 hnz _
     clear hnz
     rw [← bys_append] at Hv417
     have ehz412 : (List.length ([(4 : UInt8)] ++ qx)) + 32 = List.length (([(4 : UInt8)] ++ qx) ++ qy) := (by first | (simp; done) | (simp; omega) | omega)
     rw [ehz412] at En416
     refine ⟨fun _ => Hv417.pk [1, 2], ?_⟩
     refine q_s [5] [] 0 En416 (Hv417.pk [1, 2]) fun ac418 En419 => ?_
     exact h_e ⟨ao410, cp411, En419.sb, Hv417.pk [0, 1, 2, 3]⟩
    have nd420 : ∀ (ac : Act) (wo : World) (bk202 : Nat), Env ac 23 [(1, pt bk1), (2, .slice none 0 0), (3, pt bk69), (4, pt bk70), (18, .slice (some ⟨bk202, 0, none⟩) 1 1)] → Ev w [] wo [.box bk1 (([.bool z] : List Value) ++ ((u64s x) ++ (u64s y))) 26, .box bk69 (bys qx) 41, .box bk70 (bys qy) 41, .vec (some ⟨bk202, 0, none⟩) 1 1 (bys [(4 : UInt8)]) 5] → G 5 #[true, false, false, false, false, false] ac wo := by
     intro ac421 wo422 bk202 En423 Hv424
     refine h_from hG ?_
     refine h_ways [1, 3] (by kernel_rfl) rfl ?_
     refine ⟨?_, ?_, trivial⟩
     ·
      rintro _ rfl
      refine op_slicearr (d := some 19) (t := 41) (e := 5) (sz := 1) (m := 32) (lo := 0) (hi := 32) (b := bk69) (off := 0) (lov := none) (hiv := none) (o := 0) En423 (by kernel_rfl) (by kernel_rfl) (by kernel_rfl) (by omega) (by omega) (by omega) (.inl ⟨rfl, rfl⟩) (.inl ⟨rfl, rfl⟩) (by omega) ?_
      intro ac425 En426
      refine ⟨fun _ => Hv424.pk [1, 2], ?_⟩
      exact h_to hG (by kernel_rfl) (nd352 _ _ bk202 (En426.sb) (Hv424.pk [0, 1, 2, 3]))
     ·
      rintro _ rfl
      refine op_slicearr (d := some 21) (t := 41) (e := 5) (sz := 1) (m := 32) (lo := 0) (hi := 32) (b := bk70) (off := 0) (lov := none) (hiv := none) (o := 0) En423 (by kernel_rfl) (by kernel_rfl) (by kernel_rfl) (by omega) (by omega) (by omega) (.inl ⟨rfl, rfl⟩) (.inl ⟨rfl, rfl⟩) (by omega) ?_
      intro ac427 En428
      refine ⟨fun _ => Hv424.pk [1, 2], ?_⟩
      exact h_to hG (by kernel_rfl) (nd367 _ _ bk202 (En428.sb) (Hv424.pk [0, 1, 2, 3]))
    have nd429 : ∀ (ac : Act) (wo : World), Env ac 23 [(1, pt bk1), (2, .slice none 0 0), (3, pt bk69), (4, pt bk70), (19, .slice (some ⟨bk69, 0, none⟩) 32 32)] → Ev w [] wo [.box bk1 (([.bool z] : List Value) ++ ((u64s x) ++ (u64s y))) 26, .box bk69 (bys qx) 41, .box bk70 (bys qy) 41] → G 5 #[false, true, false, false, false, false] ac wo := by
     intro ac430 wo431 En432 Hv433
     refine h_from hG ?_
     refine h_ways [0, 3] (by kernel_rfl) rfl ?_
     refine ⟨?_, ?_, trivial⟩
     ·
      rintro _ rfl
      refine op_lit (d := some 18) (t := 46) (T := 5) (m := 1) (parts := #[(0, .int .u8 4)]) (xs := bys [(4 : UInt8)]) (sz := 1) En432 (by kernel_rfl) (by kernel_rfl) rfl (by decide) Hv433 ?_
      intro ac435 wo436 bk434 En437 Hv438
      refine ⟨fun _ => Hv438.pk [1, 2], ?_⟩
      exact h_to hG (by kernel_rfl) (nd352 _ _ bk434 (En437.sb) (Hv438.pk [0, 1, 2, 3]))
     ·
      rintro _ rfl
      refine op_slicearr (d := some 21) (t := 41) (e := 5) (sz := 1) (m := 32) (lo := 0) (hi := 32) (b := bk70) (off := 0) (lov := none) (hiv := none) (o := 0) En432 (by kernel_rfl) (by kernel_rfl) (by kernel_rfl) (by omega) (by omega) (by omega) (.inl ⟨rfl, rfl⟩) (.inl ⟨rfl, rfl⟩) (by omega) ?_
      intro ac439 En440
      refine ⟨fun _ => Hv433.pk [1, 2], ?_⟩
      exact h_to hG (by kernel_rfl) (nd392 _ _ (En440.sb) (Hv433.pk [0, 1, 2]))
    have nd441 : ∀ (ac : Act) (wo : World), Env ac 23 [(1, pt bk1), (2, .slice none 0 0), (3, pt bk69), (4, pt bk70), (21, .slice (some ⟨bk70, 0, none⟩) 32 32)] → Ev w [] wo [.box bk1 (([.bool z] : List Value) ++ ((u64s x) ++ (u64s y))) 26, .box bk69 (bys qx) 41, .box bk70 (bys qy) 41] → G 5 #[false, false, false, true, false, false] ac wo := by
     intro ac442 wo443 En444 Hv445
     refine h_from hG ?_
     refine h_ways [0, 1] (by kernel_rfl) rfl ?_
     refine ⟨?_, ?_, trivial⟩
     ·
      rintro _ rfl
      refine op_lit (d := some 18) (t := 46) (T := 5) (m := 1) (parts := #[(0, .int .u8 4)]) (xs := bys [(4 : UInt8)]) (sz := 1) En444 (by kernel_rfl) (by kernel_rfl) rfl (by decide) Hv445 ?_
      intro ac447 wo448 bk446 En449 Hv450
      refine ⟨fun _ => Hv450.pk [1, 2], ?_⟩
      exact h_to hG (by kernel_rfl) (nd367 _ _ bk446 (En449.sb) (Hv450.pk [0, 1, 2, 3]))
     ·
      rintro _ rfl
      refine op_slicearr (d := some 19) (t := 41) (e := 5) (sz := 1) (m := 32) (lo := 0) (hi := 32) (b := bk69) (off := 0) (lov := none) (hiv := none) (o := 0) En444 (by kernel_rfl) (by kernel_rfl) (by kernel_rfl) (by omega) (by omega) (by omega) (.inl ⟨rfl, rfl⟩) (.inl ⟨rfl, rfl⟩) (by omega) ?_
      intro ac451 En452
      refine ⟨fun _ => Hv445.pk [1, 2], ?_⟩
      exact h_to hG (by kernel_rfl) (nd392 _ _ (En452.sb) (Hv445.pk [0, 1, 2]))
    refine h_from hG ?_
    refine h_ways [0, 1, 3] (by kernel_rfl) rfl ?_
    refine ⟨?_, ?_, ?_, trivial⟩
    ·
     rintro _ rfl
     refine op_lit (d := some 18) (t := 46) (T := 5) (m := 1) (parts := #[(0, .int .u8 4)]) (xs := bys [(4 : UInt8)]) (sz := 1) En89 (by kernel_rfl) (by kernel_rfl) rfl (by decide) wo91 ?_
     intro ac454 wo455 bk453 En456 Hv457
     refine ⟨fun _ => Hv457.pk [1, 2], ?_⟩
     exact h_to hG (by kernel_rfl) (nd420 _ _ bk453 (En456.sb) (Hv457.pk [0, 1, 2, 3]))
    ·
     rintro _ rfl
     refine op_slicearr (d := some 19) (t := 41) (e := 5) (sz := 1) (m := 32) (lo := 0) (hi := 32) (b := bk69) (off := 0) (lov := none) (hiv := none) (o := 0) En89 (by kernel_rfl) (by kernel_rfl) (by kernel_rfl) (by omega) (by omega) (by omega) (.inl ⟨rfl, rfl⟩) (.inl ⟨rfl, rfl⟩) (by omega) ?_
     intro ac458 En459
     refine ⟨fun _ => wo91.pk [1, 2], ?_⟩
     exact h_to hG (by kernel_rfl) (nd429 _ _ (En459.sb) (wo91.pk [0, 1, 2]))
    ·
     rintro _ rfl
     refine op_slicearr (d := some 21) (t := 41) (e := 5) (sz := 1) (m := 32) (lo := 0) (hi := 32) (b := bk70) (off := 0) (lov := none) (hiv := none) (o := 0) En89 (by kernel_rfl) (by kernel_rfl) (by kernel_rfl) (by omega) (by omega) (by omega) (.inl ⟨rfl, rfl⟩) (.inl ⟨rfl, rfl⟩) (by omega) ?_
     intro ac460 En461
     refine ⟨fun _ => wo91.pk [1, 2], ?_⟩
     exact h_to hG (by kernel_rfl) (nd441 _ _ (En461.sb) (wo91.pk [0, 1, 2]))
   rintro ac462 wo463 ⟨ao219, cp220, En464, Hv465⟩
   refine then_normal ?_
   refine wp_ret ?_
   refine d_ret1 (t := 2) (v := .slice ao219 (List.length (([(4 : UInt8)] ++ qx) ++ qy)) cp220) En464 (by kernel_rfl) (by kernel_rfl) ?_
   have e : encL z x y = ([(4 : UInt8)] ++ qx) ++ qy := by rw [h_qx, h_qy]; exact enc_yes (by assumption) (by assumption)
   rw [e]
   exact ⟨ao219, cp220, rfl, Hv465.pk [3]⟩

end Go.Proofs.Ytpfhmbbiadpbeaa
