/- Layer 13: points as bytes; secrets; the head. -/
import Derived.Test.YtpfhmbbiadpbeaaE1
namespace Go.Proofs.Ytpfhmbbiadpbeaa
open Go.Dbr
set_option maxRecDepth 100000
set_option maxHeartbeats 2000000
set_option linter.unusedVariables false
set_option linter.unusedSimpArgs false

def encL (z : Bool) (x y : L4) : List UInt8 := bif onN z x y && !z then 4 :: (List.reverse (lb 32 (nv x)) ++ List.reverse (lb 32 (nv y))) else []
theorem enc_no1 {z : Bool} {x y : L4} (h : z = true) : encL z x y = [] := by subst h; rw [encL, Bool.not_true, Bool.and_false]; rfl
theorem enc_no2 {z : Bool} {x y : L4} (h : ¬ onN z x y = true) : encL z x y = [] := by rw [encL, Bool.eq_false_iff.2 h]; rfl
theorem enc_yes {z : Bool} {x y : L4} (h : onN z x y = true) (h2 : ¬ z = true) : encL z x y = 4 :: (List.reverse (lb 32 (nv x)) ++ List.reverse (lb 32 (nv y))) := by rw [encL, h, Bool.eq_false_iff.2 h2]; rfl
theorem encL_len (z : Bool) (x y : L4) : (encL z x y).length ≤ 65 := by
  unfold encL
  cases onN z x y && !z with
  | true => simp [lb_len]
  | false => simp
def emptyP : PZ := (false, z4, z4)
def decX (l : List UInt8) (s : Nat) : L4 := nd (lv (List.reverse (List.take 32 (List.drop s l))))
def decN (l : List UInt8) : PZ × Int := if l.length = 65 ∧ List.getD l 0 0 = 4 then (if onN false (decX l 1) (decX l 33) = true then ((false, decX l 1, decX l 33), 0) else (emptyP, 131)) else (emptyP, 131)
theorem dec_no1 {l : List UInt8} (h : ¬ l.length = 65) : (emptyP, (131 : Int)) = decN l := by rw [decN, if_neg (fun g => h g.1)]
theorem dec_no2 {l : List UInt8} (h : ¬ ((UInt8.toNat (List.getD l 0 0) : Nat) : Int) = 4) : (emptyP, (131 : Int)) = decN l := by rw [decN, if_neg (fun g => h (by rw [g.2]; rfl))]
theorem u8_is {x : UInt8} (h : ((UInt8.toNat x : Nat) : Int) = 4) : x = 4 := UInt8.toNat_inj.1 (by have : (4 : UInt8).toNat = 4 := rfl; omega)
theorem dec_no3 {l : List UInt8} (h1 : l.length = 65) (h2 : ((UInt8.toNat (List.getD l 0 0) : Nat) : Int) = 4) (h : ¬ onN false (decX l 1) (decX l 33) = true) : (emptyP, (131 : Int)) = decN l := by rw [decN, if_pos ⟨h1, u8_is h2⟩, if_neg h]
theorem dec_yes {l : List UInt8} (h1 : l.length = 65) (h2 : ((UInt8.toNat (List.getD l 0 0) : Nat) : Int) = 4) (h : onN false (decX l 1) (decX l 33) = true) : ((false, decX l 1, decX l 33), (0 : Int)) = decN l := by rw [decN, if_pos ⟨h1, u8_is h2⟩, if_pos h]
theorem decN_len (l : List UInt8) : (decN l).1.2.1.length = 4 ∧ (decN l).1.2.2.length = 4 := by
  unfold decN
  repeat' split
  · exact ⟨nds_len _ _, nds_len _ _⟩
  · exact ⟨rfl, rfl⟩
  · exact ⟨rfl, rfl⟩
theorem ret_dec {a b : PZ × Int} (h : a = b) : Ending.returned (.tuple #[.agg (List.toArray (([.bool a.1.1] : List Value) ++ ((u64s a.1.2.1) ++ (u64s a.1.2.2)))), .int .i64 a.2]) = Ending.returned (.tuple #[.agg (List.toArray (([.bool b.1.1] : List Value) ++ ((u64s b.1.2.1) ++ (u64s b.1.2.2)))), .int .i64 b.2]) := by rw [h]
theorem arr_of {X l : List UInt8} {s : Nat} (hX : X.length = 32) (hl : s + 32 ≤ l.length) (h : ∀ j, j < 32 → List.getD X j 0 = List.getD l (s + j) 0) : X = List.take 32 (List.drop s l) := by
  refine List.ext_getElem (by rw [List.length_take, List.length_drop]; omega) fun j h1 h2 => ?_
  have e := h j (by omega)
  rw [List.getD_eq_getElem?_getD, List.getElem?_eq_getElem h1, List.getD_eq_getElem?_getD, List.getElem?_eq_getElem (by omega)] at e
  rw [List.getElem_take, List.getElem_drop]
  exact e
theorem put_in {l X : List UInt8} {s i : Nat} (hx : X.length = 32) (hi : i < 32) (h : ∀ j, j < i → List.getD X j 0 = List.getD l (s + j) 0) : ∀ j, j < i + 1 → List.getD (List.set X i (List.getD l (s + i) 0)) j 0 = List.getD l (s + j) 0 := fun j hj => by
  by_cases e : i = j
  · subst e; exact getD8_eq _ (by omega)
  · rw [getD8_other _ e, h j (by omega)]

theorem enc_go (w : World) (z : Bool) (x y : List UInt64) (hx : List.length x = 4) (hy : List.length y = 4) : Calls Try.prog 26 #[.agg (List.toArray (([.bool z] : List Value) ++ ((u64s x) ++ (u64s y))))] w fun e w' => ∃ ao cap, e = .returned (.slice ao (List.length (encL z x y)) cap) ∧ Ev w [] w' [.vec ao cap 1 (bys (encL z x y)) 5] := by
 refine d_0 [(0, .agg (List.toArray (([.bool z] : List Value) ++ ((u64s x) ++ (u64s y)))))] 23 Go.Proofs.Try.func26 Go.Proofs.Try.ntmps26 (Heap.nil _) fun act0 En0 Hv0 => ?_
 refine wp_seq ?_
 refine region_from ?_
 refine f_o ?_
 refine m_m 26 (([.bool z] : List Value) ++ ((u64s x) ++ (u64s y))) En0 Hv0 fun ac2 wo3 bk1 En4 Hv5 => ?_
 refine d_e [1,2] [] En4 fun ac6 En7 => ?_
 refine then_normal ?_
 refine wp_seq ?_
 refine wp_seq ?_
 refine region_from ?_
 refine d_k [1,2,5] [] 1 En7 fun ac8 En9 => ?_
 refine f_o ?_
 refine m_v 0 0 (.bool z) En9 Hv5 rfl (seg_in rfl) fun ac10 En11 => ?_
 refine d_k [1,2,7] [] 3 En11 fun ac12 En13 => ?_
 rcases Bool.eq_false_or_eq_true (z) with hb14 | hb14
 ·
  have En15 := En13.fx (t := 7) (congrArg Value.bool hb14)
  have hp16 : z = true := hb14
  refine d_e [1,2,11] [] En15 fun ac17 En18 => ?_
  refine then_normal ?_
  refine c_t En18 ?_
  refine d_s [1,2] [] En18 fun ac19 En20 => ?_
  refine wp_ret ?_
  refine then_ret ?_
  refine d_ret1 (t := 2) (v := .slice none 0 0) En20 (by kernel_rfl) (by kernel_rfl) ?_
  have e : encL z x y = [] := by first | exact enc_no1 (by assumption) | exact enc_no2 (by assumption)
  rw [e]
  exact ⟨none, 0, rfl, (Ev.nil (sz := 1) (T := 5) Hv5).pk [1]⟩
 ·
  have En21 := En13.fx (t := 7) (congrArg Value.bool hb14)
  have hp22 : ¬ (z = true) := Bool.eq_false_iff.1 hb14
  refine f_o ?_
  refine m_a 0 0 9 (([.bool z] : List Value) ++ ((u64s x) ++ (u64s y))) En21 Hv5 rfl (load_whole (len_app rfl (len_app (u64s_lenh hx) (u64s_lenh hy)))) (len_app rfl (len_app (u64s_lenh hx) (u64s_lenh hy))) fun ac23 En24 => ?_
  refine f_o ?_
  refine c_p En24 Hv5 (on_go _ z x y hx hy) fun ac29 wo26 En30 Hv31 => ?_
  refine d_e [1,2,11] [] En30 fun ac32 En33 => ?_
  refine then_normal ?_
  refine cond_at En33 (t := !(onN z x y)) (by kernel_rfl) (fun hc34 => ?_) (fun hc34 => ?_)
  ·
   replace hc34 : ¬ (onN z x y = true) := by simpa using hc34
   refine d_s [1,2] [] En33 fun ac35 En36 => ?_
   refine wp_ret ?_
   refine then_ret ?_
   refine d_ret1 (t := 2) (v := .slice none 0 0) En36 (by kernel_rfl) (by kernel_rfl) ?_
   have e : encL z x y = [] := by first | exact enc_no1 (by assumption) | exact enc_no2 (by assumption)
   rw [e]
   exact ⟨none, 0, rfl, (Ev.nil (sz := 1) (T := 5) Hv31).pk [1]⟩
  ·
   replace hc34 : onN z x y = true := by simpa using hc34
   refine wp_skip ?_
   refine then_normal ?_
   refine wp_seq ?_
   refine r_c (fun ac wo => ∃ (bk69 : Nat) (bk70 : Nat), Env ac 23 [(1, pt bk1), (2, .slice none 0 0), (3, pt bk69), (4, pt bk70)] ∧ Ev w [] wo [.box bk1 (([.bool z] : List Value) ++ ((u64s x) ++ (u64s y))) 26, .box bk69 (bys (List.reverse (lb 32 (nv x)))) 41, .box bk70 (bys (List.reverse (lb 32 (nv y)))) 41]) ?_ ?_
   ·
    refine s_g2 [(1, pt bk1), (2, .slice none 0 0)] [0,1,2,3,4,5] [(12, .pointer (some ⟨bk1, 1, none⟩)), (13, .agg (List.toArray (u64s x))), (14, .agg (List.toArray (bys (List.reverse (lb 32 (nv x)))))), (15, .pointer (some ⟨bk1, 5, none⟩)), (16, .agg (List.toArray (u64s y))), (17, .agg (List.toArray (bys (List.reverse (lb 32 (nv y))))))] 2 [(1, pt bk1), (2, .slice none 0 0), (14, .agg (List.toArray (bys (List.reverse (lb 32 (nv x)))))), (17, .agg (List.toArray (bys (List.reverse (lb 32 (nv y))))))] 6 7 (bys (List.replicate 32 0)) (bys (List.replicate 32 0)) (En33.sb) (Hv31.trans (Ev.drew Hv31.heap)) ?_ fun ac65 wo66 bk69 bk70 En67 Hv68 => ?_
    ·
     refine s_p [] ?_
     refine s_a 0 1 4 (u64s x) rfl (by simp [u64s_lenh hx, u64s_lenh hy, List.drop_append, List.take_append]) (u64s_lenh hx) ?_
     refine s_f (fun _ => tobe_go _ x hx) ?_
     refine s_p [] ?_
     refine s_a 0 5 4 (u64s y) rfl (by simp [u64s_lenh hx, u64s_lenh hy, List.drop_append, List.take_append, List.take_of_length_le]) (u64s_lenh hy) ?_
     refine s_f (fun _ => tobe_go _ y hy) ?_
     exact s_n
    refine q_u 8 ?_
    refine m_g 1 0 32 (bys (List.reverse (lb 32 (nv x)))) (bys (List.reverse (lb 32 (nv x)))) [.box bk1 (([.bool z] : List Value) ++ ((u64s x) ++ (u64s y))) 26, .box bk69 (bys (List.reverse (lb 32 (nv x)))) 41, .box bk70 (bys (List.replicate 32 0)) 41] En67 Hv68 rfl (bys_lenh (rev_len (lb_len _ _))) (by rw [(bys_lenh (List.length_replicate))]; decide) (bys_one _) (store_whole (bys_lenh (List.length_replicate))) rfl fun ac79 wo80 En81 Hv82 => ?_
    refine q_u 9 ?_
    refine m_g 2 0 32 (bys (List.reverse (lb 32 (nv y)))) (bys (List.reverse (lb 32 (nv y)))) [.box bk1 (([.bool z] : List Value) ++ ((u64s x) ++ (u64s y))) 26, .box bk69 (bys (List.reverse (lb 32 (nv x)))) 41, .box bk70 (bys (List.reverse (lb 32 (nv y)))) 41] En81 Hv82 rfl (bys_lenh (rev_len (lb_len _ _))) (by rw [(bys_lenh (List.length_replicate))]; decide) (bys_one _) (store_whole (bys_lenh (List.length_replicate))) rfl fun ac83 wo84 En85 Hv86 => ?_
    exact a_e ⟨bk69, bk70, En85.sb, Hv86.pk [0, 1, 2]⟩
   rintro ac87 wo88 ⟨bk69, bk70, En89, Hv90⟩
   obtain ⟨qx, h_qx⟩ : ∃ q : List UInt8, q = List.reverse (lb 32 (nv x)) := ⟨_, rfl⟩
   rw [← h_qx] at Hv90
   have n_qx : List.length qx = 32 := by rw [h_qx]; exact (rev_len (lb_len _ _))
   obtain ⟨qy, h_qy⟩ : ∃ q : List UInt8, q = List.reverse (lb 32 (nv y)) := ⟨_, rfl⟩
   rw [← h_qy] at Hv90
   have n_qy : List.length qy = 32 := by rw [h_qy]; exact (rev_len (lb_len _ _))
   refine then_normal ?_
   refine wp_seq ?_
   refine r_c (fun ac wo => ∃ (ao219 : Option Addr) (cp220 : Nat), Env ac 23 [(1, pt bk1), (2, .slice ao219 (List.length (([(4 : UInt8)] ++ qx) ++ qy)) cp220), (3, pt bk69), (4, pt bk70)] ∧ Ev w [] wo [.box bk1 (([.bool z] : List Value) ++ ((u64s x) ++ (u64s y))) 26, .box bk69 (bys qx) 41, .box bk70 (bys qy) 41, .vec ao219 cp220 1 (bys (([(4 : UInt8)] ++ qx) ++ qy)) 5]) ?_ ?_
   ·
    refine h_s (fun wv => Ev w [] wv [.box bk69 (bys qx) 41, .box bk70 (bys qy) 41]) [] 6 ?_
    have wo91 := Hv90.trans (Ev.drew Hv90.heap)
    refine h_name fun G hG => ?_
    have nd312 : ∀ (ac : Act) (wo : World) (ao209 : Option Addr) (cp210 : Nat), Env ac 23 [(1, pt bk1), (2, .slice none 0 0), (3, pt bk69), (4, pt bk70), (20, .slice ao209 (List.length ([(4 : UInt8)] ++ qx)) cp210)] → Ev w [] wo [.box bk1 (([.bool z] : List Value) ++ ((u64s x) ++ (u64s y))) 26, .box bk69 (bys qx) 41, .box bk70 (bys qy) 41, .vec ao209 cp210 1 (bys ([(4 : UInt8)] ++ qx)) 5] → G 3 #[true, true, true, false, false, false] ac wo := by
     intro ac313 wo314 ao209 cp210 En315 Hv316
     refine h_from hG ?_
     refine q_t 3 ?_
     refine op_slicearr (d := some 21) (t := 41) (e := 5) (sz := 1) (m := 32) (lo := 0) (hi := 32) (b := bk70) (off := 0) (lov := none) (hiv := none) (o := 0) En315 (by kernel_rfl) (by kernel_rfl) (by kernel_rfl) (by omega) (by omega) (by omega) (.inl ⟨rfl, rfl⟩) (.inl ⟨rfl, rfl⟩) (by omega) ?_
     intro ac317 En318
     refine ⟨fun _ => Hv316.pk [1, 2], ?_⟩
     refine q_t 4 ?_
     refine op_append (d := some 22) (t := 46) (tx := 46) (ty := 46) (k := 3) (p := List.length ([(4 : UInt8)] ++ qx)) (m := 32) (x := .slice (some ⟨bk70, 0, none⟩) 32 32) (bytes := 1) En318 (by kernel_rfl) Hv316 rfl (bys_len _) (Reads.src (size := 1) (tx := 46) (e' := 5) (by kernel_rfl) (Hv316.heap.readsBox (k := 2) (m := 32) rfl (load_whole (bys_lenh n_qy))) (bys_lenn (by first | (rw [n_qy]) | (simp [n_qy]; done) | (simp [n_qy]; omega))) (fun e => by cases e) (bys_one _)) (by kernel_rfl) (z := .int .u8 0) (by kernel_rfl) rfl (by decide) (by first | omega | (simp; done) | (simp; omega)) (by unfold maxLen; first | omega | (simp; done) | (simp; omega)) ?_
     intro ac323 wo324 ao319 cp320 En325 Hv326 hnz _
     clear hnz
     rw [← bys_append] at Hv326
     have ehz321 : (List.length ([(4 : UInt8)] ++ qx)) + 32 = List.length (([(4 : UInt8)] ++ qx) ++ qy) := (by first | (simp; done) | (simp; omega) | omega)
     rw [ehz321] at En325
     refine ⟨fun _ => Hv326.pk [1, 2], ?_⟩
     refine q_s [5] [] 0 En325 (Hv326.pk [1, 2]) fun ac327 En328 => ?_
     exact h_e ⟨ao319, cp320, En328.sb, Hv326.pk [0, 1, 2, 3]⟩
    have nd329 : ∀ (ac : Act) (wo : World) (bk202 : Nat), Env ac 23 [(1, pt bk1), (2, .slice none 0 0), (3, pt bk69), (4, pt bk70), (18, .slice (some ⟨bk202, 0, none⟩) 1 1), (19, .slice (some ⟨bk69, 0, none⟩) 32 32), (21, .slice (some ⟨bk70, 0, none⟩) 32 32)] → Ev w [] wo [.box bk1 (([.bool z] : List Value) ++ ((u64s x) ++ (u64s y))) 26, .box bk69 (bys qx) 41, .box bk70 (bys qy) 41, .vec (some ⟨bk202, 0, none⟩) 1 1 (bys [(4 : UInt8)]) 5] → G 3 #[true, true, false, true, false, false] ac wo := by
     intro ac330 wo331 bk202 En332 Hv333
     refine h_from hG ?_
     refine q_t 2 ?_
     refine op_append (d := some 20) (t := 46) (tx := 46) (ty := 46) (k := 3) (p := 1) (m := 32) (x := .slice (some ⟨bk69, 0, none⟩) 32 32) (bytes := 1) En332 (by kernel_rfl) Hv333 rfl rfl (Reads.src (size := 1) (tx := 46) (e' := 5) (by kernel_rfl) (Hv333.heap.readsBox (k := 1) (m := 32) rfl (load_whole (bys_lenh n_qx))) (bys_lenn (by first | (rw [n_qx]) | (simp [n_qx]; done) | (simp [n_qx]; omega))) (fun e => by cases e) (bys_one _)) (by kernel_rfl) (z := .int .u8 0) (by kernel_rfl) rfl (by decide) (by first | omega | (simp; done) | (simp; omega)) (by unfold maxLen; first | omega | (simp; done) | (simp; omega)) ?_
     intro ac338 wo339 ao334 cp335 En340 Hv341 hnz _
     clear hnz
     rw [← bys_append] at Hv341
     have ehz336 : 1 + 32 = List.length ([(4 : UInt8)] ++ qx) := (by first | (simp; done) | (simp; omega) | omega)
     rw [ehz336] at En340
     refine ⟨fun _ => Hv341.pk [1, 2], ?_⟩
     refine q_t 4 ?_
     refine op_append (d := some 22) (t := 46) (tx := 46) (ty := 46) (k := 3) (p := List.length ([(4 : UInt8)] ++ qx)) (m := 32) (x := .slice (some ⟨bk70, 0, none⟩) 32 32) (bytes := 1) En340 (by kernel_rfl) Hv341 rfl (bys_len _) (Reads.src (size := 1) (tx := 46) (e' := 5) (by kernel_rfl) (Hv341.heap.readsBox (k := 2) (m := 32) rfl (load_whole (bys_lenh n_qy))) (bys_lenn (by first | (rw [n_qy]) | (simp [n_qy]; done) | (simp [n_qy]; omega))) (fun e => by cases e) (bys_one _)) (by kernel_rfl) (z := .int .u8 0) (by kernel_rfl) rfl (by decide) (by first | omega | (simp; done) | (simp; omega)) (by unfold maxLen; first | omega | (simp; done) | (simp; omega)) ?_
     intro ac346 wo347 ao342 cp343 En348 Hv349 hnz _
     clear hnz
     rw [← bys_append] at Hv349
     have ehz344 : (List.length ([(4 : UInt8)] ++ qx)) + 32 = List.length (([(4 : UInt8)] ++ qx) ++ qy) := (by first | (simp; done) | (simp; omega) | omega)
     rw [ehz344] at En348
     refine ⟨fun _ => Hv349.pk [1, 2], ?_⟩
     refine q_s [5] [] 0 En348 (Hv349.pk [1, 2]) fun ac350 En351 => ?_
     exact h_e ⟨ao342, cp343, En351.sb, Hv349.pk [0, 1, 2, 3]⟩
    have nd352 : ∀ (ac : Act) (wo : World) (bk202 : Nat), Env ac 23 [(1, pt bk1), (2, .slice none 0 0), (3, pt bk69), (4, pt bk70), (18, .slice (some ⟨bk202, 0, none⟩) 1 1), (19, .slice (some ⟨bk69, 0, none⟩) 32 32)] → Ev w [] wo [.box bk1 (([.bool z] : List Value) ++ ((u64s x) ++ (u64s y))) 26, .box bk69 (bys qx) 41, .box bk70 (bys qy) 41, .vec (some ⟨bk202, 0, none⟩) 1 1 (bys [(4 : UInt8)]) 5] → G 4 #[true, true, false, false, false, false] ac wo := by
     intro ac353 wo354 bk202 En355 Hv356
     refine h_from hG ?_
     refine h_ways [2, 3] (by kernel_rfl) rfl ?_
     refine ⟨?_, ?_, trivial⟩
     ·
      rintro _ rfl
      refine op_append (d := some 20) (t := 46) (tx := 46) (ty := 46) (k := 3) (p := 1) (m := 32) (x := .slice (some ⟨bk69, 0, none⟩) 32 32) (bytes := 1) En355 (by kernel_rfl) Hv356 rfl rfl (Reads.src (size := 1) (tx := 46) (e' := 5) (by kernel_rfl) (Hv356.heap.readsBox (k := 1) (m := 32) rfl (load_whole (bys_lenh n_qx))) (bys_lenn (by first | (rw [n_qx]) | (simp [n_qx]; done) | (simp [n_qx]; omega))) (fun e => by cases e) (bys_one _)) (by kernel_rfl) (z := .int .u8 0) (by kernel_rfl) rfl (by decide) (by first | omega | (simp; done) | (simp; omega)) (by unfold maxLen; first | omega | (simp; done) | (simp; omega)) ?_
      intro ac361 wo362 ao357 cp358 En363 Hv364 hnz _
      clear hnz
      rw [← bys_append] at Hv364
      have ehz359 : 1 + 32 = List.length ([(4 : UInt8)] ++ qx) := (by first | (simp; done) | (simp; omega) | omega)
      rw [ehz359] at En363
      refine ⟨fun _ => Hv364.pk [1, 2], ?_⟩
      exact h_to hG (by kernel_rfl) (nd312 _ _ ao357 cp358 (En363.sb) (Hv364.pk [0, 1, 2, 3]))
     ·
      rintro _ rfl
      refine op_slicearr (d := some 21) (t := 41) (e := 5) (sz := 1) (m := 32) (lo := 0) (hi := 32) (b := bk70) (off := 0) (lov := none) (hiv := none) (o := 0) En355 (by kernel_rfl) (by kernel_rfl) (by kernel_rfl) (by omega) (by omega) (by omega) (.inl ⟨rfl, rfl⟩) (.inl ⟨rfl, rfl⟩) (by omega) ?_
      intro ac365 En366
      refine ⟨fun _ => Hv356.pk [1, 2], ?_⟩
      exact h_to hG (by kernel_rfl) (nd329 _ _ bk202 (En366.sb) (Hv356.pk [0, 1, 2, 3]))
    have nd367 : ∀ (ac : Act) (wo : World) (bk202 : Nat), Env ac 23 [(1, pt bk1), (2, .slice none 0 0), (3, pt bk69), (4, pt bk70), (18, .slice (some ⟨bk202, 0, none⟩) 1 1), (21, .slice (some ⟨bk70, 0, none⟩) 32 32)] → Ev w [] wo [.box bk1 (([.bool z] : List Value) ++ ((u64s x) ++ (u64s y))) 26, .box bk69 (bys qx) 41, .box bk70 (bys qy) 41, .vec (some ⟨bk202, 0, none⟩) 1 1 (bys [(4 : UInt8)]) 5] → G 4 #[true, false, false, true, false, false] ac wo := by
     intro ac368 wo369 bk202 En370 Hv371
     refine h_from hG ?_
     refine q_t 1 ?_
     refine op_slicearr (d := some 19) (t := 41) (e := 5) (sz := 1) (m := 32) (lo := 0) (hi := 32) (b := bk69) (off := 0) (lov := none) (hiv := none) (o := 0) En370 (by kernel_rfl) (by kernel_rfl) (by kernel_rfl) (by omega) (by omega) (by omega) (.inl ⟨rfl, rfl⟩) (.inl ⟨rfl, rfl⟩) (by omega) ?_
     intro ac372 En373
     refine ⟨fun _ => Hv371.pk [1, 2], ?_⟩
     refine q_t 2 ?_
     refine op_append (d := some 20) (t := 46) (tx := 46) (ty := 46) (k := 3) (p := 1) (m := 32) (x := .slice (some ⟨bk69, 0, none⟩) 32 32) (bytes := 1) En373 (by kernel_rfl) Hv371 rfl rfl (Reads.src (size := 1) (tx := 46) (e' := 5) (by kernel_rfl) (Hv371.heap.readsBox (k := 1) (m := 32) rfl (load_whole (bys_lenh n_qx))) (bys_lenn (by first | (rw [n_qx]) | (simp [n_qx]; done) | (simp [n_qx]; omega))) (fun e => by cases e) (bys_one _)) (by kernel_rfl) (z := .int .u8 0) (by kernel_rfl) rfl (by decide) (by first | omega | (simp; done) | (simp; omega)) (by unfold maxLen; first | omega | (simp; done) | (simp; omega)) ?_
     intro ac378 wo379 ao374 cp375 En380 Hv381 hnz _
     clear hnz
     rw [← bys_append] at Hv381
     have ehz376 : 1 + 32 = List.length ([(4 : UInt8)] ++ qx) := (by first | (simp; done) | (simp; omega) | omega)
     rw [ehz376] at En380
     refine ⟨fun _ => Hv381.pk [1, 2], ?_⟩
     refine q_t 4 ?_
     refine op_append (d := some 22) (t := 46) (tx := 46) (ty := 46) (k := 3) (p := List.length ([(4 : UInt8)] ++ qx)) (m := 32) (x := .slice (some ⟨bk70, 0, none⟩) 32 32) (bytes := 1) En380 (by kernel_rfl) Hv381 rfl (bys_len _) (Reads.src (size := 1) (tx := 46) (e' := 5) (by kernel_rfl) (Hv381.heap.readsBox (k := 2) (m := 32) rfl (load_whole (bys_lenh n_qy))) (bys_lenn (by first | (rw [n_qy]) | (simp [n_qy]; done) | (simp [n_qy]; omega))) (fun e => by cases e) (bys_one _)) (by kernel_rfl) (z := .int .u8 0) (by kernel_rfl) rfl (by decide) (by first | omega | (simp; done) | (simp; omega)) (by unfold maxLen; first | omega | (simp; done) | (simp; omega)) ?_
     intro ac386 wo387 ao382 cp383 En388 Hv389 hnz _
     clear hnz
     rw [← bys_append] at Hv389
     have ehz384 : (List.length ([(4 : UInt8)] ++ qx)) + 32 = List.length (([(4 : UInt8)] ++ qx) ++ qy) := (by first | (simp; done) | (simp; omega) | omega)
     rw [ehz384] at En388
     refine ⟨fun _ => Hv389.pk [1, 2], ?_⟩
     refine q_s [5] [] 0 En388 (Hv389.pk [1, 2]) fun ac390 En391 => ?_
     exact h_e ⟨ao382, cp383, En391.sb, Hv389.pk [0, 1, 2, 3]⟩
    have nd392 : ∀ (ac : Act) (wo : World), Env ac 23 [(1, pt bk1), (2, .slice none 0 0), (3, pt bk69), (4, pt bk70), (19, .slice (some ⟨bk69, 0, none⟩) 32 32), (21, .slice (some ⟨bk70, 0, none⟩) 32 32)] → Ev w [] wo [.box bk1 (([.bool z] : List Value) ++ ((u64s x) ++ (u64s y))) 26, .box bk69 (bys qx) 41, .box bk70 (bys qy) 41] → G 4 #[false, true, false, true, false, false] ac wo := by
     intro ac393 wo394 En395 Hv396
     refine h_from hG ?_
     refine q_t 0 ?_
     refine op_lit (d := some 18) (t := 46) (T := 5) (m := 1) (parts := #[(0, .int .u8 4)]) (xs := bys [(4 : UInt8)]) (sz := 1) En395 (by kernel_rfl) (by kernel_rfl) rfl (by decide) Hv396 ?_
     intro ac398 wo399 bk397 En400 Hv401
     refine ⟨fun _ => Hv401.pk [1, 2], ?_⟩
     refine q_t 2 ?_
     refine op_append (d := some 20) (t := 46) (tx := 46) (ty := 46) (k := 3) (p := 1) (m := 32) (x := .slice (some ⟨bk69, 0, none⟩) 32 32) (bytes := 1) En400 (by kernel_rfl) Hv401 rfl rfl (Reads.src (size := 1) (tx := 46) (e' := 5) (by kernel_rfl) (Hv401.heap.readsBox (k := 1) (m := 32) rfl (load_whole (bys_lenh n_qx))) (bys_lenn (by first | (rw [n_qx]) | (simp [n_qx]; done) | (simp [n_qx]; omega))) (fun e => by cases e) (bys_one _)) (by kernel_rfl) (z := .int .u8 0) (by kernel_rfl) rfl (by decide) (by first | omega | (simp; done) | (simp; omega)) (by unfold maxLen; first | omega | (simp; done) | (simp; omega)) ?_
     intro ac406 wo407 ao402 cp403 En408 Hv409 hnz _
     clear hnz
     rw [← bys_append] at Hv409
     have ehz404 : 1 + 32 = List.length ([(4 : UInt8)] ++ qx) := (by first | (simp; done) | (simp; omega) | omega)
     rw [ehz404] at En408
     refine ⟨fun _ => Hv409.pk [1, 2], ?_⟩
     refine q_t 4 ?_
     refine op_append (d := some 22) (t := 46) (tx := 46) (ty := 46) (k := 3) (p := List.length ([(4 : UInt8)] ++ qx)) (m := 32) (x := .slice (some ⟨bk70, 0, none⟩) 32 32) (bytes := 1) En408 (by kernel_rfl) Hv409 rfl (bys_len _) (Reads.src (size := 1) (tx := 46) (e' := 5) (by kernel_rfl) (Hv409.heap.readsBox (k := 2) (m := 32) rfl (load_whole (bys_lenh n_qy))) (bys_lenn (by first | (rw [n_qy]) | (simp [n_qy]; done) | (simp [n_qy]; omega))) (fun e => by cases e) (bys_one _)) (by kernel_rfl) (z := .int .u8 0) (by kernel_rfl) rfl (by decide) (by first | omega | (simp; done) | (simp; omega)) (by unfold maxLen; first | omega | (simp; done) | (simp; omega)) ?_
     intro ac414 wo415 ao410 cp411 En416 Hv417 hnz _
     clear hnz
     rw [← bys_append] at Hv417
     have ehz412 : (List.length ([(4 : UInt8)] ++ qx)) + 32 = List.length (([(4 : UInt8)] ++ qx) ++ qy) := (by first | (simp; done) | (simp; omega) | omega)
     rw [ehz412] at En416
     refine ⟨fun _ => Hv417.pk [1, 2], ?_⟩
     refine q_s [5] [] 0 En416 (Hv417.pk [1, 2]) fun ac418 En419 => ?_
     exact h_e ⟨ao410, cp411, En419.sb, Hv417.pk [0, 1, 2, 3]⟩
    have nd420 : ∀ (ac : Act) (wo : World) (bk202 : Nat), Env ac 23 [(1, pt bk1), (2, .slice none 0 0), (3, pt bk69), (4, pt bk70), (18, .slice (some ⟨bk202, 0, none⟩) 1 1)] → Ev w [] wo [.box bk1 (([.bool z] : List Value) ++ ((u64s x) ++ (u64s y))) 26, .box bk69 (bys qx) 41, .box bk70 (bys qy) 41, .vec (some ⟨bk202, 0, none⟩) 1 1 (bys [(4 : UInt8)]) 5] → G 5 #[true, false, false, false, false, false] ac wo := by
     intro ac421 wo422 bk202 En423 Hv424
     refine h_from hG ?_
     refine h_ways [1, 3] (by kernel_rfl) rfl ?_
     refine ⟨?_, ?_, trivial⟩
     ·
      rintro _ rfl
      refine op_slicearr (d := some 19) (t := 41) (e := 5) (sz := 1) (m := 32) (lo := 0) (hi := 32) (b := bk69) (off := 0) (lov := none) (hiv := none) (o := 0) En423 (by kernel_rfl) (by kernel_rfl) (by kernel_rfl) (by omega) (by omega) (by omega) (.inl ⟨rfl, rfl⟩) (.inl ⟨rfl, rfl⟩) (by omega) ?_
      intro ac425 En426
      refine ⟨fun _ => Hv424.pk [1, 2], ?_⟩
      exact h_to hG (by kernel_rfl) (nd352 _ _ bk202 (En426.sb) (Hv424.pk [0, 1, 2, 3]))
     ·
      rintro _ rfl
      refine op_slicearr (d := some 21) (t := 41) (e := 5) (sz := 1) (m := 32) (lo := 0) (hi := 32) (b := bk70) (off := 0) (lov := none) (hiv := none) (o := 0) En423 (by kernel_rfl) (by kernel_rfl) (by kernel_rfl) (by omega) (by omega) (by omega) (.inl ⟨rfl, rfl⟩) (.inl ⟨rfl, rfl⟩) (by omega) ?_
      intro ac427 En428
      refine ⟨fun _ => Hv424.pk [1, 2], ?_⟩
      exact h_to hG (by kernel_rfl) (nd367 _ _ bk202 (En428.sb) (Hv424.pk [0, 1, 2, 3]))
    have nd429 : ∀ (ac : Act) (wo : World), Env ac 23 [(1, pt bk1), (2, .slice none 0 0), (3, pt bk69), (4, pt bk70), (19, .slice (some ⟨bk69, 0, none⟩) 32 32)] → Ev w [] wo [.box bk1 (([.bool z] : List Value) ++ ((u64s x) ++ (u64s y))) 26, .box bk69 (bys qx) 41, .box bk70 (bys qy) 41] → G 5 #[false, true, false, false, false, false] ac wo := by
     intro ac430 wo431 En432 Hv433
     refine h_from hG ?_
     refine h_ways [0, 3] (by kernel_rfl) rfl ?_
     refine ⟨?_, ?_, trivial⟩
     ·
      rintro _ rfl
      refine op_lit (d := some 18) (t := 46) (T := 5) (m := 1) (parts := #[(0, .int .u8 4)]) (xs := bys [(4 : UInt8)]) (sz := 1) En432 (by kernel_rfl) (by kernel_rfl) rfl (by decide) Hv433 ?_
      intro ac435 wo436 bk434 En437 Hv438
      refine ⟨fun _ => Hv438.pk [1, 2], ?_⟩
      exact h_to hG (by kernel_rfl) (nd352 _ _ bk434 (En437.sb) (Hv438.pk [0, 1, 2, 3]))
     ·
      rintro _ rfl
      refine op_slicearr (d := some 21) (t := 41) (e := 5) (sz := 1) (m := 32) (lo := 0) (hi := 32) (b := bk70) (off := 0) (lov := none) (hiv := none) (o := 0) En432 (by kernel_rfl) (by kernel_rfl) (by kernel_rfl) (by omega) (by omega) (by omega) (.inl ⟨rfl, rfl⟩) (.inl ⟨rfl, rfl⟩) (by omega) ?_
      intro ac439 En440
      refine ⟨fun _ => Hv433.pk [1, 2], ?_⟩
      exact h_to hG (by kernel_rfl) (nd392 _ _ (En440.sb) (Hv433.pk [0, 1, 2]))
    have nd441 : ∀ (ac : Act) (wo : World), Env ac 23 [(1, pt bk1), (2, .slice none 0 0), (3, pt bk69), (4, pt bk70), (21, .slice (some ⟨bk70, 0, none⟩) 32 32)] → Ev w [] wo [.box bk1 (([.bool z] : List Value) ++ ((u64s x) ++ (u64s y))) 26, .box bk69 (bys qx) 41, .box bk70 (bys qy) 41] → G 5 #[false, false, false, true, false, false] ac wo := by
     intro ac442 wo443 En444 Hv445
     refine h_from hG ?_
     refine h_ways [0, 1] (by kernel_rfl) rfl ?_
     refine ⟨?_, ?_, trivial⟩
     ·
      rintro _ rfl
      refine op_lit (d := some 18) (t := 46) (T := 5) (m := 1) (parts := #[(0, .int .u8 4)]) (xs := bys [(4 : UInt8)]) (sz := 1) En444 (by kernel_rfl) (by kernel_rfl) rfl (by decide) Hv445 ?_
      intro ac447 wo448 bk446 En449 Hv450
      refine ⟨fun _ => Hv450.pk [1, 2], ?_⟩
      exact h_to hG (by kernel_rfl) (nd367 _ _ bk446 (En449.sb) (Hv450.pk [0, 1, 2, 3]))
     ·
      rintro _ rfl
      refine op_slicearr (d := some 19) (t := 41) (e := 5) (sz := 1) (m := 32) (lo := 0) (hi := 32) (b := bk69) (off := 0) (lov := none) (hiv := none) (o := 0) En444 (by kernel_rfl) (by kernel_rfl) (by kernel_rfl) (by omega) (by omega) (by omega) (.inl ⟨rfl, rfl⟩) (.inl ⟨rfl, rfl⟩) (by omega) ?_
      intro ac451 En452
      refine ⟨fun _ => Hv445.pk [1, 2], ?_⟩
      exact h_to hG (by kernel_rfl) (nd392 _ _ (En452.sb) (Hv445.pk [0, 1, 2]))
    refine h_from hG ?_
    refine h_ways [0, 1, 3] (by kernel_rfl) rfl ?_
    refine ⟨?_, ?_, ?_, trivial⟩
    ·
     rintro _ rfl
     refine op_lit (d := some 18) (t := 46) (T := 5) (m := 1) (parts := #[(0, .int .u8 4)]) (xs := bys [(4 : UInt8)]) (sz := 1) En89 (by kernel_rfl) (by kernel_rfl) rfl (by decide) wo91 ?_
     intro ac454 wo455 bk453 En456 Hv457
     refine ⟨fun _ => Hv457.pk [1, 2], ?_⟩
     exact h_to hG (by kernel_rfl) (nd420 _ _ bk453 (En456.sb) (Hv457.pk [0, 1, 2, 3]))
    ·
     rintro _ rfl
     refine op_slicearr (d := some 19) (t := 41) (e := 5) (sz := 1) (m := 32) (lo := 0) (hi := 32) (b := bk69) (off := 0) (lov := none) (hiv := none) (o := 0) En89 (by kernel_rfl) (by kernel_rfl) (by kernel_rfl) (by omega) (by omega) (by omega) (.inl ⟨rfl, rfl⟩) (.inl ⟨rfl, rfl⟩) (by omega) ?_
     intro ac458 En459
     refine ⟨fun _ => wo91.pk [1, 2], ?_⟩
     exact h_to hG (by kernel_rfl) (nd429 _ _ (En459.sb) (wo91.pk [0, 1, 2]))
    ·
     rintro _ rfl
     refine op_slicearr (d := some 21) (t := 41) (e := 5) (sz := 1) (m := 32) (lo := 0) (hi := 32) (b := bk70) (off := 0) (lov := none) (hiv := none) (o := 0) En89 (by kernel_rfl) (by kernel_rfl) (by kernel_rfl) (by omega) (by omega) (by omega) (.inl ⟨rfl, rfl⟩) (.inl ⟨rfl, rfl⟩) (by omega) ?_
     intro ac460 En461
     refine ⟨fun _ => wo91.pk [1, 2], ?_⟩
     exact h_to hG (by kernel_rfl) (nd441 _ _ (En461.sb) (wo91.pk [0, 1, 2]))
   rintro ac462 wo463 ⟨ao219, cp220, En464, Hv465⟩
   refine then_normal ?_
   refine wp_ret ?_
   refine d_ret1 (t := 2) (v := .slice ao219 (List.length (([(4 : UInt8)] ++ qx) ++ qy)) cp220) En464 (by kernel_rfl) (by kernel_rfl) ?_
   have e : encL z x y = ([(4 : UInt8)] ++ qx) ++ qy := by rw [h_qx, h_qy]; exact enc_yes (by assumption) (by assumption)
   rw [e]
   exact ⟨ao219, cp220, rfl, Hv465.pk [3]⟩

theorem denc_go (w : World) (z : Bool) (x y : List UInt64) (hx : List.length x = 4) (hy : List.length y = 4) : Calls Try.prog 27 #[.agg (List.toArray (([.bool z] : List Value) ++ ((u64s x) ++ (u64s y))))] w fun e w' => ∃ ao cap, e = .returned (.slice ao (List.length (encL z x y)) cap) ∧ Ev w [] w' [.vec ao cap 1 (bys (encL z x y)) 5] := by
 refine d_0 [(0, .agg (List.toArray (([.bool z] : List Value) ++ ((u64s x) ++ (u64s y)))))] 25 Go.Proofs.Try.func27 Go.Proofs.Try.ntmps27 (Heap.nil _) fun act0 En0 Hv0 => ?_
 refine wp_seq ?_
 refine region_from ?_
 refine f_o ?_
 refine m_m 26 (([.bool z] : List Value) ++ ((u64s x) ++ (u64s y))) En0 Hv0 fun ac2 wo3 bk1 En4 Hv5 => ?_
 refine d_e [1,2] [] En4 fun ac6 En7 => ?_
 refine then_normal ?_
 refine wp_seq ?_
 refine region_from ?_
 refine f_o ?_
 refine m_a 0 0 9 (([.bool z] : List Value) ++ ((u64s x) ++ (u64s y))) En7 Hv5 rfl (load_whole (len_app rfl (len_app (u64s_lenh hx) (u64s_lenh hy)))) (len_app rfl (len_app (u64s_lenh hx) (u64s_lenh hy))) fun ac8 En9 => ?_
 refine f_o ?_
 refine c_p En9 Hv5 (don_go _ z x y hx hy) fun ac14 wo11 En15 Hv16 => ?_
 refine d_e [1,2,3] [] En15 fun ac17 En18 => ?_
 refine then_normal ?_
 refine wp_seq ?_
 refine wp_seq ?_
 refine region_from ?_
 refine d_k [1,2,10] [] 3 En18 fun ac19 En20 => ?_
 rcases Bool.eq_false_or_eq_true (!(onN z x y)) with hb21 | hb21
 ·
  have En22 := En20.fx (t := 10) (congrArg Value.bool hb21)
  have hp23 : ¬ (onN z x y = true) := by simpa using hb21
  refine d_e [1,2,13] [] En22 fun ac24 En25 => ?_
  refine then_normal ?_
  refine c_t En25 ?_
  refine d_s [1,2] [] En25 fun ac26 En27 => ?_
  refine wp_ret ?_
  refine then_ret ?_
  refine d_ret1 (t := 2) (v := .slice none 0 0) En27 (by kernel_rfl) (by kernel_rfl) ?_
  have e : encL z x y = [] := by first | exact enc_no1 (by assumption) | exact enc_no2 (by assumption)
  rw [e]
  exact ⟨none, 0, rfl, (Ev.nil (sz := 1) (T := 5) Hv16).pk [1]⟩
 ·
  have En28 := En20.fx (t := 10) (congrArg Value.bool hb21)
  have hp29 : onN z x y = true := by simpa using hb21
  refine d_k [1,2,10,11] [] 4 En28 fun ac30 En31 => ?_
  refine f_o ?_
  refine m_v 0 0 (.bool z) En31 Hv16 rfl (seg_in rfl) fun ac32 En33 => ?_
  refine d_e [1,2,13] [] En33 fun ac34 En35 => ?_
  refine then_normal ?_
  refine cond_at En35 (t := z) (by kernel_rfl) (fun hc36 => ?_) (fun hc36 => ?_)
  ·
   replace hc36 : z = true := hc36
   refine d_s [1,2] [] En35 fun ac37 En38 => ?_
   refine wp_ret ?_
   refine then_ret ?_
   refine d_ret1 (t := 2) (v := .slice none 0 0) En38 (by kernel_rfl) (by kernel_rfl) ?_
   have e : encL z x y = [] := by first | exact enc_no1 (by assumption) | exact enc_no2 (by assumption)
   rw [e]
   exact ⟨none, 0, rfl, (Ev.nil (sz := 1) (T := 5) Hv16).pk [1]⟩
  ·
   replace hc36 : ¬ (z = true) := Bool.eq_false_iff.1 hc36
   refine wp_skip ?_
   refine then_normal ?_
   refine wp_seq ?_
   refine region_from ?_
   refine d_k [1,2,14] [] 1 En35 fun ac39 En40 => ?_
   refine f_o ?_
   refine m_a 0 1 4 (u64s x) En40 Hv16 rfl (by simp [u64s_lenh hx, u64s_lenh hy, List.drop_append, List.take_append]) (u64s_lenh hx) fun ac41 En42 => ?_
   refine f_o ?_
   refine c_p En42 Hv16 (rtobe_go _ x hx) fun ac47 wo44 En48 Hv49 => ?_
   refine f_o ?_
   refine m_z 41 (bys (List.replicate 32 0)) En48 Hv49 fun ac51 wo52 bk50 En53 Hv54 => ?_
   refine f_o ?_
   refine m_g 1 0 32 (bys (List.reverse (lb 32 (nv x)))) (bys (List.reverse (lb 32 (nv x)))) [.box bk1 (([.bool z] : List Value) ++ ((u64s x) ++ (u64s y))) 26, .box bk50 (bys (List.reverse (lb 32 (nv x)))) 41] En53 Hv54 rfl (bys_lenh (rev_len (lb_len _ _))) (by rw [(bys_lenh (List.length_replicate))]; decide) (bys_one _) (store_whole (bys_lenh (List.length_replicate))) rfl fun ac55 wo56 En57 Hv58 => ?_
   refine f_e ?_
   obtain ⟨qx, h_qx⟩ : ∃ q : List UInt8, q = List.reverse (lb 32 (nv x)) := ⟨_, rfl⟩
   rw [← h_qx] at Hv58
   have n_qx : List.length qx = 32 := by rw [h_qx]; exact (rev_len (lb_len _ _))
   refine then_normal ?_
   refine wp_seq ?_
   refine region_from ?_
   refine d_k [1,2,4,17] [] 1 En57 fun ac59 En60 => ?_
   refine f_o ?_
   refine m_a 0 5 4 (u64s y) En60 Hv58 rfl (by simp [u64s_lenh hx, u64s_lenh hy, List.drop_append, List.take_append, List.take_of_length_le]) (u64s_lenh hy) fun ac61 En62 => ?_
   refine f_o ?_
   refine c_p En62 Hv58 (rtobe_go _ y hy) fun ac67 wo64 En68 Hv69 => ?_
   refine f_o ?_
   refine m_z 41 (bys (List.replicate 32 0)) En68 Hv69 fun ac71 wo72 bk70 En73 Hv74 => ?_
   refine f_o ?_
   refine m_g 2 0 32 (bys (List.reverse (lb 32 (nv y)))) (bys (List.reverse (lb 32 (nv y)))) [.box bk1 (([.bool z] : List Value) ++ ((u64s x) ++ (u64s y))) 26, .box bk50 (bys qx) 41, .box bk70 (bys (List.reverse (lb 32 (nv y)))) 41] En73 Hv74 rfl (bys_lenh (rev_len (lb_len _ _))) (by rw [(bys_lenh (List.length_replicate))]; decide) (bys_one _) (store_whole (bys_lenh (List.length_replicate))) rfl fun ac75 wo76 En77 Hv78 => ?_
   refine f_e ?_
   obtain ⟨qy, h_qy⟩ : ∃ q : List UInt8, q = List.reverse (lb 32 (nv y)) := ⟨_, rfl⟩
   rw [← h_qy] at Hv78
   have n_qy : List.length qy = 32 := by rw [h_qy]; exact (rev_len (lb_len _ _))
   refine then_normal ?_
   refine wp_seq ?_
   refine r_c (fun ac wo => ∃ (ao207 : Option Addr) (cp208 : Nat), Env ac 25 [(1, pt bk1), (2, .slice ao207 (List.length (([(4 : UInt8)] ++ qx) ++ qy)) cp208), (4, pt bk50), (5, pt bk70)] ∧ Ev w [] wo [.box bk1 (([.bool z] : List Value) ++ ((u64s x) ++ (u64s y))) 26, .box bk50 (bys qx) 41, .box bk70 (bys qy) 41, .vec ao207 cp208 1 (bys (([(4 : UInt8)] ++ qx) ++ qy)) 5]) ?_ ?_
   ·
    refine h_s (fun wv => Ev w [] wv [.box bk50 (bys qx) 41, .box bk70 (bys qy) 41]) [] 6 ?_
    have wo79 := Hv78.trans (Ev.drew Hv78.heap)
    refine h_name fun G hG => ?_
    have nd300 : ∀ (ac : Act) (wo : World) (ao197 : Option Addr) (cp198 : Nat), Env ac 25 [(1, pt bk1), (2, .slice none 0 0), (4, pt bk50), (5, pt bk70), (22, .slice ao197 (List.length ([(4 : UInt8)] ++ qx)) cp198)] → Ev w [] wo [.box bk1 (([.bool z] : List Value) ++ ((u64s x) ++ (u64s y))) 26, .box bk50 (bys qx) 41, .box bk70 (bys qy) 41, .vec ao197 cp198 1 (bys ([(4 : UInt8)] ++ qx)) 5] → G 3 #[true, true, true, false, false, false] ac wo := by
     intro ac301 wo302 ao197 cp198 En303 Hv304
     refine h_from hG ?_
     refine q_t 3 ?_
     refine op_slicearr (d := some 23) (t := 41) (e := 5) (sz := 1) (m := 32) (lo := 0) (hi := 32) (b := bk70) (off := 0) (lov := none) (hiv := none) (o := 0) En303 (by kernel_rfl) (by kernel_rfl) (by kernel_rfl) (by omega) (by omega) (by omega) (.inl ⟨rfl, rfl⟩) (.inl ⟨rfl, rfl⟩) (by omega) ?_
     intro ac305 En306
     refine ⟨fun _ => Hv304.pk [1, 2], ?_⟩
     refine q_t 4 ?_
     refine op_append (d := some 24) (t := 46) (tx := 46) (ty := 46) (k := 3) (p := List.length ([(4 : UInt8)] ++ qx)) (m := 32) (x := .slice (some ⟨bk70, 0, none⟩) 32 32) (bytes := 1) En306 (by kernel_rfl) Hv304 rfl (bys_len _) (Reads.src (size := 1) (tx := 46) (e' := 5) (by kernel_rfl) (Hv304.heap.readsBox (k := 2) (m := 32) rfl (load_whole (bys_lenh n_qy))) (bys_lenn (by first | (rw [n_qy]) | (simp [n_qy]; done) | (simp [n_qy]; omega))) (fun e => by cases e) (bys_one _)) (by kernel_rfl) (z := .int .u8 0) (by kernel_rfl) rfl (by decide) (by first | omega | (simp; done) | (simp; omega)) (by unfold maxLen; first | omega | (simp; done) | (simp; omega)) ?_
     intro ac311 wo312 ao307 cp308 En313 Hv314 hnz _
     clear hnz
     rw [← bys_append] at Hv314
     have ehz309 : (List.length ([(4 : UInt8)] ++ qx)) + 32 = List.length (([(4 : UInt8)] ++ qx) ++ qy) := (by first | (simp; done) | (simp; omega) | omega)
     rw [ehz309] at En313
     refine ⟨fun _ => Hv314.pk [1, 2], ?_⟩
     refine q_s [5] [] 0 En313 (Hv314.pk [1, 2]) fun ac315 En316 => ?_
     exact h_e ⟨ao307, cp308, En316.sb, Hv314.pk [0, 1, 2, 3]⟩
    have nd317 : ∀ (ac : Act) (wo : World) (bk190 : Nat), Env ac 25 [(1, pt bk1), (2, .slice none 0 0), (4, pt bk50), (5, pt bk70), (20, .slice (some ⟨bk190, 0, none⟩) 1 1), (21, .slice (some ⟨bk50, 0, none⟩) 32 32), (23, .slice (some ⟨bk70, 0, none⟩) 32 32)] → Ev w [] wo [.box bk1 (([.bool z] : List Value) ++ ((u64s x) ++ (u64s y))) 26, .box bk50 (bys qx) 41, .box bk70 (bys qy) 41, .vec (some ⟨bk190, 0, none⟩) 1 1 (bys [(4 : UInt8)]) 5] → G 3 #[true, true, false, true, false, false] ac wo := by
     intro ac318 wo319 bk190 En320 Hv321
     refine h_from hG ?_
     refine q_t 2 ?_
     refine op_append (d := some 22) (t := 46) (tx := 46) (ty := 46) (k := 3) (p := 1) (m := 32) (x := .slice (some ⟨bk50, 0, none⟩) 32 32) (bytes := 1) En320 (by kernel_rfl) Hv321 rfl rfl (Reads.src (size := 1) (tx := 46) (e' := 5) (by kernel_rfl) (Hv321.heap.readsBox (k := 1) (m := 32) rfl (load_whole (bys_lenh n_qx))) (bys_lenn (by first | (rw [n_qx]) | (simp [n_qx]; done) | (simp [n_qx]; omega))) (fun e => by cases e) (bys_one _)) (by kernel_rfl) (z := .int .u8 0) (by kernel_rfl) rfl (by decide) (by first | omega | (simp; done) | (simp; omega)) (by unfold maxLen; first | omega | (simp; done) | (simp; omega)) ?_
     intro ac326 wo327 ao322 cp323 En328 Hv329 hnz _
     clear hnz
     rw [← bys_append] at Hv329
     have ehz324 : 1 + 32 = List.length ([(4 : UInt8)] ++ qx) := (by first | (simp; done) | (simp; omega) | omega)
     rw [ehz324] at En328
     refine ⟨fun _ => Hv329.pk [1, 2], ?_⟩
     refine q_t 4 ?_
     refine op_append (d := some 24) (t := 46) (tx := 46) (ty := 46) (k := 3) (p := List.length ([(4 : UInt8)] ++ qx)) (m := 32) (x := .slice (some ⟨bk70, 0, none⟩) 32 32) (bytes := 1) En328 (by kernel_rfl) Hv329 rfl (bys_len _) (Reads.src (size := 1) (tx := 46) (e' := 5) (by kernel_rfl) (Hv329.heap.readsBox (k := 2) (m := 32) rfl (load_whole (bys_lenh n_qy))) (bys_lenn (by first | (rw [n_qy]) | (simp [n_qy]; done) | (simp [n_qy]; omega))) (fun e => by cases e) (bys_one _)) (by kernel_rfl) (z := .int .u8 0) (by kernel_rfl) rfl (by decide) (by first | omega | (simp; done) | (simp; omega)) (by unfold maxLen; first | omega | (simp; done) | (simp; omega)) ?_
     intro ac334 wo335 ao330 cp331 En336 Hv337 hnz _
     clear hnz
     rw [← bys_append] at Hv337
     have ehz332 : (List.length ([(4 : UInt8)] ++ qx)) + 32 = List.length (([(4 : UInt8)] ++ qx) ++ qy) := (by first | (simp; done) | (simp; omega) | omega)
     rw [ehz332] at En336
     refine ⟨fun _ => Hv337.pk [1, 2], ?_⟩
     refine q_s [5] [] 0 En336 (Hv337.pk [1, 2]) fun ac338 En339 => ?_
     exact h_e ⟨ao330, cp331, En339.sb, Hv337.pk [0, 1, 2, 3]⟩
    have nd340 : ∀ (ac : Act) (wo : World) (bk190 : Nat), Env ac 25 [(1, pt bk1), (2, .slice none 0 0), (4, pt bk50), (5, pt bk70), (20, .slice (some ⟨bk190, 0, none⟩) 1 1), (21, .slice (some ⟨bk50, 0, none⟩) 32 32)] → Ev w [] wo [.box bk1 (([.bool z] : List Value) ++ ((u64s x) ++ (u64s y))) 26, .box bk50 (bys qx) 41, .box bk70 (bys qy) 41, .vec (some ⟨bk190, 0, none⟩) 1 1 (bys [(4 : UInt8)]) 5] → G 4 #[true, true, false, false, false, false] ac wo := by
     intro ac341 wo342 bk190 En343 Hv344
     refine h_from hG ?_
     refine h_ways [2, 3] (by kernel_rfl) rfl ?_
     refine ⟨?_, ?_, trivial⟩
     ·
      rintro _ rfl
      refine op_append (d := some 22) (t := 46) (tx := 46) (ty := 46) (k := 3) (p := 1) (m := 32) (x := .slice (some ⟨bk50, 0, none⟩) 32 32) (bytes := 1) En343 (by kernel_rfl) Hv344 rfl rfl (Reads.src (size := 1) (tx := 46) (e' := 5) (by kernel_rfl) (Hv344.heap.readsBox (k := 1) (m := 32) rfl (load_whole (bys_lenh n_qx))) (bys_lenn (by first | (rw [n_qx]) | (simp [n_qx]; done) | (simp [n_qx]; omega))) (fun e => by cases e) (bys_one _)) (by kernel_rfl) (z := .int .u8 0) (by kernel_rfl) rfl (by decide) (by first | omega | (simp; done) | (simp; omega)) (by unfold maxLen; first | omega | (simp; done) | (simp; omega)) ?_
      intro ac349 wo350 ao345 cp346 En351 Hv352 hnz _
      clear hnz
      rw [← bys_append] at Hv352
      have ehz347 : 1 + 32 = List.length ([(4 : UInt8)] ++ qx) := (by first | (simp; done) | (simp; omega) | omega)
      rw [ehz347] at En351
      refine ⟨fun _ => Hv352.pk [1, 2], ?_⟩
      exact h_to hG (by kernel_rfl) (nd300 _ _ ao345 cp346 (En351.sb) (Hv352.pk [0, 1, 2, 3]))
     ·
      rintro _ rfl
      refine op_slicearr (d := some 23) (t := 41) (e := 5) (sz := 1) (m := 32) (lo := 0) (hi := 32) (b := bk70) (off := 0) (lov := none) (hiv := none) (o := 0) En343 (by kernel_rfl) (by kernel_rfl) (by kernel_rfl) (by omega) (by omega) (by omega) (.inl ⟨rfl, rfl⟩) (.inl ⟨rfl, rfl⟩) (by omega) ?_
      intro ac353 En354
      refine ⟨fun _ => Hv344.pk [1, 2], ?_⟩
      exact h_to hG (by kernel_rfl) (nd317 _ _ bk190 (En354.sb) (Hv344.pk [0, 1, 2, 3]))
    have nd355 : ∀ (ac : Act) (wo : World) (bk190 : Nat), Env ac 25 [(1, pt bk1), (2, .slice none 0 0), (4, pt bk50), (5, pt bk70), (20, .slice (some ⟨bk190, 0, none⟩) 1 1), (23, .slice (some ⟨bk70, 0, none⟩) 32 32)] → Ev w [] wo [.box bk1 (([.bool z] : List Value) ++ ((u64s x) ++ (u64s y))) 26, .box bk50 (bys qx) 41, .box bk70 (bys qy) 41, .vec (some ⟨bk190, 0, none⟩) 1 1 (bys [(4 : UInt8)]) 5] → G 4 #[true, false, false, true, false, false] ac wo := by
     intro ac356 wo357 bk190 En358 Hv359
     refine h_from hG ?_
     refine q_t 1 ?_
     refine op_slicearr (d := some 21) (t := 41) (e := 5) (sz := 1) (m := 32) (lo := 0) (hi := 32) (b := bk50) (off := 0) (lov := none) (hiv := none) (o := 0) En358 (by kernel_rfl) (by kernel_rfl) (by kernel_rfl) (by omega) (by omega) (by omega) (.inl ⟨rfl, rfl⟩) (.inl ⟨rfl, rfl⟩) (by omega) ?_
     intro ac360 En361
     refine ⟨fun _ => Hv359.pk [1, 2], ?_⟩
     refine q_t 2 ?_
     refine op_append (d := some 22) (t := 46) (tx := 46) (ty := 46) (k := 3) (p := 1) (m := 32) (x := .slice (some ⟨bk50, 0, none⟩) 32 32) (bytes := 1) En361 (by kernel_rfl) Hv359 rfl rfl (Reads.src (size := 1) (tx := 46) (e' := 5) (by kernel_rfl) (Hv359.heap.readsBox (k := 1) (m := 32) rfl (load_whole (bys_lenh n_qx))) (bys_lenn (by first | (rw [n_qx]) | (simp [n_qx]; done) | (simp [n_qx]; omega))) (fun e => by cases e) (bys_one _)) (by kernel_rfl) (z := .int .u8 0) (by kernel_rfl) rfl (by decide) (by first | omega | (simp; done) | (simp; omega)) (by unfold maxLen; first | omega | (simp; done) | (simp; omega)) ?_
     intro ac366 wo367 ao362 cp363 En368 Hv369 hnz _
     clear hnz
     rw [← bys_append] at Hv369
     have ehz364 : 1 + 32 = List.length ([(4 : UInt8)] ++ qx) := (by first | (simp; done) | (simp; omega) | omega)
     rw [ehz364] at En368
     refine ⟨fun _ => Hv369.pk [1, 2], ?_⟩
     refine q_t 4 ?_
     refine op_append (d := some 24) (t := 46) (tx := 46) (ty := 46) (k := 3) (p := List.length ([(4 : UInt8)] ++ qx)) (m := 32) (x := .slice (some ⟨bk70, 0, none⟩) 32 32) (bytes := 1) En368 (by kernel_rfl) Hv369 rfl (bys_len _) (Reads.src (size := 1) (tx := 46) (e' := 5) (by kernel_rfl) (Hv369.heap.readsBox (k := 2) (m := 32) rfl (load_whole (bys_lenh n_qy))) (bys_lenn (by first | (rw [n_qy]) | (simp [n_qy]; done) | (simp [n_qy]; omega))) (fun e => by cases e) (bys_one _)) (by kernel_rfl) (z := .int .u8 0) (by kernel_rfl) rfl (by decide) (by first | omega | (simp; done) | (simp; omega)) (by unfold maxLen; first | omega | (simp; done) | (simp; omega)) ?_
     intro ac374 wo375 ao370 cp371 En376 Hv377 hnz _
     clear hnz
     rw [← bys_append] at Hv377
     have ehz372 : (List.length ([(4 : UInt8)] ++ qx)) + 32 = List.length (([(4 : UInt8)] ++ qx) ++ qy) := (by first | (simp; done) | (simp; omega) | omega)
     rw [ehz372] at En376
     refine ⟨fun _ => Hv377.pk [1, 2], ?_⟩
     refine q_s [5] [] 0 En376 (Hv377.pk [1, 2]) fun ac378 En379 => ?_
     exact h_e ⟨ao370, cp371, En379.sb, Hv377.pk [0, 1, 2, 3]⟩
    have nd380 : ∀ (ac : Act) (wo : World), Env ac 25 [(1, pt bk1), (2, .slice none 0 0), (4, pt bk50), (5, pt bk70), (21, .slice (some ⟨bk50, 0, none⟩) 32 32), (23, .slice (some ⟨bk70, 0, none⟩) 32 32)] → Ev w [] wo [.box bk1 (([.bool z] : List Value) ++ ((u64s x) ++ (u64s y))) 26, .box bk50 (bys qx) 41, .box bk70 (bys qy) 41] → G 4 #[false, true, false, true, false, false] ac wo := by
     intro ac381 wo382 En383 Hv384
     refine h_from hG ?_
     refine q_t 0 ?_
     refine op_lit (d := some 20) (t := 46) (T := 5) (m := 1) (parts := #[(0, .int .u8 4)]) (xs := bys [(4 : UInt8)]) (sz := 1) En383 (by kernel_rfl) (by kernel_rfl) rfl (by decide) Hv384 ?_
     intro ac386 wo387 bk385 En388 Hv389
     refine ⟨fun _ => Hv389.pk [1, 2], ?_⟩
     refine q_t 2 ?_
     refine op_append (d := some 22) (t := 46) (tx := 46) (ty := 46) (k := 3) (p := 1) (m := 32) (x := .slice (some ⟨bk50, 0, none⟩) 32 32) (bytes := 1) En388 (by kernel_rfl) Hv389 rfl rfl (Reads.src (size := 1) (tx := 46) (e' := 5) (by kernel_rfl) (Hv389.heap.readsBox (k := 1) (m := 32) rfl (load_whole (bys_lenh n_qx))) (bys_lenn (by first | (rw [n_qx]) | (simp [n_qx]; done) | (simp [n_qx]; omega))) (fun e => by cases e) (bys_one _)) (by kernel_rfl) (z := .int .u8 0) (by kernel_rfl) rfl (by decide) (by first | omega | (simp; done) | (simp; omega)) (by unfold maxLen; first | omega | (simp; done) | (simp; omega)) ?_
     intro ac394 wo395 ao390 cp391 En396 Hv397 hnz _
     clear hnz
     rw [← bys_append] at Hv397
     have ehz392 : 1 + 32 = List.length ([(4 : UInt8)] ++ qx) := (by first | (simp; done) | (simp; omega) | omega)
     rw [ehz392] at En396
     refine ⟨fun _ => Hv397.pk [1, 2], ?_⟩
     refine q_t 4 ?_
     refine op_append (d := some 24) (t := 46) (tx := 46) (ty := 46) (k := 3) (p := List.length ([(4 : UInt8)] ++ qx)) (m := 32) (x := .slice (some ⟨bk70, 0, none⟩) 32 32) (bytes := 1) En396 (by kernel_rfl) Hv397 rfl (bys_len _) (Reads.src (size := 1) (tx := 46) (e' := 5) (by kernel_rfl) (Hv397.heap.readsBox (k := 2) (m := 32) rfl (load_whole (bys_lenh n_qy))) (bys_lenn (by first | (rw [n_qy]) | (simp [n_qy]; done) | (simp [n_qy]; omega))) (fun e => by cases e) (bys_one _)) (by kernel_rfl) (z := .int .u8 0) (by kernel_rfl) rfl (by decide) (by first | omega | (simp; done) | (simp; omega)) (by unfold maxLen; first | omega | (simp; done) | (simp; omega)) ?_
     intro ac402 wo403 ao398 cp399 En404 Hv405 hnz _
     clear hnz
     rw [← bys_append] at Hv405
     have ehz400 : (List.length ([(4 : UInt8)] ++ qx)) + 32 = List.length (([(4 : UInt8)] ++ qx) ++ qy) := (by first | (simp; done) | (simp; omega) | omega)
     rw [ehz400] at En404
     refine ⟨fun _ => Hv405.pk [1, 2], ?_⟩
     refine q_s [5] [] 0 En404 (Hv405.pk [1, 2]) fun ac406 En407 => ?_
     exact h_e ⟨ao398, cp399, En407.sb, Hv405.pk [0, 1, 2, 3]⟩
    have nd408 : ∀ (ac : Act) (wo : World) (bk190 : Nat), Env ac 25 [(1, pt bk1), (2, .slice none 0 0), (4, pt bk50), (5, pt bk70), (20, .slice (some ⟨bk190, 0, none⟩) 1 1)] → Ev w [] wo [.box bk1 (([.bool z] : List Value) ++ ((u64s x) ++ (u64s y))) 26, .box bk50 (bys qx) 41, .box bk70 (bys qy) 41, .vec (some ⟨bk190, 0, none⟩) 1 1 (bys [(4 : UInt8)]) 5] → G 5 #[true, false, false, false, false, false] ac wo := by
     intro ac409 wo410 bk190 En411 Hv412
     refine h_from hG ?_
     refine h_ways [1, 3] (by kernel_rfl) rfl ?_
     refine ⟨?_, ?_, trivial⟩
     ·
      rintro _ rfl
      refine op_slicearr (d := some 21) (t := 41) (e := 5) (sz := 1) (m := 32) (lo := 0) (hi := 32) (b := bk50) (off := 0) (lov := none) (hiv := none) (o := 0) En411 (by kernel_rfl) (by kernel_rfl) (by kernel_rfl) (by omega) (by omega) (by omega) (.inl ⟨rfl, rfl⟩) (.inl ⟨rfl, rfl⟩) (by omega) ?_
      intro ac413 En414
      refine ⟨fun _ => Hv412.pk [1, 2], ?_⟩
      exact h_to hG (by kernel_rfl) (nd340 _ _ bk190 (En414.sb) (Hv412.pk [0, 1, 2, 3]))
     ·
      rintro _ rfl
      refine op_slicearr (d := some 23) (t := 41) (e := 5) (sz := 1) (m := 32) (lo := 0) (hi := 32) (b := bk70) (off := 0) (lov := none) (hiv := none) (o := 0) En411 (by kernel_rfl) (by kernel_rfl) (by kernel_rfl) (by omega) (by omega) (by omega) (.inl ⟨rfl, rfl⟩) (.inl ⟨rfl, rfl⟩) (by omega) ?_
      intro ac415 En416
      refine ⟨fun _ => Hv412.pk [1, 2], ?_⟩
      exact h_to hG (by kernel_rfl) (nd355 _ _ bk190 (En416.sb) (Hv412.pk [0, 1, 2, 3]))
    have nd417 : ∀ (ac : Act) (wo : World), Env ac 25 [(1, pt bk1), (2, .slice none 0 0), (4, pt bk50), (5, pt bk70), (21, .slice (some ⟨bk50, 0, none⟩) 32 32)] → Ev w [] wo [.box bk1 (([.bool z] : List Value) ++ ((u64s x) ++ (u64s y))) 26, .box bk50 (bys qx) 41, .box bk70 (bys qy) 41] → G 5 #[false, true, false, false, false, false] ac wo := by
     intro ac418 wo419 En420 Hv421
     refine h_from hG ?_
     refine h_ways [0, 3] (by kernel_rfl) rfl ?_
     refine ⟨?_, ?_, trivial⟩
     ·
      rintro _ rfl
      refine op_lit (d := some 20) (t := 46) (T := 5) (m := 1) (parts := #[(0, .int .u8 4)]) (xs := bys [(4 : UInt8)]) (sz := 1) En420 (by kernel_rfl) (by kernel_rfl) rfl (by decide) Hv421 ?_
      intro ac423 wo424 bk422 En425 Hv426
      refine ⟨fun _ => Hv426.pk [1, 2], ?_⟩
      exact h_to hG (by kernel_rfl) (nd340 _ _ bk422 (En425.sb) (Hv426.pk [0, 1, 2, 3]))
     ·
      rintro _ rfl
      refine op_slicearr (d := some 23) (t := 41) (e := 5) (sz := 1) (m := 32) (lo := 0) (hi := 32) (b := bk70) (off := 0) (lov := none) (hiv := none) (o := 0) En420 (by kernel_rfl) (by kernel_rfl) (by kernel_rfl) (by omega) (by omega) (by omega) (.inl ⟨rfl, rfl⟩) (.inl ⟨rfl, rfl⟩) (by omega) ?_
      intro ac427 En428
      refine ⟨fun _ => Hv421.pk [1, 2], ?_⟩
      exact h_to hG (by kernel_rfl) (nd380 _ _ (En428.sb) (Hv421.pk [0, 1, 2]))
    have nd429 : ∀ (ac : Act) (wo : World), Env ac 25 [(1, pt bk1), (2, .slice none 0 0), (4, pt bk50), (5, pt bk70), (23, .slice (some ⟨bk70, 0, none⟩) 32 32)] → Ev w [] wo [.box bk1 (([.bool z] : List Value) ++ ((u64s x) ++ (u64s y))) 26, .box bk50 (bys qx) 41, .box bk70 (bys qy) 41] → G 5 #[false, false, false, true, false, false] ac wo := by
     intro ac430 wo431 En432 Hv433
     refine h_from hG ?_
     refine h_ways [0, 1] (by kernel_rfl) rfl ?_
     refine ⟨?_, ?_, trivial⟩
     ·
      rintro _ rfl
      refine op_lit (d := some 20) (t := 46) (T := 5) (m := 1) (parts := #[(0, .int .u8 4)]) (xs := bys [(4 : UInt8)]) (sz := 1) En432 (by kernel_rfl) (by kernel_rfl) rfl (by decide) Hv433 ?_
      intro ac435 wo436 bk434 En437 Hv438
      refine ⟨fun _ => Hv438.pk [1, 2], ?_⟩
      exact h_to hG (by kernel_rfl) (nd355 _ _ bk434 (En437.sb) (Hv438.pk [0, 1, 2, 3]))
     ·
      rintro _ rfl
      refine op_slicearr (d := some 21) (t := 41) (e := 5) (sz := 1) (m := 32) (lo := 0) (hi := 32) (b := bk50) (off := 0) (lov := none) (hiv := none) (o := 0) En432 (by kernel_rfl) (by kernel_rfl) (by kernel_rfl) (by omega) (by omega) (by omega) (.inl ⟨rfl, rfl⟩) (.inl ⟨rfl, rfl⟩) (by omega) ?_
      intro ac439 En440
      refine ⟨fun _ => Hv433.pk [1, 2], ?_⟩
      exact h_to hG (by kernel_rfl) (nd380 _ _ (En440.sb) (Hv433.pk [0, 1, 2]))
    refine h_from hG ?_
    refine h_ways [0, 1, 3] (by kernel_rfl) rfl ?_
    refine ⟨?_, ?_, ?_, trivial⟩
    ·
     rintro _ rfl
     refine op_lit (d := some 20) (t := 46) (T := 5) (m := 1) (parts := #[(0, .int .u8 4)]) (xs := bys [(4 : UInt8)]) (sz := 1) En77 (by kernel_rfl) (by kernel_rfl) rfl (by decide) wo79 ?_
     intro ac442 wo443 bk441 En444 Hv445
     refine ⟨fun _ => Hv445.pk [1, 2], ?_⟩
     exact h_to hG (by kernel_rfl) (nd408 _ _ bk441 (En444.sb) (Hv445.pk [0, 1, 2, 3]))
    ·
     rintro _ rfl
     refine op_slicearr (d := some 21) (t := 41) (e := 5) (sz := 1) (m := 32) (lo := 0) (hi := 32) (b := bk50) (off := 0) (lov := none) (hiv := none) (o := 0) En77 (by kernel_rfl) (by kernel_rfl) (by kernel_rfl) (by omega) (by omega) (by omega) (.inl ⟨rfl, rfl⟩) (.inl ⟨rfl, rfl⟩) (by omega) ?_
     intro ac446 En447
     refine ⟨fun _ => wo79.pk [1, 2], ?_⟩
     exact h_to hG (by kernel_rfl) (nd417 _ _ (En447.sb) (wo79.pk [0, 1, 2]))
    ·
     rintro _ rfl
     refine op_slicearr (d := some 23) (t := 41) (e := 5) (sz := 1) (m := 32) (lo := 0) (hi := 32) (b := bk70) (off := 0) (lov := none) (hiv := none) (o := 0) En77 (by kernel_rfl) (by kernel_rfl) (by kernel_rfl) (by omega) (by omega) (by omega) (.inl ⟨rfl, rfl⟩) (.inl ⟨rfl, rfl⟩) (by omega) ?_
     intro ac448 En449
     refine ⟨fun _ => wo79.pk [1, 2], ?_⟩
     exact h_to hG (by kernel_rfl) (nd429 _ _ (En449.sb) (wo79.pk [0, 1, 2]))
   rintro ac450 wo451 ⟨ao207, cp208, En452, Hv453⟩
   refine then_normal ?_
   refine wp_ret ?_
   refine d_ret1 (t := 2) (v := .slice ao207 (List.length (([(4 : UInt8)] ++ qx) ++ qy)) cp208) En452 (by kernel_rfl) (by kernel_rfl) ?_
   have e : encL z x y = ([(4 : UInt8)] ++ qx) ++ qy := by rw [h_qx, h_qy]; exact enc_yes (by assumption) (by assumption)
   rw [e]
   exact ⟨ao207, cp208, rfl, Hv453.pk [3]⟩

theorem dec_go (w : World) (aq : Option Addr) (nq cq : Nat) (lq : List UInt8) (eq : nq = List.length lq) (iq : InB w [] aq cq lq) : Calls Try.prog 24 #[.slice aq nq cq] w fun e w' => e = .returned (.tuple #[.agg (List.toArray (([.bool (((decN lq).1).1)] : List Value) ++ ((u64s (((decN lq).1).2.1)) ++ (u64s (((decN lq).1).2.2))))), .int .i64 ((decN lq).2)]) ∧ Ev w [] w' [] := by
 subst eq
 refine d_0 [(0, .slice aq (List.length lq) cq)] 31 Go.Proofs.Try.func24 Go.Proofs.Try.ntmps24 (Heap.nil _) fun act0 En0 Hv0 => ?_
 refine wp_seq ?_
 refine region_from ?_
 refine f_o ?_
 refine m_z 26 (([.bool false] : List Value) ++ ((u64s (List.replicate 4 0)) ++ (u64s (List.replicate 4 0)))) En0 Hv0 fun ac2 wo3 bk1 En4 Hv5 => ?_
 refine d_e [0,2,3] [] En4 fun ac6 En7 => ?_
 refine then_normal ?_
 refine wp_seq ?_
 refine wp_seq ?_
 refine region_from ?_
 refine d_k [0,2,3,8] [] 4 En7 fun ac8 En9 => ?_
 rcases Bool.eq_false_or_eq_true (((List.length lq : Nat) : Int) != (65 : Int)) with hb10 | hb10
 ·
  have En11 := En9.fx (t := 8) (congrArg Value.bool hb10)
  have hp12 : ¬ (((List.length lq : Nat) : Int) = (65 : Int)) := by simpa using hb10
  refine d_e [0,2,3,13] [] En11 fun ac13 En14 => ?_
  refine then_normal ?_
  refine c_t En14 ?_
  refine wp_seq ?_
  refine region_from ?_
  refine f_o ?_
  refine q_v (x := Instr.build 26 #[]) (v := .agg (List.toArray (([.bool false] : List Value) ++ ((u64s (List.replicate 4 0)) ++ (u64s (List.replicate 4 0)))))) En14 (Go.Dbr.run_built [(0, 1), (1, 4), (5, 4)] [⟨1, [.bool false], none⟩, ⟨4, u64s (List.replicate 4 0), none⟩, ⟨4, u64s (List.replicate 4 0), none⟩] (fb_n rfl (fb_n (u64s_lenh (List.length_replicate)) (fb_n (u64s_lenh (List.length_replicate)) trivial))) _) fun ac15 En16 => ?_
  refine f_o ?_
  refine m_g 0 0 9 (([.bool false] : List Value) ++ ((u64s (List.replicate 4 0)) ++ (u64s (List.replicate 4 0)))) (([.bool false] : List Value) ++ ((u64s (List.replicate 4 0)) ++ (u64s (List.replicate 4 0)))) [.box bk1 (([.bool false] : List Value) ++ ((u64s (List.replicate 4 0)) ++ (u64s (List.replicate 4 0)))) 26] En16 Hv5 rfl (len_app rfl (len_app (u64s_lenh (List.length_replicate)) (u64s_lenh (List.length_replicate)))) (by rw [(len_app rfl (len_app (u64s_lenh (List.length_replicate)) (u64s_lenh (List.length_replicate))))]; decide) (one_app (one_all (by kernel_rfl)) (one_app (u64s_one _) (u64s_one _))) (store_whole (len_app rfl (len_app (u64s_lenh (List.length_replicate)) (u64s_lenh (List.length_replicate))))) rfl fun ac17 wo18 En19 Hv20 => ?_
  refine d_e [0,2,3] [] En19 fun ac21 En22 => ?_
  refine then_normal ?_
  refine wp_ret ?_
  refine then_ret ?_
  refine d_cell_tmp (v := .agg (List.toArray (([.bool false] : List Value) ++ ((u64s (List.replicate 4 0)) ++ (u64s (List.replicate 4 0)))))) (x := .int .i64 131) (t := 2) (T := 26) (ad := ⟨bk1, 0, none⟩) (u := 3) En22 (by kernel_rfl) (by kernel_rfl) (Ev.cellAgg (t := 26) (k := 0) (off := 0) (m := 9) (xs := ([.bool false] : List Value) ++ ((u64s (List.replicate 4 0)) ++ (u64s (List.replicate 4 0)))) Hv20 rfl (load_whole (len_app rfl (len_app (u64s_lenh (List.length_replicate)) (u64s_lenh (List.length_replicate))))) (len_app rfl (len_app (u64s_lenh (List.length_replicate)) (u64s_lenh (List.length_replicate)))) (by kernel_rfl) (by kernel_rfl)) (by kernel_rfl) ?_
  exact ⟨ret_dec (a := (emptyP, 131)) (by first | exact dec_no1 (by omega) | exact dec_no2 (by assumption) | exact dec_no3 (by omega) (by assumption) (by assumption)), Hv20.pk []⟩
 ·
  have En23 := En9.fx (t := 8) (congrArg Value.bool hb10)
  have hp24 : ((List.length lq : Nat) : Int) = (65 : Int) := by simpa using hb10
  have hb27 : 0 < List.length lq := (by omega)
  obtain ⟨adr25, had26⟩ := some_of iq.nz hb27
  refine d_k [0,2,3,8,9] [] 5 En23 fun ac28 En29 => ?_
  refine f_o ?_
  refine q_v (x := Instr.indexAt 46 (.slice aq (List.length lq) cq) (.int .i64 0)) (v := .pointer (some (Addr.add adr25 0))) En29 (Go.Dbr.run_indexsl (e := 5) (sz := 1) (j := 0) (jo := 0) had26 (by kernel_rfl) (by kernel_rfl) (by omega) hb27 (Nat.mul_one _) _) fun ac30 En31 => ?_
  refine f_o ?_
  have hb32 : 0 < List.length lq := by omega
  refine op_loadel (d := some 11) (t := 5) (ad := adr25) (ao := aq) (xs := bys lq) (j := 0) (v := bv (List.getD lq 0 0)) En31 (by kernel_rfl) (iq.ev Hv5).reads had26 (bys_getD hb32) (by kernel_rfl) ?_
  intro ac33 En34
  refine d_e [0,2,3,13] [] En34 fun ac35 En36 => ?_
  refine then_normal ?_
  refine c_n ((UInt8.toNat (List.getD lq 0 0) : Nat) : Int) (4 : Int) En36 (fun hc37 => ?_) (fun hc37 => ?_)
  ·
   refine wp_seq ?_
   refine region_from ?_
   refine f_o ?_
   refine q_v (x := Instr.build 26 #[]) (v := .agg (List.toArray (([.bool false] : List Value) ++ ((u64s (List.replicate 4 0)) ++ (u64s (List.replicate 4 0)))))) En36 (Go.Dbr.run_built [(0, 1), (1, 4), (5, 4)] [⟨1, [.bool false], none⟩, ⟨4, u64s (List.replicate 4 0), none⟩, ⟨4, u64s (List.replicate 4 0), none⟩] (fb_n rfl (fb_n (u64s_lenh (List.length_replicate)) (fb_n (u64s_lenh (List.length_replicate)) trivial))) _) fun ac38 En39 => ?_
   refine f_o ?_
   refine m_g 0 0 9 (([.bool false] : List Value) ++ ((u64s (List.replicate 4 0)) ++ (u64s (List.replicate 4 0)))) (([.bool false] : List Value) ++ ((u64s (List.replicate 4 0)) ++ (u64s (List.replicate 4 0)))) [.box bk1 (([.bool false] : List Value) ++ ((u64s (List.replicate 4 0)) ++ (u64s (List.replicate 4 0)))) 26] En39 Hv5 rfl (len_app rfl (len_app (u64s_lenh (List.length_replicate)) (u64s_lenh (List.length_replicate)))) (by rw [(len_app rfl (len_app (u64s_lenh (List.length_replicate)) (u64s_lenh (List.length_replicate))))]; decide) (one_app (one_all (by kernel_rfl)) (one_app (u64s_one _) (u64s_one _))) (store_whole (len_app rfl (len_app (u64s_lenh (List.length_replicate)) (u64s_lenh (List.length_replicate))))) rfl fun ac40 wo41 En42 Hv43 => ?_
   refine d_e [0,2,3] [] En42 fun ac44 En45 => ?_
   refine then_normal ?_
   refine wp_ret ?_
   refine then_ret ?_
   refine d_cell_tmp (v := .agg (List.toArray (([.bool false] : List Value) ++ ((u64s (List.replicate 4 0)) ++ (u64s (List.replicate 4 0)))))) (x := .int .i64 131) (t := 2) (T := 26) (ad := ⟨bk1, 0, none⟩) (u := 3) En45 (by kernel_rfl) (by kernel_rfl) (Ev.cellAgg (t := 26) (k := 0) (off := 0) (m := 9) (xs := ([.bool false] : List Value) ++ ((u64s (List.replicate 4 0)) ++ (u64s (List.replicate 4 0)))) Hv43 rfl (load_whole (len_app rfl (len_app (u64s_lenh (List.length_replicate)) (u64s_lenh (List.length_replicate))))) (len_app rfl (len_app (u64s_lenh (List.length_replicate)) (u64s_lenh (List.length_replicate)))) (by kernel_rfl) (by kernel_rfl)) (by kernel_rfl) ?_
   exact ⟨ret_dec (a := (emptyP, 131)) (by first | exact dec_no1 (by omega) | exact dec_no2 (by assumption) | exact dec_no3 (by omega) (by assumption) (by assumption)), Hv43.pk []⟩
  ·
   refine wp_skip ?_
   refine then_normal ?_
   refine wp_seq ?_
   have hcq := iq.cap
   have hl65 : List.length lq = 65 := by omega
   obtain ⟨ad1, had1⟩ : ∃ ad, cutAt aq cq 1 1 = some ad := some_of (m := List.length lq) (j := 0) (fun e => cut_nz iq.nz e id) (by omega)
   obtain ⟨ad33, had33⟩ : ∃ ad, cutAt aq cq 33 1 = some ad := some_of (m := List.length lq) (j := 0) (fun e => cut_nz iq.nz e id) (by omega)
   refine r_c (fun ac wo => ∃ (bk127 : Nat), Env ac 31 [(0, .slice aq (List.length lq) cq), (2, pt bk1), (3, .int .i64 0), (4, pt bk127)] ∧ Ev w [] wo [.box bk1 (([.bool false] : List Value) ++ ((u64s (List.replicate 4 0)) ++ (u64s (List.replicate 4 0)))) 26, .box bk127 (([.bool false] : List Value) ++ ((u64s (nd (lv (List.reverse (List.take 32 (List.take (33 - 1) (List.drop 1 lq))))))) ++ (u64s (nd (lv (List.reverse (List.take 32 (List.drop 33 lq)))))))) 26]) ?_ ?_
   ·
    refine s_g1 [(0, .slice aq (List.length lq) cq), (2, pt bk1), (3, .int .i64 0)] [0,1,2,3,4,5,6,7,8,9,10] [(15, .slice aq (List.length lq) cq), (16, .slice (cutAt aq cq 1 1) (33 - 1) (cq - 1)), (17, .pointer (some ad1)), (18, .agg (List.toArray (bys (List.take 32 (List.take (33 - 1) (List.drop 1 lq)))))), (19, .agg (List.toArray (u64s (nd (lv (List.reverse (List.take 32 (List.take (33 - 1) (List.drop 1 lq))))))))), (20, .slice aq (List.length lq) cq), (21, .slice (cutAt aq cq 33 1) ((List.length lq) - 33) (cq - 33)), (22, .pointer (some ad33)), (23, .agg (List.toArray (bys (List.take 32 (List.drop 33 lq))))), (24, .agg (List.toArray (u64s (nd (lv (List.reverse (List.take 32 (List.drop 33 lq)))))))), (25, .agg (List.toArray (([.bool false] : List Value) ++ ((u64s (nd (lv (List.reverse (List.take 32 (List.take (33 - 1) (List.drop 1 lq))))))) ++ (u64s (nd (lv (List.reverse (List.take 32 (List.drop 33 lq))))))))))] 1 [(0, .slice aq (List.length lq) cq), (2, pt bk1), (3, .int .i64 0), (25, .agg (List.toArray (([.bool false] : List Value) ++ ((u64s (nd (lv (List.reverse (List.take 32 (List.take (33 - 1) (List.drop 1 lq))))))) ++ (u64s (nd (lv (List.reverse (List.take 32 (List.drop 33 lq))))))))))] 11 (([.bool false] : List Value) ++ ((u64s (List.replicate 4 0)) ++ (u64s (List.replicate 4 0)))) (En36.sb) (Hv5.trans (Ev.drew Hv5.heap)) ?_ fun ac123 wo124 bk127 En125 Hv126 => ?_
    ·
     refine s_p [] ?_
     refine s_c (fun Mx46 ac47 wo48 En49 Hv50 => ?_) ?_
     ·
      have hcap51 := iq.cap
      refine op_slice (d := some 16) (t := 46) (e := 5) (sz := 1) (len := List.length lq) (cap := cq) (lo := 1) (hi := 33) (ao := aq) (lov := (some (.int .i64 1))) (hiv := (some (.int .i64 33))) En49 (by kernel_rfl) (by kernel_rfl) (by kernel_rfl) (by omega) (by omega) (.inr ⟨.i64, rfl⟩) (.inr ⟨.i64, rfl⟩) ?_
      intro ac52 En53
      exact s_e En53 Hv50
     refine s_c (fun Mx57 ac58 wo59 En60 Hv61 => ?_) ?_
     ·
      refine q_v (x := Instr.arrayAt 41 (.slice (cutAt aq cq 1 1) (33 - 1) (cq - 1))) (v := .pointer (some ad1)) En60 (Go.Dbr.run_toarr2 (e := 5) (m := 32) (by kernel_rfl) had1 (by omega) _) fun ac62 En63 => ?_
      exact s_e En63 Hv61
     refine s_c (fun Mx64 ac65 wo66 En67 Hv68 => ?_) ?_
     ·
      have hb69 : 32 ≤ List.length (List.take (33 - 1) (List.drop 1 lq)) := by first | omega | (simp; omega)
      refine op_loadaggat (d := some 18) (t := 41) (ad := ad1) (ao := cutAt aq cq 1 1) (ys := bys (List.take (33 - 1) (List.drop 1 lq))) (o := 0) (m := 32) (xs := bys (List.take 32 (List.take (33 - 1) (List.drop 1 lq)))) En67 (by kernel_rfl) (add0 _) (bys_cut_reads (iq.ev Hv68).reads (n := (List.length lq)) cq 1 33 (by simp) (by omega) (by omega) (by omega)) had1 bys_pre (bys_prel hb69) (by kernel_rfl) (by kernel_rfl) ?_
      intro ac70 En71
      exact s_e En71 Hv68
     refine s_f (fun _ => frombe_go _ (List.take 32 (List.take (33 - 1) (List.drop 1 lq))) (by first | (simp; omega) | (rw [List.length_take]; omega))) ?_
     refine s_p [] ?_
     refine s_c (fun Mx81 ac82 wo83 En84 Hv85 => ?_) ?_
     ·
      have hcap86 := iq.cap
      refine op_slice (d := some 21) (t := 46) (e := 5) (sz := 1) (len := List.length lq) (cap := cq) (lo := 33) (hi := List.length lq) (ao := aq) (lov := (some (.int .i64 33))) (hiv := none) En84 (by kernel_rfl) (by kernel_rfl) (by kernel_rfl) (by omega) (by omega) (.inr ⟨.i64, rfl⟩) (.inl ⟨rfl, rfl⟩) ?_
      intro ac87 En88
      exact s_e En88 Hv85
     refine s_c (fun Mx92 ac93 wo94 En95 Hv96 => ?_) ?_
     ·
      refine q_v (x := Instr.arrayAt 41 (.slice (cutAt aq cq 33 1) ((List.length lq) - 33) (cq - 33))) (v := .pointer (some ad33)) En95 (Go.Dbr.run_toarr2 (e := 5) (m := 32) (by kernel_rfl) had33 (by omega) _) fun ac97 En98 => ?_
      exact s_e En98 Hv96
     refine s_c (fun Mx99 ac100 wo101 En102 Hv103 => ?_) ?_
     ·
      have hb104 : 32 ≤ List.length (List.drop 33 lq) := by first | omega | (simp; omega)
      refine op_loadaggat (d := some 23) (t := 41) (ad := ad33) (ao := cutAt aq cq 33 1) (ys := bys (List.drop 33 lq)) (o := 0) (m := 32) (xs := bys (List.take 32 (List.drop 33 lq))) En102 (by kernel_rfl) (add0 _) (bys_drop_reads (iq.ev Hv103).reads cq 33 (n := (List.length lq)) (by simp) (by omega) (by omega)) had33 bys_pre (bys_prel hb104) (by kernel_rfl) (by kernel_rfl) ?_
      intro ac105 En106
      exact s_e En106 Hv103
     refine s_f (fun _ => frombe_go _ (List.take 32 (List.drop 33 lq)) (by first | (simp; omega) | (rw [List.length_take]; omega))) ?_
     refine s_c (fun Mx116 ac117 wo118 En119 Hv120 => ?_) ?_
     ·
      refine q_v (x := Instr.build 26 #[(1, .agg (List.toArray (u64s (nd (lv (List.reverse (List.take 32 (List.take (33 - 1) (List.drop 1 lq))))))))), (2, .agg (List.toArray (u64s (nd (lv (List.reverse (List.take 32 (List.drop 33 lq))))))))]) (v := .agg (List.toArray (([.bool false] : List Value) ++ ((u64s (nd (lv (List.reverse (List.take 32 (List.take (33 - 1) (List.drop 1 lq))))))) ++ (u64s (nd (lv (List.reverse (List.take 32 (List.drop 33 lq)))))))))) En119 (Go.Dbr.run_built [(0, 1), (1, 4), (5, 4)] [⟨1, [.bool false], none⟩, ⟨4, u64s (List.replicate 4 0), some (1, .agg (List.toArray (u64s (nd (lv (List.reverse (List.take 32 (List.take (33 - 1) (List.drop 1 lq)))))))), u64s (nd (lv (List.reverse (List.take 32 (List.take (33 - 1) (List.drop 1 lq)))))))⟩, ⟨4, u64s (List.replicate 4 0), some (2, .agg (List.toArray (u64s (nd (lv (List.reverse (List.take 32 (List.drop 33 lq))))))), u64s (nd (lv (List.reverse (List.take 32 (List.drop 33 lq))))))⟩] (fb_n rfl (fb_y (u64s_lenh (List.length_replicate)) (u64s_lenh (nds_len _ _)) (fb_y (u64s_lenh (List.length_replicate)) (u64s_lenh (nds_len _ _)) trivial))) _) fun ac121 En122 => ?_
      exact s_e En122 Hv120
     exact s_n
    refine q_u 12 ?_
    refine m_g 1 0 9 (([.bool false] : List Value) ++ ((u64s (nd (lv (List.reverse (List.take 32 (List.take (33 - 1) (List.drop 1 lq))))))) ++ (u64s (nd (lv (List.reverse (List.take 32 (List.drop 33 lq)))))))) (([.bool false] : List Value) ++ ((u64s (nd (lv (List.reverse (List.take 32 (List.take (33 - 1) (List.drop 1 lq))))))) ++ (u64s (nd (lv (List.reverse (List.take 32 (List.drop 33 lq)))))))) [.box bk1 (([.bool false] : List Value) ++ ((u64s (List.replicate 4 0)) ++ (u64s (List.replicate 4 0)))) 26, .box bk127 (([.bool false] : List Value) ++ ((u64s (nd (lv (List.reverse (List.take 32 (List.take (33 - 1) (List.drop 1 lq))))))) ++ (u64s (nd (lv (List.reverse (List.take 32 (List.drop 33 lq)))))))) 26] En125 Hv126 rfl (len_app rfl (len_app (u64s_lenh (nds_len _ _)) (u64s_lenh (nds_len _ _)))) (by rw [(len_app rfl (len_app (u64s_lenh (List.length_replicate)) (u64s_lenh (List.length_replicate))))]; decide) (one_app (one_all (by kernel_rfl)) (one_app (u64s_one _) (u64s_one _))) (store_whole (len_app rfl (len_app (u64s_lenh (List.length_replicate)) (u64s_lenh (List.length_replicate))))) rfl fun ac132 wo133 En134 Hv135 => ?_
    exact a_e ⟨bk127, En134.sb, Hv135.pk [0, 1]⟩
   rintro ac136 wo137 ⟨bk127, En138, Hv139⟩
   have ed1 : nd (lv (List.reverse (List.take 32 (List.take (33 - 1) (List.drop 1 lq))))) = decX lq 1 := by unfold decX; first | rfl | rw [List.take_take]; rfl
   rw [ed1] at Hv139
   have ed33 : nd (lv (List.reverse (List.take 32 (List.drop 33 lq)))) = decX lq 33 := by unfold decX; first | rfl | rw [List.take_take]; rfl
   rw [ed33] at Hv139
   refine then_normal ?_
   refine wp_seq ?_
   refine wp_seq ?_
   refine region_from ?_
   refine f_o ?_
   refine m_a 1 0 9 (([.bool false] : List Value) ++ ((u64s (decX lq 1)) ++ (u64s (decX lq 33)))) En138 Hv139 rfl (load_whole (len_app rfl (len_app (u64s_lenh (nds_len _ _)) (u64s_lenh (nds_len _ _))))) (len_app rfl (len_app (u64s_lenh (nds_len _ _)) (u64s_lenh (nds_len _ _)))) fun ac140 En141 => ?_
   refine f_o ?_
   refine c_p En141 Hv139 (on_go _ false (decX lq 1) (decX lq 33) (nds_len _ _) (nds_len _ _)) fun ac146 wo143 En147 Hv148 => ?_
   refine d_e [0,2,3,4,28] [] En147 fun ac149 En150 => ?_
   refine then_normal ?_
   refine cond_at En150 (t := !(onN false (decX lq 1) (decX lq 33))) (by kernel_rfl) (fun hc151 => ?_) (fun hc151 => ?_)
   ·
    replace hc151 : ¬ (onN false (decX lq 1) (decX lq 33) = true) := by simpa using hc151
    refine wp_seq ?_
    refine region_from ?_
    refine f_o ?_
    refine q_v (x := Instr.build 26 #[]) (v := .agg (List.toArray (([.bool false] : List Value) ++ ((u64s (List.replicate 4 0)) ++ (u64s (List.replicate 4 0)))))) En150 (Go.Dbr.run_built [(0, 1), (1, 4), (5, 4)] [⟨1, [.bool false], none⟩, ⟨4, u64s (List.replicate 4 0), none⟩, ⟨4, u64s (List.replicate 4 0), none⟩] (fb_n rfl (fb_n (u64s_lenh (List.length_replicate)) (fb_n (u64s_lenh (List.length_replicate)) trivial))) _) fun ac152 En153 => ?_
    refine f_o ?_
    refine m_g 0 0 9 (([.bool false] : List Value) ++ ((u64s (List.replicate 4 0)) ++ (u64s (List.replicate 4 0)))) (([.bool false] : List Value) ++ ((u64s (List.replicate 4 0)) ++ (u64s (List.replicate 4 0)))) [.box bk1 (([.bool false] : List Value) ++ ((u64s (List.replicate 4 0)) ++ (u64s (List.replicate 4 0)))) 26, .box bk127 (([.bool false] : List Value) ++ ((u64s (decX lq 1)) ++ (u64s (decX lq 33)))) 26] En153 Hv148 rfl (len_app rfl (len_app (u64s_lenh (List.length_replicate)) (u64s_lenh (List.length_replicate)))) (by rw [(len_app rfl (len_app (u64s_lenh (List.length_replicate)) (u64s_lenh (List.length_replicate))))]; decide) (one_app (one_all (by kernel_rfl)) (one_app (u64s_one _) (u64s_one _))) (store_whole (len_app rfl (len_app (u64s_lenh (List.length_replicate)) (u64s_lenh (List.length_replicate))))) rfl fun ac154 wo155 En156 Hv157 => ?_
    refine d_e [0,2,3,4] [] En156 fun ac158 En159 => ?_
    refine then_normal ?_
    refine wp_ret ?_
    refine then_ret ?_
    refine d_cell_tmp (v := .agg (List.toArray (([.bool false] : List Value) ++ ((u64s (List.replicate 4 0)) ++ (u64s (List.replicate 4 0)))))) (x := .int .i64 131) (t := 2) (T := 26) (ad := ⟨bk1, 0, none⟩) (u := 3) En159 (by kernel_rfl) (by kernel_rfl) (Ev.cellAgg (t := 26) (k := 0) (off := 0) (m := 9) (xs := ([.bool false] : List Value) ++ ((u64s (List.replicate 4 0)) ++ (u64s (List.replicate 4 0)))) Hv157 rfl (load_whole (len_app rfl (len_app (u64s_lenh (List.length_replicate)) (u64s_lenh (List.length_replicate))))) (len_app rfl (len_app (u64s_lenh (List.length_replicate)) (u64s_lenh (List.length_replicate)))) (by kernel_rfl) (by kernel_rfl)) (by kernel_rfl) ?_
    exact ⟨ret_dec (a := (emptyP, 131)) (by first | exact dec_no1 (by omega) | exact dec_no2 (by assumption) | exact dec_no3 (by omega) (by assumption) (by assumption)), Hv157.pk []⟩
   ·
    replace hc151 : onN false (decX lq 1) (decX lq 33) = true := by simpa using hc151
    refine wp_skip ?_
    refine then_normal ?_
    refine wp_seq ?_
    refine region_from ?_
    refine f_o ?_
    refine m_a 1 0 9 (([.bool false] : List Value) ++ ((u64s (decX lq 1)) ++ (u64s (decX lq 33)))) En150 Hv148 rfl (load_whole (len_app rfl (len_app (u64s_lenh (nds_len _ _)) (u64s_lenh (nds_len _ _))))) (len_app rfl (len_app (u64s_lenh (nds_len _ _)) (u64s_lenh (nds_len _ _)))) fun ac160 En161 => ?_
    refine f_o ?_
    refine m_g 0 0 9 (([.bool false] : List Value) ++ ((u64s (decX lq 1)) ++ (u64s (decX lq 33)))) (([.bool false] : List Value) ++ ((u64s (decX lq 1)) ++ (u64s (decX lq 33)))) [.box bk1 (([.bool false] : List Value) ++ ((u64s (decX lq 1)) ++ (u64s (decX lq 33)))) 26, .box bk127 (([.bool false] : List Value) ++ ((u64s (decX lq 1)) ++ (u64s (decX lq 33)))) 26] En161 Hv148 rfl (len_app rfl (len_app (u64s_lenh (nds_len _ _)) (u64s_lenh (nds_len _ _)))) (by rw [(len_app rfl (len_app (u64s_lenh (List.length_replicate)) (u64s_lenh (List.length_replicate))))]; decide) (one_app (one_all (by kernel_rfl)) (one_app (u64s_one _) (u64s_one _))) (store_whole (len_app rfl (len_app (u64s_lenh (List.length_replicate)) (u64s_lenh (List.length_replicate))))) rfl fun ac162 wo163 En164 Hv165 => ?_
    refine d_e [0,2,3,4] [] En164 fun ac166 En167 => ?_
    refine then_normal ?_
    refine wp_ret ?_
    refine d_cell_tmp (v := .agg (List.toArray (([.bool false] : List Value) ++ ((u64s (decX lq 1)) ++ (u64s (decX lq 33)))))) (x := .int .i64 0) (t := 2) (T := 26) (ad := ⟨bk1, 0, none⟩) (u := 3) En167 (by kernel_rfl) (by kernel_rfl) (Ev.cellAgg (t := 26) (k := 0) (off := 0) (m := 9) (xs := ([.bool false] : List Value) ++ ((u64s (decX lq 1)) ++ (u64s (decX lq 33)))) Hv165 rfl (load_whole (len_app rfl (len_app (u64s_lenh (nds_len _ _)) (u64s_lenh (nds_len _ _))))) (len_app rfl (len_app (u64s_lenh (nds_len _ _)) (u64s_lenh (nds_len _ _)))) (by kernel_rfl) (by kernel_rfl)) (by kernel_rfl) ?_
    exact ⟨ret_dec (dec_yes (by omega) (by assumption) (by assumption)), Hv165.pk []⟩

theorem ddec_go (w : World) (aq : Option Addr) (nq cq : Nat) (lq : List UInt8) (eq : nq = List.length lq) (iq : InB w [] aq cq lq) : Calls Try.prog 25 #[.slice aq nq cq] w fun e w' => e = .returned (.tuple #[.agg (List.toArray (([.bool (((decN lq).1).1)] : List Value) ++ ((u64s (((decN lq).1).2.1)) ++ (u64s (((decN lq).1).2.2))))), .int .i64 ((decN lq).2)]) ∧ Ev w [] w' [] := by
 subst eq
 refine d_0 [(0, .slice aq (List.length lq) cq)] 48 Go.Proofs.Try.func25 Go.Proofs.Try.ntmps25 (Heap.nil _) fun act0 En0 Hv0 => ?_
 refine wp_seq ?_
 refine region_from ?_
 refine f_o ?_
 refine m_z 26 (([.bool false] : List Value) ++ ((u64s (List.replicate 4 0)) ++ (u64s (List.replicate 4 0)))) En0 Hv0 fun ac2 wo3 bk1 En4 Hv5 => ?_
 refine d_e [0,2,3] [] En4 fun ac6 En7 => ?_
 refine then_normal ?_
 refine wp_seq ?_
 refine wp_seq ?_
 refine region_from ?_
 refine d_k [0,2,3,12] [] 4 En7 fun ac8 En9 => ?_
 rcases Bool.eq_false_or_eq_true (((List.length lq : Nat) : Int) != (65 : Int)) with hb10 | hb10
 ·
  have En11 := En9.fx (t := 12) (congrArg Value.bool hb10)
  have hp12 : ¬ (((List.length lq : Nat) : Int) = (65 : Int)) := by simpa using hb10
  refine d_e [0,2,3,17] [] En11 fun ac13 En14 => ?_
  refine then_normal ?_
  refine c_t En14 ?_
  refine wp_seq ?_
  refine region_from ?_
  refine f_o ?_
  refine q_v (x := Instr.build 26 #[]) (v := .agg (List.toArray (([.bool false] : List Value) ++ ((u64s (List.replicate 4 0)) ++ (u64s (List.replicate 4 0)))))) En14 (Go.Dbr.run_built [(0, 1), (1, 4), (5, 4)] [⟨1, [.bool false], none⟩, ⟨4, u64s (List.replicate 4 0), none⟩, ⟨4, u64s (List.replicate 4 0), none⟩] (fb_n rfl (fb_n (u64s_lenh (List.length_replicate)) (fb_n (u64s_lenh (List.length_replicate)) trivial))) _) fun ac15 En16 => ?_
  refine f_o ?_
  refine m_g 0 0 9 (([.bool false] : List Value) ++ ((u64s (List.replicate 4 0)) ++ (u64s (List.replicate 4 0)))) (([.bool false] : List Value) ++ ((u64s (List.replicate 4 0)) ++ (u64s (List.replicate 4 0)))) [.box bk1 (([.bool false] : List Value) ++ ((u64s (List.replicate 4 0)) ++ (u64s (List.replicate 4 0)))) 26] En16 Hv5 rfl (len_app rfl (len_app (u64s_lenh (List.length_replicate)) (u64s_lenh (List.length_replicate)))) (by rw [(len_app rfl (len_app (u64s_lenh (List.length_replicate)) (u64s_lenh (List.length_replicate))))]; decide) (one_app (one_all (by kernel_rfl)) (one_app (u64s_one _) (u64s_one _))) (store_whole (len_app rfl (len_app (u64s_lenh (List.length_replicate)) (u64s_lenh (List.length_replicate))))) rfl fun ac17 wo18 En19 Hv20 => ?_
  refine d_e [0,2,3] [] En19 fun ac21 En22 => ?_
  refine then_normal ?_
  refine wp_ret ?_
  refine then_ret ?_
  refine d_cell_tmp (v := .agg (List.toArray (([.bool false] : List Value) ++ ((u64s (List.replicate 4 0)) ++ (u64s (List.replicate 4 0)))))) (x := .int .i64 131) (t := 2) (T := 26) (ad := ⟨bk1, 0, none⟩) (u := 3) En22 (by kernel_rfl) (by kernel_rfl) (Ev.cellAgg (t := 26) (k := 0) (off := 0) (m := 9) (xs := ([.bool false] : List Value) ++ ((u64s (List.replicate 4 0)) ++ (u64s (List.replicate 4 0)))) Hv20 rfl (load_whole (len_app rfl (len_app (u64s_lenh (List.length_replicate)) (u64s_lenh (List.length_replicate))))) (len_app rfl (len_app (u64s_lenh (List.length_replicate)) (u64s_lenh (List.length_replicate)))) (by kernel_rfl) (by kernel_rfl)) (by kernel_rfl) ?_
  exact ⟨ret_dec (a := (emptyP, 131)) (by first | exact dec_no1 (by omega) | exact dec_no2 (by assumption) | exact dec_no3 (by omega) (by assumption) (by assumption)), Hv20.pk []⟩
 ·
  have En23 := En9.fx (t := 12) (congrArg Value.bool hb10)
  have hp24 : ((List.length lq : Nat) : Int) = (65 : Int) := by simpa using hb10
  have hb27 : 0 < List.length lq := (by omega)
  obtain ⟨adr25, had26⟩ := some_of iq.nz hb27
  refine d_k [0,2,3,12,13] [] 5 En23 fun ac28 En29 => ?_
  refine f_o ?_
  refine q_v (x := Instr.indexAt 46 (.slice aq (List.length lq) cq) (.int .i64 0)) (v := .pointer (some (Addr.add adr25 0))) En29 (Go.Dbr.run_indexsl (e := 5) (sz := 1) (j := 0) (jo := 0) had26 (by kernel_rfl) (by kernel_rfl) (by omega) hb27 (Nat.mul_one _) _) fun ac30 En31 => ?_
  refine f_o ?_
  have hb32 : 0 < List.length lq := by omega
  refine op_loadel (d := some 15) (t := 5) (ad := adr25) (ao := aq) (xs := bys lq) (j := 0) (v := bv (List.getD lq 0 0)) En31 (by kernel_rfl) (iq.ev Hv5).reads had26 (bys_getD hb32) (by kernel_rfl) ?_
  intro ac33 En34
  refine d_e [0,2,3,17] [] En34 fun ac35 En36 => ?_
  refine then_normal ?_
  refine c_n ((UInt8.toNat (List.getD lq 0 0) : Nat) : Int) (4 : Int) En36 (fun hc37 => ?_) (fun hc37 => ?_)
  ·
   refine wp_seq ?_
   refine region_from ?_
   refine f_o ?_
   refine q_v (x := Instr.build 26 #[]) (v := .agg (List.toArray (([.bool false] : List Value) ++ ((u64s (List.replicate 4 0)) ++ (u64s (List.replicate 4 0)))))) En36 (Go.Dbr.run_built [(0, 1), (1, 4), (5, 4)] [⟨1, [.bool false], none⟩, ⟨4, u64s (List.replicate 4 0), none⟩, ⟨4, u64s (List.replicate 4 0), none⟩] (fb_n rfl (fb_n (u64s_lenh (List.length_replicate)) (fb_n (u64s_lenh (List.length_replicate)) trivial))) _) fun ac38 En39 => ?_
   refine f_o ?_
   refine m_g 0 0 9 (([.bool false] : List Value) ++ ((u64s (List.replicate 4 0)) ++ (u64s (List.replicate 4 0)))) (([.bool false] : List Value) ++ ((u64s (List.replicate 4 0)) ++ (u64s (List.replicate 4 0)))) [.box bk1 (([.bool false] : List Value) ++ ((u64s (List.replicate 4 0)) ++ (u64s (List.replicate 4 0)))) 26] En39 Hv5 rfl (len_app rfl (len_app (u64s_lenh (List.length_replicate)) (u64s_lenh (List.length_replicate)))) (by rw [(len_app rfl (len_app (u64s_lenh (List.length_replicate)) (u64s_lenh (List.length_replicate))))]; decide) (one_app (one_all (by kernel_rfl)) (one_app (u64s_one _) (u64s_one _))) (store_whole (len_app rfl (len_app (u64s_lenh (List.length_replicate)) (u64s_lenh (List.length_replicate))))) rfl fun ac40 wo41 En42 Hv43 => ?_
   refine d_e [0,2,3] [] En42 fun ac44 En45 => ?_
   refine then_normal ?_
   refine wp_ret ?_
   refine then_ret ?_
   refine d_cell_tmp (v := .agg (List.toArray (([.bool false] : List Value) ++ ((u64s (List.replicate 4 0)) ++ (u64s (List.replicate 4 0)))))) (x := .int .i64 131) (t := 2) (T := 26) (ad := ⟨bk1, 0, none⟩) (u := 3) En45 (by kernel_rfl) (by kernel_rfl) (Ev.cellAgg (t := 26) (k := 0) (off := 0) (m := 9) (xs := ([.bool false] : List Value) ++ ((u64s (List.replicate 4 0)) ++ (u64s (List.replicate 4 0)))) Hv43 rfl (load_whole (len_app rfl (len_app (u64s_lenh (List.length_replicate)) (u64s_lenh (List.length_replicate))))) (len_app rfl (len_app (u64s_lenh (List.length_replicate)) (u64s_lenh (List.length_replicate)))) (by kernel_rfl) (by kernel_rfl)) (by kernel_rfl) ?_
   exact ⟨ret_dec (a := (emptyP, 131)) (by first | exact dec_no1 (by omega) | exact dec_no2 (by assumption) | exact dec_no3 (by omega) (by assumption) (by assumption)), Hv43.pk []⟩
  ·
   refine wp_skip ?_
   refine then_normal ?_
   refine wp_seq ?_
   refine region_from ?_
   refine f_o ?_
   refine m_z 41 (bys (List.replicate 32 0)) En36 Hv5 fun ac47 wo48 bk46 En49 Hv50 => ?_
   refine f_e ?_
   refine then_normal ?_
   refine wp_seq ?_
   refine region_from ?_
   refine f_o ?_
   refine m_z 41 (bys (List.replicate 32 0)) En49 Hv50 fun ac52 wo53 bk51 En54 Hv55 => ?_
   refine f_e ?_
   refine then_normal ?_
   refine wp_seq ?_
   refine d_s [0,2,3,4,5,6] [] En54 fun ac56 En57 => ?_
   refine wp_block ?_
   refine loop_m (fun ms58 ac wo => ∃ (i : Nat) (X : List UInt8) (Y : List UInt8), ms58 = (33 - i : Nat) ∧ Env ac 48 [(0, .slice aq (List.length lq) cq), (2, pt bk1), (3, .int .i64 0), (4, pt bk46), (5, pt bk51), (6, ni i)] ∧ Ev w [] wo [.box bk46 (bys X) 41, .box bk51 (bys Y) 41, .box bk1 (([.bool false] : List Value) ++ ((u64s (List.replicate 4 0)) ++ (u64s (List.replicate 4 0)))) 26] ∧ (i ≤ 32) ∧ (List.length X = 32) ∧ (List.length Y = 32) ∧ (∀ j, j < i → List.getD X j 0 = List.getD lq (1 + j) 0) ∧ (∀ j, j < i → List.getD Y j 0 = List.getD lq (33 + j) 0)) ⟨_, 0, List.replicate 32 0, List.replicate 32 0, rfl, En57.sb, Hv55.pk [1, 2, 0], by omega, List.length_replicate, List.length_replicate, fun j hj => by omega, fun j hj => by omega⟩ ?_
   rintro mm64 ac60 wo61 ⟨i, X, Y, rfl, En62, Hv63, hi, hX, hY, hpX, hpY⟩
   refine wp_seq ?_
   refine d_s [0,2,3,4,5,6,20] [] En62 fun ac65 En66 => ?_
   refine c_d (((i : Nat) : Int) < (32 : Int)) En66 (fun hc67 => ?_) (fun hc67 => ?_)
   ·
    refine wp_skip ?_
    refine then_normal ?_
    refine wp_seq ?_
    refine wp_block ?_
    have hb70 : 1 + i < List.length lq := (by omega)
    obtain ⟨adr68, had69⟩ := some_of iq.nz hb70
    refine wp_seq ?_
    refine region_from ?_
    refine d_k [0,2,3,4,5,6,23,24,26] [(3, g_n (w_a 1 i))] 4 En66 fun ac71 En72 => ?_
    refine f_o ?_
    refine q_v (x := Instr.indexAt 46 (.slice aq (List.length lq) cq) (ni (1 + i))) (v := .pointer (some (Addr.add adr68 (1 + i)))) En72 (Go.Dbr.run_indexsl (e := 5) (sz := 1) (j := 1 + i) (jo := 1 + i) had69 (by kernel_rfl) (by kernel_rfl) (by omega) hb70 (Nat.mul_one _) _) fun ac73 En74 => ?_
    refine f_o ?_
    have hb75 : 1 + i < List.length lq := by omega
    refine op_loadel (d := some 28) (t := 5) (ad := adr68) (ao := aq) (xs := bys lq) (j := 1 + i) (v := bv (List.getD lq (1 + i) 0)) En74 (by kernel_rfl) (iq.ev Hv63).reads had69 (bys_getD hb75) (by kernel_rfl) ?_
    intro ac76 En77
    refine f_o ?_
    refine q_v (x := Instr.indexAt 41 (pt bk46) (ni i)) (v := .pointer (some ⟨bk46, i, none⟩)) En77 (Go.Dbr.run_indexarr (e := 5) (sz := 1) (m := 32) (j := i) (o := i) (by kernel_rfl) (by kernel_rfl) (by omega) (by omega) (by omega) _) fun ac78 En79 => ?_
    refine f_o ?_
    have hb80 : i < List.length X := by rw [hX]; omega
    refine m_t 0 i (bv (List.getD lq (1 + i) 0)) [.box bk46 (bys (List.set X i (List.getD lq (1 + i) 0))) 41, .box bk51 (bys Y) 41, .box bk1 (([.bool false] : List Value) ++ ((u64s (List.replicate 4 0)) ++ (u64s (List.replicate 4 0)))) 26] En79 Hv63 rfl (bys_getD hb80) (bys_set _ _ _) rfl fun ac81 wo82 En83 Hv84 => ?_
    refine f_e ?_
    refine then_normal ?_
    have hb87 : 33 + i < List.length lq := (by omega)
    obtain ⟨adr85, had86⟩ := some_of iq.nz hb87
    refine region_from ?_
    refine d_k [0,2,3,4,5,6,30,31,33] [(3, g_n (w_a 33 i))] 4 En83 fun ac88 En89 => ?_
    refine f_o ?_
    refine q_v (x := Instr.indexAt 46 (.slice aq (List.length lq) cq) (ni (33 + i))) (v := .pointer (some (Addr.add adr85 (33 + i)))) En89 (Go.Dbr.run_indexsl (e := 5) (sz := 1) (j := 33 + i) (jo := 33 + i) had86 (by kernel_rfl) (by kernel_rfl) (by omega) hb87 (Nat.mul_one _) _) fun ac90 En91 => ?_
    refine f_o ?_
    have hb92 : 33 + i < List.length lq := by omega
    refine op_loadel (d := some 35) (t := 5) (ad := adr85) (ao := aq) (xs := bys lq) (j := 33 + i) (v := bv (List.getD lq (33 + i) 0)) En91 (by kernel_rfl) (iq.ev Hv84).reads had86 (bys_getD hb92) (by kernel_rfl) ?_
    intro ac93 En94
    refine f_o ?_
    refine q_v (x := Instr.indexAt 41 (pt bk51) (ni i)) (v := .pointer (some ⟨bk51, i, none⟩)) En94 (Go.Dbr.run_indexarr (e := 5) (sz := 1) (m := 32) (j := i) (o := i) (by kernel_rfl) (by kernel_rfl) (by omega) (by omega) (by omega) _) fun ac95 En96 => ?_
    refine f_o ?_
    have hb97 : i < List.length Y := by rw [hY]; omega
    refine m_t 1 i (bv (List.getD lq (33 + i) 0)) [.box bk46 (bys (List.set X i (List.getD lq (1 + i) 0))) 41, .box bk51 (bys (List.set Y i (List.getD lq (33 + i) 0))) 41, .box bk1 (([.bool false] : List Value) ++ ((u64s (List.replicate 4 0)) ++ (u64s (List.replicate 4 0)))) 26] En96 Hv84 rfl (bys_getD hb97) (bys_set _ _ _) rfl fun ac98 wo99 En100 Hv101 => ?_
    refine f_e ?_
    refine block_normal ?_
    refine then_normal ?_
    refine d_r [0,2,3,4,5,6] [(1, g_n (w_a i 1))] En100 fun ac102 En103 => ?_
    refine then_normal ?_
    refine ⟨_, ⟨i + 1, (List.set X i (List.getD lq (1 + i) 0)), (List.set Y i (List.getD lq (33 + i) 0)), rfl, En103.sb, Hv101.pk [0, 1, 2], by omega, (List.length_set.trans hX), (List.length_set.trans hY), put_in hX (by omega) hpX, put_in hY (by omega) hpY⟩, ?_⟩
    omega
   ·
    refine wp_exit ?_
    refine then_exit ?_
    refine then_exit ?_
    refine block_exit ?_
    refine then_normal ?_
    refine wp_seq ?_
    have hXe : X = List.take 32 (List.drop 1 lq) := arr_of hX (by omega) fun j hj => hpX j (by omega)
    have hYe : Y = List.take 32 (List.drop 33 lq) := arr_of hY (by omega) fun j hj => hpY j (by omega)
    refine r_c (fun ac wo => ∃ (bk143 : Nat), Env ac 48 [(0, .slice aq (List.length lq) cq), (2, pt bk1), (3, .int .i64 0), (4, pt bk46), (5, pt bk51), (6, ni i), (7, pt bk143)] ∧ Ev w [] wo [.box bk46 (bys X) 41, .box bk51 (bys Y) 41, .box bk1 (([.bool false] : List Value) ++ ((u64s (List.replicate 4 0)) ++ (u64s (List.replicate 4 0)))) 26, .box bk143 (([.bool false] : List Value) ++ ((u64s (nd (lv (List.reverse X)))) ++ (u64s (nd (lv (List.reverse Y)))))) 26]) ?_ ?_
    ·
     refine s_g1 [(0, .slice aq (List.length lq) cq), (2, pt bk1), (3, .int .i64 0), (4, pt bk46), (5, pt bk51), (6, ni i)] [0,1,2,3,4] [(37, .agg (List.toArray (bys X))), (38, .agg (List.toArray (u64s (nd (lv (List.reverse X)))))), (39, .agg (List.toArray (bys Y))), (40, .agg (List.toArray (u64s (nd (lv (List.reverse Y)))))), (41, .agg (List.toArray (([.bool false] : List Value) ++ ((u64s (nd (lv (List.reverse X)))) ++ (u64s (nd (lv (List.reverse Y))))))))] 1 [(0, .slice aq (List.length lq) cq), (2, pt bk1), (3, .int .i64 0), (4, pt bk46), (5, pt bk51), (6, ni i), (41, .agg (List.toArray (([.bool false] : List Value) ++ ((u64s (nd (lv (List.reverse X)))) ++ (u64s (nd (lv (List.reverse Y))))))))] 5 (([.bool false] : List Value) ++ ((u64s (List.replicate 4 0)) ++ (u64s (List.replicate 4 0)))) (En66.sb) (Hv63.trans (Ev.drew Hv63.heap)) ?_ fun ac139 wo140 bk143 En141 Hv142 => ?_
     ·
      refine s_a 0 0 32 (bys X) rfl (load_whole (bys_lenh hX)) (bys_lenh hX) ?_
      refine s_f (fun _ => rfrombe_go _ X hX) ?_
      refine s_a 1 0 32 (bys Y) rfl (load_whole (bys_lenh hY)) (bys_lenh hY) ?_
      refine s_f (fun _ => rfrombe_go _ Y hY) ?_
      refine s_c (fun Mx132 ac133 wo134 En135 Hv136 => ?_) ?_
      ·
       refine q_v (x := Instr.build 26 #[(1, .agg (List.toArray (u64s (nd (lv (List.reverse X)))))), (2, .agg (List.toArray (u64s (nd (lv (List.reverse Y))))))]) (v := .agg (List.toArray (([.bool false] : List Value) ++ ((u64s (nd (lv (List.reverse X)))) ++ (u64s (nd (lv (List.reverse Y)))))))) En135 (Go.Dbr.run_built [(0, 1), (1, 4), (5, 4)] [⟨1, [.bool false], none⟩, ⟨4, u64s (List.replicate 4 0), some (1, .agg (List.toArray (u64s (nd (lv (List.reverse X))))), u64s (nd (lv (List.reverse X))))⟩, ⟨4, u64s (List.replicate 4 0), some (2, .agg (List.toArray (u64s (nd (lv (List.reverse Y))))), u64s (nd (lv (List.reverse Y))))⟩] (fb_n rfl (fb_y (u64s_lenh (List.length_replicate)) (u64s_lenh (nds_len _ _)) (fb_y (u64s_lenh (List.length_replicate)) (u64s_lenh (nds_len _ _)) trivial))) _) fun ac137 En138 => ?_
       exact s_e En138 Hv136
      exact s_n
     refine q_u 6 ?_
     refine m_g 3 0 9 (([.bool false] : List Value) ++ ((u64s (nd (lv (List.reverse X)))) ++ (u64s (nd (lv (List.reverse Y)))))) (([.bool false] : List Value) ++ ((u64s (nd (lv (List.reverse X)))) ++ (u64s (nd (lv (List.reverse Y)))))) [.box bk46 (bys X) 41, .box bk51 (bys Y) 41, .box bk1 (([.bool false] : List Value) ++ ((u64s (List.replicate 4 0)) ++ (u64s (List.replicate 4 0)))) 26, .box bk143 (([.bool false] : List Value) ++ ((u64s (nd (lv (List.reverse X)))) ++ (u64s (nd (lv (List.reverse Y)))))) 26] En141 Hv142 rfl (len_app rfl (len_app (u64s_lenh (nds_len _ _)) (u64s_lenh (nds_len _ _)))) (by rw [(len_app rfl (len_app (u64s_lenh (List.length_replicate)) (u64s_lenh (List.length_replicate))))]; decide) (one_app (one_all (by kernel_rfl)) (one_app (u64s_one _) (u64s_one _))) (store_whole (len_app rfl (len_app (u64s_lenh (List.length_replicate)) (u64s_lenh (List.length_replicate))))) rfl fun ac148 wo149 En150 Hv151 => ?_
     exact a_e ⟨bk143, En150.sb, Hv151.pk [0, 1, 2, 3]⟩
    rintro ac152 wo153 ⟨bk143, En154, Hv155⟩
    have ed1 : nd (lv (List.reverse X)) = decX lq 1 := by unfold decX; rw [hXe]
    rw [ed1] at Hv155
    have ed33 : nd (lv (List.reverse Y)) = decX lq 33 := by unfold decX; rw [hYe]
    rw [ed33] at Hv155
    refine then_normal ?_
    refine wp_seq ?_
    refine region_from ?_
    refine f_o ?_
    refine m_a 3 0 9 (([.bool false] : List Value) ++ ((u64s (decX lq 1)) ++ (u64s (decX lq 33)))) En154 Hv155 rfl (load_whole (len_app rfl (len_app (u64s_lenh (nds_len _ _)) (u64s_lenh (nds_len _ _))))) (len_app rfl (len_app (u64s_lenh (nds_len _ _)) (u64s_lenh (nds_len _ _)))) fun ac156 En157 => ?_
    refine f_o ?_
    refine c_p En157 Hv155 (don_go _ false (decX lq 1) (decX lq 33) (nds_len _ _) (nds_len _ _)) fun ac162 wo159 En163 Hv164 => ?_
    refine d_e [0,2,3,4,5,6,7,8] [] En163 fun ac165 En166 => ?_
    refine then_normal ?_
    refine wp_seq ?_
    refine d_s [0,2,3,4,5,6,7,45] [] En166 fun ac167 En168 => ?_
    refine cond_at En168 (t := !(onN false (decX lq 1) (decX lq 33))) (by kernel_rfl) (fun hc169 => ?_) (fun hc169 => ?_)
    ·
     replace hc169 : ¬ (onN false (decX lq 1) (decX lq 33) = true) := by simpa using hc169
     refine wp_seq ?_
     refine region_from ?_
     refine f_o ?_
     refine q_v (x := Instr.build 26 #[]) (v := .agg (List.toArray (([.bool false] : List Value) ++ ((u64s (List.replicate 4 0)) ++ (u64s (List.replicate 4 0)))))) En168 (Go.Dbr.run_built [(0, 1), (1, 4), (5, 4)] [⟨1, [.bool false], none⟩, ⟨4, u64s (List.replicate 4 0), none⟩, ⟨4, u64s (List.replicate 4 0), none⟩] (fb_n rfl (fb_n (u64s_lenh (List.length_replicate)) (fb_n (u64s_lenh (List.length_replicate)) trivial))) _) fun ac170 En171 => ?_
     refine f_o ?_
     refine m_g 2 0 9 (([.bool false] : List Value) ++ ((u64s (List.replicate 4 0)) ++ (u64s (List.replicate 4 0)))) (([.bool false] : List Value) ++ ((u64s (List.replicate 4 0)) ++ (u64s (List.replicate 4 0)))) [.box bk46 (bys X) 41, .box bk51 (bys Y) 41, .box bk1 (([.bool false] : List Value) ++ ((u64s (List.replicate 4 0)) ++ (u64s (List.replicate 4 0)))) 26, .box bk143 (([.bool false] : List Value) ++ ((u64s (decX lq 1)) ++ (u64s (decX lq 33)))) 26] En171 Hv164 rfl (len_app rfl (len_app (u64s_lenh (List.length_replicate)) (u64s_lenh (List.length_replicate)))) (by rw [(len_app rfl (len_app (u64s_lenh (List.length_replicate)) (u64s_lenh (List.length_replicate))))]; decide) (one_app (one_all (by kernel_rfl)) (one_app (u64s_one _) (u64s_one _))) (store_whole (len_app rfl (len_app (u64s_lenh (List.length_replicate)) (u64s_lenh (List.length_replicate))))) rfl fun ac172 wo173 En174 Hv175 => ?_
     refine d_e [0,2,3,4,5,6,7] [] En174 fun ac176 En177 => ?_
     refine then_normal ?_
     refine wp_ret ?_
     refine then_ret ?_
     refine d_cell_tmp (v := .agg (List.toArray (([.bool false] : List Value) ++ ((u64s (List.replicate 4 0)) ++ (u64s (List.replicate 4 0)))))) (x := .int .i64 131) (t := 2) (T := 26) (ad := ⟨bk1, 0, none⟩) (u := 3) En177 (by kernel_rfl) (by kernel_rfl) (Ev.cellAgg (t := 26) (k := 2) (off := 0) (m := 9) (xs := ([.bool false] : List Value) ++ ((u64s (List.replicate 4 0)) ++ (u64s (List.replicate 4 0)))) Hv175 rfl (load_whole (len_app rfl (len_app (u64s_lenh (List.length_replicate)) (u64s_lenh (List.length_replicate))))) (len_app rfl (len_app (u64s_lenh (List.length_replicate)) (u64s_lenh (List.length_replicate)))) (by kernel_rfl) (by kernel_rfl)) (by kernel_rfl) ?_
     exact ⟨ret_dec (a := (emptyP, 131)) (by first | exact dec_no1 (by omega) | exact dec_no2 (by assumption) | exact dec_no3 (by omega) (by assumption) (by assumption)), Hv175.pk []⟩
    ·
     replace hc169 : onN false (decX lq 1) (decX lq 33) = true := by simpa using hc169
     refine wp_skip ?_
     refine then_normal ?_
     refine wp_seq ?_
     refine region_from ?_
     refine f_o ?_
     refine m_a 3 0 9 (([.bool false] : List Value) ++ ((u64s (decX lq 1)) ++ (u64s (decX lq 33)))) En168 Hv164 rfl (load_whole (len_app rfl (len_app (u64s_lenh (nds_len _ _)) (u64s_lenh (nds_len _ _))))) (len_app rfl (len_app (u64s_lenh (nds_len _ _)) (u64s_lenh (nds_len _ _)))) fun ac178 En179 => ?_
     refine f_o ?_
     refine m_g 2 0 9 (([.bool false] : List Value) ++ ((u64s (decX lq 1)) ++ (u64s (decX lq 33)))) (([.bool false] : List Value) ++ ((u64s (decX lq 1)) ++ (u64s (decX lq 33)))) [.box bk46 (bys X) 41, .box bk51 (bys Y) 41, .box bk1 (([.bool false] : List Value) ++ ((u64s (decX lq 1)) ++ (u64s (decX lq 33)))) 26, .box bk143 (([.bool false] : List Value) ++ ((u64s (decX lq 1)) ++ (u64s (decX lq 33)))) 26] En179 Hv164 rfl (len_app rfl (len_app (u64s_lenh (nds_len _ _)) (u64s_lenh (nds_len _ _)))) (by rw [(len_app rfl (len_app (u64s_lenh (List.length_replicate)) (u64s_lenh (List.length_replicate))))]; decide) (one_app (one_all (by kernel_rfl)) (one_app (u64s_one _) (u64s_one _))) (store_whole (len_app rfl (len_app (u64s_lenh (List.length_replicate)) (u64s_lenh (List.length_replicate))))) rfl fun ac180 wo181 En182 Hv183 => ?_
     refine d_e [0,2,3,4,5,6,7] [] En182 fun ac184 En185 => ?_
     refine then_normal ?_
     refine wp_ret ?_
     refine d_cell_tmp (v := .agg (List.toArray (([.bool false] : List Value) ++ ((u64s (decX lq 1)) ++ (u64s (decX lq 33)))))) (x := .int .i64 0) (t := 2) (T := 26) (ad := ⟨bk1, 0, none⟩) (u := 3) En185 (by kernel_rfl) (by kernel_rfl) (Ev.cellAgg (t := 26) (k := 2) (off := 0) (m := 9) (xs := ([.bool false] : List Value) ++ ((u64s (decX lq 1)) ++ (u64s (decX lq 33)))) Hv183 rfl (load_whole (len_app rfl (len_app (u64s_lenh (nds_len _ _)) (u64s_lenh (nds_len _ _))))) (len_app rfl (len_app (u64s_lenh (nds_len _ _)) (u64s_lenh (nds_len _ _)))) (by kernel_rfl) (by kernel_rfl)) (by kernel_rfl) ?_
     exact ⟨ret_dec (dec_yes (by omega) (by assumption) (by assumption)), Hv183.pk []⟩

end Go.Proofs.Ytpfhmbbiadpbeaa
