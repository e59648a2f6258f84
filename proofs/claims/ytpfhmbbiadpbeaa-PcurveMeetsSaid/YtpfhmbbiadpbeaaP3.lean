/- Layer 13: a point so many times, as the program reckons. -/
import Derived.Test.YtpfhmbbiadpbeaaT1
namespace Go.Proofs.Ytpfhmbbiadpbeaa
open Go.Dbr
set_option maxRecDepth 100000
set_option maxHeartbeats 2000000
set_option linter.unusedVariables false
set_option linter.unusedSimpArgs false

theorem cut12 (p : L4) : u64s (p.take 4) ++ (u64s ((p.drop 4).take 4) ++ u64s (p.drop 8)) = u64s p := by
  unfold u64s
  rw [← List.map_append, ← List.map_append]
  congr 1
  have h : p.drop 8 = (p.drop 4).drop 4 := by rw [List.drop_drop]
  rw [h, List.take_append_drop, List.take_append_drop]
theorem cat12 (a b c : L4) : u64s a ++ (u64s b ++ u64s c) = u64s (a ++ (b ++ c)) := by
  unfold u64s
  rw [List.map_append, List.map_append]
theorem with12_go (w : World) (p q : L4) (hp : p.length = 12) (hq : q.length = 12) : Calls Try.prog 29 #[.agg (List.toArray (u64s p)), .agg (List.toArray (u64s q))] w fun e w' => e = .returned (.agg (List.toArray (u64s (wtL p q)))) ∧ Ev w [] w' [] := by
  have h := with_go w (p.take 4) ((p.drop 4).take 4) (p.drop 8) (q.take 4) ((q.drop 4).take 4) (q.drop 8) (by simp [hp]) (by simp [hp]) (by simp [hp]) (by simp [hq]) (by simp [hq]) (by simp [hq])
  rw [cut12, cut12, cat12] at h
  exact h
theorem zero12_go (w : World) : Calls Try.prog 57 #[] w fun e w' => e = .returned (.agg (List.toArray (u64s zero12))) ∧ Ev w [] w' [] := by
  have h := zero_go w
  rw [cat12] at h
  exact h
def of12 (z : Bool) (x y : L4) : L4 := oX z x ++ (oY z y ++ oZ z)
theorem of12_len {z : Bool} {x y : L4} (hx : x.length = 4) (hy : y.length = 4) : (of12 z x y).length = 12 := by
  simp only [of12, List.length_append, oX_len hx, oY_len hy, oZ_len]
theorem of12_go (w : World) (z : Bool) (x y : List UInt64) (hx : List.length x = 4) (hy : List.length y = 4) : Calls Try.prog 28 #[.agg (List.toArray (([.bool z] : List Value) ++ ((u64s x) ++ (u64s y))))] w fun e w' => e = .returned (.agg (List.toArray (u64s (of12 z x y)))) ∧ Ev w [] w' [] := by
  have h := of_go w z x y hx hy
  rw [cat12] at h
  exact h
theorem back12_go (w : World) (p : L4) (hp : p.length = 12) : Calls Try.prog 30 #[.agg (List.toArray (u64s p))] w fun e w' => e = .returned (.agg (List.toArray (([.bool (bZ (List.drop 8 p))] : List Value) ++ ((u64s (bX (List.take 4 p) (List.drop 8 p))) ++ (u64s (bX (List.take 4 (List.drop 4 p)) (List.drop 8 p))))))) ∧ Ev w [] w' [] := by
  have h := back_go w (p.take 4) ((p.drop 4).take 4) (p.drop 8) (by simp [hp]) (by simp [hp]) (by simp [hp])
  rw [cut12] at h
  exact h
def rows0 : L4 := zero12 ++ List.replicate 180 0
theorem rows0_len : rows0.length = 192 := rfl
/-- a row is put -/
theorem put_same {l x : L4} {i : Nat} (hl : l.length = 192) (hx : x.length = 12) (hi : i < 16) : List.take 12 (List.drop (i * 12) (List.take (i * 12) l ++ x ++ List.drop (i * 12 + 12) l)) = x := by
  have h1 : (List.take (i * 12) l).length = i * 12 := by rw [List.length_take]; omega
  rw [List.append_assoc, List.drop_left' h1, List.take_left' hx]
theorem put_other {l x : L4} {i j : Nat} (hl : l.length = 192) (hx : x.length = 12) (hi : i < 16) (hj : j < i) : List.take 12 (List.drop (j * 12) (List.take (i * 12) l ++ x ++ List.drop (i * 12 + 12) l)) = List.take 12 (List.drop (j * 12) l) := by
  refine List.ext_getElem? fun q => ?_
  rw [List.getElem?_take, List.getElem?_take]
  split
  · rename_i hq
    rw [List.getElem?_drop, List.getElem?_drop, List.append_assoc, List.getElem?_append_left (by rw [List.length_take]; omega), List.getElem?_take, if_pos (by omega)]
  · rfl
theorem nib_shr (x : UInt64) (m : Nat) (hm : m < 16) : ((x >>> UInt64.ofNat (4 * m)) &&& 15).toNat = x.toNat / 16 ^ m % 16 := by
  rw [UInt64.toNat_and, UInt64.toNat_shiftRight, show (15 : UInt64).toNat = 2 ^ 4 - 1 from rfl, Nat.and_two_pow_sub_one_eq_mod, ofNat_val, Nat.mod_eq_of_lt (show 4 * m < 18446744073709551616 by omega), Nat.mod_eq_of_lt (show 4 * m < 64 by omega), Nat.shiftRight_eq_div_pow, show (2 : Nat) ^ (4 * m) = 16 ^ m from by rw [Nat.pow_mul]]
theorem dig_nv {k : L4} (hk : k.length = 4) (j : Nat) (hj : j < 4) : (List.getD k j 0).toNat = nv k / 18446744073709551616 ^ j % 18446744073709551616 := by
  match k, hk with
  | [a, b, c, d], _ =>
    rw [nv4]
    have h1 := lt64 a
    have h2 := lt64 b
    have h3 := lt64 c
    have h4 := lt64 d
    match j, hj with
    | 0, _ => show a.toNat = _; rw [Nat.pow_zero]; omega
    | 1, _ => show b.toNat = _; rw [Nat.pow_one]; omega
    | 2, _ => show c.toNat = _; rw [show (18446744073709551616 : Nat) ^ 2 = 340282366920938463463374607431768211456 from rfl]; omega
    | 3, _ => show d.toNat = _; rw [show (18446744073709551616 : Nat) ^ 3 = 6277101735386680763835789423207666416102355444464034512896 from rfl]; omega
theorem nib_u {k : L4} (hk : k.length = 4) {i : Nat} (hi : i < 64) : ((UInt64.toNat ((List.getD k (i / 16) 0 >>> UInt64.ofNat (4 * (i % 16))) &&& 15) : Nat) : Int) = ((nib (nv k) i : Nat) : Int) := by
  rw [nib_shr _ _ (by omega), dig_nv hk _ (by omega), nib]
  congr 1
  have e : (16 : Nat) ^ i = 18446744073709551616 ^ (i / 16) * 16 ^ (i % 16) := by
    rw [show (18446744073709551616 : Nat) = 16 ^ 16 from rfl, ← Nat.pow_mul, ← Nat.pow_add]
    congr 1
    omega
  rw [e, ← Nat.div_div_eq_div_mul]
  generalize nv k / 18446744073709551616 ^ (i / 16) = q
  have hm : i % 16 < 16 := Nat.mod_lt _ (by decide)
  have e2 : (18446744073709551616 : Nat) = 16 ^ (i % 16) * (16 * 16 ^ (15 - i % 16)) := by
    rw [show (18446744073709551616 : Nat) = 16 ^ 16 from rfl, ← Nat.pow_succ', ← Nat.pow_add]
    congr 1
    omega
  rw [e2, Nat.mod_mul_right_div_self, Nat.mod_mul_right_mod]
theorem nib_lt (k i : Nat) : nib k i < 16 := Nat.mod_lt _ (by decide)
theorem rows0_0 : List.take 12 (List.drop (0 * 12) rows0) = zero12 := rfl

theorem times12_go (w : World) (p k : List UInt64) (hp : List.length p = 12) (hk : List.length k = 4) : Calls Try.prog 34 #[.agg (List.toArray (u64s p)), .agg (List.toArray (u64s k))] w fun e w' => e = .returned (.agg (List.toArray (u64s (tmF p (nv k) 64)))) ∧ Ev w [] w' [] := by
 refine d_0 [(0, .agg (List.toArray (u64s p))), (1, .agg (List.toArray (u64s k)))] 48 Go.Proofs.Try.func34 Go.Proofs.Try.ntmps34 (Heap.nil _) fun act0 En0 Hv0 => ?_
 refine wp_seq ?_
 refine region_from ?_
 refine f_o ?_
 refine m_m 52 (u64s p) En0 Hv0 fun ac2 wo3 bk1 En4 Hv5 => ?_
 refine f_o ?_
 refine m_m 24 (u64s k) En4 Hv5 fun ac7 wo8 bk6 En9 Hv10 => ?_
 refine f_o ?_
 refine m_z 52 (u64s (List.replicate 12 0)) En9 Hv10 fun ac12 wo13 bk11 En14 Hv15 => ?_
 refine f_e ?_
 refine then_normal ?_
 refine wp_seq ?_
 refine region_from ?_
 refine f_o ?_
 refine c_p En14 Hv15 (zero12_go _) fun ac20 wo17 En21 Hv22 => ?_
 refine d_k [2,3,4,10] [] 2 En21 fun ac23 En24 => ?_
 refine f_o ?_
 refine m_z 79 (u64s (List.replicate 192 0)) En24 Hv22 fun ac26 wo27 bk25 En28 Hv29 => ?_
 refine f_o ?_
 refine m_g 3 0 192 (u64s rows0) (u64s rows0) [.box bk1 (u64s p) 52, .box bk6 (u64s k) 24, .box bk11 (u64s (List.replicate 12 0)) 52, .box bk25 (u64s rows0) 79] En28 Hv29 rfl (u64s_lenh rows0_len) (by rw [(u64s_lenh (List.length_replicate))]; decide) (u64s_one _) (store_whole (u64s_lenh (List.length_replicate))) rfl fun ac30 wo31 En32 Hv33 => ?_
 refine f_e ?_
 refine then_normal ?_
 refine wp_seq ?_
 refine d_s [2,3,4,5,6] [] En32 fun ac34 En35 => ?_
 refine wp_block ?_
 refine loop_m (fun ms36 ac wo => ∃ (i : Nat) (R : List UInt64), ms36 = (15 - i : Nat) ∧ Env ac 48 [(2, pt bk1), (3, pt bk6), (4, pt bk11), (5, pt bk25), (6, ni (i + 1))] ∧ Ev w [] wo [.box bk25 (u64s R) 79, .box bk1 (u64s p) 52, .box bk6 (u64s k) 24, .box bk11 (u64s (List.replicate 12 0)) 52] ∧ (i ≤ 15) ∧ (List.length R = 192) ∧ (∀ j, j < i + 1 → List.take 12 (List.drop (j * 12) R) = rowF p j)) ⟨_, 0, rows0, rfl, En35.sb, Hv33.pk [3, 0, 1, 2], (by omega), rows0_len, (fun j hj => by have e : j = 0 := (by omega); subst e; exact rows0_0)⟩ ?_
 rintro mm42 ac38 wo39 ⟨i, R, rfl, En40, Hv41, hi, hR, hf⟩
 refine wp_seq ?_
 refine d_s [2,3,4,5,6,12] [] En40 fun ac43 En44 => ?_
 refine c_d (((i + 1 : Nat) : Int) < (16 : Int)) En44 (fun hc45 => ?_) (fun hc45 => ?_)
 ·
  refine wp_skip ?_
  refine then_normal ?_
  refine wp_seq ?_
  refine wp_block ?_
  refine r_c (fun ac wo => Env ac 48 [(2, pt bk1), (3, pt bk6), (4, pt bk11), (5, pt bk25), (6, ni (i + 1))] ∧ Ev w [] wo [.box bk25 (u64s (List.take ((i + 1) * 12) R ++ (wtL (List.take 12 (List.drop (i * 12) R)) p) ++ List.drop (((i + 1) * 12) + 12) R)) 79, .box bk1 (u64s p) 52, .box bk6 (u64s k) 24, .box bk11 (u64s (List.replicate 12 0)) 52]) ?_ ?_
  ·
   refine s_g0 [(2, pt bk1), (3, pt bk6), (4, pt bk11), (5, pt bk25), (6, ni (i + 1))] [0,1,2,3,4,5,6,7] [(15, ni (i + 1)), (16, ni (i + 1)), (17, ni i), (18, .pointer (some ⟨bk25, i * 12, none⟩)), (19, .agg (List.toArray (u64s (List.take 12 (List.drop (i * 12) R))))), (20, .agg (List.toArray (u64s p))), (21, .agg (List.toArray (u64s (wtL (List.take 12 (List.drop (i * 12) R)) p)))), (22, .pointer (some ⟨bk25, (i + 1) * 12, none⟩))] 1 [(2, pt bk1), (3, pt bk6), (4, pt bk11), (5, pt bk25), (6, ni (i + 1)), (21, .agg (List.toArray (u64s (wtL (List.take 12 (List.drop (i * 12) R)) p)))), (22, .pointer (some ⟨bk25, (i + 1) * 12, none⟩))] (En44.sb) (Hv41.trans (Ev.drew Hv41.heap)) ?_ fun ac79 wo80 En81 Hv82 => ?_
   ·
    refine s_p [] ?_
    refine s_p [] ?_
    refine s_p [(2, g_n (w_r (e := ((i + 1 : Nat) : Int) - (1 : Int)) (x := ((i : Nat) : Int)) (by omega)))] ?_
    refine s_c (fun Mx46 ac47 wo48 En49 Hv50 => ?_) ?_
    ·
     refine q_v (x := Instr.indexAt 79 (pt bk25) (ni i)) (v := .pointer (some ⟨bk25, i * 12, none⟩)) En49 (Go.Dbr.run_indexarr (e := 52) (sz := 12) (m := 16) (j := i) (o := i * 12) (by kernel_rfl) (by kernel_rfl) (by omega) (by omega) (by omega) _) fun ac51 En52 => ?_
     exact s_e En52 Hv50
    refine s_a 0 (i * 12) 12 (u64s (List.take 12 (List.drop (i * 12) R))) rfl (u64s_sub _ _ _) (u64s_lenh (sub_len hR (by omega))) ?_
    refine s_a 1 0 12 (u64s p) rfl (load_whole (u64s_lenh hp)) (u64s_lenh hp) ?_
    refine s_f (fun _ => with12_go _ (List.take 12 (List.drop (i * 12) R)) p (sub_len hR (by omega)) hp) ?_
    refine s_c (fun Mx72 ac73 wo74 En75 Hv76 => ?_) ?_
    ·
     refine q_v (x := Instr.indexAt 79 (pt bk25) (ni (i + 1))) (v := .pointer (some ⟨bk25, (i + 1) * 12, none⟩)) En75 (Go.Dbr.run_indexarr (e := 52) (sz := 12) (m := 16) (j := i + 1) (o := (i + 1) * 12) (by kernel_rfl) (by kernel_rfl) (by omega) (by omega) (by omega) _) fun ac77 En78 => ?_
     exact s_e En78 Hv76
    exact s_n
   refine q_u 8 ?_
   refine m_g 0 ((i + 1) * 12) 12 (u64s (wtL (List.take 12 (List.drop (i * 12) R)) p)) (u64s (List.take ((i + 1) * 12) R ++ (wtL (List.take 12 (List.drop (i * 12) R)) p) ++ List.drop (((i + 1) * 12) + 12) R)) [.box bk25 (u64s (List.take ((i + 1) * 12) R ++ (wtL (List.take 12 (List.drop (i * 12) R)) p) ++ List.drop (((i + 1) * 12) + 12) R)) 79, .box bk1 (u64s p) 52, .box bk6 (u64s k) 24, .box bk11 (u64s (List.replicate 12 0)) 52] En81 Hv82 rfl (u64s_lenh (wtL_len _ _)) (by rw [(u64s_lenh hR)]; omega) (u64s_one _) (u64s_put _ _ _ _) rfl fun ac87 wo88 En89 Hv90 => ?_
   exact a_e ⟨En89.sb, Hv90.pk [0, 1, 2, 3]⟩
  rintro ac91 wo92 ⟨En93, Hv94⟩
  refine block_normal ?_
  refine then_normal ?_
  refine d_r [2,3,4,5,6] [(1, g_n (w_a (i + 1) 1))] En93 fun ac95 En96 => ?_
  refine then_normal ?_
  refine ⟨_, ⟨i + 1, (List.take ((i + 1) * 12) R ++ (wtL (List.take 12 (List.drop (i * 12) R)) p) ++ List.drop (((i + 1) * 12) + 12) R), rfl, En96.sb, Hv94.pk [0, 1, 2, 3], (by omega), (put_len hR (wtL_len _ _) (by omega)), (fun j hj => by rcases Nat.lt_succ_iff_lt_or_eq.1 hj with h | h; (rw [put_other hR (wtL_len _ _) (by omega) (by omega)]; exact hf j (by omega)); (rw [h, put_same hR (wtL_len _ _) (by omega)]; rw [hf i (Nat.lt_succ_self i)]; rfl))⟩, ?_⟩
  omega
 ·
  refine wp_exit ?_
  refine then_exit ?_
  refine then_exit ?_
  refine block_exit ?_
  refine then_normal ?_
  refine wp_seq ?_
  refine region_from ?_
  refine f_o ?_
  refine c_p En44 Hv41 (zero12_go _) fun ac101 wo98 En102 Hv103 => ?_
  refine f_o ?_
  refine m_z 52 (u64s (List.replicate 12 0)) En102 Hv103 fun ac105 wo106 bk104 En107 Hv108 => ?_
  refine f_o ?_
  refine m_g 4 0 12 (u64s zero12) (u64s zero12) [.box bk25 (u64s R) 79, .box bk1 (u64s p) 52, .box bk6 (u64s k) 24, .box bk11 (u64s (List.replicate 12 0)) 52, .box bk104 (u64s zero12) 52] En107 Hv108 rfl (u64s_lenh (l3_len _ _ _)) (by rw [(u64s_lenh (List.length_replicate))]; decide) (u64s_one _) (store_whole (u64s_lenh (List.length_replicate))) rfl fun ac109 wo110 En111 Hv112 => ?_
  refine f_e ?_
  refine then_normal ?_
  refine wp_seq ?_
  refine d_s [2,3,4,5,6,7,8] [] En111 fun ac113 En114 => ?_
  refine wp_block ?_
  refine loop_m (fun ms115 ac wo => ∃ (j : Nat) (o : List UInt64), ms115 = (64 - j : Nat) ∧ Env ac 48 [(2, pt bk1), (3, pt bk6), (4, pt bk11), (5, pt bk25), (6, ni (i + 1)), (7, pt bk104), (8, .int .i64 ((63 : Int) - ((j : Nat) : Int)))] ∧ Ev w [] wo [.box bk104 (u64s o) 52, .box bk25 (u64s R) 79, .box bk1 (u64s p) 52, .box bk6 (u64s k) 24, .box bk11 (u64s (List.replicate 12 0)) 52] ∧ (j ≤ 64) ∧ (List.length o = 12) ∧ (o = tmF p (nv k) j)) ⟨_, 0, zero12, rfl, En114.sb, Hv112.pk [4, 0, 1, 2, 3], (by omega), (l3_len _ _ _), rfl⟩ ?_
  rintro mm121 ac117 wo118 ⟨j, o, rfl, En119, Hv120, hj, ho, he⟩
  refine wp_seq ?_
  refine d_s [2,3,4,5,6,7,8,25] [] En119 fun ac122 En123 => ?_
  refine c_d ((63 : Int) - ((j : Nat) : Int) ≥ (0 : Int)) En123 (fun hc124 => ?_) (fun hc124 => ?_)
  ·
   refine wp_skip ?_
   refine then_normal ?_
   refine wp_seq ?_
   refine wp_block ?_
   refine wp_seq ?_
   refine d_s [2,3,4,5,6,7,8,28] [] En123 fun ac125 En126 => ?_
   refine wp_block ?_
   refine loop_m (fun ms127 ac wo => ∃ (q : Nat) (o2 : List UInt64), ms127 = (4 - q : Nat) ∧ Env ac 48 [(2, pt bk1), (3, pt bk6), (4, pt bk11), (5, pt bk25), (6, ni (i + 1)), (7, pt bk104), (8, .int .i64 ((63 : Int) - ((j : Nat) : Int))), (28, ni q)] ∧ Ev w [] wo [.box bk104 (u64s o2) 52, .box bk25 (u64s R) 79, .box bk1 (u64s p) 52, .box bk6 (u64s k) 24, .box bk11 (u64s (List.replicate 12 0)) 52] ∧ (q ≤ 4) ∧ (List.length o2 = 12) ∧ (o2 = dblF o q)) ⟨_, 0, o, rfl, En126.sb, Hv120.pk [0, 1, 2, 3, 4], (by omega), ho, rfl⟩ ?_
   rintro mm133 ac129 wo130 ⟨q, o2, rfl, En131, Hv132, hq, ho2, heq⟩
   refine d_s [2,3,4,5,6,7,8,28,29] [] En131 fun ac134 En135 => ?_
   refine wp_seq ?_
   refine c_d (((q : Nat) : Int) < (4 : Int)) En135 (fun hc136 => ?_) (fun hc136 => ?_)
   ·
    refine wp_skip ?_
    refine then_normal ?_
    refine wp_seq ?_
    refine wp_block ?_
    refine region_from ?_
    refine f_o ?_
    refine m_a 0 0 12 (u64s o2) En135 Hv132 rfl (load_whole (u64s_lenh ho2)) (u64s_lenh ho2) fun ac137 En138 => ?_
    refine f_o ?_
    refine m_a 0 0 12 (u64s o2) En138 Hv132 rfl (load_whole (u64s_lenh ho2)) (u64s_lenh ho2) fun ac139 En140 => ?_
    refine f_o ?_
    refine c_p En140 Hv132 (with12_go _ o2 o2 ho2 ho2) fun ac145 wo142 En146 Hv147 => ?_
    refine f_o ?_
    refine m_g 0 0 12 (u64s (wtL o2 o2)) (u64s (wtL o2 o2)) [.box bk104 (u64s (wtL o2 o2)) 52, .box bk25 (u64s R) 79, .box bk1 (u64s p) 52, .box bk6 (u64s k) 24, .box bk11 (u64s (List.replicate 12 0)) 52] En146 Hv147 rfl (u64s_lenh (wtL_len _ _)) (by rw [(u64s_lenh ho2)]; decide) (u64s_one _) (store_whole (u64s_lenh ho2)) rfl fun ac148 wo149 En150 Hv151 => ?_
    refine f_e ?_
    refine block_normal ?_
    refine then_normal ?_
    refine d_r [2,3,4,5,6,7,8,28] [(0, g_n (w_a q 1))] En150 fun ac152 En153 => ?_
    refine then_normal ?_
    refine ⟨_, ⟨q + 1, (wtL o2 o2), rfl, En153.sb, Hv151.pk [0, 1, 2, 3, 4], (by omega), (wtL_len _ _), (by rw [heq]; rfl)⟩, ?_⟩
    omega
   ·
    refine wp_exit ?_
    refine then_exit ?_
    refine then_exit ?_
    refine block_exit ?_
    refine then_normal ?_
    have hq4 : q = 4 := by omega
    have he2 : o2 = dblF o 4 := by rw [heq, hq4]
    have hj63 : j < 64 := by omega
    have hnl := nib_lt (nv k) (63 - j)
    refine r_c (fun ac wo => Env ac 48 [(2, pt bk1), (3, pt bk6), (4, pt bk11), (5, pt bk25), (6, ni (i + 1)), (7, pt bk104), (8, .int .i64 ((63 : Int) - ((j : Nat) : Int))), (28, ni q)] ∧ Ev w [] wo [.box bk104 (u64s (wtL o2 (List.take 12 (List.drop ((nib (nv k) (63 - j)) * 12) R)))) 52, .box bk25 (u64s R) 79, .box bk1 (u64s p) 52, .box bk6 (u64s k) 24, .box bk11 (u64s (List.replicate 12 0)) 52]) ?_ ?_
    ·
     refine s_g0 [(2, pt bk1), (3, pt bk6), (4, pt bk11), (5, pt bk25), (6, ni (i + 1)), (7, pt bk104), (8, .int .i64 ((63 : Int) - ((j : Nat) : Int))), (28, ni q)] [0,1,2,3,4,5,6,7,8,9,10,11,12] [(34, .agg (List.toArray (u64s o2))), (35, ni (63 - j)), (36, ni ((63 - j) / 16)), (37, .pointer (some ⟨bk6, (63 - j) / 16, none⟩)), (38, uv64 (List.getD k ((63 - j) / 16) 0)), (39, ni (63 - j)), (40, ni ((63 - j) % 16)), (41, ni (4 * ((63 - j) % 16))), (42, uv64 ((List.getD k ((63 - j) / 16) 0) >>> UInt64.ofNat (4 * ((63 - j) % 16)))), (43, .int .u64 ((nib (nv k) (63 - j) : Nat) : Int)), (44, .pointer (some ⟨bk25, (nib (nv k) (63 - j)) * 12, none⟩)), (45, .agg (List.toArray (u64s (List.take 12 (List.drop ((nib (nv k) (63 - j)) * 12) R))))), (46, .agg (List.toArray (u64s (wtL o2 (List.take 12 (List.drop ((nib (nv k) (63 - j)) * 12) R))))))] 1 [(2, pt bk1), (3, pt bk6), (4, pt bk11), (5, pt bk25), (6, ni (i + 1)), (7, pt bk104), (8, .int .i64 ((63 : Int) - ((j : Nat) : Int))), (28, ni q), (46, .agg (List.toArray (u64s (wtL o2 (List.take 12 (List.drop ((nib (nv k) (63 - j)) * 12) R))))))] (En135.sb) (Hv132.trans (Ev.drew Hv132.heap)) ?_ fun ac202 wo203 En204 Hv205 => ?_
     ·
      refine s_a 0 0 12 (u64s o2) rfl (load_whole (u64s_lenh ho2)) (u64s_lenh ho2) ?_
      refine s_p [(1, g_i .i64 (show (63 : Int) - ((j : Nat) : Int) = ((63 - j : Nat) : Int) from by omega))] ?_
      refine s_p [(2, g_i .i64 (show IntKind.wrap .i64 (Int.tdiv ((63 - j : Nat) : Int) (16 : Int)) = (((63 - j) / 16 : Nat) : Int) from Go.Dbr.i64_quo_nat (a := ((63 - j : Nat) : Int)) (n := 63 - j) (m := 16) rfl (by omega)))] ?_
      refine s_c (fun Mx159 ac160 wo161 En162 Hv163 => ?_) ?_
      ·
       refine q_v (x := Instr.indexAt 24 (pt bk6) (ni ((63 - j) / 16))) (v := .pointer (some ⟨bk6, (63 - j) / 16, none⟩)) En162 (Go.Dbr.run_indexarr (e := 22) (sz := 1) (m := 4) (j := (63 - j) / 16) (o := (63 - j) / 16) (by kernel_rfl) (by kernel_rfl) (by omega) (by omega) (by omega) _) fun ac164 En165 => ?_
       exact s_e En165 Hv163
      refine s_c (fun Mx166 ac167 wo168 En169 Hv170 => ?_) ?_
      ·
       have hb171 : (63 - j) / 16 < List.length k := by rw [hk]; omega
       refine m_v 3 ((63 - j) / 16) (uv64 (List.getD k ((63 - j) / 16) 0)) En169 Hv170 rfl (u64s_getD hb171) fun ac172 En173 => ?_
       exact s_e En173 Hv170
      refine s_p [(5, g_i .i64 (show (63 : Int) - ((j : Nat) : Int) = ((63 - j : Nat) : Int) from by omega))] ?_
      refine s_p [(6, g_i .i64 (show Int.tmod ((63 - j : Nat) : Int) (16 : Int) = (((63 - j) % 16 : Nat) : Int) from Go.Dbr.i64_rem_nat (a := ((63 - j : Nat) : Int)) (n := 63 - j) (m := 16) rfl (by omega)))] ?_
      refine s_p [(7, g_n (w_m 4 ((63 - j) % 16)))] ?_
      refine s_c (fun Mx174 ac175 wo176 En177 Hv178 => ?_) ?_
      ·
       refine q_v En177 (Go.Dbr.run_shr_u64 (List.getD k ((63 - j) / 16) 0) .i64 (4 * ((63 - j) % 16)) (by omega) _) fun ac179 En180 => ?_
       exact s_e En180 Hv178
      refine s_p [(9, g_v (show (.int .u64 (IntKind.wrap .u64 ((BitVec.ofInt (IntKind.bits .u64) ((UInt64.toNat ((List.getD k ((63 - j) / 16) 0) >>> UInt64.ofNat (4 * ((63 - j) % 16))) : Nat) : Int) &&& BitVec.ofInt (IntKind.bits .u64) (15 : Int)).toNat : Int)) : Value) = .int .u64 ((nib (nv k) (63 - j) : Nat) : Int) by rw [Go.Dbr.u64_and (a := ((UInt64.toNat ((List.getD k ((63 - j) / 16) 0) >>> UInt64.ofNat (4 * ((63 - j) % 16))) : Nat) : Int)) (b := (15 : Int)) (x := (List.getD k ((63 - j) / 16) 0) >>> UInt64.ofNat (4 * ((63 - j) % 16))) (y := (15 : UInt64)) rfl rfl, nib_u hk (show 63 - j < 64 by omega)] <;> rfl))] ?_
      refine s_c (fun Mx181 ac182 wo183 En184 Hv185 => ?_) ?_
      ·
       refine q_v (x := Instr.indexAt 79 (pt bk25) (.int .u64 ((nib (nv k) (63 - j) : Nat) : Int))) (v := .pointer (some ⟨bk25, (nib (nv k) (63 - j)) * 12, none⟩)) En184 (Go.Dbr.run_indexarr (e := 52) (sz := 12) (m := 16) (j := nib (nv k) (63 - j)) (o := (nib (nv k) (63 - j)) * 12) (by kernel_rfl) (by kernel_rfl) (by omega) (by omega) (by omega) _) fun ac186 En187 => ?_
       exact s_e En187 Hv185
      refine s_a 1 ((nib (nv k) (63 - j)) * 12) 12 (u64s (List.take 12 (List.drop ((nib (nv k) (63 - j)) * 12) R))) rfl (u64s_sub _ _ _) (u64s_lenh (sub_len hR (by omega))) ?_
      refine s_f (fun _ => with12_go _ o2 (List.take 12 (List.drop ((nib (nv k) (63 - j)) * 12) R)) ho2 (sub_len hR (by omega))) ?_
      exact s_n
     refine q_u 13 ?_
     refine m_g 0 0 12 (u64s (wtL o2 (List.take 12 (List.drop ((nib (nv k) (63 - j)) * 12) R)))) (u64s (wtL o2 (List.take 12 (List.drop ((nib (nv k) (63 - j)) * 12) R)))) [.box bk104 (u64s (wtL o2 (List.take 12 (List.drop ((nib (nv k) (63 - j)) * 12) R)))) 52, .box bk25 (u64s R) 79, .box bk1 (u64s p) 52, .box bk6 (u64s k) 24, .box bk11 (u64s (List.replicate 12 0)) 52] En204 Hv205 rfl (u64s_lenh (wtL_len _ _)) (by rw [(u64s_lenh ho2)]; decide) (u64s_one _) (store_whole (u64s_lenh ho2)) rfl fun ac210 wo211 En212 Hv213 => ?_
     exact a_e ⟨En212.sb, Hv213.pk [0, 1, 2, 3, 4]⟩
    rintro ac214 wo215 ⟨En216, Hv217⟩
    refine block_normal ?_
    refine then_normal ?_
    refine d_r [2,3,4,5,6,7,8,28] [(1, g_n (w_r (e := ((63 : Int) - ((j : Nat) : Int)) - (1 : Int)) (x := (63 : Int) - ((j + 1 : Nat) : Int)) (by omega)))] En216 fun ac218 En219 => ?_
    refine then_normal ?_
    refine ⟨_, ⟨j + 1, (wtL o2 (List.take 12 (List.drop ((nib (nv k) (63 - j)) * 12) R))), rfl, En219.sb, Hv217.pk [0, 1, 2, 3, 4], (by omega), (wtL_len _ _), (by rw [he2, hf _ (by have := nib_lt (nv k) (63 - j); omega), he]; rfl)⟩, ?_⟩
    omega
  ·
   refine wp_exit ?_
   refine then_exit ?_
   refine then_exit ?_
   refine block_exit ?_
   refine then_normal ?_
   refine wp_seq ?_
   refine region_from ?_
   refine f_o ?_
   refine m_a 0 0 12 (u64s o) En123 Hv120 rfl (load_whole (u64s_lenh ho)) (u64s_lenh ho) fun ac220 En221 => ?_
   refine f_o ?_
   refine m_g 4 0 12 (u64s o) (u64s o) [.box bk104 (u64s o) 52, .box bk25 (u64s R) 79, .box bk1 (u64s p) 52, .box bk6 (u64s k) 24, .box bk11 (u64s o) 52] En221 Hv120 rfl (u64s_lenh ho) (by rw [(u64s_lenh (List.length_replicate))]; decide) (u64s_one _) (store_whole (u64s_lenh (List.length_replicate))) rfl fun ac222 wo223 En224 Hv225 => ?_
   refine f_e ?_
   refine then_normal ?_
   refine wp_ret ?_
   refine d_cell1 (v := .agg (List.toArray (u64s o))) (t := 4) (T := 52) (ad := ⟨bk11, 0, none⟩) En224 (by kernel_rfl) (by kernel_rfl) (Ev.cellAgg (t := 52) (k := 4) (off := 0) (m := 12) (xs := u64s o) Hv225 rfl (load_whole (u64s_lenh ho)) (u64s_lenh ho) (by kernel_rfl) (by kernel_rfl)) ?_
   have hj4 : j = 64 := by omega
   exact ⟨by rw [he, hj4], Hv225.pk []⟩

end Go.Proofs.Ytpfhmbbiadpbeaa
