/- Layer 4, the document: what digits leave modulo the order of Ed25519. -/
import Derived.Test.YtamdjonejijndaaF10
namespace Go.Proofs.Ytamdjonejijndaa
open Go.Dbr
set_option maxRecDepth 100000
set_option maxHeartbeats 2000000
set_option linter.unusedVariables false
set_option linter.unusedSimpArgs false

theorem n32_ext {l : List UInt64} {k n : Nat} (hl : l.length = k) (h : ∀ j, j < k → (List.getD l j 0).toNat = n / 4294967296 ^ j % 4294967296) : l = n32 k n := by
  refine List.ext_getElem (by rw [hl, n32_len]) fun j h1 h2 => ?_
  apply UInt64.toNat_inj.1
  have a := h j (by omega)
  have b := n32_get k n j (by omega)
  rw [List.getD_eq_getElem?_getD, List.getElem?_eq_getElem h1] at a
  rw [List.getD_eq_getElem?_getD, List.getElem?_eq_getElem h2] at b
  exact a.trans b.symm
theorem getD_set_eq {u : List UInt64} {i : Nat} (x : UInt64) (h : i < u.length) : List.getD (List.set u i x) i 0 = x := by
  rw [List.getD_eq_getElem?_getD, List.getElem?_set_self h]; rfl
theorem getD_set_set {u : List UInt64} {i : Nat} (x y : UInt64) : List.set (List.set u i x) i y = List.set u i y := by
  rw [List.set_set]
theorem shr_n (x : UInt64) {n : Nat} (h : n < 64) : (x >>> UInt64.ofNat n).toNat = x.toNat / 2 ^ n := by
  rw [UInt64.toNat_shiftRight, Nat.shiftRight_eq_div_pow, ofNat_val, Nat.mod_eq_of_lt (a := n) (by omega), Nat.mod_eq_of_lt h]
theorem half_dig {x y : UInt64} (hx : x.toNat < 4294967296) : ((x >>> UInt64.ofNat 1) ||| ((y &&& 1) <<< UInt64.ofNat 31)).toNat = x.toNat / 2 + y.toNat % 2 * 2147483648 := by
  rw [UInt64.toNat_or, shr_n x (by decide), UInt64.toNat_shiftLeft, UInt64.toNat_and, show (1 : UInt64).toNat = 1 from rfl, Nat.and_one_is_mod, show (UInt64.ofNat 31).toNat % 64 = 31 from rfl]
  rw [Nat.mod_eq_of_lt (by rw [Nat.shiftLeft_eq]; omega), Nat.or_comm, ← Nat.shiftLeft_add_eq_or_of_lt (by omega), Nat.shiftLeft_eq]
  omega
theorem dbl_lo (x : UInt64) : ((x <<< UInt64.ofNat 1) &&& 4294967295).toNat = 2 * x.toNat % 4294967296 := by
  have := lt64 x
  rw [and_low, UInt64.toNat_shiftLeft, show (UInt64.ofNat 1).toNat % 64 = 1 from rfl, Nat.shiftLeft_eq]
  omega
theorem dbl_dig {x y : UInt64} (hy : y.toNat < 4294967296) : (((x <<< UInt64.ofNat 1) &&& 4294967295) ||| (y >>> UInt64.ofNat 31)).toNat = 2 * x.toNat % 4294967296 + y.toNat / 2147483648 := by
  rw [UInt64.toNat_or, dbl_lo, shr_n y (by decide)]
  have e : 2 * x.toNat % 4294967296 = (x.toNat % 2147483648) <<< 1 := by rw [Nat.shiftLeft_eq]; omega
  rw [e, ← Nat.shiftLeft_add_eq_or_of_lt (by omega)]
theorem dig_half (X j : Nat) : X / 2 / 4294967296 ^ j % 4294967296 = X / 4294967296 ^ j % 4294967296 / 2 + X / 4294967296 ^ (j + 1) % 4294967296 % 2 * 2147483648 := by
  rw [Nat.div_div_eq_div_mul, Nat.mul_comm 2, ← Nat.div_div_eq_div_mul, Nat.pow_succ, ← Nat.div_div_eq_div_mul]
  omega
theorem dig_dbl (X j : Nat) : 2 * X / 4294967296 ^ (j + 1) % 4294967296 = 2 * (X / 4294967296 ^ (j + 1) % 4294967296) % 4294967296 + X / 4294967296 ^ j % 4294967296 / 2147483648 := by
  have e : 2 * X / 4294967296 ^ (j + 1) = X / 4294967296 ^ j / 2147483648 := by
    rw [Nat.pow_succ, show 4294967296 ^ j * 4294967296 = 2 * (4294967296 ^ j * 2147483648) by omega, Nat.mul_div_mul_left _ _ (by decide), Nat.div_div_eq_div_mul]
  rw [e, Nat.pow_succ, ← Nat.div_div_eq_div_mul]
  omega
/-- so many digits are those of X, the others those of Y -/
def Two (X Y i : Nat) (u : List UInt64) : Prop := ∀ j, j < 17 → (List.getD u j 0).toNat = (if j < i then X else Y) / 4294967296 ^ j % 4294967296
theorem Two.zero {X Y : Nat} : Two X Y 0 (n32 17 Y) := fun j hj => by rw [if_neg (by omega)]; exact n32_get 17 Y j hj
theorem Two.all {X Y i : Nat} {u : List UInt64} (hu : u.length = 17) (hi : i = 17) (h : Two X Y i u) : u = n32 17 X := n32_ext hu fun j hj => by
  have := h j hj
  rwa [if_pos (by omega)] at this
theorem Two.step {X Y i : Nat} {u : List UInt64} {d : UInt64} (hu : u.length = 17) (hi : i < 17) (h : Two X Y i u) (hd : d.toNat = X / 4294967296 ^ i % 4294967296) : Two X Y (i + 1) (List.set u i d) := fun j hj => by
  by_cases e : i = j
  · subst e
    rw [getD_set_eq _ (by omega), hd, if_pos (by omega)]
  · rw [getD_set_ne _ e, h j hj]
    by_cases e2 : j < i
    · rw [if_pos e2, if_pos (by omega)]
    · rw [if_neg e2, if_neg (by omega)]
theorem half_in {X i : Nat} {u : List UInt64} (hu : u.length = 17) (hi : i < 16) (h : Two (X / 2) X i u) : Two (X / 2) X (i + 1) (List.set (List.set u i (List.getD u i 0 >>> UInt64.ofNat 1)) i (List.getD (List.set u i (List.getD u i 0 >>> UInt64.ofNat 1)) i 0 ||| ((List.getD (List.set u i (List.getD u i 0 >>> UInt64.ofNat 1)) (i + 1) 0 &&& 1) <<< UInt64.ofNat 31))) := by
  rw [List.set_set, getD_set_eq _ (by omega), getD_set_ne _ (by omega)]
  have e1 := h i (by omega)
  have e2 := h (i + 1) (by omega)
  rw [if_neg (by omega)] at e1 e2
  refine Two.step hu (by omega) h ?_
  rw [half_dig (by rw [e1]; omega), e1, e2, dig_half]
theorem half_last {X i : Nat} {u : List UInt64} (hX : X < 4294967296 ^ 17) (hu : u.length = 17) (hi : i = 16) (h : Two (X / 2) X i u) : Two (X / 2) X (i + 1) (List.set u i (List.getD u i 0 >>> UInt64.ofNat 1)) := by
  have e1 := h i (by omega)
  rw [if_neg (by omega)] at e1
  refine Two.step hu (by omega) h ?_
  rw [shr_n _ (by decide), e1, dig_half, show X / 4294967296 ^ (i + 1) = 0 by rw [hi]; exact Nat.div_eq_of_lt hX]
  omega
theorem dbl_in {X i : Nat} {u : List UInt64} (hu : u.length = 17) (hi : i < 17) (h0 : 0 < i) (h : Two (2 * X) 0 i u) : Two (2 * X) 0 (i + 1) (List.set (List.set u i ((List.getD (n32 17 X) i 0 <<< UInt64.ofNat 1) &&& 4294967295)) i (List.getD (List.set u i ((List.getD (n32 17 X) i 0 <<< UInt64.ofNat 1) &&& 4294967295)) i 0 ||| (List.getD (n32 17 X) (i - 1) 0 >>> UInt64.ofNat 31))) := by
  rw [List.set_set, getD_set_eq _ (by omega)]
  refine Two.step hu hi h ?_
  have e1 := n32_get 17 X i hi
  have e2 := n32_get 17 X (i - 1) (by omega)
  have e3 := dig_dbl X (i - 1)
  rw [show i - 1 + 1 = i by omega] at e3
  rw [dbl_dig (by rw [e2]; omega), e1, e2, e3]
theorem dbl_0 {X i : Nat} {u : List UInt64} (hu : u.length = 17) (h0 : i = 0) (h : Two (2 * X) 0 i u) : Two (2 * X) 0 (i + 1) (List.set u i ((List.getD (n32 17 X) i 0 <<< UInt64.ofNat 1) &&& 4294967295)) := by
  subst h0
  refine Two.step hu (by omega) h ?_
  rw [dbl_lo, n32_get 17 X 0 (by decide), Nat.pow_zero, Nat.div_one, Nat.div_one]
  omega
theorem Two.zeros {X : Nat} : Two X 0 0 (List.replicate 17 0) := fun j hj => by
  rw [zeros17, if_neg (by omega), Nat.zero_div]; rfl
/-- digits above are alike -/
theorem dk_same {a b : List UInt64} {q : Nat} : ∀ k, (∀ j, q ≤ j → j < q + k → List.getD a j 0 = List.getD b j 0) → dk a (q + k) + dk b q = dk b (q + k) + dk a q
  | 0, _ => by rw [Nat.add_zero, Nat.add_comm]
  | k + 1, h => by
    have ih := dk_same k fun j h1 h2 => h j h1 (by omega)
    have e := h (q + k) (by omega) (by omega)
    rw [← Nat.add_assoc, dk, dk, e]
    omega
theorem dk17 {a : List UInt64} (ha : a.length = 17) : dv 4294967296 a = dk a 17 := by
  have e := dk_split a 17
  rw [List.drop_eq_nil_of_le (by omega), show dv 4294967296 [] = 0 from rfl, Nat.mul_zero, Nat.add_zero] at e
  exact e
theorem lower_at {a b : List UInt64} (ha : a.length = 17) (hb : b.length = 17) (da : DG a) (db : DG b) {i : Nat} (hi : i < 17) (hs : ∀ j, i + 1 ≤ j → j < 17 → List.getD a j 0 = List.getD b j 0) (hne : ¬ (((List.getD a i 0).toNat : Nat) : Int) = (((List.getD b i 0).toNat : Nat) : Int)) : (((List.getD a i 0).toNat : Nat) : Int) < (((List.getD b i 0).toNat : Nat) : Int) ↔ dv 4294967296 a < dv 4294967296 b := by
  have e := dk_same (a := a) (b := b) (q := i + 1) (17 - (i + 1)) fun j h1 h2 => hs j h1 (by omega)
  rw [show i + 1 + (17 - (i + 1)) = 17 by omega] at e
  rw [dk17 ha, dk17 hb]
  rw [show dk b (i + 1) = dk b i + (List.getD b i 0).toNat * 4294967296 ^ i from rfl, show dk a (i + 1) = dk a i + (List.getD a i 0).toNat * 4294967296 ^ i from rfl] at e
  have l1 := dk_lt da i
  have l2 := dk_lt db i
  generalize 4294967296 ^ i = q at *
  constructor
  · intro h
    have : (List.getD a i 0).toNat + 1 ≤ (List.getD b i 0).toNat := by omega
    have := Nat.mul_le_mul_right q this
    rw [Nat.add_mul] at this
    omega
  · intro h
    rcases Nat.lt_or_ge (List.getD a i 0).toNat (List.getD b i 0).toNat with g | g
    · omega
    · have : (List.getD b i 0).toNat + 1 ≤ (List.getD a i 0).toNat := by omega
      have := Nat.mul_le_mul_right q this
      rw [Nat.add_mul] at this
      omega
theorem lower_eq {a b : List UInt64} (ha : a.length = 17) (hb : b.length = 17) (hs : ∀ j, 0 ≤ j → j < 17 → List.getD a j 0 = List.getD b j 0) : ¬ dv 4294967296 a < dv 4294967296 b := by
  have e := dk_same (a := a) (b := b) (q := 0) 17 fun j h1 h2 => hs j h1 (by omega)
  rw [Nat.zero_add] at e
  rw [dk17 ha, dk17 hb]
  simp only [dk] at *
  omega

theorem halved_go (w : World) (X : Nat) (hX : X < 4294967296 ^ 17) : Calls Try.prog 71 #[.agg (List.toArray (u64s (n32 17 X)))] w fun e w' => e = .returned (.agg (List.toArray (u64s (n32 17 (X / 2))))) ∧ Ev w [] w' [] := by
 refine d_0 [(0, .agg (List.toArray (u64s (n32 17 X))))] 29 Go.Proofs.Try.func71 Go.Proofs.Try.ntmps71 (Heap.nil _) fun act0 En0 Hv0 => ?_
 refine wp_seq ?_
 refine region_from ?_
 refine f_o ?_
 refine m_m 54 (u64s (n32 17 X)) En0 Hv0 fun ac2 wo3 bk1 En4 Hv5 => ?_
 refine f_o ?_
 refine m_z 54 (u64s (List.replicate 17 0)) En4 Hv5 fun ac7 wo8 bk6 En9 Hv10 => ?_
 refine f_e ?_
 refine then_normal ?_
 refine wp_seq ?_
 refine d_s [1,2,3] [] En9 fun ac11 En12 => ?_
 refine wp_block ?_
 refine loop_m (fun ms13 ac wo => ∃ (i : Nat) (u : List UInt64), ms13 = (18 - i : Nat) ∧ Env ac 29 [(1, pt bk1), (2, pt bk6), (3, ni i)] ∧ Ev w [] wo [.box bk1 (u64s u) 54, .box bk6 (u64s (List.replicate 17 0)) 54] ∧ (i ≤ 17) ∧ (List.length u = 17) ∧ (Two (X / 2) X i u)) ⟨_, 0, n32 17 X, rfl, En12.sb, Hv10.pk [0, 1], by omega, n32_len _ _, Two.zero⟩ ?_
 rintro mm19 ac15 wo16 ⟨i, u, rfl, En17, Hv18, hi, hu, h2⟩
 refine wp_seq ?_
 refine d_s [1,2,3,5] [] En17 fun ac20 En21 => ?_
 refine c_d (((i : Nat) : Int) < (17 : Int)) En21 (fun hc22 => ?_) (fun hc22 => ?_)
 ·
  refine wp_skip ?_
  refine then_normal ?_
  refine wp_seq ?_
  refine wp_block ?_
  refine wp_seq ?_
  refine region_from ?_
  refine d_k [1,2,3,8,9] [] 2 En21 fun ac23 En24 => ?_
  refine f_o ?_
  refine q_v (x := Instr.indexAt 54 (pt bk1) (ni i)) (v := .pointer (some ⟨bk1, i, none⟩)) En24 (Go.Dbr.run_indexarr (e := 23) (sz := 1) (m := 17) (j := i) (o := i) (by kernel_rfl) (by kernel_rfl) (by omega) (by omega) (by omega) _) fun ac25 En26 => ?_
  refine f_o ?_
  have hb27 : i < List.length u := by rw [hu]; omega
  refine m_v 0 i (uv64 (List.getD u i 0)) En26 Hv18 rfl (u64s_getD hb27) fun ac28 En29 => ?_
  refine d_k [1,2,3,8,12] [(4, g_i .u64 (Go.Dbr.u64_shr (x := List.getD u i 0) (n := 1) rfl (by decide)))] 5 En29 fun ac30 En31 => ?_
  refine f_o ?_
  refine q_v (x := Instr.indexAt 54 (pt bk1) (ni i)) (v := .pointer (some ⟨bk1, i, none⟩)) En31 (Go.Dbr.run_indexarr (e := 23) (sz := 1) (m := 17) (j := i) (o := i) (by kernel_rfl) (by kernel_rfl) (by omega) (by omega) (by omega) _) fun ac32 En33 => ?_
  refine f_o ?_
  have hb34 : i < List.length u := by rw [hu]; omega
  refine m_t 0 i (uv64 ((List.getD u i 0) >>> UInt64.ofNat 1)) [.box bk1 (u64s (List.set u i ((List.getD u i 0) >>> UInt64.ofNat 1))) 54, .box bk6 (u64s (List.replicate 17 0)) 54] En33 Hv18 rfl (u64s_getD hb34) (u64s_set _ _ _) rfl fun ac35 wo36 En37 Hv38 => ?_
  refine f_e ?_
  refine then_normal ?_
  refine d_s [1,2,3,15] [] En37 fun ac39 En40 => ?_
  refine c_d (((i : Nat) : Int) < (16 : Int)) En40 (fun hc41 => ?_) (fun hc41 => ?_)
  ·
   refine r_c (fun ac wo => Env ac 29 [(1, pt bk1), (2, pt bk6), (3, ni i)] ∧ Ev w [] wo [.box bk1 (u64s (List.set (List.set u i ((List.getD u i 0) >>> UInt64.ofNat 1)) i ((List.getD (List.set u i ((List.getD u i 0) >>> UInt64.ofNat 1)) i 0) ||| (((List.getD (List.set u i ((List.getD u i 0) >>> UInt64.ofNat 1)) (i + 1) 0) &&& (1 : UInt64)) <<< UInt64.ofNat 31)))) 54, .box bk6 (u64s (List.replicate 17 0)) 54]) ?_ ?_
   ·
    refine h_s (fun wv => Ev w [] wv [.box bk1 (u64s (List.set u i ((List.getD u i 0) >>> UInt64.ofNat 1))) 54]) [12] 13 ?_
    have wo42 := Hv38.trans (Ev.drew Hv38.heap)
    refine q_s [0,1] [] 11 En40 (wo42.pk [0]) fun ac106 En107 => ?_
    refine q_f 2 (s := Instr.indexAt 54 (pt bk1) (ni i)) (v := .pointer (some ⟨bk1, i, none⟩)) En107 (fun _ => Go.Dbr.run_indexarr (e := 23) (sz := 1) (m := 17) (j := i) (o := i) (by kernel_rfl) (by kernel_rfl) (by omega) (by omega) (by omega) _) (fun _ => wo42.pk [0]) fun ac108 En109 => ?_
    have hb110 : i < List.length (List.set u i ((List.getD u i 0) >>> UInt64.ofNat 1)) := by rw [(List.length_set.trans hu)]; omega
    refine q_r 3 (s := Instr.loadAt 23 (.pointer (some ⟨bk1, i, none⟩))) (v := uv64 (List.getD (List.set u i ((List.getD u i 0) >>> UInt64.ofNat 1)) i 0)) En109 (fun w hS => run_load1 (by kernel_rfl) (hS.heap.cell (k := 0) rfl (u64s_getD hb110))) (wo42.pk [0]) fun ac111 En112 => ?_
    refine q_s [4,5] [(5, g_n (w_a i 1))] 7 En112 (wo42.pk [0]) fun ac113 En114 => ?_
    refine q_f 6 (s := Instr.indexAt 54 (pt bk1) (ni (i + 1))) (v := .pointer (some ⟨bk1, i + 1, none⟩)) En114 (fun _ => Go.Dbr.run_indexarr (e := 23) (sz := 1) (m := 17) (j := i + 1) (o := i + 1) (by kernel_rfl) (by kernel_rfl) (by omega) (by omega) (by omega) _) (fun _ => wo42.pk [0]) fun ac115 En116 => ?_
    have hb117 : i + 1 < List.length (List.set u i ((List.getD u i 0) >>> UInt64.ofNat 1)) := by rw [(List.length_set.trans hu)]; omega
    refine q_r 7 (s := Instr.loadAt 23 (.pointer (some ⟨bk1, i + 1, none⟩))) (v := uv64 (List.getD (List.set u i ((List.getD u i 0) >>> UInt64.ofNat 1)) (i + 1) 0)) En116 (fun w hS => run_load1 (by kernel_rfl) (hS.heap.cell (k := 0) rfl (u64s_getD hb117))) (wo42.pk [0]) fun ac118 En119 => ?_
    refine q_s [8,9,10] [(8, g_i .u64 (Go.Dbr.u64_and (x := List.getD (List.set u i ((List.getD u i 0) >>> UInt64.ofNat 1)) (i + 1) 0) (y := (1 : UInt64)) rfl rfl)), (9, g_i .u64 (Go.Dbr.u64_shl (x := (List.getD (List.set u i ((List.getD u i 0) >>> UInt64.ofNat 1)) (i + 1) 0) &&& (1 : UInt64)) (n := 31) rfl (by decide))), (10, g_i .u64 (Go.Dbr.u64_or (x := List.getD (List.set u i ((List.getD u i 0) >>> UInt64.ofNat 1)) i 0) (y := ((List.getD (List.set u i ((List.getD u i 0) >>> UInt64.ofNat 1)) (i + 1) 0) &&& (1 : UInt64)) <<< UInt64.ofNat 31) rfl rfl))] 2 En119 (wo42.pk [0]) fun ac120 En121 => ?_
    refine q_f 11 (s := Instr.indexAt 54 (pt bk1) (ni i)) (v := .pointer (some ⟨bk1, i, none⟩)) En121 (fun _ => Go.Dbr.run_indexarr (e := 23) (sz := 1) (m := 17) (j := i) (o := i) (by kernel_rfl) (by kernel_rfl) (by omega) (by omega) (by omega) _) (fun _ => wo42.pk [0]) fun ac122 En123 => ?_
    refine q_t 12 ?_
    have hb124 : i < List.length (List.set u i ((List.getD u i 0) >>> UInt64.ofNat 1)) := by rw [(List.length_set.trans hu)]; omega
    refine m_t 0 i (uv64 ((List.getD (List.set u i ((List.getD u i 0) >>> UInt64.ofNat 1)) i 0) ||| (((List.getD (List.set u i ((List.getD u i 0) >>> UInt64.ofNat 1)) (i + 1) 0) &&& (1 : UInt64)) <<< UInt64.ofNat 31))) [.box bk1 (u64s (List.set (List.set u i ((List.getD u i 0) >>> UInt64.ofNat 1)) i ((List.getD (List.set u i ((List.getD u i 0) >>> UInt64.ofNat 1)) i 0) ||| (((List.getD (List.set u i ((List.getD u i 0) >>> UInt64.ofNat 1)) (i + 1) 0) &&& (1 : UInt64)) <<< UInt64.ofNat 31)))) 54, .box bk6 (u64s (List.replicate 17 0)) 54] En123 wo42 rfl (u64s_getD hb124) (u64s_set _ _ _) rfl fun ac125 wo126 En127 Hv128 => ?_
    refine ⟨q_y, ?_⟩
    exact h_e ⟨En127.sb, Hv128.pk [0, 1]⟩
   rintro ac129 wo130 ⟨En131, Hv132⟩
   refine block_normal ?_
   refine then_normal ?_
   refine d_r [1,2,3] [(1, g_n (w_a i 1))] En131 fun ac133 En134 => ?_
   refine then_normal ?_
   refine ⟨_, ⟨i + 1, (List.set (List.set u i ((List.getD u i 0) >>> UInt64.ofNat 1)) i ((List.getD (List.set u i ((List.getD u i 0) >>> UInt64.ofNat 1)) i 0) ||| (((List.getD (List.set u i ((List.getD u i 0) >>> UInt64.ofNat 1)) (i + 1) 0) &&& (1 : UInt64)) <<< UInt64.ofNat 31))), rfl, En134.sb, Hv132.pk [0, 1], by omega, (by simp [hu]), (by first | exact half_in hu (by omega) h2 | exact half_last hX hu (by omega) h2)⟩, ?_⟩
   omega
  ·
   refine wp_skip ?_
   refine block_normal ?_
   refine then_normal ?_
   refine d_r [1,2,3] [(1, g_n (w_a i 1))] En40 fun ac135 En136 => ?_
   refine then_normal ?_
   refine ⟨_, ⟨i + 1, (List.set u i ((List.getD u i 0) >>> UInt64.ofNat 1)), rfl, En136.sb, Hv38.pk [0, 1], by omega, (by simp [hu]), (by first | exact half_in hu (by omega) h2 | exact half_last hX hu (by omega) h2)⟩, ?_⟩
   omega
 ·
  refine wp_exit ?_
  refine then_exit ?_
  refine then_exit ?_
  refine block_exit ?_
  refine then_normal ?_
  refine wp_seq ?_
  refine region_from ?_
  refine f_o ?_
  refine m_a 0 0 17 (u64s u) En21 Hv18 rfl (load_whole (u64s_lenh hu)) (u64s_lenh hu) fun ac137 En138 => ?_
  refine f_o ?_
  refine m_g 1 0 17 (u64s u) (u64s u) [.box bk1 (u64s u) 54, .box bk6 (u64s u) 54] En138 Hv18 rfl (u64s_lenh hu) (by rw [(u64s_lenh (List.length_replicate))]; decide) (u64s_one _) (store_whole (u64s_lenh (List.length_replicate))) rfl fun ac139 wo140 En141 Hv142 => ?_
  refine f_e ?_
  refine then_normal ?_
  refine wp_ret ?_
  refine d_cell1 (v := .agg (List.toArray (u64s u))) (t := 2) (T := 54) (ad := ⟨bk6, 0, none⟩) En141 (by kernel_rfl) (by kernel_rfl) (Ev.cellAgg (t := 54) (k := 1) (off := 0) (m := 17) (xs := u64s u) Hv142 rfl (load_whole (u64s_lenh hu)) (u64s_lenh hu) (by kernel_rfl) (by kernel_rfl)) ?_
  have hue := Two.all hu (by omega) h2
  subst hue
  exact ⟨rfl, Hv142.pk []⟩

theorem lower_go (w : World) (a b : List UInt64) (ha : List.length a = 17) (hb : List.length b = 17) (da : DG a) (db : DG b) : Calls Try.prog 70 #[.agg (List.toArray (u64s a)), .agg (List.toArray (u64s b))] w fun e w' => e = .returned (.bool (decide (dv 4294967296 a < dv 4294967296 b))) ∧ Ev w [] w' [] := by
 refine d_0 [(0, .agg (List.toArray (u64s a))), (1, .agg (List.toArray (u64s b)))] 24 Go.Proofs.Try.func70 Go.Proofs.Try.ntmps70 (Heap.nil _) fun act0 En0 Hv0 => ?_
 refine wp_seq ?_
 refine region_from ?_
 refine f_o ?_
 refine m_m 54 (u64s a) En0 Hv0 fun ac2 wo3 bk1 En4 Hv5 => ?_
 refine f_o ?_
 refine m_m 54 (u64s b) En4 Hv5 fun ac7 wo8 bk6 En9 Hv10 => ?_
 refine d_e [2,3,4] [] En9 fun ac11 En12 => ?_
 refine then_normal ?_
 refine wp_seq ?_
 refine wp_seq ?_
 refine d_r [2,3,4,5] [] En12 fun ac13 En14 => ?_
 refine then_normal ?_
 refine wp_block ?_
 refine loop_m (fun ms15 ac wo => ∃ (q : Nat), ms15 = (q + 1 : Nat) ∧ Env ac 24 [(2, pt bk1), (3, pt bk6), (5, .int .i64 (((q : Nat) : Int) - (1 : Int)))] ∧ Ev w [] wo [.box bk1 (u64s a) 54, .box bk6 (u64s b) 54] ∧ (q ≤ 17) ∧ (∀ j, q ≤ j → j < 17 → List.getD a j 0 = List.getD b j 0)) ⟨_, 17, rfl, En14.sb, Hv10.pk [0, 1], by omega, fun j h1 h2 => by omega⟩ ?_
 rintro mm21 ac17 wo18 ⟨q, rfl, En19, Hv20, hq, hs⟩
 refine wp_seq ?_
 refine wp_seq ?_
 refine d_r [2,3,5,7] [] En19 fun ac22 En23 => ?_
 refine then_normal ?_
 refine c_d (((q : Nat) : Int) - (1 : Int) ≥ (0 : Int)) En23 (fun hc24 => ?_) (fun hc24 => ?_)
 ·
  refine wp_skip ?_
  refine then_normal ?_
  refine wp_seq ?_
  refine wp_block ?_
  refine wp_seq ?_
  have En25 := Env.fx (t := 5) (v := .int .i64 (((q : Nat) : Int) - (1 : Int))) (u := ni (q - 1)) En23 (congrArg (Value.int .i64) (show ((q : Nat) : Int) - (1 : Int) = ((q - 1 : Nat) : Int) by omega))
  refine r_c (fun ac wo => Env ac 24 [(2, pt bk1), (3, pt bk6), (5, ni (q - 1)), (16, .bool (((UInt64.toNat (List.getD a (q - 1) 0) : Nat) : Int) != ((UInt64.toNat (List.getD b (q - 1) 0) : Nat) : Int)))] ∧ Ev w [] wo [.box bk1 (u64s a) 54, .box bk6 (u64s b) 54]) ?_ ?_
  ·
   refine h_s (fun wv => Ev w [] wv [.box bk1 (u64s a) 54, .box bk6 (u64s b) 54]) [] 7 ?_
   have wo26 := Hv20.trans (Ev.drew Hv20.heap)
   refine q_s [0] [] 6 En25 (wo26.pk [0, 1]) fun ac67 En68 => ?_
   refine q_f 1 (s := Instr.indexAt 54 (pt bk1) (ni (q - 1))) (v := .pointer (some ⟨bk1, q - 1, none⟩)) En68 (fun _ => Go.Dbr.run_indexarr (e := 23) (sz := 1) (m := 17) (j := q - 1) (o := q - 1) (by kernel_rfl) (by kernel_rfl) (by omega) (by omega) (by omega) _) (fun _ => wo26.pk [0, 1]) fun ac69 En70 => ?_
   have hb71 : q - 1 < List.length a := by rw [ha]; omega
   refine q_r 2 (s := Instr.loadAt 23 (.pointer (some ⟨bk1, q - 1, none⟩))) (v := uv64 (List.getD a (q - 1) 0)) En70 (fun w hS => run_load1 (by kernel_rfl) (hS.heap.cell (k := 0) rfl (u64s_getD hb71))) (wo26.pk [0, 1]) fun ac72 En73 => ?_
   refine q_s [3] [] 3 En73 (wo26.pk [0, 1]) fun ac74 En75 => ?_
   refine q_f 4 (s := Instr.indexAt 54 (pt bk6) (ni (q - 1))) (v := .pointer (some ⟨bk6, q - 1, none⟩)) En75 (fun _ => Go.Dbr.run_indexarr (e := 23) (sz := 1) (m := 17) (j := q - 1) (o := q - 1) (by kernel_rfl) (by kernel_rfl) (by omega) (by omega) (by omega) _) (fun _ => wo26.pk [0, 1]) fun ac76 En77 => ?_
   have hb78 : q - 1 < List.length b := by rw [hb]; omega
   refine q_r 5 (s := Instr.loadAt 23 (.pointer (some ⟨bk6, q - 1, none⟩))) (v := uv64 (List.getD b (q - 1) 0)) En77 (fun w hS => run_load1 (by kernel_rfl) (hS.heap.cell (k := 1) rfl (u64s_getD hb78))) (wo26.pk [0, 1]) fun ac79 En80 => ?_
   refine q_s [6] [] 0 En80 (wo26.pk [0, 1]) fun ac81 En82 => ?_
   exact h_e ⟨En82.sb, wo26.pk [0, 1]⟩
  rintro ac83 wo84 ⟨En85, Hv86⟩
  refine then_normal ?_
  refine c_n ((UInt64.toNat (List.getD a (q - 1) 0) : Nat) : Int) ((UInt64.toNat (List.getD b (q - 1) 0) : Nat) : Int) En85 (fun hc87 => ?_) (fun hc87 => ?_)
  ·
   refine wp_seq ?_
   refine r_c (fun ac wo => Env ac 24 [(2, pt bk1), (3, pt bk6), (4, .bool (decide (((UInt64.toNat (List.getD a (q - 1) 0) : Nat) : Int) < ((UInt64.toNat (List.getD b (q - 1) 0) : Nat) : Int)))), (5, ni (q - 1))] ∧ Ev w [] wo [.box bk1 (u64s a) 54, .box bk6 (u64s b) 54]) ?_ ?_
   ·
    refine h_s (fun wv => Ev w [] wv [.box bk1 (u64s a) 54, .box bk6 (u64s b) 54]) [] 8 ?_
    have wo88 := Hv86.trans (Ev.drew Hv86.heap)
    refine q_s [0] [] 7 En85 (wo88.pk [0, 1]) fun ac129 En130 => ?_
    refine q_f 1 (s := Instr.indexAt 54 (pt bk1) (ni (q - 1))) (v := .pointer (some ⟨bk1, q - 1, none⟩)) En130 (fun _ => Go.Dbr.run_indexarr (e := 23) (sz := 1) (m := 17) (j := q - 1) (o := q - 1) (by kernel_rfl) (by kernel_rfl) (by omega) (by omega) (by omega) _) (fun _ => wo88.pk [0, 1]) fun ac131 En132 => ?_
    have hb133 : q - 1 < List.length a := by rw [ha]; omega
    refine q_r 2 (s := Instr.loadAt 23 (.pointer (some ⟨bk1, q - 1, none⟩))) (v := uv64 (List.getD a (q - 1) 0)) En132 (fun w hS => run_load1 (by kernel_rfl) (hS.heap.cell (k := 0) rfl (u64s_getD hb133))) (wo88.pk [0, 1]) fun ac134 En135 => ?_
    refine q_s [3] [] 4 En135 (wo88.pk [0, 1]) fun ac136 En137 => ?_
    refine q_f 4 (s := Instr.indexAt 54 (pt bk6) (ni (q - 1))) (v := .pointer (some ⟨bk6, q - 1, none⟩)) En137 (fun _ => Go.Dbr.run_indexarr (e := 23) (sz := 1) (m := 17) (j := q - 1) (o := q - 1) (by kernel_rfl) (by kernel_rfl) (by omega) (by omega) (by omega) _) (fun _ => wo88.pk [0, 1]) fun ac138 En139 => ?_
    have hb140 : q - 1 < List.length b := by rw [hb]; omega
    refine q_r 5 (s := Instr.loadAt 23 (.pointer (some ⟨bk6, q - 1, none⟩))) (v := uv64 (List.getD b (q - 1) 0)) En139 (fun w hS => run_load1 (by kernel_rfl) (hS.heap.cell (k := 1) rfl (u64s_getD hb140))) (wo88.pk [0, 1]) fun ac141 En142 => ?_
    refine q_s [6,7] [] 0 En142 (wo88.pk [0, 1]) fun ac143 En144 => ?_
    exact h_e ⟨En144.sb, wo88.pk [0, 1]⟩
   rintro ac145 wo146 ⟨En147, Hv148⟩
   refine then_normal ?_
   refine wp_ret ?_
   refine block_ret ?_
   refine then_ret ?_
   refine then_ret ?_
   refine block_ret ?_
   refine then_ret ?_
   refine d_ret1 (t := 4) (v := .bool (decide (((UInt64.toNat (List.getD a (q - 1) 0) : Nat) : Int) < ((UInt64.toNat (List.getD b (q - 1) 0) : Nat) : Int)))) En147 (by kernel_rfl) (by kernel_rfl) ?_
   have e : (decide (((UInt64.toNat (List.getD a (q - 1) 0) : Nat) : Int) < ((UInt64.toNat (List.getD b (q - 1) 0) : Nat) : Int))) = decide (dv 4294967296 a < dv 4294967296 b) := decide_eq_decide.2 (lower_at ha hb da db (by omega) (fun j h1 h2 => hs j (by omega) h2) (by assumption))
   exact ⟨by rw [e], Hv148.pk []⟩
  ·
   refine wp_skip ?_
   refine block_normal ?_
   refine then_normal ?_
   refine d_r [2,3,5] [(1, g_n (w_r (e := ((q - 1 : Nat) : Int) - (1 : Int)) (x := ((q - 1 : Nat) : Int) - (1 : Int)) (by omega)))] En85 fun ac149 En150 => ?_
   refine then_normal ?_
   refine ⟨_, ⟨q - 1, rfl, En150.sb, Hv86.pk [0, 1], by omega, fun j h1 h2 => by by_cases e : j = q - 1 <;> first | (subst e; apply UInt64.toNat_inj.1; omega) | exact hs j (by omega) h2⟩, ?_⟩
   omega
 ·
  refine wp_exit ?_
  refine then_exit ?_
  refine then_exit ?_
  refine block_exit ?_
  refine then_normal ?_
  refine wp_seq ?_
  refine d_r [2,3,4,5] [] En23 fun ac151 En152 => ?_
  refine then_normal ?_
  refine wp_ret ?_
  refine d_ret1 (t := 4) (v := .bool false) En152 (by kernel_rfl) (by kernel_rfl) ?_
  have hq0 : q = 0 := by omega
  have e : (false : Bool) = decide (dv 4294967296 a < dv 4294967296 b) := (decide_eq_false (lower_eq ha hb (fun j h1 h2 => hs j (by omega) h2))).symm
  exact ⟨by rw [e], Hv20.pk []⟩

end Go.Proofs.Ytamdjonejijndaa
