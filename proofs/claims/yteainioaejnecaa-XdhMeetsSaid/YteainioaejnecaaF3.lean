/- Layer 4: the four fields; products modulo 2^255 - 19. -/
import Derived.Test.YteainioaejnecaaF2
namespace Go.Proofs.Yteainioaejnecaa
open Go.Dbr
set_option maxRecDepth 100000
set_option maxHeartbeats 2000000
set_option linter.unusedVariables false
set_option linter.unusedSimpArgs false

/-- what is reckoned modulo -/
def mF (f : Int) : Nat := if f = 1 then 57896044618658097711785492504343953926634992332820282019728792003956564819949 else if f = 2 then 115792089210356248762697446949407573530086143415290314195533631308867097853951 else if f = 3 then 115792089210356248762697446949407573529996955224135760342422259061068512044369 else if f = 4 then 7237005577332262213973186563042994240857116359379907606001950938285454250989 else 0
theorem mF_lt (f : Int) : mF f < W256 := by
  unfold mF
  repeat' split
  all_goals decide
theorem mF_pos {f : Int} (h : f = 1 ∨ f = 2 ∨ f = 3 ∨ f = 4) : 1 < mF f := by rcases h with rfl | rfl | rfl | rfl <;> decide
theorem nv_nd {n : Nat} (h : n < W256) : nv (nd n) = n := by rw [nd_val, Nat.mod_eq_of_lt h]
theorem nv_mF (f : Int) : nv (nd (mF f)) = mF f := nv_nd (mF_lt f)
theorem nd_nv {l : List UInt64} (h : l.length = 4) : nd (nv l) = l := (nd_of h rfl).symm
theorem mod_lt_w {n : Nat} {f : Int} (h : f = 1 ∨ f = 2 ∨ f = 3 ∨ f = 4) : n % mF f < W256 := Nat.lt_trans (Nat.mod_lt _ (Nat.lt_trans Nat.zero_lt_one (mF_pos h))) (mF_lt f)
def f38 (t : List UInt64) : Nat → Nat
  | 0 => 0
  | i + 1 => f38 t i + ((List.getD t (i + 4) 0).toNat * 38 + (List.getD t i 0).toNat) * 18446744073709551616 ^ i
theorem set_new {o : List UInt64} {i : Nat} {x y t c : UInt64} {P : Nat} (hi : i < o.length) (hz : List.getD o i 0 = 0) (hv : dv 18446744073709551616 o + c.toNat * 18446744073709551616 ^ i = P) :
    dv 18446744073709551616 (List.set o i (addLo (addLo (x * y) t 0) c 0)) + (mulHi x y + addHi (x * y) t 0 + addHi (addLo (x * y) t 0) c 0).toNat * 18446744073709551616 ^ (i + 1) = P + (x.toNat * y.toNat + t.toNat) * 18446744073709551616 ^ i := by
  have e := dv_set 18446744073709551616 (addLo (addLo (x * y) t 0) c 0) o i hi
  have m := mac_val (x := x) (y := y) (t := t) (c := c)
  rw [hz, show (0 : UInt64).toNat = 0 from rfl, Nat.zero_mul, Nat.add_zero] at e
  rw [Nat.pow_succ, Nat.mul_comm (18446744073709551616 ^ i), ← Nat.mul_assoc]
  have m2 := congrArg (· * 18446744073709551616 ^ i) m
  simp only [Nat.add_mul] at m2 ⊢
  rw [Nat.mul_comm 18446744073709551616 (UInt64.toNat _)] at m2
  generalize 18446744073709551616 ^ i = q at *
  omega
theorem f38_in {o t : List UInt64} {i : Nat} {c : UInt64} (hlo : o.length = 4) (hi : i < 4) (hz : ∀ j, i ≤ j → List.getD o j 0 = 0) (hv : dv 18446744073709551616 o + c.toNat * 18446744073709551616 ^ i = f38 t i) :
    dv 18446744073709551616 (List.set o i (addLo (addLo (List.getD t (i + 4) 0 * 38) (List.getD t i 0) 0) c 0)) + (mulHi (List.getD t (i + 4) 0) 38 + addHi (List.getD t (i + 4) 0 * 38) (List.getD t i 0) 0 + addHi (addLo (List.getD t (i + 4) 0 * 38) (List.getD t i 0) 0) c 0).toNat * 18446744073709551616 ^ (i + 1) = f38 t (i + 1) := by
  rw [set_new (by omega) (hz i (Nat.le_refl _)) hv, f38]
  rfl
theorem f38_val {t : List UInt64} (h : t.length = 8) : ∃ H, H < W256 ∧ dv 18446744073709551616 t = f38 t 4 + 2 * mF 1 * H ∧ f38 t 4 ≤ 39 * W256 - 39 := by
  match t, h with
  | [t0, t1, t2, t3, t4, t5, t6, t7], _ =>
    have h1 := nv_lt (l := [t4, t5, t6, t7]) rfl
    have h0 := nv_lt (l := [t0, t1, t2, t3]) rfl
    refine ⟨nv [t4, t5, t6, t7], h1, ?_⟩
    have hm : 2 * mF 1 = 115792089237316195423570985008687907853269984665640564039457584007913129639898 := by decide
    rw [hm]
    rw [nv4] at h0 h1 ⊢
    simp only [dv, f38, List.getD, List.getElem?_cons_zero, List.getElem?_cons_succ, Option.getD_some, Nat.mul_zero, Nat.add_zero, Nat.zero_add, Nat.pow_zero, Nat.mul_one, Nat.reducePow, Nat.reduceAdd]
    simp only [W256] at *
    constructor
    · omega
    · omega
theorem zeros4 (j : Nat) : List.getD (List.replicate 4 (0 : UInt64)) j 0 = 0 := by
  simp only [List.getD_eq_getElem?_getD, List.getElem?_replicate]
  split <;> rfl
theorem num1 (x : UInt64) : nv [x, 0, 0, 0] = x.toNat := by
  rw [nv4, show (0 : UInt64).toNat = 0 from rfl]
  omega
theorem c38 {c : UInt64} (h : c.toNat ≤ 38) : (38 * c).toNat = 38 * c.toNat := by
  rw [UInt64.toNat_mul, show (38 : UInt64).toNat = 38 from rfl]
  omega
theorem step38 {o : List UInt64} {c : UInt64} {R : Nat} (hl : o.length = 4) (hc : c.toNat ≤ 38) (hm : (nv o + W256 * c.toNat) % mF 1 = R) :
    (nv (nd (nv o + nv [38 * c, 0, 0, 0])) + W256 * (u1 (W256 ≤ nv o + nv [38 * c, 0, 0, 0])).toNat) % mF 1 = R ∧ nv (nd (nv o + nv [38 * c, 0, 0, 0])) + W256 * (u1 (W256 ≤ nv o + nv [38 * c, 0, 0, 0])).toNat = nv o + 38 * c.toNat := by
  have ho := nv_lt hl
  have e : nv (nd (nv o + nv [38 * c, 0, 0, 0])) + W256 * (u1 (W256 ≤ nv o + nv [38 * c, 0, 0, 0])).toNat = nv o + 38 * c.toNat := by
    rw [nd_val, num1, c38 hc, u1_val]
    simp only [W256] at *
    split <;> omega
  rw [e]
  refine ⟨?_, rfl⟩
  rw [← hm, show mF 1 = 57896044618658097711785492504343953926634992332820282019728792003956564819949 from rfl]
  simp only [W256] at *
  omega

theorem prime1_go (w : World) : Calls Try.prog 50 #[] w fun e w' => e = .returned (.agg (List.toArray (u64s (nd (mF 1))))) ∧ Ev w [] w' [] := by
 refine d_0 [] 2 Go.Proofs.Try.func50 Go.Proofs.Try.ntmps50 (Heap.nil _) fun act0 En0 Hv0 => ?_
 refine wp_seq ?_
 refine region_from ?_
 refine f_o ?_
 refine m_z 33 (u64s (List.replicate 4 0)) En0 Hv0 fun ac2 wo3 bk1 En4 Hv5 => ?_
 refine f_e ?_
 refine then_normal ?_
 refine wp_seq ?_
 refine region_from ?_
 refine d_k [0,1] [] 1 En4 fun ac6 En7 => ?_
 refine f_o ?_
 refine m_g 0 0 4 (u64s ([18446744073709551597, 18446744073709551615, 18446744073709551615, 9223372036854775807] : List UInt64)) (u64s ([18446744073709551597, 18446744073709551615, 18446744073709551615, 9223372036854775807] : List UInt64)) [.box bk1 (u64s ([18446744073709551597, 18446744073709551615, 18446744073709551615, 9223372036854775807] : List UInt64)) 33] En7 Hv5 rfl (u64s_lenh (show List.length ([18446744073709551597, 18446744073709551615, 18446744073709551615, 9223372036854775807] : List UInt64) = 4 from rfl)) (by rw [(u64s_lenh (List.length_replicate))]; decide) (u64s_one _) (store_whole (u64s_lenh (List.length_replicate))) rfl fun ac8 wo9 En10 Hv11 => ?_
 refine f_e ?_
 refine then_normal ?_
 refine wp_ret ?_
 refine d_cell1 (v := .agg (List.toArray (u64s ([18446744073709551597, 18446744073709551615, 18446744073709551615, 9223372036854775807] : List UInt64)))) (t := 0) (T := 33) (ad := ⟨bk1, 0, none⟩) En10 (by kernel_rfl) (by kernel_rfl) (Ev.cellAgg (t := 33) (k := 0) (off := 0) (m := 4) (xs := u64s ([18446744073709551597, 18446744073709551615, 18446744073709551615, 9223372036854775807] : List UInt64)) Hv11 rfl (load_whole (u64s_lenh (show List.length ([18446744073709551597, 18446744073709551615, 18446744073709551615, 9223372036854775807] : List UInt64) = 4 from rfl))) (u64s_lenh (show List.length ([18446744073709551597, 18446744073709551615, 18446744073709551615, 9223372036854775807] : List UInt64) = 4 from rfl)) (by kernel_rfl) (by kernel_rfl)) ?_
 exact ⟨by kernel_rfl, Hv11.pk []⟩

theorem prime2_go (w : World) : Calls Try.prog 51 #[] w fun e w' => e = .returned (.agg (List.toArray (u64s (nd (mF 2))))) ∧ Ev w [] w' [] := by
 refine d_0 [] 2 Go.Proofs.Try.func51 Go.Proofs.Try.ntmps51 (Heap.nil _) fun act0 En0 Hv0 => ?_
 refine wp_seq ?_
 refine region_from ?_
 refine f_o ?_
 refine m_z 33 (u64s (List.replicate 4 0)) En0 Hv0 fun ac2 wo3 bk1 En4 Hv5 => ?_
 refine f_e ?_
 refine then_normal ?_
 refine wp_seq ?_
 refine region_from ?_
 refine d_k [0,1] [] 1 En4 fun ac6 En7 => ?_
 refine f_o ?_
 refine m_g 0 0 4 (u64s ([18446744073709551615, 4294967295, 0, 18446744069414584321] : List UInt64)) (u64s ([18446744073709551615, 4294967295, 0, 18446744069414584321] : List UInt64)) [.box bk1 (u64s ([18446744073709551615, 4294967295, 0, 18446744069414584321] : List UInt64)) 33] En7 Hv5 rfl (u64s_lenh (show List.length ([18446744073709551615, 4294967295, 0, 18446744069414584321] : List UInt64) = 4 from rfl)) (by rw [(u64s_lenh (List.length_replicate))]; decide) (u64s_one _) (store_whole (u64s_lenh (List.length_replicate))) rfl fun ac8 wo9 En10 Hv11 => ?_
 refine f_e ?_
 refine then_normal ?_
 refine wp_ret ?_
 refine d_cell1 (v := .agg (List.toArray (u64s ([18446744073709551615, 4294967295, 0, 18446744069414584321] : List UInt64)))) (t := 0) (T := 33) (ad := ⟨bk1, 0, none⟩) En10 (by kernel_rfl) (by kernel_rfl) (Ev.cellAgg (t := 33) (k := 0) (off := 0) (m := 4) (xs := u64s ([18446744073709551615, 4294967295, 0, 18446744069414584321] : List UInt64)) Hv11 rfl (load_whole (u64s_lenh (show List.length ([18446744073709551615, 4294967295, 0, 18446744069414584321] : List UInt64) = 4 from rfl))) (u64s_lenh (show List.length ([18446744073709551615, 4294967295, 0, 18446744069414584321] : List UInt64) = 4 from rfl)) (by kernel_rfl) (by kernel_rfl)) ?_
 exact ⟨by kernel_rfl, Hv11.pk []⟩

theorem prime3_go (w : World) : Calls Try.prog 52 #[.agg #[]] w fun e w' => e = .returned (.agg (List.toArray (u64s (nd (mF 3))))) ∧ Ev w [] w' [] := by
 refine d_0 [(0, .agg #[])] 4 Go.Proofs.Try.func52 Go.Proofs.Try.ntmps52 (Heap.nil _) fun act0 En0 Hv0 => ?_
 refine wp_seq ?_
 refine region_from ?_
 refine f_o ?_
 refine m_m 55 [] En0 Hv0 fun ac2 wo3 bk1 En4 Hv5 => ?_
 refine f_o ?_
 refine m_z 33 (u64s (List.replicate 4 0)) En4 Hv5 fun ac7 wo8 bk6 En9 Hv10 => ?_
 refine f_e ?_
 refine then_normal ?_
 refine wp_seq ?_
 refine region_from ?_
 refine d_k [2,3] [] 1 En9 fun ac11 En12 => ?_
 refine f_o ?_
 refine m_g 1 0 4 (u64s ([17562291160714782033, 13611842547513532036, 18446744073709551615, 18446744069414584320] : List UInt64)) (u64s ([17562291160714782033, 13611842547513532036, 18446744073709551615, 18446744069414584320] : List UInt64)) [.box bk1 [] 55, .box bk6 (u64s ([17562291160714782033, 13611842547513532036, 18446744073709551615, 18446744069414584320] : List UInt64)) 33] En12 Hv10 rfl (u64s_lenh (show List.length ([17562291160714782033, 13611842547513532036, 18446744073709551615, 18446744069414584320] : List UInt64) = 4 from rfl)) (by rw [(u64s_lenh (List.length_replicate))]; decide) (u64s_one _) (store_whole (u64s_lenh (List.length_replicate))) rfl fun ac13 wo14 En15 Hv16 => ?_
 refine f_e ?_
 refine then_normal ?_
 refine wp_ret ?_
 refine d_cell1 (v := .agg (List.toArray (u64s ([17562291160714782033, 13611842547513532036, 18446744073709551615, 18446744069414584320] : List UInt64)))) (t := 2) (T := 33) (ad := ⟨bk6, 0, none⟩) En15 (by kernel_rfl) (by kernel_rfl) (Ev.cellAgg (t := 33) (k := 1) (off := 0) (m := 4) (xs := u64s ([17562291160714782033, 13611842547513532036, 18446744073709551615, 18446744069414584320] : List UInt64)) Hv16 rfl (load_whole (u64s_lenh (show List.length ([17562291160714782033, 13611842547513532036, 18446744073709551615, 18446744069414584320] : List UInt64) = 4 from rfl))) (u64s_lenh (show List.length ([17562291160714782033, 13611842547513532036, 18446744073709551615, 18446744069414584320] : List UInt64) = 4 from rfl)) (by kernel_rfl) (by kernel_rfl)) ?_
 exact ⟨by kernel_rfl, Hv16.pk []⟩

theorem prime4_go (w : World) : Calls Try.prog 53 #[.agg #[]] w fun e w' => e = .returned (.agg (List.toArray (u64s (nd (mF 4))))) ∧ Ev w [] w' [] := by
 refine d_0 [(0, .agg #[])] 4 Go.Proofs.Try.func53 Go.Proofs.Try.ntmps53 (Heap.nil _) fun act0 En0 Hv0 => ?_
 refine wp_seq ?_
 refine region_from ?_
 refine f_o ?_
 refine m_m 58 [] En0 Hv0 fun ac2 wo3 bk1 En4 Hv5 => ?_
 refine f_o ?_
 refine m_z 33 (u64s (List.replicate 4 0)) En4 Hv5 fun ac7 wo8 bk6 En9 Hv10 => ?_
 refine f_e ?_
 refine then_normal ?_
 refine wp_seq ?_
 refine region_from ?_
 refine d_k [2,3] [] 1 En9 fun ac11 En12 => ?_
 refine f_o ?_
 refine m_g 1 0 4 (u64s ([6346243789798364141, 1503914060200516822, 0, 1152921504606846976] : List UInt64)) (u64s ([6346243789798364141, 1503914060200516822, 0, 1152921504606846976] : List UInt64)) [.box bk1 [] 58, .box bk6 (u64s ([6346243789798364141, 1503914060200516822, 0, 1152921504606846976] : List UInt64)) 33] En12 Hv10 rfl (u64s_lenh (show List.length ([6346243789798364141, 1503914060200516822, 0, 1152921504606846976] : List UInt64) = 4 from rfl)) (by rw [(u64s_lenh (List.length_replicate))]; decide) (u64s_one _) (store_whole (u64s_lenh (List.length_replicate))) rfl fun ac13 wo14 En15 Hv16 => ?_
 refine f_e ?_
 refine then_normal ?_
 refine wp_ret ?_
 refine d_cell1 (v := .agg (List.toArray (u64s ([6346243789798364141, 1503914060200516822, 0, 1152921504606846976] : List UInt64)))) (t := 2) (T := 33) (ad := ⟨bk6, 0, none⟩) En15 (by kernel_rfl) (by kernel_rfl) (Ev.cellAgg (t := 33) (k := 1) (off := 0) (m := 4) (xs := u64s ([6346243789798364141, 1503914060200516822, 0, 1152921504606846976] : List UInt64)) Hv16 rfl (load_whole (u64s_lenh (show List.length ([6346243789798364141, 1503914060200516822, 0, 1152921504606846976] : List UInt64) = 4 from rfl))) (u64s_lenh (show List.length ([6346243789798364141, 1503914060200516822, 0, 1152921504606846976] : List UInt64) = 4 from rfl)) (by kernel_rfl) (by kernel_rfl)) ?_
 exact ⟨by kernel_rfl, Hv16.pk []⟩

theorem f38_end {a b o : List UInt64} {c : UInt64} {H : Nat} (ha : a.length = 4) (hb : b.length = 4) (hl : o.length = 4) (h1 : dv 18446744073709551616 (nds 8 (nv a * nv b)) = dv 18446744073709551616 o + c.toNat * 18446744073709551616 ^ 4 + 2 * mF 1 * H) (h2 : dv 18446744073709551616 o + c.toNat * 18446744073709551616 ^ 4 ≤ 39 * W256 - 39) : (nv o + W256 * c.toNat) % mF 1 = (nv a * nv b) % mF 1 ∧ c.toNat ≤ 38 := by
  have hlt : nv a * nv b < 18446744073709551616 ^ 8 := Nat.lt_of_lt_of_eq (Nat.mul_lt_mul'' (nv_lt ha) (nv_lt hb)) (by decide)
  rw [nds_val, Nat.mod_eq_of_lt hlt, w256_pow] at h1
  rw [w256_pow] at h2
  constructor
  · rw [h1, Nat.mul_comm W256, Nat.mul_assoc 2, Nat.mul_left_comm 2, Nat.add_mul_mod_self_left]
  · simp only [W256] at h2
    omega

theorem mul25_go (w : World) (a b : List UInt64) (ha : List.length a = 4) (hb : List.length b = 4) : Calls Try.prog 42 #[.agg (List.toArray (u64s a)), .agg (List.toArray (u64s b))] w fun e w' => e = .returned (.agg (List.toArray (u64s (nd ((nv a * nv b) % mF 1))))) ∧ Ev w [] w' [] := by
 refine d_0 [(0, .agg (List.toArray (u64s a))), (1, .agg (List.toArray (u64s b)))] 61 Go.Proofs.Try.func42 Go.Proofs.Try.ntmps42 (Heap.nil _) fun act0 En0 Hv0 => ?_
 refine wp_seq ?_
 refine region_from ?_
 refine f_o ?_
 refine m_m 33 (u64s a) En0 Hv0 fun ac2 wo3 bk1 En4 Hv5 => ?_
 refine f_o ?_
 refine m_m 33 (u64s b) En4 Hv5 fun ac7 wo8 bk6 En9 Hv10 => ?_
 refine f_o ?_
 refine m_z 33 (u64s (List.replicate 4 0)) En9 Hv10 fun ac12 wo13 bk11 En14 Hv15 => ?_
 refine f_e ?_
 refine then_normal ?_
 refine wp_seq ?_
 refine region_from ?_
 refine f_o ?_
 refine c_l [0,1] (M := [.box bk1 (u64s a) 33, .box bk6 (u64s b) 33]) En14 Hv15 (fun hM16 => whole_go _ bk1 bk6 a b ha hb hM16) ?_
 rintro _ wo17 ⟨rfl, he18⟩
 refine ⟨_, _, [.box bk1 (u64s a) 33, .box bk6 (u64s b) 33, .box bk11 (u64s (List.replicate 4 0)) 33], rfl, he18, by kernel_rfl, fun ac20 En21 Hv22 => ?_⟩
 refine f_o ?_
 refine m_z 68 (u64s (List.replicate 8 0)) En21 Hv22 fun ac24 wo25 bk23 En26 Hv27 => ?_
 refine f_o ?_
 refine m_g 3 0 8 (u64s (nds 8 (nv a * nv b))) (u64s (nds 8 (nv a * nv b))) [.box bk1 (u64s a) 33, .box bk6 (u64s b) 33, .box bk11 (u64s (List.replicate 4 0)) 33, .box bk23 (u64s (nds 8 (nv a * nv b))) 68] En26 Hv27 rfl (u64s_lenh (nds_len _ _)) (by rw [(u64s_lenh (List.length_replicate))]; decide) (u64s_one _) (store_whole (u64s_lenh (List.length_replicate))) rfl fun ac28 wo29 En30 Hv31 => ?_
 refine f_e ?_
 refine then_normal ?_
 refine d_s [4,5,6] [] En30 fun ac32 En33 => ?_
 refine wp_seq ?_
 refine region_from ?_
 refine f_o ?_
 refine m_z 33 (u64s (List.replicate 4 0)) En33 Hv31 fun ac35 wo36 bk34 En37 Hv38 => ?_
 refine f_e ?_
 refine then_normal ?_
 refine wp_seq ?_
 refine d_s [4,5,6,7,14] [] En37 fun ac39 En40 => ?_
 refine wp_block ?_
 have ht8 : List.length (nds 8 (nv a * nv b)) = 8 := nds_len _ _
 refine loop_m (fun ms41 ac wo => ∃ (i : Nat) (o : List UInt64) (c : UInt64), ms41 = (4 - i : Nat) ∧ Env ac 61 [(4, pt bk11), (5, pt bk23), (6, uv64 c), (7, pt bk34), (14, ni i)] ∧ Ev w [] wo [.box bk34 (u64s o) 33, .box bk11 (u64s (List.replicate 4 0)) 33, .box bk23 (u64s (nds 8 (nv a * nv b))) 68] ∧ (i ≤ 4) ∧ (List.length o = 4) ∧ (dv 18446744073709551616 o + c.toNat * 18446744073709551616 ^ i = f38 (nds 8 (nv a * nv b)) i) ∧ (∀ j, i ≤ j → List.getD o j 0 = 0)) ⟨_, 0, List.replicate 4 0, 0, rfl, En40.sb, Hv38.pk [4, 2, 3], by omega, (List.length_replicate), rfl, fun j _ => zeros4 j⟩ ?_
 rintro mm47 ac43 wo44 ⟨i, o, c, rfl, En45, Hv46, hi, hlo, hv, hz⟩
 refine d_s [4,5,6,7,14,15] [] En45 fun ac48 En49 => ?_
 refine wp_seq ?_
 refine c_d (((i : Nat) : Int) < (4 : Int)) En49 (fun hc50 => ?_) (fun hc50 => ?_)
 ·
  refine wp_skip ?_
  refine then_normal ?_
  refine wp_seq ?_
  refine wp_block ?_
  refine d_s [4,5,6,7,8,14] [] En49 fun ac51 En52 => ?_
  refine wp_seq ?_
  refine region_from ?_
  refine d_k [4,5,6,7,8,14,19] [(1, g_n (w_a i 4))] 2 En52 fun ac53 En54 => ?_
  refine f_o ?_
  refine q_v (x := Instr.indexAt 68 (pt bk23) (ni (i + 4))) (v := .pointer (some ⟨bk23, i + 4, none⟩)) En54 (Go.Dbr.run_indexarr (e := 31) (sz := 1) (m := 8) (j := i + 4) (o := i + 4) (by kernel_rfl) (by kernel_rfl) (by omega) (by omega) (by omega) _) fun ac55 En56 => ?_
  refine f_o ?_
  have hb57 : i + 4 < List.length (nds 8 (nv a * nv b)) := by rw [(nds_len _ _)]; omega
  refine m_v 2 (i + 4) (uv64 (List.getD (nds 8 (nv a * nv b)) (i + 4) 0)) En56 Hv46 rfl (u64s_getD hb57) fun ac58 En59 => ?_
  refine f_o ?_
  refine c_p En59 Hv46 (mul_go _ (List.getD (nds 8 (nv a * nv b)) (i + 4) 0) (38 : UInt64)) fun ac64 wo61 En65 Hv66 => ?_
  refine d_e [4,5,6,7,8,9,10,14] [] En65 fun ac67 En68 => ?_
  refine then_normal ?_
  refine wp_seq ?_
  refine region_from ?_
  refine d_k [4,5,6,7,8,9,10,14,26,27] [] 2 En68 fun ac69 En70 => ?_
  refine f_o ?_
  refine q_v (x := Instr.indexAt 68 (pt bk23) (ni i)) (v := .pointer (some ⟨bk23, i, none⟩)) En70 (Go.Dbr.run_indexarr (e := 31) (sz := 1) (m := 8) (j := i) (o := i) (by kernel_rfl) (by kernel_rfl) (by omega) (by omega) (by omega) _) fun ac71 En72 => ?_
  refine f_o ?_
  have hb73 : i < List.length (nds 8 (nv a * nv b)) := by rw [(nds_len _ _)]; omega
  refine m_v 2 i (uv64 (List.getD (nds 8 (nv a * nv b)) i 0)) En72 Hv66 rfl (u64s_getD hb73) fun ac74 En75 => ?_
  refine f_o ?_
  refine op_ext (d := some 30) (f := 63) (args := #[uv64 ((List.getD (nds 8 (nv a * nv b)) (i + 4) 0) * (38 : UInt64)), uv64 (List.getD (nds 8 (nv a * nv b)) i 0), uv64 (0 : UInt64)]) (v := .tuple #[uv64 (addLo ((List.getD (nds 8 (nv a * nv b)) (i + 4) 0) * (38 : UInt64)) (List.getD (nds 8 (nv a * nv b)) i 0) (0 : UInt64)), uv64 (addHi ((List.getD (nds 8 (nv a * nv b)) (i + 4) 0) * (38 : UInt64)) (List.getD (nds 8 (nv a * nv b)) i 0) (0 : UInt64))]) En75 (by kernel_rfl) (Go.Dbr.ext_add64 Go.Proofs.Try.func63 (by kernel_rfl) (by kernel_rfl) (by kernel_rfl) (by kernel_rfl) ((List.getD (nds 8 (nv a * nv b)) (i + 4) 0) * (38 : UInt64)) (List.getD (nds 8 (nv a * nv b)) i 0) (0 : UInt64) (by decide)) ?_
  intro ac76 En77
  refine d_e [4,5,6,7,8,9,10,11,14] [] En77 fun ac78 En79 => ?_
  refine then_normal ?_
  refine wp_seq ?_
  refine region_from ?_
  refine d_k [4,5,6,7,8,9,10,11,14,34,35] [] 2 En79 fun ac80 En81 => ?_
  refine f_o ?_
  refine op_ext (d := some 36) (f := 63) (args := #[uv64 (addLo ((List.getD (nds 8 (nv a * nv b)) (i + 4) 0) * (38 : UInt64)) (List.getD (nds 8 (nv a * nv b)) i 0) (0 : UInt64)), uv64 c, uv64 (0 : UInt64)]) (v := .tuple #[uv64 (addLo (addLo ((List.getD (nds 8 (nv a * nv b)) (i + 4) 0) * (38 : UInt64)) (List.getD (nds 8 (nv a * nv b)) i 0) (0 : UInt64)) c (0 : UInt64)), uv64 (addHi (addLo ((List.getD (nds 8 (nv a * nv b)) (i + 4) 0) * (38 : UInt64)) (List.getD (nds 8 (nv a * nv b)) i 0) (0 : UInt64)) c (0 : UInt64))]) En81 (by kernel_rfl) (Go.Dbr.ext_add64 Go.Proofs.Try.func63 (by kernel_rfl) (by kernel_rfl) (by kernel_rfl) (by kernel_rfl) (addLo ((List.getD (nds 8 (nv a * nv b)) (i + 4) 0) * (38 : UInt64)) (List.getD (nds 8 (nv a * nv b)) i 0) (0 : UInt64)) c (0 : UInt64) (by decide)) ?_
  intro ac82 En83
  refine d_e [4,5,6,7,8,9,10,11,12,14] [] En83 fun ac84 En85 => ?_
  refine then_normal ?_
  refine region_from ?_
  refine d_k [4,5,6,7,8,10,14,39,40,45] [(4, g_i .u64 (Go.Dbr.u64_add (x := mulHi (List.getD (nds 8 (nv a * nv b)) (i + 4) 0) (38 : UInt64)) (y := addHi ((List.getD (nds 8 (nv a * nv b)) (i + 4) 0) * (38 : UInt64)) (List.getD (nds 8 (nv a * nv b)) i 0) (0 : UInt64)) rfl rfl)), (6, g_i .u64 (Go.Dbr.u64_add (x := (mulHi (List.getD (nds 8 (nv a * nv b)) (i + 4) 0) (38 : UInt64)) + (addHi ((List.getD (nds 8 (nv a * nv b)) (i + 4) 0) * (38 : UInt64)) (List.getD (nds 8 (nv a * nv b)) i 0) (0 : UInt64))) (y := addHi (addLo ((List.getD (nds 8 (nv a * nv b)) (i + 4) 0) * (38 : UInt64)) (List.getD (nds 8 (nv a * nv b)) i 0) (0 : UInt64)) c (0 : UInt64)) rfl rfl))] 7 En85 fun ac86 En87 => ?_
  refine f_o ?_
  refine q_v (x := Instr.indexAt 33 (pt bk34) (ni i)) (v := .pointer (some ⟨bk34, i, none⟩)) En87 (Go.Dbr.run_indexarr (e := 31) (sz := 1) (m := 4) (j := i) (o := i) (by kernel_rfl) (by kernel_rfl) (by omega) (by omega) (by omega) _) fun ac88 En89 => ?_
  refine f_o ?_
  have hb90 : i < List.length o := by rw [hlo]; omega
  refine m_t 0 i (uv64 (addLo (addLo ((List.getD (nds 8 (nv a * nv b)) (i + 4) 0) * (38 : UInt64)) (List.getD (nds 8 (nv a * nv b)) i 0) (0 : UInt64)) c (0 : UInt64))) [.box bk34 (u64s (List.set o i (addLo (addLo ((List.getD (nds 8 (nv a * nv b)) (i + 4) 0) * (38 : UInt64)) (List.getD (nds 8 (nv a * nv b)) i 0) (0 : UInt64)) c (0 : UInt64)))) 33, .box bk11 (u64s (List.replicate 4 0)) 33, .box bk23 (u64s (nds 8 (nv a * nv b))) 68] En89 Hv66 rfl (u64s_getD hb90) (u64s_set _ _ _) rfl fun ac91 wo92 En93 Hv94 => ?_
  refine d_e [4,5,6,7,8,10,14] [] En93 fun ac95 En96 => ?_
  refine block_normal ?_
  refine then_normal ?_
  refine d_r [4,5,6,7,8,10,14] [(0, g_n (w_a i 1))] En96 fun ac97 En98 => ?_
  refine then_normal ?_
  refine ⟨_, ⟨i + 1, (List.set o i (addLo (addLo ((List.getD (nds 8 (nv a * nv b)) (i + 4) 0) * (38 : UInt64)) (List.getD (nds 8 (nv a * nv b)) i 0) (0 : UInt64)) c (0 : UInt64))), (((mulHi (List.getD (nds 8 (nv a * nv b)) (i + 4) 0) (38 : UInt64)) + (addHi ((List.getD (nds 8 (nv a * nv b)) (i + 4) 0) * (38 : UInt64)) (List.getD (nds 8 (nv a * nv b)) i 0) (0 : UInt64))) + (addHi (addLo ((List.getD (nds 8 (nv a * nv b)) (i + 4) 0) * (38 : UInt64)) (List.getD (nds 8 (nv a * nv b)) i 0) (0 : UInt64)) c (0 : UInt64))), rfl, En98.sb, Hv94.pk [0, 1, 2], by omega, by simp [hlo], f38_in hlo (by omega) hz hv, fun j hj => by rw [getD_set_ne _ (by omega)]; exact hz j (by omega)⟩, ?_⟩
  omega
 ·
  refine wp_exit ?_
  refine then_exit ?_
  refine then_exit ?_
  refine block_exit ?_
  refine then_normal ?_
  refine wp_seq ?_
  refine wp_block ?_
  have hi4 : i = 4 := by omega
  rw [hi4] at hv
  obtain ⟨H, hH0, hH1, hH2⟩ := f38_val (nds_len 8 (nv a * nv b))
  rw [← hv] at hH1 hH2
  have hq : (nv o + W256 * c.toNat) % mF 1 = (nv a * nv b) % mF 1 ∧ c.toNat ≤ 38 := f38_end ha hb hlo hH1 hH2
  refine loop_m (fun ms99 ac wo => ∃ (p : List UInt64) (d : UInt64), ms99 = (nv p + W256 * d.toNat : Nat) ∧ Env ac 61 [(4, pt bk11), (5, pt bk23), (6, uv64 d), (7, pt bk34), (14, ni i)] ∧ Ev w [] wo [.box bk34 (u64s p) 33, .box bk11 (u64s (List.replicate 4 0)) 33, .box bk23 (u64s (nds 8 (nv a * nv b))) 68] ∧ (List.length p = 4) ∧ ((nv p + W256 * d.toNat) % mF 1 = (nv a * nv b) % mF 1) ∧ (d.toNat ≤ 38)) ⟨_, o, c, rfl, En49.sb, Hv46.pk [0, 1, 2], hlo, hq.1, hq.2⟩ ?_
  rintro mm105 ac101 wo102 ⟨p, d, rfl, En103, Hv104, hlp, hmp, hcp⟩
  refine wp_seq ?_
  refine d_s [4,5,6,7,14,49] [] En103 fun ac106 En107 => ?_
  refine c_n ((UInt64.toNat d : Nat) : Int) (0 : Int) En107 (fun hc108 => ?_) (fun hc108 => ?_)
  ·
   refine wp_skip ?_
   refine then_normal ?_
   refine wp_block ?_
   refine region_from ?_
   refine f_o ?_
   refine m_a 0 0 4 (u64s p) En107 Hv104 rfl (load_whole (u64s_lenh hlp)) (u64s_lenh hlp) fun ac109 En110 => ?_
   refine d_k [4,5,6,7,14,51,54] [(2, g_i .u64 (Go.Dbr.u64_mul (x := (38 : UInt64)) (y := d) rfl rfl))] 4 En110 fun ac111 En112 => ?_
   refine f_o ?_
   refine c_p En112 Hv104 (plus_go _ p ([(38 : UInt64) * d, 0, 0, 0] : List UInt64) hlp (show List.length ([(38 : UInt64) * d, 0, 0, 0] : List UInt64) = 4 from rfl)) fun ac117 wo114 En118 Hv119 => ?_
   refine d_k [4,5,6,7,14,56,57] [] 8 En118 fun ac120 En121 => ?_
   refine f_o ?_
   refine m_g 0 0 4 (u64s (nd (nv p + nv ([(38 : UInt64) * d, 0, 0, 0] : List UInt64)))) (u64s (nd (nv p + nv ([(38 : UInt64) * d, 0, 0, 0] : List UInt64)))) [.box bk34 (u64s (nd (nv p + nv ([(38 : UInt64) * d, 0, 0, 0] : List UInt64)))) 33, .box bk11 (u64s (List.replicate 4 0)) 33, .box bk23 (u64s (nds 8 (nv a * nv b))) 68] En121 Hv119 rfl (u64s_lenh (nds_len _ _)) (by rw [(u64s_lenh hlp)]; decide) (u64s_one _) (store_whole (u64s_lenh hlp)) rfl fun ac122 wo123 En124 Hv125 => ?_
   refine d_e [4,5,6,7,14] [] En124 fun ac126 En127 => ?_
   refine block_normal ?_
   refine then_normal ?_
   refine ⟨_, ⟨(nd (nv p + nv ([(38 : UInt64) * d, 0, 0, 0] : List UInt64))), (u1 (W256 ≤ nv p + nv ([(38 : UInt64) * d, 0, 0, 0] : List UInt64))), rfl, En127.sb, Hv125.pk [0, 1, 2], nds_len _ _, (step38 hlp hcp hmp).1, Nat.le_trans (u1_le _) (by decide)⟩, ?_⟩
   rw [(step38 hlp hcp hmp).2]; simp only [W256]; omega
  ·
   refine wp_exit ?_
   refine then_exit ?_
   refine then_exit ?_
   refine block_exit ?_
   refine then_normal ?_
   refine wp_seq ?_
   refine r_c (fun ac wo => Env ac 61 [(4, pt bk11), (5, pt bk23), (6, uv64 d), (7, pt bk34), (14, ni i)] ∧ Ev w [] wo [.box bk34 (u64s p) 33, .box bk11 (u64s (nd (nv p % nv (nd (mF 1))))) 33, .box bk23 (u64s (nds 8 (nv a * nv b))) 68]) ?_ ?_
   ·
    refine h_s (fun wv => Ev w [] wv [.box bk34 (u64s p) 33]) [] 4 ?_
    have wo128 := Hv104.trans (Ev.drew Hv104.heap)
    refine q_r 0 (s := Instr.loadAt 33 (pt bk34)) (v := .agg (List.toArray (u64s p))) En107 (fun w hS => run_loadAgg2 (m := 4) (cs := u64s p) (u64s_lenh hlp) (by kernel_rfl) (by kernel_rfl) (hS.heap.cells (k := 0) (off := 0) (m := 4) rfl (load_whole (u64s_lenh hlp)))) (wo128.pk [0]) fun ac189 En190 => ?_
    refine q_t 1 ?_
    refine c_p En190 wo128 (prime1_go _) fun ac195 wo192 En196 Hv197 => ?_
    refine ⟨fun _ => Hv197.pk [0], ?_⟩
    refine q_t 2 ?_
    refine c_p En196 Hv197 (right_go _ p (nd (mF 1)) hlp (nds_len _ _) (by rw [nv_mF]; decide)) fun ac202 wo199 En203 Hv204 => ?_
    refine ⟨fun _ => Hv204.pk [0], ?_⟩
    refine q_t 3 ?_
    refine m_g 1 0 4 (u64s (nd (nv p % nv (nd (mF 1))))) (u64s (nd (nv p % nv (nd (mF 1))))) [.box bk34 (u64s p) 33, .box bk11 (u64s (nd (nv p % nv (nd (mF 1))))) 33, .box bk23 (u64s (nds 8 (nv a * nv b))) 68] En203 Hv204 rfl (u64s_lenh (nds_len _ _)) (by rw [(u64s_lenh (List.length_replicate))]; decide) (u64s_one _) (store_whole (u64s_lenh (List.length_replicate))) rfl fun ac205 wo206 En207 Hv208 => ?_
    refine ⟨fun _ => Hv208.pk [0], ?_⟩
    exact h_e ⟨En207.sb, Hv208.pk [0, 1, 2]⟩
   rintro ac209 wo210 ⟨En211, Hv212⟩
   refine then_normal ?_
   refine wp_ret ?_
   refine d_cell1 (v := .agg (List.toArray (u64s (nd (nv p % nv (nd (mF 1))))))) (t := 4) (T := 33) (ad := ⟨bk11, 0, none⟩) En211 (by kernel_rfl) (by kernel_rfl) (Ev.cellAgg (t := 33) (k := 1) (off := 0) (m := 4) (xs := u64s (nd (nv p % nv (nd (mF 1))))) Hv212 rfl (load_whole (u64s_lenh (nds_len _ _))) (u64s_lenh (nds_len _ _)) (by kernel_rfl) (by kernel_rfl)) ?_
   have hd0 : d.toNat = 0 := by omega
   have he : nd (nv p % nv (nd (mF 1))) = nd ((nv a * nv b) % mF 1) := by rw [← hmp, hd0, nv_mF, Nat.mul_zero, Nat.add_zero]
   exact ⟨by rw [he], Hv212.pk []⟩

end Go.Proofs.Yteainioaejnecaa
