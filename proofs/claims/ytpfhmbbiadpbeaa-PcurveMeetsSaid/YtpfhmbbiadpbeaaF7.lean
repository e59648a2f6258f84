/- Layer 4, the document: what digits leave. -/
import Derived.Test.YtpfhmbbiadpbeaaF6
namespace Go.Proofs.Ytpfhmbbiadpbeaa
open Go.Dbr
set_option maxRecDepth 100000
set_option maxHeartbeats 2000000
set_option linter.unusedVariables false
set_option linter.unusedSimpArgs false

/-- what 2^256 leaves: its digits, and how many there are -/
def cF (f : Int) : List UInt64 := if f = 1 then [38, 0, 0, 0, 0, 0, 0, 0] else if f = 2 then [1, 0, 0, 4294967295, 4294967295, 4294967295, 4294967294, 0] else [60611247, 205927741, 1491624315, 1125713234, 0, 0, 4294967295, 0]
def mny (f : Int) : Nat := if f = 1 then 1 else 7
def eF (f : Int) : Nat := if f = 1 then 2 else 1
theorem cF_len (f : Int) : (cF f).length = 8 := by unfold cF; split; rfl; split <;> rfl
theorem mny_le (f : Int) : mny f ≤ 7 := by unfold mny; split <;> decide
theorem DG8 {l : List UInt64} (h : (l.all fun x => decide (x.toNat < 4294967296)) = true) : DG l := fun j => by
  rcases Nat.lt_or_ge j l.length with q | q
  · rw [List.getD_eq_getElem?_getD, List.getElem?_eq_getElem q]
    exact of_decide_eq_true (List.all_eq_true.1 h _ (List.getElem_mem q))
  · rw [List.getD_eq_getElem?_getD, List.getElem?_eq_none q]; decide
theorem cF_dig {f : Int} (h3 : f = 1 ∨ f = 2 ∨ f = 3) : DG (cF f) := by rcases h3 with rfl | rfl | rfl <;> exact DG8 (by decide +kernel)
theorem cF_val {f : Int} (h3 : f = 1 ∨ f = 2 ∨ f = 3) : dk (cF f) 7 + eF f * mF f = 4294967296 ^ 8 := by rcases h3 with rfl | rfl | rfl <;> decide +kernel
theorem cF_over {f : Int} (h3 : f = 1 ∨ f = 2 ∨ f = 3) {k : Nat} (hk : mny f ≤ k) : List.getD (cF f) k 0 = 0 := by
  by_cases h8 : k < 8
  · rcases h3 with rfl | rfl | rfl
    · match k, hk, h8 with
      | 1, _, _ | 2, _, _ | 3, _, _ | 4, _, _ | 5, _, _ | 6, _, _ | 7, _, _ => rfl
    · match k, hk, h8 with
      | 7, _, _ => rfl
    · match k, hk, h8 with
      | 7, _, _ => rfl
  · rw [List.getD_eq_getElem?_getD, List.getElem?_eq_none (by rw [cF_len]; omega)]; rfl
theorem dk_over {f : Int} (h3 : f = 1 ∨ f = 2 ∨ f = 3) {k : Nat} (hk : mny f ≤ k) : dk (cF f) k = dk (cF f) 7 := by
  have key : ∀ j, dk (cF f) (mny f + j) = dk (cF f) (mny f) := fun j => by
    induction j with
    | zero => rfl
    | succ j ih => rw [← Nat.add_assoc, dk, ih, cF_over h3 (by omega)]; simp
  have h7 := mny_le f
  have e1 := key (k - mny f)
  have e2 := key (7 - mny f)
  rw [show mny f + (k - mny f) = k by omega] at e1
  rw [show mny f + (7 - mny f) = 7 by omega] at e2
  rw [e1, e2]
theorem dk_c_lt {f : Int} (h3 : f = 1 ∨ f = 2 ∨ f = 3) (k : Nat) : dk (cF f) k < 4294967296 ^ 8 := by
  by_cases hk : mny f ≤ k
  · rw [dk_over h3 hk]; exact Nat.lt_of_lt_of_le (dk_lt (cF_dig h3) 7) (by decide)
  · have := mny_le f
    exact Nat.lt_of_lt_of_le (dk_lt (cF_dig h3) k) (Nat.pow_le_pow_right (by decide) (by omega))
/-- one more digit of what is added -/
theorem left_in {u c : List UInt64} {V p k : Nat} {d t g : UInt64} (hlu : u.length = 17) (hj : p + k < 17) (hv : dv 4294967296 u + g.toNat * 4294967296 ^ (p + k) = V + d.toNat * dk c k * 4294967296 ^ p)
    (ht : t.toNat = (List.getD u (p + k) 0).toNat + d.toNat * (List.getD c k 0).toNat + g.toNat) :
    dv 4294967296 (List.set u (p + k) (t &&& 4294967295)) + (t >>> UInt64.ofNat 32).toNat * 4294967296 ^ (p + (k + 1)) = V + d.toNat * dk c (k + 1) * 4294967296 ^ p := by
  rw [← Nat.add_assoc, set32 (by omega) hv ht, dk, Nat.mul_add, Nat.add_mul, Nat.add_assoc]
  congr 2
  rw [Nat.pow_add]
  ac_rfl
theorem left_idx {u c : List UInt64} {V p k : Nat} {d g : UInt64} (hp : p ≤ 8) (hV : V < 4294967296 ^ (p + 8)) (hd : d.toNat < 4294967296) (hC : dk c k < 4294967296 ^ 8) (hg : 0 < g.toNat)
    (hv : dv 4294967296 u + g.toNat * 4294967296 ^ (p + k) = V + d.toNat * dk c k * 4294967296 ^ p) : k ≤ 8 := by
  rcases Nat.lt_or_ge 8 k with h | h
  · exfalso
    have h1 : 4294967296 ^ (p + 9) ≤ 4294967296 ^ (p + k) := Nat.pow_le_pow_right (by decide) (by omega)
    have h2 : 4294967296 ^ (p + k) ≤ g.toNat * 4294967296 ^ (p + k) := Nat.le_mul_of_pos_left _ hg
    have h3 : d.toNat * dk c k ≤ 4294967295 * 4294967296 ^ 8 := Nat.mul_le_mul (by omega) (by omega)
    have h4 : d.toNat * dk c k * 4294967296 ^ p ≤ 4294967295 * 4294967296 ^ 8 * 4294967296 ^ p := Nat.mul_le_mul_right _ h3
    rw [Nat.pow_add] at hV h1
    rw [Nat.pow_succ 4294967296 8] at h1
    generalize 4294967296 ^ p = q at *
    have e8 : (4294967296 : Nat) ^ 8 = 115792089237316195423570985008687907853269984665640564039457584007913129639936 := by decide
    rw [e8] at hV h1 h4
    omega
  · exact h
theorem zero_above {w : List UInt64} (hd : DG w) {q : Nat} (h : dv 4294967296 w < 4294967296 ^ (q + 1)) : dv 4294967296 w = dk w q + (List.getD w q 0).toNat * 4294967296 ^ q := by
  have e := dk_split w (q + 1)
  have h0 : dv 4294967296 (List.drop (q + 1) w) = 0 := by
    rcases Nat.eq_zero_or_pos (dv 4294967296 (List.drop (q + 1) w)) with z | z
    · exact z
    · have := Nat.le_mul_of_pos_right (4294967296 ^ (q + 1)) z
      omega
  rw [h0, Nat.mul_zero, Nat.add_zero] at e
  exact e
theorem top_out {w : List UInt64} (hd : DG w) {q : Nat} (hq : q < w.length) (h : dv 4294967296 w < 4294967296 ^ (q + 1)) : dv 4294967296 (List.set w q 0) = dk w q ∧ dv 4294967296 (List.set w q 0) < 4294967296 ^ q ∧ dv 4294967296 w = dv 4294967296 (List.set w q 0) + (List.getD w q 0).toNat * 4294967296 ^ q := by
  have e := zero_above hd h
  have e2 := dv_set 4294967296 0 w q hq
  have l := dk_lt hd q
  rw [show (0 : UInt64).toNat = 0 from rfl, Nat.zero_mul] at e2
  omega
/-- what comes of a digit that is taken away -/
theorem left_out {f : Int} (h3 : f = 1 ∨ f = 2 ∨ f = 3) {u w : List UInt64} {q k n : Nat} {g : UInt64} (hq : 8 ≤ q) (hk : mny f ≤ k) (hg : g.toNat = 0) (hw : dv 4294967296 w = dv 4294967296 (List.set w q 0) + (List.getD w q 0).toNat * 4294967296 ^ q) (h0 : (List.getD w q 0).toNat ≠ 0)
    (hm : dv 4294967296 w % mF f = n % mF f) (hv : dv 4294967296 u + g.toNat * 4294967296 ^ (q - 8 + k) = dv 4294967296 (List.set w q 0) + (List.getD w q 0).toNat * dk (cF f) k * 4294967296 ^ (q - 8)) :
    dv 4294967296 u % mF f = n % mF f ∧ dv 4294967296 u < dv 4294967296 w := by
  have hc := cF_val h3
  have hcl : dk (cF f) 7 < 4294967296 ^ 8 := dk_c_lt h3 7
  rw [hg, Nat.zero_mul, Nat.add_zero, dk_over h3 hk] at hv
  have hq2 : 4294967296 ^ q = 4294967296 ^ 8 * 4294967296 ^ (q - 8) := by rw [← Nat.pow_add, show 8 + (q - 8) = q by omega]
  rw [hq2, ← hc] at hw
  have ex : (List.getD w q 0).toNat * ((dk (cF f) 7 + eF f * mF f) * 4294967296 ^ (q - 8)) = (List.getD w q 0).toNat * dk (cF f) 7 * 4294967296 ^ (q - 8) + mF f * ((List.getD w q 0).toNat * eF f * 4294967296 ^ (q - 8)) := by
    rw [Nat.add_mul, Nat.mul_add]
    congr 1
    · rw [Nat.mul_assoc]
    · ac_rfl
  rw [ex] at hw
  constructor
  · rw [← hm, hw, hv, ← Nat.add_assoc, Nat.add_mul_mod_self_left]
  · have hpos : 0 < mF f * ((List.getD w q 0).toNat * eF f * 4294967296 ^ (q - 8)) := by
      refine Nat.mul_pos ?_ (Nat.mul_pos (Nat.mul_pos (by omega) ?_) (Nat.pow_pos (by decide)))
      · have := mF_pos (f := f) (by omega); omega
      · unfold eF; split <;> decide
    omega

theorem above1 (w : World) : Calls Try.prog 70 #[.int .i64 1] w fun e w' => e = .returned (.tuple #[.agg (List.toArray (u64s (cF 1))), ni (mny 1)]) ∧ Ev w [] w' [] := by
 refine d_0 [(0, .int .i64 1)] 12 Go.Proofs.Try.func70 Go.Proofs.Try.ntmps70 (Heap.nil _) fun act0 En0 Hv0 => ?_
 refine wp_seq ?_
 refine region_from ?_
 refine f_o ?_
 refine m_z 84 (u64s (List.replicate 8 0)) En0 Hv0 fun ac2 wo3 bk1 En4 Hv5 => ?_
 refine d_e [0,2,3] [] En4 fun ac6 En7 => ?_
 refine then_normal ?_
 refine wp_seq ?_
 refine d_s [2,3,4] [] En7 fun ac8 En9 => ?_
 refine wp_block ?_
 refine d_s [2,3,4,5] [] En9 fun ac10 En11 => ?_
 refine c_t En11 ?_
 refine wp_seq ?_
 refine region_from ?_
 refine d_k [2,3,4,7] [] 1 En11 fun ac12 En13 => ?_
 refine f_o ?_
 refine m_g 0 0 8 (u64s ([38, 0, 0, 0, 0, 0, 0, 0] : List UInt64)) (u64s ([38, 0, 0, 0, 0, 0, 0, 0] : List UInt64)) [.box bk1 (u64s ([38, 0, 0, 0, 0, 0, 0, 0] : List UInt64)) 84] En13 Hv5 rfl (u64s_lenh (show List.length ([38, 0, 0, 0, 0, 0, 0, 0] : List UInt64) = 8 from rfl)) (by rw [(u64s_lenh (List.length_replicate))]; decide) (u64s_one _) (store_whole (u64s_lenh (List.length_replicate))) rfl fun ac14 wo15 En16 Hv17 => ?_
 refine d_e [2,3,4] [] En16 fun ac18 En19 => ?_
 refine then_normal ?_
 refine wp_ret ?_
 refine block_ret ?_
 refine then_ret ?_
 refine d_cell_tmp (v := .agg (List.toArray (u64s ([38, 0, 0, 0, 0, 0, 0, 0] : List UInt64)))) (x := .int .i64 1) (t := 2) (T := 84) (ad := ⟨bk1, 0, none⟩) (u := 3) En19 (by kernel_rfl) (by kernel_rfl) (Ev.cellAgg (t := 84) (k := 0) (off := 0) (m := 8) (xs := u64s ([38, 0, 0, 0, 0, 0, 0, 0] : List UInt64)) Hv17 rfl (load_whole (u64s_lenh (show List.length ([38, 0, 0, 0, 0, 0, 0, 0] : List UInt64) = 8 from rfl))) (u64s_lenh (show List.length ([38, 0, 0, 0, 0, 0, 0, 0] : List UInt64) = 8 from rfl)) (by kernel_rfl) (by kernel_rfl)) (by kernel_rfl) ?_
 exact ⟨by kernel_rfl, Hv17.pk []⟩

theorem above2 (w : World) : Calls Try.prog 70 #[.int .i64 2] w fun e w' => e = .returned (.tuple #[.agg (List.toArray (u64s (cF 2))), ni (mny 2)]) ∧ Ev w [] w' [] := by
 refine d_0 [(0, .int .i64 2)] 12 Go.Proofs.Try.func70 Go.Proofs.Try.ntmps70 (Heap.nil _) fun act0 En0 Hv0 => ?_
 refine wp_seq ?_
 refine region_from ?_
 refine f_o ?_
 refine m_z 84 (u64s (List.replicate 8 0)) En0 Hv0 fun ac2 wo3 bk1 En4 Hv5 => ?_
 refine d_e [0,2,3] [] En4 fun ac6 En7 => ?_
 refine then_normal ?_
 refine wp_seq ?_
 refine d_s [2,3,4] [] En7 fun ac8 En9 => ?_
 refine wp_block ?_
 refine d_s [2,3,4,5] [] En9 fun ac10 En11 => ?_
 refine c_f En11 ?_
 refine d_s [2,3,4,8] [] En11 fun ac12 En13 => ?_
 refine c_t En13 ?_
 refine wp_seq ?_
 refine region_from ?_
 refine d_k [2,3,4,10] [] 1 En13 fun ac14 En15 => ?_
 refine f_o ?_
 refine m_g 0 0 8 (u64s ([1, 0, 0, 4294967295, 4294967295, 4294967295, 4294967294, 0] : List UInt64)) (u64s ([1, 0, 0, 4294967295, 4294967295, 4294967295, 4294967294, 0] : List UInt64)) [.box bk1 (u64s ([1, 0, 0, 4294967295, 4294967295, 4294967295, 4294967294, 0] : List UInt64)) 84] En15 Hv5 rfl (u64s_lenh (show List.length ([1, 0, 0, 4294967295, 4294967295, 4294967295, 4294967294, 0] : List UInt64) = 8 from rfl)) (by rw [(u64s_lenh (List.length_replicate))]; decide) (u64s_one _) (store_whole (u64s_lenh (List.length_replicate))) rfl fun ac16 wo17 En18 Hv19 => ?_
 refine d_e [2,3,4] [] En18 fun ac20 En21 => ?_
 refine then_normal ?_
 refine wp_ret ?_
 refine block_ret ?_
 refine then_ret ?_
 refine d_cell_tmp (v := .agg (List.toArray (u64s ([1, 0, 0, 4294967295, 4294967295, 4294967295, 4294967294, 0] : List UInt64)))) (x := .int .i64 7) (t := 2) (T := 84) (ad := ⟨bk1, 0, none⟩) (u := 3) En21 (by kernel_rfl) (by kernel_rfl) (Ev.cellAgg (t := 84) (k := 0) (off := 0) (m := 8) (xs := u64s ([1, 0, 0, 4294967295, 4294967295, 4294967295, 4294967294, 0] : List UInt64)) Hv19 rfl (load_whole (u64s_lenh (show List.length ([1, 0, 0, 4294967295, 4294967295, 4294967295, 4294967294, 0] : List UInt64) = 8 from rfl))) (u64s_lenh (show List.length ([1, 0, 0, 4294967295, 4294967295, 4294967295, 4294967294, 0] : List UInt64) = 8 from rfl)) (by kernel_rfl) (by kernel_rfl)) (by kernel_rfl) ?_
 exact ⟨by kernel_rfl, Hv19.pk []⟩

theorem above3 (w : World) : Calls Try.prog 70 #[.int .i64 3] w fun e w' => e = .returned (.tuple #[.agg (List.toArray (u64s (cF 3))), ni (mny 3)]) ∧ Ev w [] w' [] := by
 refine d_0 [(0, .int .i64 3)] 12 Go.Proofs.Try.func70 Go.Proofs.Try.ntmps70 (Heap.nil _) fun act0 En0 Hv0 => ?_
 refine wp_seq ?_
 refine region_from ?_
 refine f_o ?_
 refine m_z 84 (u64s (List.replicate 8 0)) En0 Hv0 fun ac2 wo3 bk1 En4 Hv5 => ?_
 refine d_e [0,2,3] [] En4 fun ac6 En7 => ?_
 refine then_normal ?_
 refine wp_seq ?_
 refine d_s [2,3,4] [] En7 fun ac8 En9 => ?_
 refine wp_block ?_
 refine d_s [2,3,4,5] [] En9 fun ac10 En11 => ?_
 refine c_f En11 ?_
 refine d_s [2,3,4,8] [] En11 fun ac12 En13 => ?_
 refine c_f En13 ?_
 refine wp_skip ?_
 refine block_normal ?_
 refine then_normal ?_
 refine wp_seq ?_
 refine region_from ?_
 refine d_k [2,3,4,11] [] 1 En13 fun ac14 En15 => ?_
 refine f_o ?_
 refine m_g 0 0 8 (u64s ([60611247, 205927741, 1491624315, 1125713234, 0, 0, 4294967295, 0] : List UInt64)) (u64s ([60611247, 205927741, 1491624315, 1125713234, 0, 0, 4294967295, 0] : List UInt64)) [.box bk1 (u64s ([60611247, 205927741, 1491624315, 1125713234, 0, 0, 4294967295, 0] : List UInt64)) 84] En15 Hv5 rfl (u64s_lenh (show List.length ([60611247, 205927741, 1491624315, 1125713234, 0, 0, 4294967295, 0] : List UInt64) = 8 from rfl)) (by rw [(u64s_lenh (List.length_replicate))]; decide) (u64s_one _) (store_whole (u64s_lenh (List.length_replicate))) rfl fun ac16 wo17 En18 Hv19 => ?_
 refine d_e [2,3,4] [] En18 fun ac20 En21 => ?_
 refine then_normal ?_
 refine wp_ret ?_
 refine d_cell_tmp (v := .agg (List.toArray (u64s ([60611247, 205927741, 1491624315, 1125713234, 0, 0, 4294967295, 0] : List UInt64)))) (x := .int .i64 7) (t := 2) (T := 84) (ad := ⟨bk1, 0, none⟩) (u := 3) En21 (by kernel_rfl) (by kernel_rfl) (Ev.cellAgg (t := 84) (k := 0) (off := 0) (m := 8) (xs := u64s ([60611247, 205927741, 1491624315, 1125713234, 0, 0, 4294967295, 0] : List UInt64)) Hv19 rfl (load_whole (u64s_lenh (show List.length ([60611247, 205927741, 1491624315, 1125713234, 0, 0, 4294967295, 0] : List UInt64) = 8 from rfl))) (u64s_lenh (show List.length ([60611247, 205927741, 1491624315, 1125713234, 0, 0, 4294967295, 0] : List UInt64) = 8 from rfl)) (by kernel_rfl) (by kernel_rfl)) (by kernel_rfl) ?_
 exact ⟨by kernel_rfl, Hv19.pk []⟩

theorem above_go (w : World) (f : Int) (h3 : f = 1 ∨ f = 2 ∨ f = 3) : Calls Try.prog 70 #[.int .i64 f] w fun e w' => e = .returned (.tuple #[.agg (List.toArray (u64s (cF f))), ni (mny f)]) ∧ Ev w [] w' [] := by
  rcases h3 with rfl | rfl | rfl
  · exact above1 w
  · exact above2 w
  · exact above3 w

theorem dv_lt32 {l : List UInt64} (h : DG l) : dv 4294967296 l < 4294967296 ^ l.length := by
  have e := dk_split l l.length
  rw [List.drop_length, show dv 4294967296 [] = 0 from rfl, Nat.mul_zero, Nat.add_zero] at e
  rw [e]
  exact dk_lt h _

theorem add32 {p c : UInt64} (hp : p.toNat < 4294967296) (hc : c.toNat < 4294967296) : (p + c).toNat = p.toNat + c.toNat := by
  rw [UInt64.toNat_add]
  omega

theorem left3_go (w : World) (f : Int) (h3 : f = 1 ∨ f = 2 ∨ f = 3) (n : List UInt64) (hn : List.length n = 17) (hdn : DG n) : Calls Try.prog 50 #[.int .i64 f, .agg (List.toArray (u64s n))] w fun e w' => e = .returned (.agg (List.toArray (u64s (nd (dv 4294967296 n % mF f))))) ∧ Ev w [] w' [] := by
 refine d_0 [(0, .int .i64 f), (1, .agg (List.toArray (u64s n)))] 85 Go.Proofs.Try.func50 Go.Proofs.Try.ntmps50 (Heap.nil _) fun act0 En0 Hv0 => ?_
 refine wp_seq ?_
 refine region_from ?_
 refine f_o ?_
 refine m_m 70 (u64s n) En0 Hv0 fun ac2 wo3 bk1 En4 Hv5 => ?_
 refine f_o ?_
 refine m_z 24 (u64s (List.replicate 4 0)) En4 Hv5 fun ac7 wo8 bk6 En9 Hv10 => ?_
 refine f_e ?_
 refine then_normal ?_
 refine wp_seq ?_
 refine region_from ?_
 refine d_k [0,3,4,14] [] 1 En9 fun ac11 En12 => ?_
 refine f_o ?_
 refine c_p En12 Hv10 (rmodulus_go _ f) fun ac17 wo14 En18 Hv19 => ?_
 refine f_o ?_
 refine m_z 24 (u64s (List.replicate 4 0)) En18 Hv19 fun ac21 wo22 bk20 En23 Hv24 => ?_
 refine f_o ?_
 refine m_g 2 0 4 (u64s (nd (mF f))) (u64s (nd (mF f))) [.box bk1 (u64s n) 70, .box bk6 (u64s (List.replicate 4 0)) 24, .box bk20 (u64s (nd (mF f))) 24] En23 Hv24 rfl (u64s_lenh (nds_len _ _)) (by rw [(u64s_lenh (List.length_replicate))]; decide) (u64s_one _) (store_whole (u64s_lenh (List.length_replicate))) rfl fun ac25 wo26 En27 Hv28 => ?_
 refine f_e ?_
 refine then_normal ?_
 refine wp_seq ?_
 refine wp_seq ?_
 refine d_r [0,3,4,5,17] [(1, g_b (show (f == (4 : Int)) = false from (beq_eq_false_iff_ne.2 (by omega))))] En27 fun ac29 En30 => ?_
 refine then_normal ?_
 refine c_f En30 ?_
 refine wp_skip ?_
 refine then_normal ?_
 refine wp_seq ?_
 refine region_from ?_
 refine d_k [0,3,4,5,22] [] 1 En30 fun ac31 En32 => ?_
 refine f_o ?_
 refine c_p En32 Hv28 (above_go _ f h3) fun ac37 wo34 En38 Hv39 => ?_
 refine d_k [0,3,4,5,24,25] [] 5 En38 fun ac40 En41 => ?_
 refine f_o ?_
 refine m_z 84 (u64s (List.replicate 8 0)) En41 Hv39 fun ac43 wo44 bk42 En45 Hv46 => ?_
 refine f_o ?_
 refine m_g 3 0 8 (u64s (cF f)) (u64s (cF f)) [.box bk1 (u64s n) 70, .box bk6 (u64s (List.replicate 4 0)) 24, .box bk20 (u64s (nd (mF f))) 24, .box bk42 (u64s (cF f)) 84] En45 Hv46 rfl (u64s_lenh (cF_len _)) (by rw [(u64s_lenh (List.length_replicate))]; decide) (u64s_one _) (store_whole (u64s_lenh (List.length_replicate))) rfl fun ac47 wo48 En49 Hv50 => ?_
 refine d_e [0,3,4,5,6,7] [] En49 fun ac51 En52 => ?_
 refine then_normal ?_
 refine wp_seq ?_
 refine wp_seq ?_
 refine d_r [0,3,4,5,6,7,8] [] En52 fun ac53 En54 => ?_
 refine then_normal ?_
 refine wp_block ?_
 refine loop_m (fun ms55 ac wo => ∃ (q : Nat) (v : List UInt64), ms55 = (q + 1 : Nat) ∧ Env ac 85 [(0, .int .i64 f), (3, pt bk1), (4, pt bk6), (5, pt bk20), (6, pt bk42), (7, ni (mny f)), (8, ni q)] ∧ Ev w [] wo [.box bk1 (u64s v) 70, .box bk6 (u64s (List.replicate 4 0)) 24, .box bk20 (u64s (nd (mF f))) 24, .box bk42 (u64s (cF f)) 84] ∧ (7 ≤ q ∧ q ≤ 16) ∧ (List.length v = 17) ∧ (DG v) ∧ (dv 4294967296 v % mF f = dv 4294967296 n % mF f) ∧ (dv 4294967296 v < 4294967296 ^ (q + 1))) ⟨_, 16, n, rfl, En54.sb, Hv50.pk [0, 1, 2, 3], by omega, hn, hdn, rfl, by have := dv_lt32 hdn; rwa [hn] at this⟩ ?_
 rintro mm61 ac57 wo58 ⟨q, v, rfl, En59, Hv60, hq, hlv, hdv, hmv, hbv⟩
 refine wp_seq ?_
 refine wp_seq ?_
 refine d_r [0,3,4,5,6,7,8,27] [] En59 fun ac62 En63 => ?_
 refine then_normal ?_
 refine c_d (((q : Nat) : Int) ≥ (8 : Int)) En63 (fun hc64 => ?_) (fun hc64 => ?_)
 ·
  refine wp_skip ?_
  refine then_normal ?_
  refine wp_seq ?_
  refine wp_block ?_
  refine wp_block ?_
  refine loop_m (fun ms65 ac wo => ∃ (w1 : List UInt64), ms65 = (dv 4294967296 w1 : Nat) ∧ Env ac 85 [(0, .int .i64 f), (3, pt bk1), (4, pt bk6), (5, pt bk20), (6, pt bk42), (7, ni (mny f)), (8, ni q)] ∧ Ev w [] wo [.box bk1 (u64s w1) 70, .box bk6 (u64s (List.replicate 4 0)) 24, .box bk20 (u64s (nd (mF f))) 24, .box bk42 (u64s (cF f)) 84] ∧ (List.length w1 = 17) ∧ (DG w1) ∧ (dv 4294967296 w1 % mF f = dv 4294967296 n % mF f) ∧ (dv 4294967296 w1 < 4294967296 ^ (q + 1))) ⟨_, v, rfl, En63.sb, Hv60.pk [0, 1, 2, 3], hlv, hdv, hmv, hbv⟩ ?_
  rintro mm71 ac67 wo68 ⟨w1, rfl, En69, Hv70, hlw, hdw, hmw, hbw⟩
  refine wp_seq ?_
  refine wp_seq ?_
  refine region_from ?_
  refine d_k [0,3,4,5,6,7,8,30] [] 1 En69 fun ac72 En73 => ?_
  refine f_o ?_
  refine q_v (x := Instr.indexAt 70 (pt bk1) (ni q)) (v := .pointer (some ⟨bk1, q, none⟩)) En73 (Go.Dbr.run_indexarr (e := 22) (sz := 1) (m := 17) (j := q) (o := q) (by kernel_rfl) (by kernel_rfl) (by omega) (by omega) (by omega) _) fun ac74 En75 => ?_
  refine f_o ?_
  have hb76 : q < List.length w1 := by rw [hlw]; omega
  refine m_v 0 q (uv64 (List.getD w1 q 0)) En75 Hv70 rfl (u64s_getD hb76) fun ac77 En78 => ?_
  refine d_e [0,3,4,5,6,7,8,33] [] En78 fun ac79 En80 => ?_
  refine then_normal ?_
  refine c_n ((UInt64.toNat (List.getD w1 q 0) : Nat) : Int) (0 : Int) En80 (fun hc81 => ?_) (fun hc81 => ?_)
  ·
   refine wp_skip ?_
   refine then_normal ?_
   refine wp_block ?_
   refine wp_seq ?_
   refine region_from ?_
   refine d_k [0,3,4,5,6,7,8,34] [] 1 En80 fun ac82 En83 => ?_
   refine f_o ?_
   refine q_v (x := Instr.indexAt 70 (pt bk1) (ni q)) (v := .pointer (some ⟨bk1, q, none⟩)) En83 (Go.Dbr.run_indexarr (e := 22) (sz := 1) (m := 17) (j := q) (o := q) (by kernel_rfl) (by kernel_rfl) (by omega) (by omega) (by omega) _) fun ac84 En85 => ?_
   refine f_o ?_
   have hb86 : q < List.length w1 := by rw [hlw]; omega
   refine m_v 0 q (uv64 (List.getD w1 q 0)) En85 Hv70 rfl (u64s_getD hb86) fun ac87 En88 => ?_
   refine d_e [0,3,4,5,6,7,8,9] [] En88 fun ac89 En90 => ?_
   refine then_normal ?_
   refine wp_seq ?_
   refine region_from ?_
   refine d_k [0,3,4,5,6,7,8,9,37] [] 1 En90 fun ac91 En92 => ?_
   refine f_o ?_
   refine q_v (x := Instr.indexAt 70 (pt bk1) (ni q)) (v := .pointer (some ⟨bk1, q, none⟩)) En92 (Go.Dbr.run_indexarr (e := 22) (sz := 1) (m := 17) (j := q) (o := q) (by kernel_rfl) (by kernel_rfl) (by omega) (by omega) (by omega) _) fun ac93 En94 => ?_
   refine f_o ?_
   have hb95 : q < List.length w1 := by rw [hlw]; omega
   refine m_t 0 q (.int .u64 0) [.box bk1 (u64s (List.set w1 q (0 : UInt64))) 70, .box bk6 (u64s (List.replicate 4 0)) 24, .box bk20 (u64s (nd (mF f))) 24, .box bk42 (u64s (cF f)) 84] En94 Hv70 rfl (u64s_getD hb95) (u64s_set _ _ (0 : UInt64)) rfl fun ac96 wo97 En98 Hv99 => ?_
   refine f_e ?_
   refine then_normal ?_
   refine wp_seq ?_
   refine d_r [0,3,4,5,6,7,8,9,10] [] En98 fun ac100 En101 => ?_
   refine then_normal ?_
   refine wp_seq ?_
   refine d_r [0,3,4,5,6,7,8,9,10,11] [] En101 fun ac102 En103 => ?_
   refine then_normal ?_
   refine wp_block ?_
   have hto := top_out hdw (by omega) hbw
   refine loop_m (fun ms104 ac wo => ∃ (k : Nat) (u : List UInt64) (g : UInt64), ms104 = (10 - k : Nat) ∧ Env ac 85 [(0, .int .i64 f), (3, pt bk1), (4, pt bk6), (5, pt bk20), (6, pt bk42), (7, ni (mny f)), (8, ni q), (9, uv64 (List.getD w1 q 0)), (10, uv64 g), (11, ni k)] ∧ Ev w [] wo [.box bk1 (u64s u) 70, .box bk6 (u64s (List.replicate 4 0)) 24, .box bk20 (u64s (nd (mF f))) 24, .box bk42 (u64s (cF f)) 84] ∧ (k ≤ 9) ∧ (List.length u = 17) ∧ (DG u) ∧ (g.toNat < 4294967296) ∧ (dv 4294967296 u + g.toNat * 4294967296 ^ (q - 8 + k) = dv 4294967296 (List.set w1 q 0) + (List.getD w1 q 0).toNat * dk (cF f) k * 4294967296 ^ (q - 8))) ⟨_, 0, List.set w1 q 0, 0, rfl, En103.sb, Hv99.pk [0, 1, 2, 3], by omega, by simp [hlw], hdw.set (by decide), by decide, by simp [dk]⟩ ?_
   rintro mm110 ac106 wo107 ⟨k, u, g, rfl, En108, Hv109, hk, hlu, hdu, hgu, hvu⟩
   refine wp_seq ?_
   refine wp_seq ?_
   have hC8 := dk_c_lt h3 k
   refine region_from ?_
   refine d_k [0,3,4,5,6,7,8,9,10,11,42] [] 4 En108 fun ac111 En112 => ?_
   rcases Bool.eq_false_or_eq_true (decide (((k : Nat) : Int) < ((mny f : Nat) : Int))) with hb113 | hb113
   ·
    have En114 := En112.fx (t := 42) (congrArg Value.bool hb113)
    have hp115 : ((k : Nat) : Int) < ((mny f : Nat) : Int) := of_decide_eq_true hb113
    refine d_e [0,3,4,5,6,7,8,9,10,11,45] [] En114 fun ac116 En117 => ?_
    refine then_normal ?_
    refine c_t En117 ?_
    refine wp_skip ?_
    refine then_normal ?_
    refine wp_seq ?_
    refine wp_block ?_
    refine wp_seq ?_
    have hk8 : k ≤ 8 := by by_cases hmk : mny f ≤ k <;> first | (have := mny_le f; omega) | exact left_idx (u := u) (by omega) (by rw [show q - 8 + 8 = q by omega]; exact hto.2.1) (hdw q) (dk_c_lt h3 k) (by omega) hvu
    have hqk : q - 8 + k < 17 := by omega
    have hm7 := mny_le f
    refine region_from ?_
    refine d_k [0,3,4,5,6,7,8,9,10,11,51] [(1, g_n (w_r (e := ((q : Nat) : Int) - (8 : Int)) (x := ((q - 8 : Nat) : Int)) (by omega))), (3, g_n (w_a (q - 8) k))] 4 En117 fun ac118 En119 => ?_
    refine f_o ?_
    refine q_v (x := Instr.indexAt 70 (pt bk1) (ni ((q - 8) + k))) (v := .pointer (some ⟨bk1, (q - 8) + k, none⟩)) En119 (Go.Dbr.run_indexarr (e := 22) (sz := 1) (m := 17) (j := (q - 8) + k) (o := (q - 8) + k) (by kernel_rfl) (by kernel_rfl) (by omega) (by omega) (by omega) _) fun ac120 En121 => ?_
    refine f_o ?_
    have hb122 : (q - 8) + k < List.length u := by rw [hlu]; omega
    refine m_v 0 ((q - 8) + k) (uv64 (List.getD u ((q - 8) + k) 0)) En121 Hv109 rfl (u64s_getD hb122) fun ac123 En124 => ?_
    refine d_e [0,3,4,5,6,7,8,9,10,11,12] [(7, g_i .u64 (Go.Dbr.u64_add (x := List.getD u ((q - 8) + k) 0) (y := g) rfl rfl))] En124 fun ac125 En126 => ?_
    refine then_normal ?_
    refine wp_seq ?_
    refine wp_seq ?_
    refine d_r [0,3,4,5,6,7,8,9,10,11,12,58] [] En126 fun ac127 En128 => ?_
    refine then_normal ?_
    refine region_cut (F := fun ac wo => ∃ (t : UInt64), Env ac 85 [(0, .int .i64 f), (3, pt bk1), (4, pt bk6), (5, pt bk20), (6, pt bk42), (7, ni (mny f)), (8, ni q), (9, uv64 (List.getD w1 q 0)), (10, uv64 g), (11, ni k), (12, uv64 t)] ∧ Ev w [] wo [.box bk1 (u64s u) 70, .box bk6 (u64s (List.replicate 4 0)) 24, .box bk20 (u64s (nd (mF f))) 24, .box bk42 (u64s (cF f)) 84] ∧ (t.toNat = (List.getD u (q - 8 + k) 0).toNat + (List.getD w1 q 0).toNat * (List.getD (cF f) k 0).toNat + g.toNat)) ?_ ?_
    ·
     refine c_d (((k : Nat) : Int) < ((mny f : Nat) : Int)) En128 (fun hc129 => ?_) (fun hc129 => ?_)
     ·
      refine region_from ?_
      refine d_k [0,3,4,5,6,7,8,9,10,11,12,59,60,61] [] 3 En128 fun ac130 En131 => ?_
      refine f_o ?_
      refine q_v (x := Instr.indexAt 84 (pt bk42) (ni k)) (v := .pointer (some ⟨bk42, k, none⟩)) En131 (Go.Dbr.run_indexarr (e := 22) (sz := 1) (m := 8) (j := k) (o := k) (by kernel_rfl) (by kernel_rfl) (by omega) (by omega) (by omega) _) fun ac132 En133 => ?_
      refine f_o ?_
      have hb134 : k < List.length (cF f) := by rw [(cF_len _)]; omega
      refine m_v 3 k (uv64 (List.getD (cF f) k 0)) En133 Hv109 rfl (u64s_getD hb134) fun ac135 En136 => ?_
      refine d_e [0,3,4,5,6,7,8,9,10,11,12] [(5, g_i .u64 (Go.Dbr.u64_mul (x := List.getD w1 q 0) (y := List.getD (cF f) k 0) rfl rfl)), (6, g_i .u64 (Go.Dbr.u64_add (x := (List.getD u ((q - 8) + k) 0) + g) (y := (List.getD w1 q 0) * (List.getD (cF f) k 0)) rfl rfl))] En136 fun ac137 En138 => ?_
      exact ⟨rfl, ⟨(((List.getD u ((q - 8) + k) 0) + g) + ((List.getD w1 q 0) * (List.getD (cF f) k 0))), En138.sb, Hv109.pk [0, 1, 2, 3], by first | exact mac32' (hdu _) (hdw q) (cF_dig h3 k) hgu | (rw [cF_over h3 (by omega), show (0 : UInt64).toNat = 0 from rfl, Nat.mul_zero, Nat.add_zero]; exact add32 (hdu _) hgu)⟩⟩
     ·
      refine wp_skip ?_
      exact ⟨rfl, ⟨((List.getD u ((q - 8) + k) 0) + g), En128.sb, Hv109.pk [0, 1, 2, 3], by first | exact mac32' (hdu _) (hdw q) (cF_dig h3 k) hgu | (rw [cF_over h3 (by omega), show (0 : UInt64).toNat = 0 from rfl, Nat.mul_zero, Nat.add_zero]; exact add32 (hdu _) hgu)⟩⟩
    ·
     rintro ac139 wo140 ⟨t, En141, Hv142, hte⟩
     refine then_normal ?_
     refine wp_seq ?_
     refine region_from ?_
     refine d_k [0,3,4,5,6,7,8,9,10,11,12,69,71] [(1, g_n (w_r (e := ((q : Nat) : Int) - (8 : Int)) (x := ((q - 8 : Nat) : Int)) (by omega))), (3, g_n (w_a (q - 8) k)), (5, g_i .u64 (Go.Dbr.u64_and (x := t) (y := (4294967295 : UInt64)) rfl rfl))] 6 En141 fun ac143 En144 => ?_
     refine f_o ?_
     refine q_v (x := Instr.indexAt 70 (pt bk1) (ni ((q - 8) + k))) (v := .pointer (some ⟨bk1, (q - 8) + k, none⟩)) En144 (Go.Dbr.run_indexarr (e := 22) (sz := 1) (m := 17) (j := (q - 8) + k) (o := (q - 8) + k) (by kernel_rfl) (by kernel_rfl) (by omega) (by omega) (by omega) _) fun ac145 En146 => ?_
     refine f_o ?_
     have hb147 : (q - 8) + k < List.length u := by rw [hlu]; omega
     refine m_t 0 ((q - 8) + k) (uv64 (t &&& (4294967295 : UInt64))) [.box bk1 (u64s (List.set u ((q - 8) + k) (t &&& (4294967295 : UInt64)))) 70, .box bk6 (u64s (List.replicate 4 0)) 24, .box bk20 (u64s (nd (mF f))) 24, .box bk42 (u64s (cF f)) 84] En146 Hv142 rfl (u64s_getD hb147) (u64s_set _ _ _) rfl fun ac148 wo149 En150 Hv151 => ?_
     refine f_e ?_
     refine then_normal ?_
     refine d_r [0,3,4,5,6,7,8,9,10,11,12] [(1, g_i .u64 (Go.Dbr.u64_shr (x := t) (n := 32) rfl (by decide)))] En150 fun ac152 En153 => ?_
     refine block_normal ?_
     refine then_normal ?_
     refine d_r [0,3,4,5,6,7,8,9,10,11,12] [(1, g_n (w_a k 1))] En153 fun ac154 En155 => ?_
     refine then_normal ?_
     refine ⟨_, ⟨k + 1, (List.set u ((q - 8) + k) (t &&& (4294967295 : UInt64))), (t >>> UInt64.ofNat 32), rfl, En155.sb, Hv151.pk [0, 1, 2, 3], by omega, by simp [hlu], hdu.set (low32 _), high32 _, left_in hlu (by omega) hvu hte⟩, ?_⟩
     omega
   ·
    have En156 := En112.fx (t := 42) (congrArg Value.bool hb113)
    have hp157 : ¬ (((k : Nat) : Int) < ((mny f : Nat) : Int)) := of_decide_eq_false hb113
    refine d_e [0,3,4,5,6,7,8,9,10,11,45] [] En156 fun ac158 En159 => ?_
    refine then_normal ?_
    refine c_d (((UInt64.toNat g : Nat) : Int) > (0 : Int)) En159 (fun hc160 => ?_) (fun hc160 => ?_)
    ·
     refine wp_skip ?_
     refine then_normal ?_
     refine wp_seq ?_
     refine wp_block ?_
     refine wp_seq ?_
     have hk8 : k ≤ 8 := by by_cases hmk : mny f ≤ k <;> first | (have := mny_le f; omega) | exact left_idx (u := u) (by omega) (by rw [show q - 8 + 8 = q by omega]; exact hto.2.1) (hdw q) (dk_c_lt h3 k) (by omega) hvu
     have hqk : q - 8 + k < 17 := by omega
     have hm7 := mny_le f
     refine region_from ?_
     refine d_k [0,3,4,5,6,7,8,9,10,11,51] [(1, g_n (w_r (e := ((q : Nat) : Int) - (8 : Int)) (x := ((q - 8 : Nat) : Int)) (by omega))), (3, g_n (w_a (q - 8) k))] 4 En159 fun ac161 En162 => ?_
     refine f_o ?_
     refine q_v (x := Instr.indexAt 70 (pt bk1) (ni ((q - 8) + k))) (v := .pointer (some ⟨bk1, (q - 8) + k, none⟩)) En162 (Go.Dbr.run_indexarr (e := 22) (sz := 1) (m := 17) (j := (q - 8) + k) (o := (q - 8) + k) (by kernel_rfl) (by kernel_rfl) (by omega) (by omega) (by omega) _) fun ac163 En164 => ?_
     refine f_o ?_
     have hb165 : (q - 8) + k < List.length u := by rw [hlu]; omega
     refine m_v 0 ((q - 8) + k) (uv64 (List.getD u ((q - 8) + k) 0)) En164 Hv109 rfl (u64s_getD hb165) fun ac166 En167 => ?_
     refine d_e [0,3,4,5,6,7,8,9,10,11,12] [(7, g_i .u64 (Go.Dbr.u64_add (x := List.getD u ((q - 8) + k) 0) (y := g) rfl rfl))] En167 fun ac168 En169 => ?_
     refine then_normal ?_
     refine wp_seq ?_
     refine wp_seq ?_
     refine d_r [0,3,4,5,6,7,8,9,10,11,12,58] [] En169 fun ac170 En171 => ?_
     refine then_normal ?_
     refine region_cut (F := fun ac wo => ∃ (t : UInt64), Env ac 85 [(0, .int .i64 f), (3, pt bk1), (4, pt bk6), (5, pt bk20), (6, pt bk42), (7, ni (mny f)), (8, ni q), (9, uv64 (List.getD w1 q 0)), (10, uv64 g), (11, ni k), (12, uv64 t)] ∧ Ev w [] wo [.box bk1 (u64s u) 70, .box bk6 (u64s (List.replicate 4 0)) 24, .box bk20 (u64s (nd (mF f))) 24, .box bk42 (u64s (cF f)) 84] ∧ (t.toNat = (List.getD u (q - 8 + k) 0).toNat + (List.getD w1 q 0).toNat * (List.getD (cF f) k 0).toNat + g.toNat)) ?_ ?_
     ·
      refine c_d (((k : Nat) : Int) < ((mny f : Nat) : Int)) En171 (fun hc172 => ?_) (fun hc172 => ?_)
      ·
       refine region_from ?_
       refine d_k [0,3,4,5,6,7,8,9,10,11,12,59,60,61] [] 3 En171 fun ac173 En174 => ?_
       refine f_o ?_
       refine q_v (x := Instr.indexAt 84 (pt bk42) (ni k)) (v := .pointer (some ⟨bk42, k, none⟩)) En174 (Go.Dbr.run_indexarr (e := 22) (sz := 1) (m := 8) (j := k) (o := k) (by kernel_rfl) (by kernel_rfl) (by omega) (by omega) (by omega) _) fun ac175 En176 => ?_
       refine f_o ?_
       have hb177 : k < List.length (cF f) := by rw [(cF_len _)]; omega
       refine m_v 3 k (uv64 (List.getD (cF f) k 0)) En176 Hv109 rfl (u64s_getD hb177) fun ac178 En179 => ?_
       refine d_e [0,3,4,5,6,7,8,9,10,11,12] [(5, g_i .u64 (Go.Dbr.u64_mul (x := List.getD w1 q 0) (y := List.getD (cF f) k 0) rfl rfl)), (6, g_i .u64 (Go.Dbr.u64_add (x := (List.getD u ((q - 8) + k) 0) + g) (y := (List.getD w1 q 0) * (List.getD (cF f) k 0)) rfl rfl))] En179 fun ac180 En181 => ?_
       exact ⟨rfl, ⟨(((List.getD u ((q - 8) + k) 0) + g) + ((List.getD w1 q 0) * (List.getD (cF f) k 0))), En181.sb, Hv109.pk [0, 1, 2, 3], by first | exact mac32' (hdu _) (hdw q) (cF_dig h3 k) hgu | (rw [cF_over h3 (by omega), show (0 : UInt64).toNat = 0 from rfl, Nat.mul_zero, Nat.add_zero]; exact add32 (hdu _) hgu)⟩⟩
      ·
       refine wp_skip ?_
       exact ⟨rfl, ⟨((List.getD u ((q - 8) + k) 0) + g), En171.sb, Hv109.pk [0, 1, 2, 3], by first | exact mac32' (hdu _) (hdw q) (cF_dig h3 k) hgu | (rw [cF_over h3 (by omega), show (0 : UInt64).toNat = 0 from rfl, Nat.mul_zero, Nat.add_zero]; exact add32 (hdu _) hgu)⟩⟩
     ·
      rintro ac182 wo183 ⟨t, En184, Hv185, hte⟩
      refine then_normal ?_
      refine wp_seq ?_
      refine region_from ?_
      refine d_k [0,3,4,5,6,7,8,9,10,11,12,69,71] [(1, g_n (w_r (e := ((q : Nat) : Int) - (8 : Int)) (x := ((q - 8 : Nat) : Int)) (by omega))), (3, g_n (w_a (q - 8) k)), (5, g_i .u64 (Go.Dbr.u64_and (x := t) (y := (4294967295 : UInt64)) rfl rfl))] 6 En184 fun ac186 En187 => ?_
      refine f_o ?_
      refine q_v (x := Instr.indexAt 70 (pt bk1) (ni ((q - 8) + k))) (v := .pointer (some ⟨bk1, (q - 8) + k, none⟩)) En187 (Go.Dbr.run_indexarr (e := 22) (sz := 1) (m := 17) (j := (q - 8) + k) (o := (q - 8) + k) (by kernel_rfl) (by kernel_rfl) (by omega) (by omega) (by omega) _) fun ac188 En189 => ?_
      refine f_o ?_
      have hb190 : (q - 8) + k < List.length u := by rw [hlu]; omega
      refine m_t 0 ((q - 8) + k) (uv64 (t &&& (4294967295 : UInt64))) [.box bk1 (u64s (List.set u ((q - 8) + k) (t &&& (4294967295 : UInt64)))) 70, .box bk6 (u64s (List.replicate 4 0)) 24, .box bk20 (u64s (nd (mF f))) 24, .box bk42 (u64s (cF f)) 84] En189 Hv185 rfl (u64s_getD hb190) (u64s_set _ _ _) rfl fun ac191 wo192 En193 Hv194 => ?_
      refine f_e ?_
      refine then_normal ?_
      refine d_r [0,3,4,5,6,7,8,9,10,11,12] [(1, g_i .u64 (Go.Dbr.u64_shr (x := t) (n := 32) rfl (by decide)))] En193 fun ac195 En196 => ?_
      refine block_normal ?_
      refine then_normal ?_
      refine d_r [0,3,4,5,6,7,8,9,10,11,12] [(1, g_n (w_a k 1))] En196 fun ac197 En198 => ?_
      refine then_normal ?_
      refine ⟨_, ⟨k + 1, (List.set u ((q - 8) + k) (t &&& (4294967295 : UInt64))), (t >>> UInt64.ofNat 32), rfl, En198.sb, Hv194.pk [0, 1, 2, 3], by omega, by simp [hlu], hdu.set (low32 _), high32 _, left_in hlu (by omega) hvu hte⟩, ?_⟩
      omega
    ·
     refine wp_exit ?_
     refine then_exit ?_
     refine then_exit ?_
     refine block_exit ?_
     refine block_normal ?_
     refine then_normal ?_
     have hlo := left_out h3 (by omega) (by omega) (by omega) hto.2.2 (by omega) hmw hvu
     refine ⟨_, ⟨u, rfl, En159.sb, Hv109.pk [0, 1, 2, 3], hlu, hdu, hlo.1, Nat.lt_trans hlo.2 hbw⟩, ?_⟩
     exact hlo.2
  ·
   refine wp_exit ?_
   refine then_exit ?_
   refine then_exit ?_
   refine block_exit ?_
   refine block_normal ?_
   refine then_normal ?_
   have hbq : dv 4294967296 w1 < 4294967296 ^ q := by have e := zero_above hdw hbw; have l := dk_lt hdw q; rw [show (List.getD w1 q 0).toNat = 0 by omega] at e; omega
   refine d_r [0,3,4,5,6,7,8] [(1, g_n (w_r (e := ((q : Nat) : Int) - (1 : Int)) (x := ((q - 1 : Nat) : Int)) (by omega)))] En80 fun ac199 En200 => ?_
   refine then_normal ?_
   refine ⟨_, ⟨q - 1, w1, rfl, En200.sb, Hv70.pk [0, 1, 2, 3], by omega, hlw, hdw, hmw, by rw [show q - 1 + 1 = q by omega]; exact hbq⟩, ?_⟩
   omega
 ·
  refine wp_exit ?_
  refine then_exit ?_
  refine then_exit ?_
  refine block_exit ?_
  refine then_normal ?_
  refine wp_seq ?_
  refine region_from ?_
  refine f_o ?_
  refine m_a 0 0 17 (u64s v) En63 Hv60 rfl (load_whole (u64s_lenh hlv)) (u64s_lenh hlv) fun ac201 En202 => ?_
  refine f_o ?_
  refine c_p En202 Hv60 (number_go _ v hlv hdv) fun ac207 wo204 En208 Hv209 => ?_
  refine f_o ?_
  refine m_z 24 (u64s (List.replicate 4 0)) En208 Hv209 fun ac211 wo212 bk210 En213 Hv214 => ?_
  refine f_o ?_
  refine m_g 4 0 4 (u64s (nd (dv 4294967296 v))) (u64s (nd (dv 4294967296 v))) [.box bk1 (u64s v) 70, .box bk6 (u64s (List.replicate 4 0)) 24, .box bk20 (u64s (nd (mF f))) 24, .box bk42 (u64s (cF f)) 84, .box bk210 (u64s (nd (dv 4294967296 v))) 24] En213 Hv214 rfl (u64s_lenh (nds_len _ _)) (by rw [(u64s_lenh (List.length_replicate))]; decide) (u64s_one _) (store_whole (u64s_lenh (List.length_replicate))) rfl fun ac215 wo216 En217 Hv218 => ?_
  refine f_e ?_
  refine then_normal ?_
  refine wp_seq ?_
  refine wp_block ?_
  have hq7 : q = 7 := by omega
  rw [hq7, d8w] at hbv
  refine loop_m (fun ms219 ac wo => ∃ (x : List UInt64), ms219 = (nv x : Nat) ∧ Env ac 85 [(0, .int .i64 f), (3, pt bk1), (4, pt bk6), (5, pt bk20), (6, pt bk42), (7, ni (mny f)), (8, ni q), (13, pt bk210)] ∧ Ev w [] wo [.box bk210 (u64s x) 24, .box bk1 (u64s v) 70, .box bk6 (u64s (List.replicate 4 0)) 24, .box bk20 (u64s (nd (mF f))) 24, .box bk42 (u64s (cF f)) 84] ∧ (List.length x = 4) ∧ (nv x % mF f = dv 4294967296 n % mF f)) ⟨_, (nd (dv 4294967296 v)), rfl, En217.sb, Hv218.pk [4, 0, 1, 2, 3], nds_len _ _, by rw [nv_nd hbv]; exact hmv⟩ ?_
  rintro mm225 ac221 wo222 ⟨x, rfl, En223, Hv224, hx, hxm⟩
  refine wp_seq ?_
  refine wp_seq ?_
  refine region_from ?_
  refine f_o ?_
  refine m_a 0 0 4 (u64s x) En223 Hv224 rfl (load_whole (u64s_lenh hx)) (u64s_lenh hx) fun ac226 En227 => ?_
  refine f_o ?_
  refine m_a 3 0 4 (u64s (nd (mF f))) En227 Hv224 rfl (load_whole (u64s_lenh (nds_len _ _))) (u64s_lenh (nds_len _ _)) fun ac228 En229 => ?_
  refine f_o ?_
  refine c_p En229 Hv224 (rless_go _ x (nd (mF f)) hx (nds_len _ _)) fun ac234 wo231 En235 Hv236 => ?_
  refine d_e [0,3,4,5,6,7,8,13,80] [] En235 fun ac237 En238 => ?_
  refine then_normal ?_
  refine cond_at En238 (t := !(decide (nv x < nv (nd (mF f))))) (by kernel_rfl) (fun hc239 => ?_) (fun hc239 => ?_)
  ·
   replace hc239 : ¬ (nv x < nv (nd (mF f))) := by simpa using hc239
   refine wp_skip ?_
   refine then_normal ?_
   refine wp_block ?_
   refine region_from ?_
   refine f_o ?_
   refine m_a 0 0 4 (u64s x) En238 Hv236 rfl (load_whole (u64s_lenh hx)) (u64s_lenh hx) fun ac240 En241 => ?_
   refine f_o ?_
   refine m_a 3 0 4 (u64s (nd (mF f))) En241 Hv236 rfl (load_whole (u64s_lenh (nds_len _ _))) (u64s_lenh (nds_len _ _)) fun ac242 En243 => ?_
   refine f_o ?_
   refine c_p En243 Hv236 (rminus_go _ x (nd (mF f)) hx (nds_len _ _)) fun ac248 wo245 En249 Hv250 => ?_
   refine f_o ?_
   refine m_g 0 0 4 (u64s (nd (nv x + W256 - nv (nd (mF f))))) (u64s (nd (nv x + W256 - nv (nd (mF f))))) [.box bk210 (u64s (nd (nv x + W256 - nv (nd (mF f))))) 24, .box bk1 (u64s v) 70, .box bk6 (u64s (List.replicate 4 0)) 24, .box bk20 (u64s (nd (mF f))) 24, .box bk42 (u64s (cF f)) 84] En249 Hv250 rfl (u64s_lenh (nds_len _ _)) (by rw [(u64s_lenh hx)]; decide) (u64s_one _) (store_whole (u64s_lenh hx)) rfl fun ac251 wo252 En253 Hv254 => ?_
   refine f_e ?_
   refine block_normal ?_
   refine then_normal ?_
   refine ⟨_, ⟨(nd (nv x + W256 - nv (nd (mF f)))), rfl, En253.sb, Hv254.pk [0, 1, 2, 3, 4], nds_len _ _, by rw [sub_nd hx (by omega), ← hxm]; exact (by rw [nv_mF]; exact (Nat.mod_eq_sub_mod (by rw [nv_mF] at *; omega)).symm)⟩, ?_⟩
   rw [sub_nd hx (by omega)]; have := mF_pos (f := f) (by omega); rw [nv_mF] at *; omega
  ·
   replace hc239 : nv x < nv (nd (mF f)) := by simpa using hc239
   refine wp_exit ?_
   refine then_exit ?_
   refine then_exit ?_
   refine block_exit ?_
   refine then_normal ?_
   refine wp_seq ?_
   refine region_from ?_
   refine f_o ?_
   refine m_a 0 0 4 (u64s x) En238 Hv236 rfl (load_whole (u64s_lenh hx)) (u64s_lenh hx) fun ac255 En256 => ?_
   refine f_o ?_
   refine m_g 2 0 4 (u64s x) (u64s x) [.box bk210 (u64s x) 24, .box bk1 (u64s v) 70, .box bk6 (u64s x) 24, .box bk20 (u64s (nd (mF f))) 24, .box bk42 (u64s (cF f)) 84] En256 Hv236 rfl (u64s_lenh hx) (by rw [(u64s_lenh (List.length_replicate))]; decide) (u64s_one _) (store_whole (u64s_lenh (List.length_replicate))) rfl fun ac257 wo258 En259 Hv260 => ?_
   refine f_e ?_
   refine then_normal ?_
   refine wp_ret ?_
   refine d_cell1 (v := .agg (List.toArray (u64s x))) (t := 4) (T := 24) (ad := ⟨bk6, 0, none⟩) En259 (by kernel_rfl) (by kernel_rfl) (Ev.cellAgg (t := 24) (k := 2) (off := 0) (m := 4) (xs := u64s x) Hv260 rfl (load_whole (u64s_lenh hx)) (u64s_lenh hx) (by kernel_rfl) (by kernel_rfl)) ?_
   have hxe : x = nd (dv 4294967296 n % mF f) := nd_of hx (by rw [← hxm]; exact (Nat.mod_eq_of_lt (by rw [nv_mF] at *; omega)).symm)
   subst hxe
   exact ⟨rfl, Hv260.pk []⟩

end Go.Proofs.Ytpfhmbbiadpbeaa
