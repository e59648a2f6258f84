/- Layer 4: the laws, walked. -/
import Derived.Test.YtamdjonejijndaaF17
import Derived.Test.YtamdjonejijndaaArr
namespace Go.Proofs.Ytamdjonejijndaa
open Go.Dbr
set_option maxRecDepth 100000
set_option maxHeartbeats 2000000
set_option linter.unusedVariables false
set_option linter.unusedSimpArgs false

theorem rq14 : rq 1 4 = 39362322753415011913614158609977084030892133031847780325488042146247659569504 := by
  rw [rq, if_neg (by decide), powM_pw 4 (by decide +kernel)]
  decide +kernel
theorem riv : ri = 19681161376707505956807079304988542015446066515923890162744021073123829784752 := by
  rw [ri, powM_pw 2 (by decide +kernel)]
  decide +kernel
theorem rs14 : rs 1 4 = 57896044618658097711785492504343953926634992332820282019728792003956564819947 := by
  rw [rs, rq14, riv]
  decide +kernel
theorem four : nv [4, 0, 0, 0] = 4 := by decide +kernel
theorem head_ok1 : rootOk 1 (nv [4, 0, 0, 0]) = true := by
  rw [four, rootOk, rs14]
  decide +kernel
theorem head_n : nd (rootN 1 (nv [4, 0, 0, 0])) = [2, 0, 0, 0] := by
  rw [rootN, if_pos head_ok1, four, rs14]
  decide +kernel
theorem head_inv : nd (powM 1 (nv [2, 0, 0, 0]) (mF 1 - 2)) = [18446744073709551607, 18446744073709551615, 18446744073709551615, 4611686018427387903] := by
  rw [powM_pw _ (by decide +kernel)]
  decide +kernel
theorem beq_l {x y : List UInt64} (h : x = y) : (x == y) = true := by rw [h]; exact beq_self_eq_true _
theorem beq_b {x y : List UInt8} (h : x = y) : (x == y) = true := by rw [h]; exact beq_self_eq_true _
theorem rightq_yes (w : World) (f : Int) (a : List UInt64) (ha : List.length a = 4) (h : nv a < mF f) : Calls Try.prog 28 #[.int .i64 f, .agg (List.toArray (u64s a))] w fun e w' => e = .returned (.bool true) ∧ Ev w [] w' [] := by
  have g := rightq_go w f a ha
  rwa [decide_eq_true h] at g
/-- which field a number speaks of -/
def fldN (k : Int) : Nat := (if k < 0 then Int.toNat (-(k + 1)) else Int.toNat k) % 4
def fldF (k : Int) : Int := ((1 + fldN k : Nat) : Int)
theorem fld_ok (k : Int) : fldF k = 1 ∨ fldF k = 2 ∨ fldF k = 3 ∨ fldF k = 4 := by
  have : fldN k < 4 := Nat.mod_lt _ (by decide)
  unfold fldF
  omega
theorem half_sum (x y : UInt64) : nv [(x >>> UInt64.ofNat 1) + (y >>> UInt64.ofNat 1), 0, 0, 0] = nv [x >>> UInt64.ofNat 1, 0, 0, 0] + nv [y >>> UInt64.ofNat 1, 0, 0, 0] := by
  have hx := lt64 x
  have hy := lt64 y
  rw [num1, num1, num1, UInt64.toNat_add, shr_n _ (by decide), shr_n _ (by decide)]
  omega
theorem m_less {f : Int} (hf : f = 1 ∨ f = 2 ∨ f = 3 ∨ f = 4) : nv (List.set (nd (mF f)) 0 (List.getD (nd (mF f)) 0 0 - 1)) = mF f - 1 := by rcases hf with rfl | rfl | rfl | rfl <;> decide +kernel
theorem none_iff {f : Int} (hf : f = 1 ∨ f = 2 ∨ f = 3 ∨ f = 4) {x : Nat} : nd (mulM f x (nv [1, 0, 0, 0])) = [0, 0, 0, 0] ↔ x % mF f = 0 := by
  rw [zero4, nd_inj (mulM_lt hf _ _) (by decide), show nv [1, 0, 0, 0] = 1 from rfl, mulM_one]
theorem last_0 {f : Int} (hf : f = 1 ∨ f = 2 ∨ f = 3 ∨ f = 4) {x : Nat} (h : nd (mulM f x (nv [1, 0, 0, 0])) = [0, 0, 0, 0]) : nd (powM f x (nv (List.set (nd (mF f)) 0 (List.getD (nd (mF f)) 0 0 - 1)))) = [0, 0, 0, 0] := by
  have h1 := mF_pos hf
  rw [m_less hf, pow_0 ((none_iff hf).1 h) (by omega)]
  rfl
theorem last_1 {f : Int} (hf : f = 1 ∨ f = 2 ∨ f = 3 ∨ f = 4) {x : Nat} (h : ¬ nd (mulM f x (nv [1, 0, 0, 0])) = [0, 0, 0, 0]) : nd (powM f x (nv (List.set (nd (mF f)) 0 (List.getD (nd (mF f)) 0 0 - 1)))) = [1, 0, 0, 0] := by
  rw [m_less hf, fermat hf (fun g => h ((none_iff hf).2 g))]
  rfl
theorem one_0 {f : Int} (hf : f = 1 ∨ f = 2 ∨ f = 3 ∨ f = 4) {x : Nat} (h : nd (mulM f x (nv [1, 0, 0, 0])) = [0, 0, 0, 0]) : nd (mulM f x (nv (nd (powM f x (mF f - 2))))) = [0, 0, 0, 0] := by
  rw [mul_0 ((none_iff hf).1 h)]
  rfl
theorem one_1 {f : Int} (hf : f = 1 ∨ f = 2 ∨ f = 3 ∨ f = 4) {x : Nat} (h : ¬ nd (mulM f x (nv [1, 0, 0, 0])) = [0, 0, 0, 0]) : nd (mulM f x (nv (nd (powM f x (mF f - 2))))) = [1, 0, 0, 0] := by
  rw [nv_pow hf, inv_yes hf (fun g => h ((none_iff hf).2 g))]
  rfl

theorem head_ok (w : World) : Calls Try.prog 9 #[] w fun e w' => e = .returned (.bool true) ∧ Ev w [] w' [] := by
 refine d_0 [] 20 Go.Proofs.Try.func9 Go.Proofs.Try.ntmps9 (Heap.nil _) fun act0 En0 Hv0 => ?_
 refine d_s [0] [] En0 fun ac1 En2 => ?_
 refine wp_seq ?_
 refine region_from ?_
 refine d_k [0,4] [] 1 En2 fun ac3 En4 => ?_
 refine f_o ?_
 refine c_p En4 Hv0 (root1_go _ ([4, 0, 0, 0] : List UInt64) (show List.length ([4, 0, 0, 0] : List UInt64) = 4 from rfl)) fun ac9 wo6 En10 Hv11 => ?_
 refine d_k [0,6,7] [] 5 En10 fun ac12 En13 => ?_
 refine f_o ?_
 refine m_z 25 (u64s (List.replicate 4 0)) En13 Hv11 fun ac15 wo16 bk14 En17 Hv18 => ?_
 refine f_o ?_
 refine m_g 0 0 4 (u64s (nd (rootN 1 (nv ([4, 0, 0, 0] : List UInt64))))) (u64s (nd (rootN 1 (nv ([4, 0, 0, 0] : List UInt64))))) [.box bk14 (u64s (nd (rootN 1 (nv ([4, 0, 0, 0] : List UInt64))))) 25] En17 Hv18 rfl (u64s_lenh (nds_len _ _)) (by rw [(u64s_lenh (List.length_replicate))]; decide) (u64s_one _) (store_whole (u64s_lenh (List.length_replicate))) rfl fun ac19 wo20 En21 Hv22 => ?_
 refine d_e [0,1,2] [(7, g_b (show (rootOk 1 (nv ([4, 0, 0, 0] : List UInt64))) = true from head_ok1))] En21 fun ac23 En24 => ?_
 refine then_normal ?_
 refine wp_seq ?_
 refine region_from ?_
 refine d_k [0,1,2,8] [] 1 En24 fun ac25 En26 => ?_
 refine f_o ?_
 refine c_p En26 Hv22 (inv_go _ 1 h1f (mulOk h1f) ([2, 0, 0, 0] : List UInt64) (show List.length ([2, 0, 0, 0] : List UInt64) = 4 from rfl)) fun ac31 wo28 En32 Hv33 => ?_
 refine d_k [0,1,2,9,10] [] 3 En32 fun ac34 En35 => ?_
 refine f_o ?_
 refine q_v (x := eqOp .eql 25 (.tmp 9) (.tmp 10) (.agg (List.toArray (u64s (nd (powM 1 (nv ([2, 0, 0, 0] : List UInt64)) (mF 1 - 2)))))) (.agg (List.toArray (u64s ([18446744073709551607, 18446744073709551615, 18446744073709551615, 4611686018427387903] : List UInt64))))) (v := .bool true) En35 (Go.Dbr.run_is (fun w => Go.Dbr.u64s_eqop (a := (.tmp 9)) (b := (.tmp 10)) (e := 23) (m := 4) (by kernel_rfl) (by kernel_rfl) (by kernel_rfl) (by kernel_rfl) (by kernel_rfl) (nds_len _ _) (show List.length ([18446744073709551607, 18446744073709551615, 18446744073709551615, 4611686018427387903] : List UInt64) = 4 from rfl) w) (beq_l head_inv) _) fun ac36 En37 => ?_
 refine d_k [0,1,15] [] 8 En37 fun ac38 En39 => ?_
 refine f_o ?_
 refine m_a 0 0 4 (u64s (nd (rootN 1 (nv ([4, 0, 0, 0] : List UInt64))))) En39 Hv33 rfl (load_whole (u64s_lenh (nds_len _ _))) (u64s_lenh (nds_len _ _)) fun ac40 En41 => ?_
 refine d_k [0,1,15,16,17] [] 10 En41 fun ac42 En43 => ?_
 refine f_o ?_
 refine q_v (x := eqOp .eql 25 (.tmp 16) (.tmp 17) (.agg (List.toArray (u64s (nd (rootN 1 (nv ([4, 0, 0, 0] : List UInt64))))))) (.agg (List.toArray (u64s ([2, 0, 0, 0] : List UInt64))))) (v := .bool true) En43 (Go.Dbr.run_is (fun w => Go.Dbr.u64s_eqop (a := (.tmp 16)) (b := (.tmp 17)) (e := 23) (m := 4) (by kernel_rfl) (by kernel_rfl) (by kernel_rfl) (by kernel_rfl) (by kernel_rfl) (nds_len _ _) (show List.length ([2, 0, 0, 0] : List UInt64) = 4 from rfl) w) (beq_l head_n) _) fun ac44 En45 => ?_
 refine d_e [0,1] [] En45 fun ac46 En47 => ?_
 refine then_normal ?_
 refine wp_ret ?_
 refine d_ret1 (t := 0) (v := .bool true) En47 (by kernel_rfl) (by kernel_rfl) ?_
 exact ⟨rfl, Hv33.pk []⟩

theorem fields_go (w : World) (k : Int) (hk : -9223372036854775808 ≤ k ∧ k ≤ 9223372036854775807) : Calls Try.prog 19 #[.int .i64 k] w fun e w' => e = .returned (.int .i64 (fldF k)) ∧ Ev w [] w' [] := by
 refine d_0 [(0, .int .i64 k)] 11 Go.Proofs.Try.func19 Go.Proofs.Try.ntmps19 (Heap.nil _) fun act0 En0 Hv0 => ?_
 refine wp_seq ?_
 refine d_r [0,2] [] En0 fun ac1 En2 => ?_
 refine then_normal ?_
 refine wp_seq ?_
 refine wp_seq ?_
 refine d_r [0,2,4] [] En2 fun ac3 En4 => ?_
 refine then_normal ?_
 refine c_d (k < (0 : Int)) En4 (fun hc5 => ?_) (fun hc5 => ?_)
 ·
  refine d_r [0,2] [(1, g_n (w_r (e := k + (1 : Int)) (x := k + (1 : Int)) (by omega))), (2, g_n (w_r (e := (0 : Int) - (k + (1 : Int))) (x := ((Int.toNat (-(k + (1 : Int))) : Nat) : Int)) (by omega)))] En4 fun ac6 En7 => ?_
  refine then_normal ?_
  refine wp_seq ?_
  refine d_r [0,2] [(1, g_i .i64 (show Int.tmod ((Int.toNat (-(k + (1 : Int))) : Nat) : Int) (4 : Int) = (((Int.toNat (-(k + (1 : Int)))) % 4 : Nat) : Int) from Go.Dbr.i64_rem_nat (a := ((Int.toNat (-(k + (1 : Int))) : Nat) : Int)) (n := Int.toNat (-(k + (1 : Int)))) (m := 4) rfl (by omega))), (2, g_n (w_a 1 ((Int.toNat (-(k + (1 : Int)))) % 4)))] En7 fun ac8 En9 => ?_
  refine then_normal ?_
  refine wp_ret ?_
  refine d_ret1 (t := 2) (v := ni (1 + ((Int.toNat (-(k + (1 : Int)))) % 4))) En9 (by kernel_rfl) (by kernel_rfl) ?_
  have e : ((1 + ((Int.toNat (-(k + (1 : Int)))) % 4) : Nat) : Int) = fldF k := by unfold fldF fldN; first | rw [if_pos (by omega)] | rw [if_neg (by omega)]
  exact ⟨congrArg (fun z : Int => Ending.returned (Value.int .i64 z)) e, Hv0.pk []⟩
 ·
  refine wp_skip ?_
  refine then_normal ?_
  refine wp_seq ?_
  have En10 := Env.fx (t := 0) (v := .int .i64 k) (u := ni (Int.toNat k)) En4 (congrArg (Value.int .i64) (show (k : Int) = ((Int.toNat k : Nat) : Int) by omega))
  refine d_r [0,2] [(1, g_i .i64 (show Int.tmod ((Int.toNat k : Nat) : Int) (4 : Int) = (((Int.toNat k) % 4 : Nat) : Int) from Go.Dbr.i64_rem_nat (a := ((Int.toNat k : Nat) : Int)) (n := Int.toNat k) (m := 4) rfl (by omega))), (2, g_n (w_a 1 ((Int.toNat k) % 4)))] En10 fun ac11 En12 => ?_
  refine then_normal ?_
  refine wp_ret ?_
  refine d_ret1 (t := 2) (v := ni (1 + ((Int.toNat k) % 4))) En12 (by kernel_rfl) (by kernel_rfl) ?_
  have e : ((1 + ((Int.toNat k) % 4) : Nat) : Int) = fldF k := by unfold fldF fldN; first | rw [if_pos (by omega)] | rw [if_neg (by omega)]
  exact ⟨congrArg (fun z : Int => Ending.returned (Value.int .i64 z)) e, Hv0.pk []⟩

end Go.Proofs.Ytamdjonejijndaa
