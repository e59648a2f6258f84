/- Layer 4: the four fields; products modulo 2^255 - 19. -/
import Derived.Test.YtpfhmbbiadpbeaaF2
namespace Go.Proofs.Ytpfhmbbiadpbeaa
open Go.Dbr
set_option maxRecDepth 100000
set_option maxHeartbeats 2000000
set_option linter.unusedVariables false
set_option linter.unusedSimpArgs false

/-- what is reckoned modulo -/
def mF (f : Int) : Nat := if f = 1 then 57896044618658097711785492504343953926634992332820282019728792003956564819949 else if f = 2 then 115792089210356248762697446949407573530086143415290314195533631308867097853951 else if f = 3 then 115792089210356248762697446949407573529996955224135760342422259061068512044369 else if f = 4 then 7237005577332262213973186563042994240857116359379907606001950938285454250989 else 0
theorem mF_lt (f : Int) : mF f < W256 := by
  unfold mF
  repeat' split
  all_goals decide
theorem mF_pos {f : Int} (h : f = 1 ∨ f = 2 ∨ f = 3 ∨ f = 4) : 1 < mF f := by rcases h with rfl | rfl | rfl | rfl <;> decide
theorem nv_nd {n : Nat} (h : n < W256) : nv (nd n) = n := by rw [nd_val, Nat.mod_eq_of_lt h]
theorem nv_mF (f : Int) : nv (nd (mF f)) = mF f := nv_nd (mF_lt f)
theorem mod_lt_w {n : Nat} {f : Int} (h : f = 1 ∨ f = 2 ∨ f = 3 ∨ f = 4) : n % mF f < W256 := Nat.lt_trans (Nat.mod_lt _ (Nat.lt_trans Nat.zero_lt_one (mF_pos h))) (mF_lt f)
theorem num1 (x : UInt64) : nv [x, 0, 0, 0] = x.toNat := by
  rw [nv4, show (0 : UInt64).toNat = 0 from rfl]
  omega
theorem prime1_go (w : World) : Calls Try.prog 87 #[] w fun e w' => e = .returned (.agg (List.toArray (u64s (nd (mF 1))))) ∧ Ev w [] w' [] := by
 refine d_0 [] 2 Go.Proofs.Try.func87 Go.Proofs.Try.ntmps87 (Heap.nil _) fun act0 En0 Hv0 => ?_
 refine wp_seq ?_
 refine region_from ?_
 refine f_o ?_
 refine m_z 24 (u64s (List.replicate 4 0)) En0 Hv0 fun ac2 wo3 bk1 En4 Hv5 => ?_
 refine f_e ?_
 refine then_normal ?_
 refine wp_seq ?_
 refine region_from ?_
 refine d_k [0,1] [] 1 En4 fun ac6 En7 => ?_
 refine f_o ?_
 refine m_g 0 0 4 (u64s ([18446744073709551597, 18446744073709551615, 18446744073709551615, 9223372036854775807] : List UInt64)) (u64s ([18446744073709551597, 18446744073709551615, 18446744073709551615, 9223372036854775807] : List UInt64)) [.box bk1 (u64s ([18446744073709551597, 18446744073709551615, 18446744073709551615, 9223372036854775807] : List UInt64)) 24] En7 Hv5 rfl (u64s_lenh (show List.length ([18446744073709551597, 18446744073709551615, 18446744073709551615, 9223372036854775807] : List UInt64) = 4 from rfl)) (by rw [(u64s_lenh (List.length_replicate))]; decide) (u64s_one _) (store_whole (u64s_lenh (List.length_replicate))) rfl fun ac8 wo9 En10 Hv11 => ?_
 refine f_e ?_
 refine then_normal ?_
 refine wp_ret ?_
 refine d_cell1 (v := .agg (List.toArray (u64s ([18446744073709551597, 18446744073709551615, 18446744073709551615, 9223372036854775807] : List UInt64)))) (t := 0) (T := 24) (ad := ⟨bk1, 0, none⟩) En10 (by kernel_rfl) (by kernel_rfl) (Ev.cellAgg (t := 24) (k := 0) (off := 0) (m := 4) (xs := u64s ([18446744073709551597, 18446744073709551615, 18446744073709551615, 9223372036854775807] : List UInt64)) Hv11 rfl (load_whole (u64s_lenh (show List.length ([18446744073709551597, 18446744073709551615, 18446744073709551615, 9223372036854775807] : List UInt64) = 4 from rfl))) (u64s_lenh (show List.length ([18446744073709551597, 18446744073709551615, 18446744073709551615, 9223372036854775807] : List UInt64) = 4 from rfl)) (by kernel_rfl) (by kernel_rfl)) ?_
 exact ⟨by kernel_rfl, Hv11.pk []⟩

theorem prime2_go (w : World) : Calls Try.prog 88 #[] w fun e w' => e = .returned (.agg (List.toArray (u64s (nd (mF 2))))) ∧ Ev w [] w' [] := by
 refine d_0 [] 2 Go.Proofs.Try.func88 Go.Proofs.Try.ntmps88 (Heap.nil _) fun act0 En0 Hv0 => ?_
 refine wp_seq ?_
 refine region_from ?_
 refine f_o ?_
 refine m_z 24 (u64s (List.replicate 4 0)) En0 Hv0 fun ac2 wo3 bk1 En4 Hv5 => ?_
 refine f_e ?_
 refine then_normal ?_
 refine wp_seq ?_
 refine region_from ?_
 refine d_k [0,1] [] 1 En4 fun ac6 En7 => ?_
 refine f_o ?_
 refine m_g 0 0 4 (u64s ([18446744073709551615, 4294967295, 0, 18446744069414584321] : List UInt64)) (u64s ([18446744073709551615, 4294967295, 0, 18446744069414584321] : List UInt64)) [.box bk1 (u64s ([18446744073709551615, 4294967295, 0, 18446744069414584321] : List UInt64)) 24] En7 Hv5 rfl (u64s_lenh (show List.length ([18446744073709551615, 4294967295, 0, 18446744069414584321] : List UInt64) = 4 from rfl)) (by rw [(u64s_lenh (List.length_replicate))]; decide) (u64s_one _) (store_whole (u64s_lenh (List.length_replicate))) rfl fun ac8 wo9 En10 Hv11 => ?_
 refine f_e ?_
 refine then_normal ?_
 refine wp_ret ?_
 refine d_cell1 (v := .agg (List.toArray (u64s ([18446744073709551615, 4294967295, 0, 18446744069414584321] : List UInt64)))) (t := 0) (T := 24) (ad := ⟨bk1, 0, none⟩) En10 (by kernel_rfl) (by kernel_rfl) (Ev.cellAgg (t := 24) (k := 0) (off := 0) (m := 4) (xs := u64s ([18446744073709551615, 4294967295, 0, 18446744069414584321] : List UInt64)) Hv11 rfl (load_whole (u64s_lenh (show List.length ([18446744073709551615, 4294967295, 0, 18446744069414584321] : List UInt64) = 4 from rfl))) (u64s_lenh (show List.length ([18446744073709551615, 4294967295, 0, 18446744069414584321] : List UInt64) = 4 from rfl)) (by kernel_rfl) (by kernel_rfl)) ?_
 exact ⟨by kernel_rfl, Hv11.pk []⟩

theorem prime3_go (w : World) : Calls Try.prog 89 #[.agg #[]] w fun e w' => e = .returned (.agg (List.toArray (u64s (nd (mF 3))))) ∧ Ev w [] w' [] := by
 refine d_0 [(0, .agg #[])] 4 Go.Proofs.Try.func89 Go.Proofs.Try.ntmps89 (Heap.nil _) fun act0 En0 Hv0 => ?_
 refine wp_seq ?_
 refine region_from ?_
 refine f_o ?_
 refine m_m 90 [] En0 Hv0 fun ac2 wo3 bk1 En4 Hv5 => ?_
 refine f_o ?_
 refine m_z 24 (u64s (List.replicate 4 0)) En4 Hv5 fun ac7 wo8 bk6 En9 Hv10 => ?_
 refine f_e ?_
 refine then_normal ?_
 refine wp_seq ?_
 refine region_from ?_
 refine d_k [2,3] [] 1 En9 fun ac11 En12 => ?_
 refine f_o ?_
 refine m_g 1 0 4 (u64s ([17562291160714782033, 13611842547513532036, 18446744073709551615, 18446744069414584320] : List UInt64)) (u64s ([17562291160714782033, 13611842547513532036, 18446744073709551615, 18446744069414584320] : List UInt64)) [.box bk1 [] 90, .box bk6 (u64s ([17562291160714782033, 13611842547513532036, 18446744073709551615, 18446744069414584320] : List UInt64)) 24] En12 Hv10 rfl (u64s_lenh (show List.length ([17562291160714782033, 13611842547513532036, 18446744073709551615, 18446744069414584320] : List UInt64) = 4 from rfl)) (by rw [(u64s_lenh (List.length_replicate))]; decide) (u64s_one _) (store_whole (u64s_lenh (List.length_replicate))) rfl fun ac13 wo14 En15 Hv16 => ?_
 refine f_e ?_
 refine then_normal ?_
 refine wp_ret ?_
 refine d_cell1 (v := .agg (List.toArray (u64s ([17562291160714782033, 13611842547513532036, 18446744073709551615, 18446744069414584320] : List UInt64)))) (t := 2) (T := 24) (ad := ⟨bk6, 0, none⟩) En15 (by kernel_rfl) (by kernel_rfl) (Ev.cellAgg (t := 24) (k := 1) (off := 0) (m := 4) (xs := u64s ([17562291160714782033, 13611842547513532036, 18446744073709551615, 18446744069414584320] : List UInt64)) Hv16 rfl (load_whole (u64s_lenh (show List.length ([17562291160714782033, 13611842547513532036, 18446744073709551615, 18446744069414584320] : List UInt64) = 4 from rfl))) (u64s_lenh (show List.length ([17562291160714782033, 13611842547513532036, 18446744073709551615, 18446744069414584320] : List UInt64) = 4 from rfl)) (by kernel_rfl) (by kernel_rfl)) ?_
 exact ⟨by kernel_rfl, Hv16.pk []⟩

theorem prime4_go (w : World) : Calls Try.prog 90 #[.agg #[]] w fun e w' => e = .returned (.agg (List.toArray (u64s (nd (mF 4))))) ∧ Ev w [] w' [] := by
 refine d_0 [(0, .agg #[])] 4 Go.Proofs.Try.func90 Go.Proofs.Try.ntmps90 (Heap.nil _) fun act0 En0 Hv0 => ?_
 refine wp_seq ?_
 refine region_from ?_
 refine f_o ?_
 refine m_m 93 [] En0 Hv0 fun ac2 wo3 bk1 En4 Hv5 => ?_
 refine f_o ?_
 refine m_z 24 (u64s (List.replicate 4 0)) En4 Hv5 fun ac7 wo8 bk6 En9 Hv10 => ?_
 refine f_e ?_
 refine then_normal ?_
 refine wp_seq ?_
 refine region_from ?_
 refine d_k [2,3] [] 1 En9 fun ac11 En12 => ?_
 refine f_o ?_
 refine m_g 1 0 4 (u64s ([6346243789798364141, 1503914060200516822, 0, 1152921504606846976] : List UInt64)) (u64s ([6346243789798364141, 1503914060200516822, 0, 1152921504606846976] : List UInt64)) [.box bk1 [] 93, .box bk6 (u64s ([6346243789798364141, 1503914060200516822, 0, 1152921504606846976] : List UInt64)) 24] En12 Hv10 rfl (u64s_lenh (show List.length ([6346243789798364141, 1503914060200516822, 0, 1152921504606846976] : List UInt64) = 4 from rfl)) (by rw [(u64s_lenh (List.length_replicate))]; decide) (u64s_one _) (store_whole (u64s_lenh (List.length_replicate))) rfl fun ac13 wo14 En15 Hv16 => ?_
 refine f_e ?_
 refine then_normal ?_
 refine wp_ret ?_
 refine d_cell1 (v := .agg (List.toArray (u64s ([6346243789798364141, 1503914060200516822, 0, 1152921504606846976] : List UInt64)))) (t := 2) (T := 24) (ad := ⟨bk6, 0, none⟩) En15 (by kernel_rfl) (by kernel_rfl) (Ev.cellAgg (t := 24) (k := 1) (off := 0) (m := 4) (xs := u64s ([6346243789798364141, 1503914060200516822, 0, 1152921504606846976] : List UInt64)) Hv16 rfl (load_whole (u64s_lenh (show List.length ([6346243789798364141, 1503914060200516822, 0, 1152921504606846976] : List UInt64) = 4 from rfl))) (u64s_lenh (show List.length ([6346243789798364141, 1503914060200516822, 0, 1152921504606846976] : List UInt64) = 4 from rfl)) (by kernel_rfl) (by kernel_rfl)) ?_
 exact ⟨by kernel_rfl, Hv16.pk []⟩

end Go.Proofs.Ytpfhmbbiadpbeaa
