import Derived.Test.YtpfhmbbiadpbeaaGreatVp2
open Go.Dbr renaming u64s_lenh → za, then_normal → ze, u64s → zg, region_from → zj, uv64 → zm, load_whole → zn, u64s_one → zq, block_normal → zw, then_exit → zF, addHi → zS, d_cell1 → zU, m_gw → zW, block_exit → zX, loop_once → z8, then_ret → z9, run_loadAgg2 → Za, u64_add → Zj, m_aw → Zn, d_ret1 → ZH, block_ret → ZY, lt64 → Qc, h_from → Qd, region_cut → QS, loop_enter → Ym, h_ways → YB, addHi_le → YI, h_to → YK, u64_xor → YV, addHi_val → JD
open List renaming toArray → zc, replicate → zd, length → zf, length_replicate → zh, length_cons → zL, getD_eq_getElem?_getD → zT
open UInt64 renaming ofNat → zi, toNat → zk, toNat_add → ZD, toNat_inj → Qy
open Go.Proofs.YtpfhmbbiadpbeaaGreat renaming nds_len → zl, W256 → zR, nd_val → JE, minus_go → JK, nd_mod → JS
open Go.Proofs.Tryz renaming prog → zB
open Go.Dbr.Ev renaming cellAgg → zC, drew → zN
open Bool renaming eq_false_or_eq_true → zM
open Nat renaming mod_eq_of_lt → zQ, lt_trans → z6, mod_lt → Z4, zero_lt_one → Q6, shiftLeft_eq → Ya, mod_eq_sub_mod → YC
set_option maxRecDepth 100000
set_option maxHeartbeats 2000000
set_option linter.unusedVariables false
set_option linter.unusedSimpArgs false
namespace Go.Proofs.YtpfhmbbiadpbeaaGreat
open Go.Dbr
def mF (f : Int) : Nat := if f = 1 then 57896044618658097711785492504343953926634992332820282019728792003956564819949 else if f = 2 then 115792089210356248762697446949407573530086143415290314195533631308867097853951 else if f = 3 then 115792089210356248762697446949407573529996955224135760342422259061068512044369 else if f = 4 then 7237005577332262213973186563042994240857116359379907606001950938285454250989 else 0
theorem mF_lt (f : Int) : mF f < zR := by
  unfold mF
  repeat' split
  all_goals decide
theorem mF_pos {f : Int} (h : f = 1 ∨ f = 2 ∨ f = 3 ∨ f = 4) : 1 < mF f := by rcases h with rfl | rfl | rfl | rfl <;> decide
theorem nv_nd {n : Nat} (h : n < zR) : nv (nd n) = n := by rw [JE, zQ h]
theorem nv_mF (f : Int) : nv (nd (mF f)) = mF f := nv_nd (mF_lt f)
theorem mod_lt_w {n : Nat} {f : Int} (h : f = 1 ∨ f = 2 ∨ f = 3 ∨ f = 4) : n % mF f < zR := z6 (Z4 _ (z6 Q6 (mF_pos h))) (mF_lt f)
theorem num1 (x : UInt64) : nv [x, 0, 0, 0] = x.toNat := by
  rw [nv4, show (0 : UInt64).toNat = 0 from rfl]
  omega
theorem prime1_go (w : World) : Calls zB 76 #[] w fun e w' => e = .returned (.agg (zc (zg (nd (mF 1))))) ∧ Ev w [] w' [] := by
 refine d_0 [] 2 Tryz.func76 Tryz.ntmps76 (Heap.nil _) fun Ec Ed Ee => wp_seq <| zj <| f_o <| m_z 24 (zg (zd 4 0)) Ed Ee fun _ _ Ef Eg Eh => f_e <| ze <| wp_seq <| zj <| d_k [0,1] [] 1 Eg fun _ Ei => f_o <| zW 0 4 (zg ([18446744073709551597, 18446744073709551615, 18446744073709551615, 9223372036854775807] : List UInt64)) _ Ei Eh rfl (za (show zf ([18446744073709551597, 18446744073709551615, 18446744073709551615, 9223372036854775807] : List UInt64) = 4 from rfl)) (za (zh)) (zq _) rfl fun _ _ Eb Ea => f_e <| ze <| wp_ret <| zU (v := .agg (zc (zg ([18446744073709551597, 18446744073709551615, 18446744073709551615, 9223372036854775807] : List UInt64)))) (t := 0) (T := 24) (ad := ⟨Ef, 0, none⟩) Eb (by kernel_rfl) (by kernel_rfl) (zC (t := 24) (k := 0) (off := 0) (m := 4) (xs := zg ([18446744073709551597, 18446744073709551615, 18446744073709551615, 9223372036854775807] : List UInt64)) Ea rfl (zn (za (show zf ([18446744073709551597, 18446744073709551615, 18446744073709551615, 9223372036854775807] : List UInt64) = 4 from rfl))) (za (show zf ([18446744073709551597, 18446744073709551615, 18446744073709551615, 9223372036854775807] : List UInt64) = 4 from rfl)) (by kernel_rfl) (by kernel_rfl)) ?_
 exact ⟨by kernel_rfl, Ea.pk []⟩
theorem prime2_go (w : World) : Calls zB 77 #[] w fun e w' => e = .returned (.agg (zc (zg (nd (mF 2))))) ∧ Ev w [] w' [] := by
 refine d_0 [] 2 Tryz.func77 Tryz.ntmps77 (Heap.nil _) fun Ec Ed Ee => wp_seq <| zj <| f_o <| m_z 24 (zg (zd 4 0)) Ed Ee fun _ _ Ef Eg Eh => f_e <| ze <| wp_seq <| zj <| d_k [0,1] [] 1 Eg fun _ Ei => f_o <| zW 0 4 (zg ([18446744073709551615, 4294967295, 0, 18446744069414584321] : List UInt64)) _ Ei Eh rfl (za (show zf ([18446744073709551615, 4294967295, 0, 18446744069414584321] : List UInt64) = 4 from rfl)) (za (zh)) (zq _) rfl fun _ _ Eb Ea => f_e <| ze <| wp_ret <| zU (v := .agg (zc (zg ([18446744073709551615, 4294967295, 0, 18446744069414584321] : List UInt64)))) (t := 0) (T := 24) (ad := ⟨Ef, 0, none⟩) Eb (by kernel_rfl) (by kernel_rfl) (zC (t := 24) (k := 0) (off := 0) (m := 4) (xs := zg ([18446744073709551615, 4294967295, 0, 18446744069414584321] : List UInt64)) Ea rfl (zn (za (show zf ([18446744073709551615, 4294967295, 0, 18446744069414584321] : List UInt64) = 4 from rfl))) (za (show zf ([18446744073709551615, 4294967295, 0, 18446744069414584321] : List UInt64) = 4 from rfl)) (by kernel_rfl) (by kernel_rfl)) ?_
 exact ⟨by kernel_rfl, Ea.pk []⟩
theorem prime3_go (w : World) : Calls zB 78 #[.agg #[]] w fun e w' => e = .returned (.agg (zc (zg (nd (mF 3))))) ∧ Ev w [] w' [] := by
 refine d_0 [(0, .agg #[])] 4 Tryz.func78 Tryz.ntmps78 (Heap.nil _) fun Ee Ef Eg => wp_seq <| zj <| f_o <| m_m 70 [] Ef Eg fun _ _ El Eh Ei => f_o <| m_z 24 (zg (zd 4 0)) Eh Ei fun _ _ Ej Ek Eb => f_e <| ze <| wp_seq <| zj <| d_k [2,3] [] 1 Ek fun _ Ec => f_o <| zW 1 4 (zg ([17562291160714782033, 13611842547513532036, 18446744073709551615, 18446744069414584320] : List UInt64)) _ Ec Eb rfl (za (show zf ([17562291160714782033, 13611842547513532036, 18446744073709551615, 18446744069414584320] : List UInt64) = 4 from rfl)) (za (zh)) (zq _) rfl fun _ _ Ed Ea => f_e <| ze <| wp_ret <| zU (v := .agg (zc (zg ([17562291160714782033, 13611842547513532036, 18446744073709551615, 18446744069414584320] : List UInt64)))) (t := 2) (T := 24) (ad := ⟨Ej, 0, none⟩) Ed (by kernel_rfl) (by kernel_rfl) (zC (t := 24) (k := 1) (off := 0) (m := 4) (xs := zg ([17562291160714782033, 13611842547513532036, 18446744073709551615, 18446744069414584320] : List UInt64)) Ea rfl (zn (za (show zf ([17562291160714782033, 13611842547513532036, 18446744073709551615, 18446744069414584320] : List UInt64) = 4 from rfl))) (za (show zf ([17562291160714782033, 13611842547513532036, 18446744073709551615, 18446744069414584320] : List UInt64) = 4 from rfl)) (by kernel_rfl) (by kernel_rfl)) ?_
 exact ⟨by kernel_rfl, Ea.pk []⟩
theorem prime4_go (w : World) : Calls zB 79 #[.agg #[]] w fun e w' => e = .returned (.agg (zc (zg (nd (mF 4))))) ∧ Ev w [] w' [] := by
 refine d_0 [(0, .agg #[])] 4 Tryz.func79 Tryz.ntmps79 (Heap.nil _) fun Ee Ef Eg => wp_seq <| zj <| f_o <| m_m 73 [] Ef Eg fun _ _ El Eh Ei => f_o <| m_z 24 (zg (zd 4 0)) Eh Ei fun _ _ Ej Ek Eb => f_e <| ze <| wp_seq <| zj <| d_k [2,3] [] 1 Ek fun _ Ec => f_o <| zW 1 4 (zg ([6346243789798364141, 1503914060200516822, 0, 1152921504606846976] : List UInt64)) _ Ec Eb rfl (za (show zf ([6346243789798364141, 1503914060200516822, 0, 1152921504606846976] : List UInt64) = 4 from rfl)) (za (zh)) (zq _) rfl fun _ _ Ed Ea => f_e <| ze <| wp_ret <| zU (v := .agg (zc (zg ([6346243789798364141, 1503914060200516822, 0, 1152921504606846976] : List UInt64)))) (t := 2) (T := 24) (ad := ⟨Ej, 0, none⟩) Ed (by kernel_rfl) (by kernel_rfl) (zC (t := 24) (k := 1) (off := 0) (m := 4) (xs := zg ([6346243789798364141, 1503914060200516822, 0, 1152921504606846976] : List UInt64)) Ea rfl (zn (za (show zf ([6346243789798364141, 1503914060200516822, 0, 1152921504606846976] : List UInt64) = 4 from rfl))) (za (show zf ([6346243789798364141, 1503914060200516822, 0, 1152921504606846976] : List UInt64) = 4 from rfl)) (by kernel_rfl) (by kernel_rfl)) ?_
 exact ⟨by kernel_rfl, Ea.pk []⟩
theorem mod_1 (w : World)  : Calls zB 44 #[.int .i64 1] w fun e w' => e = .returned (.agg (zc (zg (nd (mF 1))))) ∧ Ev w [] w' [] := by
 refine d_0 [(0, .int .i64 1)] 19 Tryz.func44 Tryz.ntmps44 (Heap.nil _) fun Ef Eg Eh => wp_seq <| zj <| f_o <| m_z 24 (zg (zd 4 0)) Eg Eh fun _ _ Ei Ej Ek => f_e <| ze <| wp_seq <| d_s [2,3] [] Ej fun _ El => wp_block <| d_s [2,3,4] [] El fun _ Ee => c_t Ee ?_
 refine wp_seq <| zj <| f_o <| c_p Ee Ek (prime1_go _) fun _ _ Eb Ec => f_o <| zW 0 4 (zg (nd (mF 1))) _ Eb Ec rfl (za (zl _ _)) (za (zh)) (zq _) rfl fun _ _ Ed Ea => f_e <| ze <| wp_ret <| ZY <| z9 <| zU (v := .agg (zc (zg (nd (mF 1))))) (t := 2) (T := 24) (ad := ⟨Ei, 0, none⟩) Ed (by kernel_rfl) (by kernel_rfl) (zC (t := 24) (k := 0) (off := 0) (m := 4) (xs := zg (nd (mF 1))) Ea rfl (zn (za (zl _ _))) (za (zl _ _)) (by kernel_rfl) (by kernel_rfl)) ?_
 exact ⟨rfl, Ea.pk []⟩
theorem mod_2 (w : World)  : Calls zB 44 #[.int .i64 2] w fun e w' => e = .returned (.agg (zc (zg (nd (mF 2))))) ∧ Ev w [] w' [] := by
 refine d_0 [(0, .int .i64 2)] 19 Tryz.func44 Tryz.ntmps44 (Heap.nil _) fun Eg Eh Ei => wp_seq <| zj <| f_o <| m_z 24 (zg (zd 4 0)) Eh Ei fun _ _ Ej Ek El => f_e <| ze <| wp_seq <| d_s [2,3] [] Ek fun _ Em => wp_block <| d_s [2,3,4] [] Em fun _ Ef => c_f Ef ?_
 refine d_s [2,3,7] [] Ef fun _ Ea => c_t Ea ?_
 refine wp_seq <| zj <| f_o <| c_p Ea El (prime2_go _) fun _ _ Ec Ed => f_o <| zW 0 4 (zg (nd (mF 2))) _ Ec Ed rfl (za (zl _ _)) (za (zh)) (zq _) rfl fun _ _ Ee Eb => f_e <| ze <| wp_ret <| ZY <| z9 <| zU (v := .agg (zc (zg (nd (mF 2))))) (t := 2) (T := 24) (ad := ⟨Ej, 0, none⟩) Ee (by kernel_rfl) (by kernel_rfl) (zC (t := 24) (k := 0) (off := 0) (m := 4) (xs := zg (nd (mF 2))) Eb rfl (zn (za (zl _ _))) (za (zl _ _)) (by kernel_rfl) (by kernel_rfl)) ?_
 exact ⟨rfl, Eb.pk []⟩
theorem mod_3 (w : World)  : Calls zB 44 #[.int .i64 3] w fun e w' => e = .returned (.agg (zc (zg (nd (mF 3))))) ∧ Ev w [] w' [] := by
 refine d_0 [(0, .int .i64 3)] 19 Tryz.func44 Tryz.ntmps44 (Heap.nil _) fun Ei Ej Ek => wp_seq <| zj <| f_o <| m_z 24 (zg (zd 4 0)) Ej Ek fun _ _ El Em En => f_e <| ze <| wp_seq <| d_s [2,3] [] Em fun _ Eo => wp_block <| d_s [2,3,4] [] Eo fun _ Eh => c_f Eh ?_
 refine d_s [2,3,7] [] Eh fun _ Ea => c_f Ea ?_
 refine d_s [2,3,10] [] Ea fun _ Eb => c_t Eb ?_
 refine wp_seq <| zj <| d_k [2,3,12] [] 1 Eb fun _ Ed => f_o <| c_p Ed En (prime3_go _) fun _ _ Ee Ef => f_o <| zW 0 4 (zg (nd (mF 3))) _ Ee Ef rfl (za (zl _ _)) (za (zh)) (zq _) rfl fun _ _ Eg Ec => f_e <| ze <| wp_ret <| ZY <| z9 <| zU (v := .agg (zc (zg (nd (mF 3))))) (t := 2) (T := 24) (ad := ⟨El, 0, none⟩) Eg (by kernel_rfl) (by kernel_rfl) (zC (t := 24) (k := 0) (off := 0) (m := 4) (xs := zg (nd (mF 3))) Ec rfl (zn (za (zl _ _))) (za (zl _ _)) (by kernel_rfl) (by kernel_rfl)) ?_
 exact ⟨rfl, Ec.pk []⟩
theorem mod_4 (w : World)  : Calls zB 44 #[.int .i64 4] w fun e w' => e = .returned (.agg (zc (zg (nd (mF 4))))) ∧ Ev w [] w' [] := by
 refine d_0 [(0, .int .i64 4)] 19 Tryz.func44 Tryz.ntmps44 (Heap.nil _) fun Ej Ek El => wp_seq <| zj <| f_o <| m_z 24 (zg (zd 4 0)) Ek El fun _ _ Em En Eo => f_e <| ze <| wp_seq <| d_s [2,3] [] En fun _ Ep => wp_block <| d_s [2,3,4] [] Ep fun _ Ei => c_f Ei ?_
 refine d_s [2,3,7] [] Ei fun _ Ea => c_f Ea ?_
 refine d_s [2,3,10] [] Ea fun _ Eb => c_f Eb ?_
 refine d_s [2,3,14] [] Eb fun _ Ec => c_t Ec ?_
 refine wp_seq <| zj <| d_k [2,3,16] [] 1 Ec fun _ Ee => f_o <| c_p Ee Eo (prime4_go _) fun _ _ Ef Eg => f_o <| zW 0 4 (zg (nd (mF 4))) _ Ef Eg rfl (za (zl _ _)) (za (zh)) (zq _) rfl fun _ _ Eh Ed => f_e <| ze <| wp_ret <| ZY <| z9 <| zU (v := .agg (zc (zg (nd (mF 4))))) (t := 2) (T := 24) (ad := ⟨Em, 0, none⟩) Eh (by kernel_rfl) (by kernel_rfl) (zC (t := 24) (k := 0) (off := 0) (m := 4) (xs := zg (nd (mF 4))) Ed rfl (zn (za (zl _ _))) (za (zl _ _)) (by kernel_rfl) (by kernel_rfl)) ?_
 exact ⟨rfl, Ed.pk []⟩
theorem mod_0 (w : World) (f : Int)  (hf : ¬ (f = 1 ∨ f = 2 ∨ f = 3 ∨ f = 4)) : Calls zB 44 #[.int .i64 f] w fun e w' => e = .returned (.agg (zc (zg (nd (mF 0))))) ∧ Ev w [] w' [] := by
 refine d_0 [(0, .int .i64 f)] 19 Tryz.func44 Tryz.ntmps44 (Heap.nil _) fun El Em En => wp_seq <| zj <| f_o <| m_z 24 (zg (zd 4 0)) Em En fun _ _ Eo Ep Eq => f_e <| ze <| wp_seq <| d_s [2,3] [] Ep fun _ Er => wp_block <| d_s [2,3,4] [] Er fun _ Ek => ?_
 refine c_e f (1 : Int) Ek (fun Ea => ?_) (fun Ea => ?_)
 ·
  exact absurd Ea (by omega)
 refine d_s [2,3,7] [] Ek fun _ Eb => ?_
 refine c_e f (2 : Int) Eb (fun Ec => ?_) (fun Ec => ?_)
 ·
  exact absurd Ec (by omega)
 refine d_s [2,3,10] [] Eb fun _ Ed => ?_
 refine c_e f (3 : Int) Ed (fun Ee => ?_) (fun Ee => ?_)
 ·
  exact absurd Ee (by omega)
 refine d_s [2,3,14] [] Ed fun _ Ef => ?_
 refine c_e f (4 : Int) Ef (fun Eg => ?_) (fun Eg => ?_)
 ·
  exact absurd Eg (by omega)
 refine wp_skip <| zw <| ze <| wp_seq <| zj <| d_k [2,3,18] [] 1 Ef fun _ Ei => f_o <| zW 0 4 (zg ([0, 0, 0, 0] : List UInt64)) _ Ei Eq rfl (za (show zf ([0, 0, 0, 0] : List UInt64) = 4 from rfl)) (za (zh)) (zq _) rfl fun _ _ Ej Eh => f_e <| ze <| wp_ret <| zU (v := .agg (zc (zg ([0, 0, 0, 0] : List UInt64)))) (t := 2) (T := 24) (ad := ⟨Eo, 0, none⟩) Ej (by kernel_rfl) (by kernel_rfl) (zC (t := 24) (k := 0) (off := 0) (m := 4) (xs := zg ([0, 0, 0, 0] : List UInt64)) Eh rfl (zn (za (show zf ([0, 0, 0, 0] : List UInt64) = 4 from rfl))) (za (show zf ([0, 0, 0, 0] : List UInt64) = 4 from rfl)) (by kernel_rfl) (by kernel_rfl)) ?_
 exact ⟨by kernel_rfl, Eh.pk []⟩
theorem mF_none {f : Int} (hf : ¬ (f = 1 ∨ f = 2 ∨ f = 3 ∨ f = 4)) : mF f = 0 := by
  unfold mF
  rw [if_neg (by omega), if_neg (by omega), if_neg (by omega), if_neg (by omega)]
theorem modulus_go (w : World) (f : Int) : Calls zB 44 #[.int .i64 f] w fun e w' => e = .returned (.agg (zc (zg (nd (mF f))))) ∧ Ev w [] w' [] := by
  by_cases hf : f = 1 ∨ f = 2 ∨ f = 3 ∨ f = 4
  · rcases hf with rfl | rfl | rfl | rfl
    · exact mod_1 w
    · exact mod_2 w
    · exact mod_3 w
    · exact mod_4 w
  · rw [mF_none hf]
    exact mod_0 w f hf
theorem is_go (w : World) (f : Int) : Calls zB 80 #[.int .i64 f] w fun e w' => e = .returned (.bool (decide (f = 1 ∨ f = 2 ∨ f = 3 ∨ f = 4))) ∧ Ev w [] w' [] := by
 refine d_0 [(0, .int .i64 f)] 9 Tryz.func80 Tryz.ntmps80 (Heap.nil _) fun Ef Eg Ed => d_s [0,2] [] Eg fun _ Eh => wp_seq <| zj <| d_k [0,2,5] [] 3 Eh fun _ Ee => ?_
 rcases zM (decide (f ≥ (1 : Int))) with Ea | Ea
 ·
  have Ei := Ee.fx (t := 5) (congrArg Value.bool Ea)
  have hp7 : f ≥ (1 : Int) := of_decide_eq_true Ea
  refine d_e [2] [] Ei fun _ Ej => ze <| wp_ret <| ZH (t := 2) (v := .bool (decide (f ≤ (4 : Int)))) Ej (by kernel_rfl) (by kernel_rfl) ?_
  have e : (decide (f ≤ (4 : Int))) = decide (f = 1 ∨ f = 2 ∨ f = 3 ∨ f = 4) := by
   by_cases hq : f = 1 ∨ f = 2 ∨ f = 3 ∨ f = 4
   · rw [decide_eq_true hq] <;> first | rfl | exact decide_eq_true (by omega) | (exfalso; omega)
   · rw [decide_eq_false hq] <;> first | rfl | exact decide_eq_false (by omega) | (exfalso; omega)
  exact ⟨by rw [e], Ed.pk []⟩
 have Eb := Ee.fx (t := 5) (congrArg Value.bool Ea)
 have hp11 : ¬ (f ≥ (1 : Int)) := of_decide_eq_false Ea
 refine d_e [2] [] Eb fun _ Ec => ze <| wp_ret <| ZH (t := 2) (v := .bool false) Ec (by kernel_rfl) (by kernel_rfl) ?_
 have e : (false) = decide (f = 1 ∨ f = 2 ∨ f = 3 ∨ f = 4) := by
  by_cases hq : f = 1 ∨ f = 2 ∨ f = 3 ∨ f = 4
  · rw [decide_eq_true hq] <;> first | rfl | exact decide_eq_true (by omega) | (exfalso; omega)
  · rw [decide_eq_false hq] <;> first | rfl | exact decide_eq_false (by omega) | (exfalso; omega)
 exact ⟨by rw [e], Ed.pk []⟩
theorem is_go_yes (w : World) (f : Int) (hf : f = 1 ∨ f = 2 ∨ f = 3 ∨ f = 4) : Calls zB 80 #[.int .i64 f] w fun e w' => e = .returned (.bool true) ∧ Ev w [] w' [] := by
  have h := is_go w f
  rwa [decide_eq_true hf] at h
theorem right_mF (w : World) (f : Int) (hf : f = 1 ∨ f = 2 ∨ f = 3 ∨ f = 4) (a : List UInt64) (ha : zf a = 4) : Calls zB 50 #[.agg (zc (zg a)), .agg (zc (zg (nd (mF f))))] w fun e w' => e = .returned (.agg (zc (zg (nd (nv a % mF f))))) ∧ Ev w [] w' [] := by
  have h := right_go w a (nd (mF f)) ha (zl _ _) (by rw [nv_mF]; exact z6 Q6 (mF_pos hf))
  rw [nv_mF] at h
  exact h
theorem plus_nd_go (w : World) (x y : Nat) (hx : x < zR) (hy : y < zR) : Calls zB 84 #[.agg (zc (zg (nd x))), .agg (zc (zg (nd y)))] w fun e w' => e = .returned (.tuple #[.agg (zc (zg (nd (x + y)))), zm (u1 (zR ≤ x + y))]) ∧ Ev w [] w' [] := by
  have h := plus_go w (nd x) (nd y) (zl _ _) (zl _ _)
  rw [nv_nd hx, nv_nd hy] at h
  exact h
theorem minus_nd_go (w : World) (x y : Nat) (hx : x < zR) (hy : y < zR) : Calls zB 43 #[.agg (zc (zg (nd x))), .agg (zc (zg (nd y)))] w fun e w' => e = .returned (.tuple #[.agg (zc (zg (nd (x + zR - y)))), zm (u1 (x < y))]) ∧ Ev w [] w' [] := by
  have h := JK w (nd x) (nd y) (zl _ _) (zl _ _)
  rw [nv_nd hx, nv_nd hy] at h
  exact h
theorem add_fin1 {x y M : Nat} (hx : x < M) (hy : y < M) (hM : M < zR) (h : zR ≤ x + y ∨ ¬ nv (nd (x + y)) < nv (nd M)) : nd (nv (nd (x + y)) + zR - nv (nd M)) = nd ((x + y) % M) := by
  rw [nv_nd hM, JE] at *
  have e : (x + y) % M = x + y - M := by
    rw [YC (by simp only [zR] at *; omega), zQ (by omega)]
  rw [e, ← JS, ← JS (x + y - M)]
  congr 1
  simp only [zR] at *
  omega
theorem add_fin2 {x y M : Nat} (hM : M < zR) (h1 : ¬ zR ≤ x + y) (h : nv (nd (x + y)) < nv (nd M)) : nd (x + y) = nd ((x + y) % M) := by
  rw [nv_nd hM, nv_nd (by omega)] at h
  rw [zQ h]
theorem sub_fin1 {x y M : Nat} (hx : x < M) (hy : y < M) (hM : M < zR) (h : x < y) : nd (nv (nd (x + zR - y)) + nv (nd M)) = nd ((x + M - y) % M) := by
  rw [nv_nd hM, JE, zQ (a := x + M - y) (by omega), ← JS, ← JS (x + M - y)]
  congr 1
  simp only [zR] at *
  omega
theorem sub_fin2 {x y M : Nat} (hx : x < M) (hy : y < M) (hM : M < zR) (h : ¬ x < y) : nd (x + zR - y) = nd ((x + M - y) % M) := by
  rw [YC (by omega), zQ (by omega), ← JS, ← JS (x + M - y - M)]
  congr 1
  simp only [zR] at *
  omega
def addM (f : Int) (x y : Nat) : Nat := (x + y) % mF f
def subM (f : Int) (x y : Nat) : Nat := (x % mF f + mF f - y % mF f) % mF f
def mulM (f : Int) (x y : Nat) : Nat := (x * y) % mF f
theorem add_mM (f : Int) (x y : Nat) : (x % mF f + y % mF f) % mF f = addM f x y := (Nat.add_mod _ _ _).symm
theorem addM_lt {f : Int} (hf : f = 1 ∨ f = 2 ∨ f = 3 ∨ f = 4) (x y : Nat) : addM f x y < zR := mod_lt_w hf
theorem subM_lt {f : Int} (hf : f = 1 ∨ f = 2 ∨ f = 3 ∨ f = 4) (x y : Nat) : subM f x y < zR := mod_lt_w hf
theorem mulM_lt {f : Int} (hf : f = 1 ∨ f = 2 ∨ f = 3 ∨ f = 4) (x y : Nat) : mulM f x y < zR := mod_lt_w hf
theorem add_go (w : World) (f : Int) (hf : f = 1 ∨ f = 2 ∨ f = 3 ∨ f = 4) (a b : List UInt64) (ha : zf a = 4) (hb : zf b = 4) : Calls zB 72 #[.int .i64 f, .agg (zc (zg a)), .agg (zc (zg b))] w fun e w' => e = .returned (.agg (zc (zg (nd (addM f (nv a) (nv b)))))) ∧ Ev w [] w' [] := by
 have hla : nv a % mF f < mF f := Z4 _ (z6 Q6 (mF_pos hf))
 have hlb : nv b % mF f < mF f := Z4 _ (z6 Q6 (mF_pos hf))
 have hmw := mF_lt f
 refine d_0 [(0, .int .i64 f), (1, .agg (zc (zg a))), (2, .agg (zc (zg b)))] 39 Tryz.func72 Tryz.ntmps72 (Heap.nil _) fun H7 H8 H9 => wp_seq <| zj <| f_o <| m_m 24 (zg a) H8 H9 fun _ _ Et aa ab => f_o <| m_m 24 (zg b) aa ab fun _ _ Eu ae HV => f_o <| m_z 24 (zg (zd 4 0)) ae HV fun _ _ Eb HW HX => f_e <| ze <| wp_seq <| wp_seq <| zj <| d_k [0,4,5,6,10] [] 1 HW fun _ HY => f_o <| c_p HY HX (is_go_yes _ f hf) fun _ _ HZ H0 => ?_
 refine d_e [0,4,5,6,12] [] HZ fun _ EU => ze <| c_f EU ?_
 refine wp_skip <| ze <| wp_seq <| zj <| d_k [0,4,5,6,14] [] 1 EU fun _ H1 => f_o <| c_p H1 H0 (modulus_go _ f) fun _ _ H2 H3 => f_o <| m_z 24 (zg (zd 4 0)) H2 H3 fun _ _ Ea H4 H5 => f_o <| zW 3 4 (zg (nd (mF f))) _ H4 H5 rfl (za (zl _ _)) (za (zh)) (zq _) rfl fun _ _ H6 EV => ?_
 refine f_e <| ze <| wp_seq <| r_c (fun ac wo => ∃ (Ec : Nat), Env ac 39 [(0, .int .i64 f), (6, pt Eb), (7, pt Ea), (8, pt Ec), (9, zm (u1 (zR ≤ nv a % mF f + nv b % mF f)))] ∧ Ev w [] wo [.box Eb (zg (zd 4 0)) 24, .box Ea (zg (nd (mF f))) 24, .box Ec (zg (nd (nv a % mF f + nv b % mF f))) 24]) ?_ ?_
 ·
  refine h_s (fun wv => Ev w [] wv [.box Et (zg a) 24, .box Eu (zg b) 24, .box Ea (zg (nd (mF f))) 24]) [] 13 ?_
  have Ek := EV.trans (zN EV.heap)
  refine h_name fun G hG => ?_
  have nd662 : ∀ (ac : Act) (wo : World), Env ac 39 [(0, .int .i64 f), (6, pt Eb), (7, pt Ea), (23, .tuple #[.agg (zc (zg (nd (nv a % mF f + nv b % mF f)))), zm (u1 (zR ≤ nv a % mF f + nv b % mF f))])] → Ev w [] wo [.box Et (zg a) 24, .box Eu (zg b) 24, .box Eb (zg (zd 4 0)) 24, .box Ea (zg (nd (mF f))) 24] → G 6 #[true, true, true, true, true, true, true, false, false, false, false, false, false] ac wo := by
   intro _ _ EW Ew
   refine Qd hG ?_
   refine q_s [7,8,9] [] 3 EW (Ew.pk [0, 1, 3]) fun _ EX => q_t 10 ?_
   refine m_z 24 (zg (zd 4 0)) EX Ew fun _ _ Ex EY Ey => ⟨fun _ => Ey.pk [0, 1, 3], ?_⟩
   refine q_t 11 ?_
   refine zW 4 4 (zg (nd (nv a % mF f + nv b % mF f))) [.box Et (zg a) 24, .box Eu (zg b) 24, .box Eb (zg (zd 4 0)) 24, .box Ea (zg (nd (mF f))) 24, .box Ex (zg (nd (nv a % mF f + nv b % mF f))) 24] EY Ey rfl (za (zl _ _)) (za (zh)) (zq _) rfl fun _ _ EZ El => ⟨fun _ => El.pk [0, 1, 3], ?_⟩
   refine q_s [12] [] 0 EZ (El.pk [0, 1, 3]) fun _ E0 => ?_
   exact h_e ⟨Ex, E0.sb, El.pk [2, 3, 4]⟩
  have nd680 : ∀ (ac : Act) (wo : World) (Eh : Nat), Env ac 39 [(0, .int .i64 f), (6, pt Eb), (7, pt Ea), (8, pt Eh), (19, .agg (zc (zg (nd (nv a % mF f))))), (22, .agg (zc (zg (nd (nv b % mF f)))))] → Ev w [] wo [.box Et (zg a) 24, .box Eu (zg b) 24, .box Eb (zg (zd 4 0)) 24, .box Ea (zg (nd (mF f))) 24, .box Eh (zg (zd 4 0)) 24] → G 6 #[true, true, true, true, true, true, false, false, false, false, true, false, false] ac wo := by
   intro _ _ Eh E1 E2
   refine Qd hG ?_
   refine q_t 6 ?_
   refine c_p E1 E2 (plus_nd_go _ (nv a % mF f) (nv b % mF f) (mod_lt_w hf) (mod_lt_w hf)) fun _ _ E3 Em => ⟨fun _ => Em.pk [0, 1, 3], ?_⟩
   refine q_s [7,8,9] [] 2 E3 (Em.pk [0, 1, 3]) fun _ E4 => q_t 11 ?_
   refine zW 4 4 (zg (nd (nv a % mF f + nv b % mF f))) _ E4 Em rfl (za (zl _ _)) (za (zh)) (zq _) rfl fun _ _ E5 En => ⟨fun _ => En.pk [0, 1, 3], ?_⟩
   refine q_s [12] [] 0 E5 (En.pk [0, 1, 3]) fun _ E6 => ?_
   exact h_e ⟨Eh, E6.sb, En.pk [2, 3, 4]⟩
  have nd700 : ∀ (ac : Act) (wo : World), Env ac 39 [(0, .int .i64 f), (6, pt Eb), (7, pt Ea), (19, .agg (zc (zg (nd (nv a % mF f))))), (22, .agg (zc (zg (nd (nv b % mF f)))))] → Ev w [] wo [.box Et (zg a) 24, .box Eu (zg b) 24, .box Eb (zg (zd 4 0)) 24, .box Ea (zg (nd (mF f))) 24] → G 7 #[true, true, true, true, true, true, false, false, false, false, false, false, false] ac wo := by
   intro _ _ Ez EA
   refine Qd hG ?_
   refine YB [6, 10] (by kernel_rfl) rfl ?_
   refine ⟨?_, ?_, trivial⟩
   ·
    rintro _ rfl
    refine c_p Ez EA (plus_nd_go _ (nv a % mF f) (nv b % mF f) (mod_lt_w hf) (mod_lt_w hf)) fun _ _ E7 EB => ⟨fun _ => EB.pk [0, 1, 3], ?_⟩
    exact YK hG (by kernel_rfl) (nd662 _ _ (E7.sb) (EB.pk [0, 1, 2, 3]))
   rintro _ rfl
   refine m_z 24 (zg (zd 4 0)) Ez EA fun _ _ E8 E9 EC => ⟨fun _ => EC.pk [0, 1, 3], ?_⟩
   exact YK hG (by kernel_rfl) (nd680 _ _ E8 (E9.sb) (EC.pk [0, 1, 2, 3, 4]))
  have nd717 : ∀ (ac : Act) (wo : World) (Ed : Nat), Env ac 39 [(0, .int .i64 f), (6, pt Eb), (7, pt Ea), (8, pt Ed), (19, .agg (zc (zg (nd (nv a % mF f))))), (20, .agg (zc (zg b))), (21, .agg (zc (zg (nd (mF f)))))] → Ev w [] wo [.box Et (zg a) 24, .box Eu (zg b) 24, .box Eb (zg (zd 4 0)) 24, .box Ea (zg (nd (mF f))) 24, .box Ed (zg (zd 4 0)) 24] → G 7 #[true, true, true, true, true, false, false, false, false, false, true, false, false] ac wo := by
   intro _ _ Ed Ha Hb
   refine Qd hG ?_
   refine q_t 5 ?_
   refine c_p Ha Hb (right_mF _ f hf b hb) fun _ _ Hc ED => ⟨fun _ => ED.pk [0, 1, 3], ?_⟩
   refine q_t 6 ?_
   refine c_p Hc ED (plus_nd_go _ (nv a % mF f) (nv b % mF f) (mod_lt_w hf) (mod_lt_w hf)) fun _ _ Hd Eo => ⟨fun _ => Eo.pk [0, 1, 3], ?_⟩
   refine q_s [7,8,9] [] 2 Hd (Eo.pk [0, 1, 3]) fun _ He => q_t 11 ?_
   refine zW 4 4 (zg (nd (nv a % mF f + nv b % mF f))) [.box Et (zg a) 24, .box Eu (zg b) 24, .box Eb (zg (zd 4 0)) 24, .box Ea (zg (nd (mF f))) 24, .box Ed (zg (nd (nv a % mF f + nv b % mF f))) 24] He Eo rfl (za (zl _ _)) (za (zh)) (zq _) rfl fun _ _ Hf Ep => ⟨fun _ => Ep.pk [0, 1, 3], ?_⟩
   refine q_s [12] [] 0 Hf (Ep.pk [0, 1, 3]) fun _ Hg => ?_
   exact h_e ⟨Ed, Hg.sb, Ep.pk [2, 3, 4]⟩
  have nd744 : ∀ (ac : Act) (wo : World), Env ac 39 [(0, .int .i64 f), (6, pt Eb), (7, pt Ea), (19, .agg (zc (zg (nd (nv a % mF f))))), (20, .agg (zc (zg b))), (21, .agg (zc (zg (nd (mF f)))))] → Ev w [] wo [.box Et (zg a) 24, .box Eu (zg b) 24, .box Eb (zg (zd 4 0)) 24, .box Ea (zg (nd (mF f))) 24] → G 8 #[true, true, true, true, true, false, false, false, false, false, false, false, false] ac wo := by
   intro _ _ EE EF
   refine Qd hG ?_
   refine YB [5, 10] (by kernel_rfl) rfl ?_
   refine ⟨?_, ?_, trivial⟩
   ·
    rintro _ rfl
    refine c_p EE EF (right_mF _ f hf b hb) fun _ _ Hh EG => ⟨fun _ => EG.pk [0, 1, 3], ?_⟩
    exact YK hG (by kernel_rfl) (nd700 _ _ (Hh.sb) (EG.pk [0, 1, 2, 3]))
   rintro _ rfl
   refine m_z 24 (zg (zd 4 0)) EE EF fun _ _ Hi Hj EH => ⟨fun _ => EH.pk [0, 1, 3], ?_⟩
   exact YK hG (by kernel_rfl) (nd717 _ _ Hi (Hj.sb) (EH.pk [0, 1, 2, 3, 4]))
  have nd761 : ∀ (ac : Act) (wo : World) (Ei : Nat), Env ac 39 [(0, .int .i64 f), (6, pt Eb), (7, pt Ea), (8, pt Ei), (17, .agg (zc (zg a))), (18, .agg (zc (zg (nd (mF f))))), (20, .agg (zc (zg b))), (21, .agg (zc (zg (nd (mF f)))))] → Ev w [] wo [.box Et (zg a) 24, .box Eu (zg b) 24, .box Eb (zg (zd 4 0)) 24, .box Ea (zg (nd (mF f))) 24, .box Ei (zg (zd 4 0)) 24] → G 8 #[true, true, false, true, true, false, false, false, false, false, true, false, false] ac wo := by
   intro _ _ Ei Hk Hl
   refine Qd hG ?_
   refine q_t 2 ?_
   refine c_p Hk Hl (right_mF _ f hf a ha) fun _ _ Hm EI => ⟨fun _ => EI.pk [0, 1, 3], ?_⟩
   refine q_t 5 ?_
   refine c_p Hm EI (right_mF _ f hf b hb) fun _ _ Hn EJ => ⟨fun _ => EJ.pk [0, 1, 3], ?_⟩
   refine q_t 6 ?_
   refine c_p Hn EJ (plus_nd_go _ (nv a % mF f) (nv b % mF f) (mod_lt_w hf) (mod_lt_w hf)) fun _ _ Ho Eq => ⟨fun _ => Eq.pk [0, 1, 3], ?_⟩
   refine q_s [7,8,9] [] 2 Ho (Eq.pk [0, 1, 3]) fun _ Hp => q_t 11 ?_
   refine zW 4 4 (zg (nd (nv a % mF f + nv b % mF f))) _ Hp Eq rfl (za (zl _ _)) (za (zh)) (zq _) rfl fun _ _ Hq Er => ⟨fun _ => Er.pk [0, 1, 3], ?_⟩
   refine q_s [12] [] 0 Hq (Er.pk [0, 1, 3]) fun _ Hr => ?_
   exact h_e ⟨Ei, Hr.sb, Er.pk [2, 3, 4]⟩
  refine Qd hG ?_
  refine q_r 0 (s := Instr.loadAt 24 (pt Et)) (v := .agg (zc (zg a))) H6 (fun w hS => Za (m := 4) (cs := zg a) (za ha) (by kernel_rfl) (by kernel_rfl) (hS.heap.cells (k := 0) (off := 0) (m := 4) rfl (zn (za ha)))) (Ek.pk [0, 1, 3]) fun _ Hs => q_r 1 (s := Instr.loadAt 24 (pt Ea)) (v := .agg (zc (zg (nd (mF f))))) Hs (fun w hS => Za (m := 4) (cs := zg (nd (mF f))) (za (zl _ _)) (by kernel_rfl) (by kernel_rfl) (hS.heap.cells (k := 2) (off := 0) (m := 4) rfl (zn (za (zl _ _))))) (Ek.pk [0, 1, 3]) fun _ Ht => q_r 3 (s := Instr.loadAt 24 (pt Eu)) (v := .agg (zc (zg b))) Ht (fun w hS => Za (m := 4) (cs := zg b) (za hb) (by kernel_rfl) (by kernel_rfl) (hS.heap.cells (k := 1) (off := 0) (m := 4) rfl (zn (za hb)))) (Ek.pk [0, 1, 3]) fun _ Hu => q_r 4 (s := Instr.loadAt 24 (pt Ea)) (v := .agg (zc (zg (nd (mF f))))) Hu (fun w hS => Za (m := 4) (cs := zg (nd (mF f))) (za (zl _ _)) (by kernel_rfl) (by kernel_rfl) (hS.heap.cells (k := 2) (off := 0) (m := 4) rfl (zn (za (zl _ _))))) (Ek.pk [0, 1, 3]) fun _ EK => YB [2, 10] (by kernel_rfl) rfl ?_
  refine ⟨?_, ?_, trivial⟩
  ·
   rintro _ rfl
   refine c_p EK Ek (right_mF _ f hf a ha) fun _ _ Hv EL => ⟨fun _ => EL.pk [0, 1, 3], ?_⟩
   exact YK hG (by kernel_rfl) (nd744 _ _ (Hv.sb) (EL.pk [0, 1, 2, 3]))
  rintro _ rfl
  refine m_z 24 (zg (zd 4 0)) EK Ek fun _ _ Hw Hx EM => ⟨fun _ => EM.pk [0, 1, 3], ?_⟩
  exact YK hG (by kernel_rfl) (nd761 _ _ Hw (Hx.sb) (EM.pk [0, 1, 2, 3, 4]))
 rintro _ _ ⟨Ec, Hy, Ej⟩
 refine ze <| wp_seq <| wp_seq <| zj <| d_k [0,6,7,8,28] [(1, g_b (show (((zk (u1 (zR ≤ nv a % mF f + nv b % mF f)) : Nat) : Int) == (1 : Int)) = decide (zR ≤ nv a % mF f + nv b % mF f) from u1_one _))] 3 Hy fun _ EN => ?_
 rcases zM (decide (zR ≤ nv a % mF f + nv b % mF f)) with Ee | Ee
 ·
  have Hz := EN.fx (t := 28) (congrArg Value.bool Ee)
  have hp823 : zR ≤ nv a % mF f + nv b % mF f := of_decide_eq_true Ee
  refine d_e [0,6,7,8,31] [] Hz fun _ EO => ze <| c_t EO ?_
  refine zj <| f_o <| Zn 2 4 (zg (nd (nv a % mF f + nv b % mF f))) EO Ej rfl (za (zl _ _)) fun _ HA => f_o <| Zn 1 4 (zg (nd (mF f))) HA Ej rfl (za (zl _ _)) fun _ HB => f_o <| c_p HB Ej (JK _ (nd (nv a % mF f + nv b % mF f)) (nd (mF f)) (zl _ _) (zl _ _)) fun _ _ HC HD => d_k [0,6,7,8,36] [] 6 HC fun _ HE => f_o <| zW 2 4 (zg (nd (nv (nd (nv a % mF f + nv b % mF f)) + zR - nv (nd (mF f))))) [.box Eb (zg (zd 4 0)) 24, .box Ea (zg (nd (mF f))) 24, .box Ec (zg (nd (nv (nd (nv a % mF f + nv b % mF f)) + zR - nv (nd (mF f))))) 24] HE HD rfl (za (zl _ _)) (za (zl _ _)) (zq _) rfl fun _ _ HF EP => f_e <| ze <| wp_seq <| zj <| f_o <| Zn 2 4 (zg (nd (nv (nd (nv a % mF f + nv b % mF f)) + zR - nv (nd (mF f))))) HF EP rfl (za (zl _ _)) fun _ HG => ?_
  refine f_o <| zW 0 4 (zg (nd (nv (nd (nv a % mF f + nv b % mF f)) + zR - nv (nd (mF f))))) _ HG EP rfl (za (zl _ _)) (za (zh)) (zq _) rfl fun _ _ HH EQ => f_e <| ze <| wp_ret <| zU (v := .agg (zc (zg (nd (nv (nd (nv a % mF f + nv b % mF f)) + zR - nv (nd (mF f))))))) (t := 6) (T := 24) (ad := ⟨Eb, 0, none⟩) HH (by kernel_rfl) (by kernel_rfl) (zC (t := 24) (k := 0) (off := 0) (m := 4) (xs := zg (nd (nv (nd (nv a % mF f + nv b % mF f)) + zR - nv (nd (mF f))))) EQ rfl (zn (za (zl _ _))) (za (zl _ _)) (by kernel_rfl) (by kernel_rfl)) ?_
  have e : nd (nv (nd (nv a % mF f + nv b % mF f)) + zR - nv (nd (mF f))) = nd (addM f (nv a) (nv b)) := by rw [← add_mM]; first | exact add_fin1 hla hlb hmw (by first | (left; assumption) | (right; assumption)) | exact add_fin2 hmw (by assumption) (by assumption)
  exact ⟨by rw [e], EQ.pk []⟩
 have HI := EN.fx (t := 28) (congrArg Value.bool Ee)
 have hp850 : ¬ (zR ≤ nv a % mF f + nv b % mF f) := of_decide_eq_false Ee
 refine f_o <| c_l [2,1] (M := [.box Ec (zg (nd (nv a % mF f + nv b % mF f))) 24, .box Ea (zg (nd (mF f))) 24]) HI Ej (fun hM851 => less_go _ Ec Ea (nd (nv a % mF f + nv b % mF f)) (nd (mF f)) (zl _ _) (zl _ _) hM851) ?_
 rintro _ _ ⟨rfl, HJ⟩
 refine ⟨_, _, [.box Ec (zg (nd (nv a % mF f + nv b % mF f))) 24, .box Ea (zg (nd (mF f))) 24, .box Eb (zg (zd 4 0)) 24], rfl, HJ, by kernel_rfl, fun _ HK Ef => ?_⟩
 refine d_e [0,6,7,8,31] [] HK fun _ Es => ?_
 refine ze <| cond_at Es (t := !(decide (nv (nd (nv a % mF f + nv b % mF f)) < nv (nd (mF f))))) (by kernel_rfl) (fun Eg => ?_) (fun Eg => ?_)
 ·
  replace Eg : ¬ (nv (nd (nv a % mF f + nv b % mF f)) < nv (nd (mF f))) := by simpa using Eg
  refine zj <| f_o <| Zn 0 4 (zg (nd (nv a % mF f + nv b % mF f))) Es Ef rfl (za (zl _ _)) fun _ HL => f_o <| Zn 1 4 (zg (nd (mF f))) HL Ef rfl (za (zl _ _)) fun _ HM => f_o <| c_p HM Ef (JK _ (nd (nv a % mF f + nv b % mF f)) (nd (mF f)) (zl _ _) (zl _ _)) fun _ _ HN HO => d_k [0,6,7,8,36] [] 6 HN fun _ HP => f_o <| zW 0 4 (zg (nd (nv (nd (nv a % mF f + nv b % mF f)) + zR - nv (nd (mF f))))) [.box Ec (zg (nd (nv (nd (nv a % mF f + nv b % mF f)) + zR - nv (nd (mF f))))) 24, .box Ea (zg (nd (mF f))) 24, .box Eb (zg (zd 4 0)) 24] HP HO rfl (za (zl _ _)) (za (zl _ _)) (zq _) rfl fun _ _ HQ ER => f_e <| ze <| wp_seq <| zj <| f_o <| Zn 0 4 (zg (nd (nv (nd (nv a % mF f + nv b % mF f)) + zR - nv (nd (mF f))))) HQ ER rfl (za (zl _ _)) fun _ HR => ?_
  refine f_o <| zW 2 4 (zg (nd (nv (nd (nv a % mF f + nv b % mF f)) + zR - nv (nd (mF f))))) _ HR ER rfl (za (zl _ _)) (za (zh)) (zq _) rfl fun _ _ HS ES => f_e <| ze <| wp_ret <| zU (v := .agg (zc (zg (nd (nv (nd (nv a % mF f + nv b % mF f)) + zR - nv (nd (mF f))))))) (t := 6) (T := 24) (ad := ⟨Eb, 0, none⟩) HS (by kernel_rfl) (by kernel_rfl) (zC (t := 24) (k := 2) (off := 0) (m := 4) (xs := zg (nd (nv (nd (nv a % mF f + nv b % mF f)) + zR - nv (nd (mF f))))) ES rfl (zn (za (zl _ _))) (za (zl _ _)) (by kernel_rfl) (by kernel_rfl)) ?_
  have e : nd (nv (nd (nv a % mF f + nv b % mF f)) + zR - nv (nd (mF f))) = nd (addM f (nv a) (nv b)) := by rw [← add_mM]; first | exact add_fin1 hla hlb hmw (by first | (left; assumption) | (right; assumption)) | exact add_fin2 hmw (by assumption) (by assumption)
  exact ⟨by rw [e], ES.pk []⟩
 replace Eg : nv (nd (nv a % mF f + nv b % mF f)) < nv (nd (mF f)) := by simpa using Eg
 refine wp_skip <| ze <| wp_seq <| zj <| f_o <| Zn 0 4 (zg (nd (nv a % mF f + nv b % mF f))) Es Ef rfl (za (zl _ _)) fun _ HT => f_o <| zW 2 4 (zg (nd (nv a % mF f + nv b % mF f))) [.box Ec (zg (nd (nv a % mF f + nv b % mF f))) 24, .box Ea (zg (nd (mF f))) 24, .box Eb (zg (nd (nv a % mF f + nv b % mF f))) 24] HT Ef rfl (za (zl _ _)) (za (zh)) (zq _) rfl fun _ _ HU ET => f_e <| ze <| wp_ret <| zU (v := .agg (zc (zg (nd (nv a % mF f + nv b % mF f))))) (t := 6) (T := 24) (ad := ⟨Eb, 0, none⟩) HU (by kernel_rfl) (by kernel_rfl) (zC (t := 24) (k := 2) (off := 0) (m := 4) (xs := zg (nd (nv a % mF f + nv b % mF f))) ET rfl (zn (za (zl _ _))) (za (zl _ _)) (by kernel_rfl) (by kernel_rfl)) ?_
 have e : nd (nv a % mF f + nv b % mF f) = nd (addM f (nv a) (nv b)) := by rw [← add_mM]; first | exact add_fin1 hla hlb hmw (by first | (left; assumption) | (right; assumption)) | exact add_fin2 hmw (by assumption) (by assumption)
 exact ⟨by rw [e], ET.pk []⟩
theorem sub_go (w : World) (f : Int) (hf : f = 1 ∨ f = 2 ∨ f = 3 ∨ f = 4) (a b : List UInt64) (ha : zf a = 4) (hb : zf b = 4) : Calls zB 73 #[.int .i64 f, .agg (zc (zg a)), .agg (zc (zg b))] w fun e w' => e = .returned (.agg (zc (zg (nd (subM f (nv a) (nv b)))))) ∧ Ev w [] w' [] := by
 have hla : nv a % mF f < mF f := Z4 _ (z6 Q6 (mF_pos hf))
 have hlb : nv b % mF f < mF f := Z4 _ (z6 Q6 (mF_pos hf))
 have hmw := mF_lt f
 refine d_0 [(0, .int .i64 f), (1, .agg (zc (zg a))), (2, .agg (zc (zg b)))] 35 Tryz.func73 Tryz.ntmps73 (Heap.nil _) fun HP HQ HR => wp_seq <| zj <| f_o <| m_m 24 (zg a) HQ HR fun _ _ Eq HS HT => f_o <| m_m 24 (zg b) HS HT fun _ _ Er HU HD => f_o <| m_z 24 (zg (zd 4 0)) HU HD fun _ _ Eb HE HF => f_e <| ze <| wp_seq <| wp_seq <| zj <| d_k [0,4,5,6,10] [] 1 HE fun _ HG => f_o <| c_p HG HF (is_go_yes _ f hf) fun _ _ HH HI => ?_
 refine d_e [0,4,5,6,12] [] HH fun _ EN => ze <| c_f EN ?_
 refine wp_skip <| ze <| wp_seq <| zj <| d_k [0,4,5,6,14] [] 1 EN fun _ HJ => f_o <| c_p HJ HI (modulus_go _ f) fun _ _ HK HL => f_o <| m_z 24 (zg (zd 4 0)) HK HL fun _ _ Ea HM HN => f_o <| zW 3 4 (zg (nd (mF f))) _ HM HN rfl (za (zl _ _)) (za (zh)) (zq _) rfl fun _ _ HO EO => ?_
 refine f_e <| ze <| wp_seq <| r_c (fun ac wo => ∃ (Ec : Nat), Env ac 35 [(0, .int .i64 f), (6, pt Eb), (7, pt Ea), (8, pt Ec), (9, zm (u1 (nv a % mF f < nv b % mF f)))] ∧ Ev w [] wo [.box Eb (zg (zd 4 0)) 24, .box Ea (zg (nd (mF f))) 24, .box Ec (zg (nd (nv a % mF f + zR - (nv b % mF f)))) 24]) ?_ ?_
 ·
  refine h_s (fun wv => Ev w [] wv [.box Eq (zg a) 24, .box Er (zg b) 24, .box Ea (zg (nd (mF f))) 24]) [] 13 ?_
  have Eh := EO.trans (zN EO.heap)
  refine h_name fun G hG => ?_
  have nd662 : ∀ (ac : Act) (wo : World), Env ac 35 [(0, .int .i64 f), (6, pt Eb), (7, pt Ea), (23, .tuple #[.agg (zc (zg (nd (nv a % mF f + zR - (nv b % mF f))))), zm (u1 (nv a % mF f < nv b % mF f))])] → Ev w [] wo [.box Eq (zg a) 24, .box Er (zg b) 24, .box Eb (zg (zd 4 0)) 24, .box Ea (zg (nd (mF f))) 24] → G 6 #[true, true, true, true, true, true, true, false, false, false, false, false, false] ac wo := by
   intro _ _ EP Es
   refine Qd hG ?_
   refine q_s [7,8,9] [] 3 EP (Es.pk [0, 1, 3]) fun _ EQ => q_t 10 ?_
   refine m_z 24 (zg (zd 4 0)) EQ Es fun _ _ Et ER Eu => ⟨fun _ => Eu.pk [0, 1, 3], ?_⟩
   refine q_t 11 ?_
   refine zW 4 4 (zg (nd (nv a % mF f + zR - (nv b % mF f)))) [.box Eq (zg a) 24, .box Er (zg b) 24, .box Eb (zg (zd 4 0)) 24, .box Ea (zg (nd (mF f))) 24, .box Et (zg (nd (nv a % mF f + zR - (nv b % mF f)))) 24] ER Eu rfl (za (zl _ _)) (za (zh)) (zq _) rfl fun _ _ ES Ei => ⟨fun _ => Ei.pk [0, 1, 3], ?_⟩
   refine q_s [12] [] 0 ES (Ei.pk [0, 1, 3]) fun _ ET => ?_
   exact h_e ⟨Et, ET.sb, Ei.pk [2, 3, 4]⟩
  have nd680 : ∀ (ac : Act) (wo : World) (Ef : Nat), Env ac 35 [(0, .int .i64 f), (6, pt Eb), (7, pt Ea), (8, pt Ef), (19, .agg (zc (zg (nd (nv a % mF f))))), (22, .agg (zc (zg (nd (nv b % mF f)))))] → Ev w [] wo [.box Eq (zg a) 24, .box Er (zg b) 24, .box Eb (zg (zd 4 0)) 24, .box Ea (zg (nd (mF f))) 24, .box Ef (zg (zd 4 0)) 24] → G 6 #[true, true, true, true, true, true, false, false, false, false, true, false, false] ac wo := by
   intro _ _ Ef EU EV
   refine Qd hG ?_
   refine q_t 6 ?_
   refine c_p EU EV (minus_nd_go _ (nv a % mF f) (nv b % mF f) (mod_lt_w hf) (mod_lt_w hf)) fun _ _ EW Ej => ⟨fun _ => Ej.pk [0, 1, 3], ?_⟩
   refine q_s [7,8,9] [] 2 EW (Ej.pk [0, 1, 3]) fun _ EX => q_t 11 ?_
   refine zW 4 4 (zg (nd (nv a % mF f + zR - (nv b % mF f)))) _ EX Ej rfl (za (zl _ _)) (za (zh)) (zq _) rfl fun _ _ EY Ek => ⟨fun _ => Ek.pk [0, 1, 3], ?_⟩
   refine q_s [12] [] 0 EY (Ek.pk [0, 1, 3]) fun _ EZ => ?_
   exact h_e ⟨Ef, EZ.sb, Ek.pk [2, 3, 4]⟩
  have nd700 : ∀ (ac : Act) (wo : World), Env ac 35 [(0, .int .i64 f), (6, pt Eb), (7, pt Ea), (19, .agg (zc (zg (nd (nv a % mF f))))), (22, .agg (zc (zg (nd (nv b % mF f)))))] → Ev w [] wo [.box Eq (zg a) 24, .box Er (zg b) 24, .box Eb (zg (zd 4 0)) 24, .box Ea (zg (nd (mF f))) 24] → G 7 #[true, true, true, true, true, true, false, false, false, false, false, false, false] ac wo := by
   intro _ _ Ew Ex
   refine Qd hG ?_
   refine YB [6, 10] (by kernel_rfl) rfl ?_
   refine ⟨?_, ?_, trivial⟩
   ·
    rintro _ rfl
    refine c_p Ew Ex (minus_nd_go _ (nv a % mF f) (nv b % mF f) (mod_lt_w hf) (mod_lt_w hf)) fun _ _ E0 Ey => ⟨fun _ => Ey.pk [0, 1, 3], ?_⟩
    exact YK hG (by kernel_rfl) (nd662 _ _ (E0.sb) (Ey.pk [0, 1, 2, 3]))
   rintro _ rfl
   refine m_z 24 (zg (zd 4 0)) Ew Ex fun _ _ E1 E2 Ez => ⟨fun _ => Ez.pk [0, 1, 3], ?_⟩
   exact YK hG (by kernel_rfl) (nd680 _ _ E1 (E2.sb) (Ez.pk [0, 1, 2, 3, 4]))
  have nd717 : ∀ (ac : Act) (wo : World) (Ed : Nat), Env ac 35 [(0, .int .i64 f), (6, pt Eb), (7, pt Ea), (8, pt Ed), (19, .agg (zc (zg (nd (nv a % mF f))))), (20, .agg (zc (zg b))), (21, .agg (zc (zg (nd (mF f)))))] → Ev w [] wo [.box Eq (zg a) 24, .box Er (zg b) 24, .box Eb (zg (zd 4 0)) 24, .box Ea (zg (nd (mF f))) 24, .box Ed (zg (zd 4 0)) 24] → G 7 #[true, true, true, true, true, false, false, false, false, false, true, false, false] ac wo := by
   intro _ _ Ed E3 E4
   refine Qd hG ?_
   refine q_t 5 ?_
   refine c_p E3 E4 (right_mF _ f hf b hb) fun _ _ E5 EA => ⟨fun _ => EA.pk [0, 1, 3], ?_⟩
   refine q_t 6 ?_
   refine c_p E5 EA (minus_nd_go _ (nv a % mF f) (nv b % mF f) (mod_lt_w hf) (mod_lt_w hf)) fun _ _ E6 El => ⟨fun _ => El.pk [0, 1, 3], ?_⟩
   refine q_s [7,8,9] [] 2 E6 (El.pk [0, 1, 3]) fun _ E7 => q_t 11 ?_
   refine zW 4 4 (zg (nd (nv a % mF f + zR - (nv b % mF f)))) [.box Eq (zg a) 24, .box Er (zg b) 24, .box Eb (zg (zd 4 0)) 24, .box Ea (zg (nd (mF f))) 24, .box Ed (zg (nd (nv a % mF f + zR - (nv b % mF f)))) 24] E7 El rfl (za (zl _ _)) (za (zh)) (zq _) rfl fun _ _ E8 Em => ⟨fun _ => Em.pk [0, 1, 3], ?_⟩
   refine q_s [12] [] 0 E8 (Em.pk [0, 1, 3]) fun _ E9 => ?_
   exact h_e ⟨Ed, E9.sb, Em.pk [2, 3, 4]⟩
  have nd744 : ∀ (ac : Act) (wo : World), Env ac 35 [(0, .int .i64 f), (6, pt Eb), (7, pt Ea), (19, .agg (zc (zg (nd (nv a % mF f))))), (20, .agg (zc (zg b))), (21, .agg (zc (zg (nd (mF f)))))] → Ev w [] wo [.box Eq (zg a) 24, .box Er (zg b) 24, .box Eb (zg (zd 4 0)) 24, .box Ea (zg (nd (mF f))) 24] → G 8 #[true, true, true, true, true, false, false, false, false, false, false, false, false] ac wo := by
   intro _ _ EB EC
   refine Qd hG ?_
   refine YB [5, 10] (by kernel_rfl) rfl ?_
   refine ⟨?_, ?_, trivial⟩
   ·
    rintro _ rfl
    refine c_p EB EC (right_mF _ f hf b hb) fun _ _ Ha ED => ⟨fun _ => ED.pk [0, 1, 3], ?_⟩
    exact YK hG (by kernel_rfl) (nd700 _ _ (Ha.sb) (ED.pk [0, 1, 2, 3]))
   rintro _ rfl
   refine m_z 24 (zg (zd 4 0)) EB EC fun _ _ Hb Hc EE => ⟨fun _ => EE.pk [0, 1, 3], ?_⟩
   exact YK hG (by kernel_rfl) (nd717 _ _ Hb (Hc.sb) (EE.pk [0, 1, 2, 3, 4]))
  have nd761 : ∀ (ac : Act) (wo : World) (Eg : Nat), Env ac 35 [(0, .int .i64 f), (6, pt Eb), (7, pt Ea), (8, pt Eg), (17, .agg (zc (zg a))), (18, .agg (zc (zg (nd (mF f))))), (20, .agg (zc (zg b))), (21, .agg (zc (zg (nd (mF f)))))] → Ev w [] wo [.box Eq (zg a) 24, .box Er (zg b) 24, .box Eb (zg (zd 4 0)) 24, .box Ea (zg (nd (mF f))) 24, .box Eg (zg (zd 4 0)) 24] → G 8 #[true, true, false, true, true, false, false, false, false, false, true, false, false] ac wo := by
   intro _ _ Eg Hd He
   refine Qd hG ?_
   refine q_t 2 ?_
   refine c_p Hd He (right_mF _ f hf a ha) fun _ _ Hf EF => ⟨fun _ => EF.pk [0, 1, 3], ?_⟩
   refine q_t 5 ?_
   refine c_p Hf EF (right_mF _ f hf b hb) fun _ _ Hg EG => ⟨fun _ => EG.pk [0, 1, 3], ?_⟩
   refine q_t 6 ?_
   refine c_p Hg EG (minus_nd_go _ (nv a % mF f) (nv b % mF f) (mod_lt_w hf) (mod_lt_w hf)) fun _ _ Hh En => ⟨fun _ => En.pk [0, 1, 3], ?_⟩
   refine q_s [7,8,9] [] 2 Hh (En.pk [0, 1, 3]) fun _ Hi => q_t 11 ?_
   refine zW 4 4 (zg (nd (nv a % mF f + zR - (nv b % mF f)))) _ Hi En rfl (za (zl _ _)) (za (zh)) (zq _) rfl fun _ _ Hj Eo => ⟨fun _ => Eo.pk [0, 1, 3], ?_⟩
   refine q_s [12] [] 0 Hj (Eo.pk [0, 1, 3]) fun _ Hk => ?_
   exact h_e ⟨Eg, Hk.sb, Eo.pk [2, 3, 4]⟩
  refine Qd hG ?_
  refine q_r 0 (s := Instr.loadAt 24 (pt Eq)) (v := .agg (zc (zg a))) HO (fun w hS => Za (m := 4) (cs := zg a) (za ha) (by kernel_rfl) (by kernel_rfl) (hS.heap.cells (k := 0) (off := 0) (m := 4) rfl (zn (za ha)))) (Eh.pk [0, 1, 3]) fun _ Hl => q_r 1 (s := Instr.loadAt 24 (pt Ea)) (v := .agg (zc (zg (nd (mF f))))) Hl (fun w hS => Za (m := 4) (cs := zg (nd (mF f))) (za (zl _ _)) (by kernel_rfl) (by kernel_rfl) (hS.heap.cells (k := 2) (off := 0) (m := 4) rfl (zn (za (zl _ _))))) (Eh.pk [0, 1, 3]) fun _ Hm => q_r 3 (s := Instr.loadAt 24 (pt Er)) (v := .agg (zc (zg b))) Hm (fun w hS => Za (m := 4) (cs := zg b) (za hb) (by kernel_rfl) (by kernel_rfl) (hS.heap.cells (k := 1) (off := 0) (m := 4) rfl (zn (za hb)))) (Eh.pk [0, 1, 3]) fun _ Hn => q_r 4 (s := Instr.loadAt 24 (pt Ea)) (v := .agg (zc (zg (nd (mF f))))) Hn (fun w hS => Za (m := 4) (cs := zg (nd (mF f))) (za (zl _ _)) (by kernel_rfl) (by kernel_rfl) (hS.heap.cells (k := 2) (off := 0) (m := 4) rfl (zn (za (zl _ _))))) (Eh.pk [0, 1, 3]) fun _ EH => YB [2, 10] (by kernel_rfl) rfl ?_
  refine ⟨?_, ?_, trivial⟩
  ·
   rintro _ rfl
   refine c_p EH Eh (right_mF _ f hf a ha) fun _ _ Ho EI => ⟨fun _ => EI.pk [0, 1, 3], ?_⟩
   exact YK hG (by kernel_rfl) (nd744 _ _ (Ho.sb) (EI.pk [0, 1, 2, 3]))
  rintro _ rfl
  refine m_z 24 (zg (zd 4 0)) EH Eh fun _ _ Hp Hq EJ => ⟨fun _ => EJ.pk [0, 1, 3], ?_⟩
  exact YK hG (by kernel_rfl) (nd761 _ _ Hp (Hq.sb) (EJ.pk [0, 1, 2, 3, 4]))
 rintro _ _ ⟨Ec, Hr, Ee⟩
 refine ze <| wp_seq <| d_s [0,6,7,8,27] [(1, g_b (show (((zk (u1 (nv a % mF f < nv b % mF f)) : Nat) : Int) == (1 : Int)) = decide (nv a % mF f < nv b % mF f) from u1_one _))] Hr fun _ Ep => ?_
 refine c_d (nv a % mF f < nv b % mF f) Ep (fun Hs => ?_) (fun Hs => ?_)
 ·
  refine zj <| f_o <| Zn 2 4 (zg (nd (nv a % mF f + zR - (nv b % mF f)))) Ep Ee rfl (za (zl _ _)) fun _ Ht => f_o <| Zn 1 4 (zg (nd (mF f))) Ht Ee rfl (za (zl _ _)) fun _ Hu => f_o <| c_p Hu Ee (plus_go _ (nd (nv a % mF f + zR - (nv b % mF f))) (nd (mF f)) (zl _ _) (zl _ _)) fun _ _ Hv Hw => d_k [0,6,7,8,32] [] 6 Hv fun _ Hx => f_o <| zW 2 4 (zg (nd (nv (nd (nv a % mF f + zR - (nv b % mF f))) + nv (nd (mF f))))) [.box Eb (zg (zd 4 0)) 24, .box Ea (zg (nd (mF f))) 24, .box Ec (zg (nd (nv (nd (nv a % mF f + zR - (nv b % mF f))) + nv (nd (mF f))))) 24] Hx Hw rfl (za (zl _ _)) (za (zl _ _)) (zq _) rfl fun _ _ Hy EK => f_e <| ze <| wp_seq <| zj <| f_o <| Zn 2 4 (zg (nd (nv (nd (nv a % mF f + zR - (nv b % mF f))) + nv (nd (mF f))))) Hy EK rfl (za (zl _ _)) fun _ Hz => ?_
  refine f_o <| zW 0 4 (zg (nd (nv (nd (nv a % mF f + zR - (nv b % mF f))) + nv (nd (mF f))))) _ Hz EK rfl (za (zl _ _)) (za (zh)) (zq _) rfl fun _ _ HA EL => f_e <| ze <| wp_ret <| zU (v := .agg (zc (zg (nd (nv (nd (nv a % mF f + zR - (nv b % mF f))) + nv (nd (mF f))))))) (t := 6) (T := 24) (ad := ⟨Eb, 0, none⟩) HA (by kernel_rfl) (by kernel_rfl) (zC (t := 24) (k := 0) (off := 0) (m := 4) (xs := zg (nd (nv (nd (nv a % mF f + zR - (nv b % mF f))) + nv (nd (mF f))))) EL rfl (zn (za (zl _ _))) (za (zl _ _)) (by kernel_rfl) (by kernel_rfl)) ?_
  have e : nd (nv (nd (nv a % mF f + zR - (nv b % mF f))) + nv (nd (mF f))) = nd (subM f (nv a) (nv b)) := by first | exact sub_fin1 hla hlb hmw (by assumption) | exact sub_fin2 hla hlb hmw (by assumption)
  exact ⟨by rw [e], EL.pk []⟩
 refine wp_skip <| ze <| wp_seq <| zj <| f_o <| Zn 2 4 (zg (nd (nv a % mF f + zR - (nv b % mF f)))) Ep Ee rfl (za (zl _ _)) fun _ HB => f_o <| zW 0 4 (zg (nd (nv a % mF f + zR - (nv b % mF f)))) [.box Eb (zg (nd (nv a % mF f + zR - (nv b % mF f)))) 24, .box Ea (zg (nd (mF f))) 24, .box Ec (zg (nd (nv a % mF f + zR - (nv b % mF f)))) 24] HB Ee rfl (za (zl _ _)) (za (zh)) (zq _) rfl fun _ _ HC EM => f_e <| ze <| wp_ret <| zU (v := .agg (zc (zg (nd (nv a % mF f + zR - (nv b % mF f)))))) (t := 6) (T := 24) (ad := ⟨Eb, 0, none⟩) HC (by kernel_rfl) (by kernel_rfl) (zC (t := 24) (k := 0) (off := 0) (m := 4) (xs := zg (nd (nv a % mF f + zR - (nv b % mF f)))) EM rfl (zn (za (zl _ _))) (za (zl _ _)) (by kernel_rfl) (by kernel_rfl)) ?_
 have e : nd (nv a % mF f + zR - (nv b % mF f)) = nd (subM f (nv a) (nv b)) := by first | exact sub_fin1 hla hlb hmw (by assumption) | exact sub_fin2 hla hlb hmw (by assumption)
 exact ⟨by rw [e], EM.pk []⟩
theorem rightq_go (w : World) (f : Int) (a : List UInt64) (ha : zf a = 4) : Calls zB 42 #[.int .i64 f, .agg (zc (zg a))] w fun e w' => e = .returned (.bool (decide (nv a < mF f))) ∧ Ev w [] w' [] := by
 refine d_0 [(0, .int .i64 f), (1, .agg (zc (zg a)))] 9 Tryz.func42 Tryz.ntmps42 (Heap.nil _) fun Em En Eo => wp_seq <| zj <| f_o <| m_m 24 (zg a) En Eo fun _ _ Eb Ep Eq => d_e [0,3,4] [] Ep fun _ Er => ze <| wp_seq <| zj <| d_k [3,4,6] [] 1 Er fun _ Es => f_o <| c_p Es Eq (modulus_go _ f) fun _ _ Ec Ed => f_o <| m_z 24 (zg (zd 4 0)) Ec Ed fun _ _ Ea Ee Ef => ?_
 refine f_o <| zW 1 4 (zg (nd (mF f))) _ Ee Ef rfl (za (zl _ _)) (za (zh)) (zq _) rfl fun _ _ Eg Eh => f_e <| ze <| wp_seq <| zj <| f_o <| c_l [0,1] (M := [.box Eb (zg a) 24, .box Ea (zg (nd (mF f))) 24]) Eg Eh (fun hM26 => less_go _ Eb Ea a (nd (mF f)) ha (zl _ _) hM26) ?_
 rintro _ _ ⟨rfl, Ei⟩
 refine ⟨_, _, [.box Eb (zg a) 24, .box Ea (zg (nd (mF f))) 24], rfl, Ei, by kernel_rfl, fun _ Ej Ek => ?_⟩
 refine d_e [4,5] [] Ej fun _ El => ze <| wp_ret <| ZH (t := 4) (v := .bool (decide (nv a < nv (nd (mF f))))) El (by kernel_rfl) (by kernel_rfl) ?_
 exact ⟨by rw [nv_mF], Ek.pk []⟩
def n32 : Nat → Nat → List UInt64
  | 0, _ => []
  | k + 1, n => zi (n % 4294967296) :: n32 k (n / 4294967296)
theorem n32_len : ∀ (k n : Nat), (n32 k n).length = k
  | 0, _ => rfl
  | k + 1, n => by rw [n32, zL, n32_len k]
theorem n32_hd (n : Nat) : (zi (n % 4294967296)).toNat = n % 4294967296 := ofNat_toNat (by omega)
theorem n32_val : ∀ (k n : Nat), dv 4294967296 (n32 k n) = n % 4294967296 ^ k
  | 0, n => by rw [Nat.pow_zero, Nat.mod_one]; rfl
  | k + 1, n => by rw [n32, dv_cons, n32_val k, n32_hd, Nat.pow_succ, Nat.mul_comm (4294967296 ^ k), Nat.mod_mul]
def DG (l : List UInt64) : Prop := ∀ j, (List.getD l j 0).toNat < 4294967296
theorem DG.cons {x : UInt64} {r : List UInt64} : DG (x :: r) ↔ x.toNat < 4294967296 ∧ DG r := by
  constructor
  · intro h
    exact ⟨by have := h 0; simpa using this, fun j => by have := h (j + 1); simpa using this⟩
  · rintro ⟨h1, h2⟩ j
    cases j with
    | zero => simpa using h1
    | succ j => have := h2 j; simpa using this
theorem DG.nil : DG [] := fun j => by simp
theorem n32_dig : ∀ (k n : Nat), DG (n32 k n)
  | 0, n => DG.nil
  | k + 1, n => DG.cons.2 ⟨by rw [n32_hd]; omega, n32_dig k _⟩
theorem n32_dv : ∀ (l : List UInt64), DG l → n32 l.length (dv 4294967296 l) = l
  | [], _ => rfl
  | x :: r, h => by
    have hx := (DG.cons.1 h).1
    rw [zL, n32, dv_cons]
    have h1 : (x.toNat + 4294967296 * dv 4294967296 r) / 4294967296 = dv 4294967296 r := by omega
    have h2 : zi ((x.toNat + 4294967296 * dv 4294967296 r) % 4294967296) = x := by
      apply Qy.1
      rw [n32_hd]
      omega
    rw [h1, h2, n32_dv r (DG.cons.1 h).2]
theorem n32_of {l : List UInt64} {k n : Nat} (hl : l.length = k) (hd : DG l) (h : dv 4294967296 l = n) : l = n32 k n := by rw [← h, ← hl, n32_dv l hd]
theorem DG.set {l : List UInt64} (h : DG l) {i : Nat} {x : UInt64} (hx : x.toNat < 4294967296) : DG (List.set l i x) := fun j => by
  by_cases e : i = j
  · subst e
    by_cases hi : i < l.length
    · rw [zT, List.getElem?_set_self hi]; exact hx
    · rw [zT, List.getElem?_eq_none (by rw [List.length_set]; omega)]; decide
  · rw [getD_set_ne _ e]; exact h j
theorem low32 (t : UInt64) : (t &&& 4294967295).toNat < 4294967296 := by rw [and_low]; omega
theorem high32 (t : UInt64) : (t >>> zi 32).toNat < 4294967296 := by rw [shr_high]; have := Qc t; omega
theorem low_high (t : UInt64) : (t &&& 4294967295).toNat + 4294967296 * (t >>> zi 32).toNat = t.toNat := by rw [and_low, shr_high]; omega
theorem or_shl {x y : UInt64} (hx : x.toNat < 4294967296) (hy : y.toNat < 4294967296) : (x ||| (y <<< zi 32)).toNat = x.toNat + 4294967296 * y.toNat := by
  rw [UInt64.toNat_or, UInt64.toNat_shiftLeft]
  have h : (zi 32).toNat % 64 = 32 := by decide
  rw [h, zQ (by rw [Ya]; omega), Nat.or_comm, ← Nat.shiftLeft_add_eq_or_of_lt (by omega), Ya]
  omega
theorem rless4 (w : World) (a0 a1 a2 a3 b0 b1 b2 b3 : UInt64) : Calls zB 55 #[.agg #[zm a0, zm a1, zm a2, zm a3], .agg #[zm b0, zm b1, zm b2, zm b3]] w fun e w' => e = .returned (.bool (decide (nv [a0, a1, a2, a3] < nv [b0, b1, b2, b3]))) ∧ Ev w [] w' [] := by
 refine d_0 [(0, .agg #[zm a0, zm a1, zm a2, zm a3]), (1, .agg #[zm b0, zm b1, zm b2, zm b3])] 24 Tryz.func55 Tryz.ntmps55 (Heap.nil _) fun Hw Hx Hy => wp_seq <| zj <| f_o <| m_m 24 [zm a0, zm a1, zm a2, zm a3] Hx Hy fun _ _ Ea Hz HA => f_o <| m_m 24 [zm b0, zm b1, zm b2, zm b3] Hz HA fun _ _ Eb HB Ew => d_e [2,3,4] [] HB fun _ Hg => ze <| wp_seq <| d_s [2,3,4,5] [] Hg fun _ Hh => ?_
 refine wp_block <| Ym ?_
 refine z8 <| wp_seq <| d_s [2,3,4,5,7] [] Hh fun _ Ex => c_t Ex ?_
 refine wp_skip <| ze <| wp_seq <| wp_block <| wp_seq <| r_c (fun ac wo => Env ac 24 [(2, pt Ea), (3, pt Eb), (4, .bool false), (5, .int .i64 3), (16, .bool (((zk a3 : Nat) : Int) != ((zk b3 : Nat) : Int)))] ∧ Ev w [] wo [.box Ea [zm a0, zm a1, zm a2, zm a3] 24, .box Eb [zm b0, zm b1, zm b2, zm b3] 24]) ?_ ?_
 ·
  refine h_s (fun wv => Ev w [] wv [.box Ea [zm a0, zm a1, zm a2, zm a3] 24, .box Eb [zm b0, zm b1, zm b2, zm b3] 24]) [] 7 ?_
  have Ek := Ew.trans (zN Ew.heap)
  refine q_s [0,1] [] 5 Ex (Ek.pk [0, 1]) fun _ Hi => q_l 0 2 Hi (Ek.pk [0, 1]) fun _ Hj => q_s [3,4] [] 2 Hj (Ek.pk [0, 1]) fun _ Hk => q_l 1 5 Hk (Ek.pk [0, 1]) fun _ Hl => q_s [6] [] 0 Hl (Ek.pk [0, 1]) fun _ Hm => ?_
  exact h_e ⟨Hm.sb, Ek.pk [0, 1]⟩
 rintro _ _ ⟨Eu, Eq⟩
 refine ze <| c_n ((zk a3 : Nat) : Int) ((zk b3 : Nat) : Int) Eu (fun Hn => ?_) (fun Hn => ?_)
 ·
  refine wp_seq <| r_c (fun ac wo => Env ac 24 [(2, pt Ea), (3, pt Eb), (4, .bool (decide (((zk a3 : Nat) : Int) < ((zk b3 : Nat) : Int)))), (5, .int .i64 3)] ∧ Ev w [] wo [.box Ea [zm a0, zm a1, zm a2, zm a3] 24, .box Eb [zm b0, zm b1, zm b2, zm b3] 24]) ?_ ?_
  ·
   refine h_s (fun wv => Ev w [] wv [.box Ea [zm a0, zm a1, zm a2, zm a3] 24, .box Eb [zm b0, zm b1, zm b2, zm b3] 24]) [] 8 ?_
   have El := Eq.trans (zN Eq.heap)
   refine q_s [0,1] [] 6 Eu (El.pk [0, 1]) fun _ Ho => q_l 0 2 Ho (El.pk [0, 1]) fun _ Hp => q_s [3,4] [] 3 Hp (El.pk [0, 1]) fun _ Hq => q_l 1 5 Hq (El.pk [0, 1]) fun _ Hr => q_s [6,7] [] 0 Hr (El.pk [0, 1]) fun _ Hs => ?_
   exact h_e ⟨Hs.sb, El.pk [0, 1]⟩
  rintro _ _ ⟨Ht, Hu⟩
  refine ze <| wp_ret <| ZY <| z9 <| z9 <| ZY <| z9 <| ZH (t := 4) (v := .bool (decide (((zk a3 : Nat) : Int) < ((zk b3 : Nat) : Int)))) Ht (by kernel_rfl) (by kernel_rfl) ?_
  have e : (decide (((zk a3 : Nat) : Int) < ((zk b3 : Nat) : Int))) = decide (nv [a0, a1, a2, a3] < nv [b0, b1, b2, b3]) := by
   rw [nv4, nv4]
   have := Qc a0; have := Qc a1; have := Qc a2; have := Qc a3; have := Qc b0; have := Qc b1; have := Qc b2; have := Qc b3
   first | exact decide_eq_decide.2 (by omega) | exact (decide_eq_false (by omega)).symm
  exact ⟨by rw [e], Hu.pk []⟩
 refine wp_skip <| zw <| ze <| d_r [2,3,4,5] [] Eu fun _ Hv => ?_
 refine ze <| z8 <| wp_seq <| d_s [2,3,4,5,7] [] Hv fun _ Ey => c_t Ey ?_
 refine wp_skip <| ze <| wp_seq <| wp_block <| wp_seq <| r_c (fun ac wo => Env ac 24 [(2, pt Ea), (3, pt Eb), (4, .bool false), (5, .int .i64 2), (16, .bool (((zk a2 : Nat) : Int) != ((zk b2 : Nat) : Int)))] ∧ Ev w [] wo [.box Ea [zm a0, zm a1, zm a2, zm a3] 24, .box Eb [zm b0, zm b1, zm b2, zm b3] 24]) ?_ ?_
 ·
  refine h_s (fun wv => Ev w [] wv [.box Ea [zm a0, zm a1, zm a2, zm a3] 24, .box Eb [zm b0, zm b1, zm b2, zm b3] 24]) [] 7 ?_
  have Ec := Eq.trans (zN Eq.heap)
  refine q_s [0,1] [] 5 Ey (Ec.pk [0, 1]) fun _ Ez => q_l 0 2 Ez (Ec.pk [0, 1]) fun _ EA => q_s [3,4] [] 2 EA (Ec.pk [0, 1]) fun _ EB => q_l 1 5 EB (Ec.pk [0, 1]) fun _ EC => q_s [6] [] 0 EC (Ec.pk [0, 1]) fun _ ED => ?_
  exact h_e ⟨ED.sb, Ec.pk [0, 1]⟩
 rintro _ _ ⟨Em, Ei⟩
 refine ze <| c_n ((zk a2 : Nat) : Int) ((zk b2 : Nat) : Int) Em (fun EE => ?_) (fun EE => ?_)
 ·
  refine wp_seq <| r_c (fun ac wo => Env ac 24 [(2, pt Ea), (3, pt Eb), (4, .bool (decide (((zk a2 : Nat) : Int) < ((zk b2 : Nat) : Int)))), (5, .int .i64 2)] ∧ Ev w [] wo [.box Ea [zm a0, zm a1, zm a2, zm a3] 24, .box Eb [zm b0, zm b1, zm b2, zm b3] 24]) ?_ ?_
  ·
   refine h_s (fun wv => Ev w [] wv [.box Ea [zm a0, zm a1, zm a2, zm a3] 24, .box Eb [zm b0, zm b1, zm b2, zm b3] 24]) [] 8 ?_
   have Ed := Ei.trans (zN Ei.heap)
   refine q_s [0,1] [] 6 Em (Ed.pk [0, 1]) fun _ EF => q_l 0 2 EF (Ed.pk [0, 1]) fun _ EG => q_s [3,4] [] 3 EG (Ed.pk [0, 1]) fun _ EH => q_l 1 5 EH (Ed.pk [0, 1]) fun _ EI => q_s [6,7] [] 0 EI (Ed.pk [0, 1]) fun _ EJ => ?_
   exact h_e ⟨EJ.sb, Ed.pk [0, 1]⟩
  rintro _ _ ⟨EK, EL⟩
  refine ze <| wp_ret <| ZY <| z9 <| z9 <| ZY <| z9 <| ZH (t := 4) (v := .bool (decide (((zk a2 : Nat) : Int) < ((zk b2 : Nat) : Int)))) EK (by kernel_rfl) (by kernel_rfl) ?_
  have e : (decide (((zk a2 : Nat) : Int) < ((zk b2 : Nat) : Int))) = decide (nv [a0, a1, a2, a3] < nv [b0, b1, b2, b3]) := by
   rw [nv4, nv4]
   have := Qc a0; have := Qc a1; have := Qc a2; have := Qc a3; have := Qc b0; have := Qc b1; have := Qc b2; have := Qc b3
   first | exact decide_eq_decide.2 (by omega) | exact (decide_eq_false (by omega)).symm
  exact ⟨by rw [e], EL.pk []⟩
 refine wp_skip <| zw <| ze <| d_r [2,3,4,5] [] Em fun _ EM => ?_
 refine ze <| z8 <| wp_seq <| d_s [2,3,4,5,7] [] EM fun _ Er => c_t Er ?_
 refine wp_skip <| ze <| wp_seq <| wp_block <| wp_seq <| r_c (fun ac wo => Env ac 24 [(2, pt Ea), (3, pt Eb), (4, .bool false), (5, .int .i64 1), (16, .bool (((zk a1 : Nat) : Int) != ((zk b1 : Nat) : Int)))] ∧ Ev w [] wo [.box Ea [zm a0, zm a1, zm a2, zm a3] 24, .box Eb [zm b0, zm b1, zm b2, zm b3] 24]) ?_ ?_
 ·
  refine h_s (fun wv => Ev w [] wv [.box Ea [zm a0, zm a1, zm a2, zm a3] 24, .box Eb [zm b0, zm b1, zm b2, zm b3] 24]) [] 7 ?_
  have Ee := Ei.trans (zN Ei.heap)
  refine q_s [0,1] [] 5 Er (Ee.pk [0, 1]) fun _ EN => q_l 0 2 EN (Ee.pk [0, 1]) fun _ EO => q_s [3,4] [] 2 EO (Ee.pk [0, 1]) fun _ EP => q_l 1 5 EP (Ee.pk [0, 1]) fun _ EQ => q_s [6] [] 0 EQ (Ee.pk [0, 1]) fun _ ER => ?_
  exact h_e ⟨ER.sb, Ee.pk [0, 1]⟩
 rintro _ _ ⟨En, Ej⟩
 refine ze <| c_n ((zk a1 : Nat) : Int) ((zk b1 : Nat) : Int) En (fun ES => ?_) (fun ES => ?_)
 ·
  refine wp_seq <| r_c (fun ac wo => Env ac 24 [(2, pt Ea), (3, pt Eb), (4, .bool (decide (((zk a1 : Nat) : Int) < ((zk b1 : Nat) : Int)))), (5, .int .i64 1)] ∧ Ev w [] wo [.box Ea [zm a0, zm a1, zm a2, zm a3] 24, .box Eb [zm b0, zm b1, zm b2, zm b3] 24]) ?_ ?_
  ·
   refine h_s (fun wv => Ev w [] wv [.box Ea [zm a0, zm a1, zm a2, zm a3] 24, .box Eb [zm b0, zm b1, zm b2, zm b3] 24]) [] 8 ?_
   have Ef := Ej.trans (zN Ej.heap)
   refine q_s [0,1] [] 6 En (Ef.pk [0, 1]) fun _ ET => q_l 0 2 ET (Ef.pk [0, 1]) fun _ EU => q_s [3,4] [] 3 EU (Ef.pk [0, 1]) fun _ EV => q_l 1 5 EV (Ef.pk [0, 1]) fun _ EW => q_s [6,7] [] 0 EW (Ef.pk [0, 1]) fun _ EX => ?_
   exact h_e ⟨EX.sb, Ef.pk [0, 1]⟩
  rintro _ _ ⟨EY, EZ⟩
  refine ze <| wp_ret <| ZY <| z9 <| z9 <| ZY <| z9 <| ZH (t := 4) (v := .bool (decide (((zk a1 : Nat) : Int) < ((zk b1 : Nat) : Int)))) EY (by kernel_rfl) (by kernel_rfl) ?_
  have e : (decide (((zk a1 : Nat) : Int) < ((zk b1 : Nat) : Int))) = decide (nv [a0, a1, a2, a3] < nv [b0, b1, b2, b3]) := by
   rw [nv4, nv4]
   have := Qc a0; have := Qc a1; have := Qc a2; have := Qc a3; have := Qc b0; have := Qc b1; have := Qc b2; have := Qc b3
   first | exact decide_eq_decide.2 (by omega) | exact (decide_eq_false (by omega)).symm
  exact ⟨by rw [e], EZ.pk []⟩
 refine wp_skip <| zw <| ze <| d_r [2,3,4,5] [] En fun _ E0 => ?_
 refine ze <| z8 <| wp_seq <| d_s [2,3,4,5,7] [] E0 fun _ Es => c_t Es ?_
 refine wp_skip <| ze <| wp_seq <| wp_block <| wp_seq <| r_c (fun ac wo => Env ac 24 [(2, pt Ea), (3, pt Eb), (4, .bool false), (5, .int .i64 0), (16, .bool (((zk a0 : Nat) : Int) != ((zk b0 : Nat) : Int)))] ∧ Ev w [] wo [.box Ea [zm a0, zm a1, zm a2, zm a3] 24, .box Eb [zm b0, zm b1, zm b2, zm b3] 24]) ?_ ?_
 ·
  refine h_s (fun wv => Ev w [] wv [.box Ea [zm a0, zm a1, zm a2, zm a3] 24, .box Eb [zm b0, zm b1, zm b2, zm b3] 24]) [] 7 ?_
  have Eg := Ej.trans (zN Ej.heap)
  refine q_s [0,1] [] 5 Es (Eg.pk [0, 1]) fun _ E1 => q_l 0 2 E1 (Eg.pk [0, 1]) fun _ E2 => q_s [3,4] [] 2 E2 (Eg.pk [0, 1]) fun _ E3 => q_l 1 5 E3 (Eg.pk [0, 1]) fun _ E4 => q_s [6] [] 0 E4 (Eg.pk [0, 1]) fun _ E5 => ?_
  exact h_e ⟨E5.sb, Eg.pk [0, 1]⟩
 rintro _ _ ⟨Eo, Ep⟩
 refine ze <| c_n ((zk a0 : Nat) : Int) ((zk b0 : Nat) : Int) Eo (fun E6 => ?_) (fun E6 => ?_)
 ·
  refine wp_seq <| r_c (fun ac wo => Env ac 24 [(2, pt Ea), (3, pt Eb), (4, .bool (decide (((zk a0 : Nat) : Int) < ((zk b0 : Nat) : Int)))), (5, .int .i64 0)] ∧ Ev w [] wo [.box Ea [zm a0, zm a1, zm a2, zm a3] 24, .box Eb [zm b0, zm b1, zm b2, zm b3] 24]) ?_ ?_
  ·
   refine h_s (fun wv => Ev w [] wv [.box Ea [zm a0, zm a1, zm a2, zm a3] 24, .box Eb [zm b0, zm b1, zm b2, zm b3] 24]) [] 8 ?_
   have Eh := Ep.trans (zN Ep.heap)
   refine q_s [0,1] [] 6 Eo (Eh.pk [0, 1]) fun _ E7 => q_l 0 2 E7 (Eh.pk [0, 1]) fun _ E8 => q_s [3,4] [] 3 E8 (Eh.pk [0, 1]) fun _ E9 => q_l 1 5 E9 (Eh.pk [0, 1]) fun _ Ha => q_s [6,7] [] 0 Ha (Eh.pk [0, 1]) fun _ Hb => ?_
   exact h_e ⟨Hb.sb, Eh.pk [0, 1]⟩
  rintro _ _ ⟨Hc, Hd⟩
  refine ze <| wp_ret <| ZY <| z9 <| z9 <| ZY <| z9 <| ZH (t := 4) (v := .bool (decide (((zk a0 : Nat) : Int) < ((zk b0 : Nat) : Int)))) Hc (by kernel_rfl) (by kernel_rfl) ?_
  have e : (decide (((zk a0 : Nat) : Int) < ((zk b0 : Nat) : Int))) = decide (nv [a0, a1, a2, a3] < nv [b0, b1, b2, b3]) := by
   rw [nv4, nv4]
   have := Qc a0; have := Qc a1; have := Qc a2; have := Qc a3; have := Qc b0; have := Qc b1; have := Qc b2; have := Qc b3
   first | exact decide_eq_decide.2 (by omega) | exact (decide_eq_false (by omega)).symm
  exact ⟨by rw [e], Hd.pk []⟩
 refine wp_skip <| zw <| ze <| d_r [2,3,4,5] [] Eo fun _ He => ?_
 refine ze <| z8 <| wp_seq <| d_s [2,3,4,5,7] [] He fun _ Et => c_f Et ?_
 refine wp_exit <| zF <| zF <| zX <| ze <| d_s [2,3,4,5] [] Et fun _ Hf => wp_ret <| ZH (t := 4) (v := .bool false) Hf (by kernel_rfl) (by kernel_rfl) ?_
 have e : (false) = decide (nv [a0, a1, a2, a3] < nv [b0, b1, b2, b3]) := by
  rw [nv4, nv4]
  have := Qc a0; have := Qc a1; have := Qc a2; have := Qc a3; have := Qc b0; have := Qc b1; have := Qc b2; have := Qc b3
  first | exact decide_eq_decide.2 (by omega) | exact (decide_eq_false (by omega)).symm
 exact ⟨by rw [e], Ep.pk []⟩
theorem rless_go (w : World) (a b : List UInt64) (ha : zf a = 4) (hb : zf b = 4) : Calls zB 55 #[.agg (zc (zg a)), .agg (zc (zg b))] w fun e w' => e = .returned (.bool (decide (nv a < nv b))) ∧ Ev w [] w' [] := by
  match a, ha, b, hb with
  | [a0, a1, a2, a3], _, [b0, b1, b2, b3], _ => exact rless4 w a0 a1 a2 a3 b0 b1 b2 b3
theorem carry1 {x y : UInt64} : (if (x + y).toNat < x.toNat then (1 : UInt64) else 0) = zS x y 0 := by
  apply Qy.1
  rw [JD]
  have := Qc x; have := Qc y
  rw [ZD, show (0 : UInt64).toNat = 0 from rfl]
  split
  · rw [show (1 : UInt64).toNat = 1 from rfl]; omega
  · rw [show (0 : UInt64).toNat = 0 from rfl]; omega
theorem carry2 {x y c : UInt64} (h : c.toNat ≤ 1) : (if (x + y + c).toNat < (x + y).toNat then (1 : UInt64) else zS x y 0) = zS x y c := by
  apply Qy.1
  have := Qc x; have := Qc y
  split
  · rename_i q
    rw [JD, show (1 : UInt64).toNat = 1 from rfl]
    rw [ZD (x + y), ZD] at q
    omega
  · rename_i q
    rw [JD, JD, show (0 : UInt64).toNat = 0 from rfl]
    rw [ZD (x + y), ZD] at q
    omega
theorem rplus4 (w : World) (a0 a1 a2 a3 b0 b1 b2 b3 : UInt64) : Calls zB 69 #[.agg #[zm a0, zm a1, zm a2, zm a3], .agg #[zm b0, zm b1, zm b2, zm b3]] w fun e w' => e = .returned (.tuple #[.agg (zc (zg (plusL [a0, a1, a2, a3] [b0, b1, b2, b3]))), zm (adF [a0, a1, a2, a3] [b0, b1, b2, b3] 4)]) ∧ Ev w [] w' [] := by
 refine d_0 [(0, .agg #[zm a0, zm a1, zm a2, zm a3]), (1, .agg #[zm b0, zm b1, zm b2, zm b3])] 39 Tryz.func69 Tryz.ntmps69 (Heap.nil _) fun ag ah ai => wp_seq <| zj <| f_o <| m_m 24 [zm a0, zm a1, zm a2, zm a3] ah ai fun _ _ Eb aj ak => f_o <| m_m 24 [zm b0, zm b1, zm b2, zm b3] aj ak fun _ _ Ec al HO => f_o <| m_z 24 (zg (zd 4 0)) al HO fun _ _ Ea HP EF => d_e [2,3,4,5] [] HP fun _ HQ => ze <| d_s [2,3,4,5,6] [] HQ fun _ HR => ?_
 refine wp_seq <| d_s [2,3,4,5,6,7] [] HR fun _ HS => ?_
 refine wp_block <| Ym ?_
 refine z8 <| wp_seq <| d_s [2,3,4,5,6,7,12] [] HS fun _ EG => c_t EG ?_
 refine wp_skip <| ze <| wp_seq <| wp_block <| wp_seq <| r_c (fun ac wo => Env ac 39 [(2, pt Eb), (3, pt Ec), (4, pt Ea), (5, .int .u64 0), (6, .int .u64 0), (7, .int .i64 0), (8, zm (a0 + b0))] ∧ Ev w [] wo [.box Eb [zm a0, zm a1, zm a2, zm a3] 24, .box Ec [zm b0, zm b1, zm b2, zm b3] 24, .box Ea (zg (zd 4 0)) 24]) ?_ ?_
 ·
  refine h_s (fun wv => Ev w [] wv [.box Eb [zm a0, zm a1, zm a2, zm a3] 24, .box Ec [zm b0, zm b1, zm b2, zm b3] 24]) [] 8 ?_
  have Eg := EF.trans (zN EF.heap)
  refine q_s [0,1] [] 6 EG (Eg.pk [0, 1]) fun _ HT => q_l 0 2 HT (Eg.pk [0, 1]) fun _ HU => q_s [3,4] [] 3 HU (Eg.pk [0, 1]) fun _ HV => q_l 1 5 HV (Eg.pk [0, 1]) fun _ HW => q_s [6,7] [(6, g_i .u64 (Zj (x := a0) (y := b0) rfl rfl))] 0 HW (Eg.pk [0, 1]) fun _ HX => ?_
  exact h_e ⟨HX.sb, Eg.pk [0, 1, 2]⟩
 rintro _ _ ⟨HY, EC⟩
 refine ze <| d_s [2,3,4,5,6,7,8,9] [] HY fun _ HZ => wp_seq <| wp_seq <| zj <| d_k [2,3,4,5,6,7,8,9,22,24] [] 3 HZ fun _ H0 => f_o <| m_l 0 H0 EC fun _ H1 => d_e [2,3,4,5,6,7,8,9,26] [] H1 fun _ ED => ?_
 refine ze <| QS (F := fun ac wo => ∃ (c1_0 : UInt64), Env ac 39 [(2, pt Eb), (3, pt Ec), (4, pt Ea), (5, .int .u64 0), (6, .int .u64 0), (7, .int .i64 0), (8, zm (a0 + b0)), (9, zm c1_0)] ∧ Ev w [] wo [.box Eb [zm a0, zm a1, zm a2, zm a3] 24, .box Ec [zm b0, zm b1, zm b2, zm b3] 24, .box Ea (zg (zd 4 0)) 24] ∧ (c1_0 = zS a0 b0 0)) ?_ ?_
 ·
  refine c_d (((zk (a0 + b0) : Nat) : Int) < ((zk a0 : Nat) : Int)) ED (fun H2 => ?_) (fun H2 => ?_)
  ·
   refine d_r [2,3,4,5,6,7,8,9] [] ED fun _ H3 => ?_
   exact ⟨rfl, ⟨(1 : UInt64), H3.sb, EC.pk [0, 1, 2], by rw [← carry1]; first | exact (if_pos (by omega)).symm | exact (if_neg (by omega)).symm⟩⟩
  refine wp_skip ?_
  exact ⟨rfl, ⟨(0 : UInt64), ED.sb, EC.pk [0, 1, 2], by rw [← carry1]; first | exact (if_pos (by omega)).symm | exact (if_neg (by omega)).symm⟩⟩
 rintro _ _ ⟨c1_0, H4, EH, hc1_0⟩
 refine ze <| d_s [2,3,4,5,6,7,8,9,10] [(2, g_i .u64 (Zj (x := a0 + b0) (y := (0 : UInt64)) rfl rfl))] H4 fun _ H5 => wp_seq <| d_s [2,3,4,5,6,7,8,9,10,32] [] H5 fun _ EE => ?_
 have hle0 : zk (0 : UInt64) ≤ 1 := (by decide)
 refine QS (F := fun ac wo => ∃ (c2_0 : UInt64), Env ac 39 [(2, pt Eb), (3, pt Ec), (4, pt Ea), (5, .int .u64 0), (6, .int .u64 0), (7, .int .i64 0), (8, zm (a0 + b0)), (9, zm c2_0), (10, zm ((a0 + b0) + (0 : UInt64)))] ∧ Ev w [] wo [.box Eb [zm a0, zm a1, zm a2, zm a3] 24, .box Ec [zm b0, zm b1, zm b2, zm b3] 24, .box Ea (zg (zd 4 0)) 24] ∧ (c2_0 = zS a0 b0 (0 : UInt64))) ?_ ?_
 ·
  refine c_d (((zk ((a0 + b0) + (0 : UInt64)) : Nat) : Int) < ((zk (a0 + b0) : Nat) : Int)) EE (fun H6 => ?_) (fun H6 => ?_)
  ·
   refine d_r [2,3,4,5,6,7,8,9,10] [] EE fun _ H7 => ?_
   exact ⟨rfl, ⟨(1 : UInt64), H7.sb, EH.pk [0, 1, 2], by rw [← carry2 hle0]; first | exact (if_pos (by omega)).symm | exact hc1_0.trans (if_neg (by omega)).symm⟩⟩
  refine wp_skip ?_
  exact ⟨rfl, ⟨c1_0, EE.sb, EH.pk [0, 1, 2], by rw [← carry2 hle0]; first | exact (if_pos (by omega)).symm | exact hc1_0.trans (if_neg (by omega)).symm⟩⟩
 rintro _ _ ⟨c2_0, H8, H9, hc2_0⟩
 refine ze <| wp_seq <| zj <| d_k [2,3,4,5,6,7,8,9,10,34,35] [] 3 H8 fun _ aa => f_o <| m_s 0 [.box Eb [zm ((a0 + b0) + (0 : UInt64)), zm a1, zm a2, zm a3] 24, .box Ec [zm b0, zm b1, zm b2, zm b3] 24, .box Ea (zg (zd 4 0)) 24] aa H9 fun _ _ ab EI => f_e <| ze <| d_r [2,3,4,5,6,7,8,10] [] ab fun _ ae => zw <| ze <| d_r [2,3,4,5,6,7,8,10] [] ae fun _ af => ?_
 refine ze <| z8 <| wp_seq <| d_s [2,3,4,5,6,7,8,10,12] [] af fun _ Eq => c_t Eq ?_
 refine wp_skip <| ze <| wp_seq <| wp_block <| wp_seq <| r_c (fun ac wo => Env ac 39 [(2, pt Eb), (3, pt Ec), (4, pt Ea), (5, .int .u64 0), (6, zm c2_0), (7, .int .i64 1), (8, zm (a1 + b1)), (10, zm ((a0 + b0) + (0 : UInt64)))] ∧ Ev w [] wo [.box Eb [zm ((a0 + b0) + (0 : UInt64)), zm a1, zm a2, zm a3] 24, .box Ec [zm b0, zm b1, zm b2, zm b3] 24, .box Ea (zg (zd 4 0)) 24]) ?_ ?_
 ·
  refine h_s (fun wv => Ev w [] wv [.box Eb [zm ((a0 + b0) + (0 : UInt64)), zm a1, zm a2, zm a3] 24, .box Ec [zm b0, zm b1, zm b2, zm b3] 24]) [] 8 ?_
  have Ed := EI.trans (zN EI.heap)
  refine q_s [0,1] [] 6 Eq (Ed.pk [0, 1]) fun _ EJ => q_l 0 2 EJ (Ed.pk [0, 1]) fun _ EK => q_s [3,4] [] 3 EK (Ed.pk [0, 1]) fun _ EL => q_l 1 5 EL (Ed.pk [0, 1]) fun _ EM => q_s [6,7] [(6, g_i .u64 (Zj (x := a1) (y := b1) rfl rfl))] 0 EM (Ed.pk [0, 1]) fun _ EN => ?_
  exact h_e ⟨EN.sb, Ed.pk [0, 1, 2]⟩
 rintro _ _ ⟨EO, Eh⟩
 refine ze <| d_s [2,3,4,5,6,7,8,9,10] [] EO fun _ EP => wp_seq <| wp_seq <| zj <| d_k [2,3,4,5,6,7,8,9,10,22,24] [] 3 EP fun _ EQ => f_o <| m_l 0 EQ Eh fun _ ER => d_e [2,3,4,5,6,7,8,9,10,26] [] ER fun _ Ei => ?_
 refine ze <| QS (F := fun ac wo => ∃ (c1_1 : UInt64), Env ac 39 [(2, pt Eb), (3, pt Ec), (4, pt Ea), (5, .int .u64 0), (6, zm c2_0), (7, .int .i64 1), (8, zm (a1 + b1)), (9, zm c1_1), (10, zm ((a0 + b0) + (0 : UInt64)))] ∧ Ev w [] wo [.box Eb [zm ((a0 + b0) + (0 : UInt64)), zm a1, zm a2, zm a3] 24, .box Ec [zm b0, zm b1, zm b2, zm b3] 24, .box Ea (zg (zd 4 0)) 24] ∧ (c1_1 = zS a1 b1 0)) ?_ ?_
 ·
  refine c_d (((zk (a1 + b1) : Nat) : Int) < ((zk a1 : Nat) : Int)) Ei (fun ES => ?_) (fun ES => ?_)
  ·
   refine d_r [2,3,4,5,6,7,8,9,10] [] Ei fun _ ET => ?_
   exact ⟨rfl, ⟨(1 : UInt64), ET.sb, Eh.pk [0, 1, 2], by rw [← carry1]; first | exact (if_pos (by omega)).symm | exact (if_neg (by omega)).symm⟩⟩
  refine wp_skip ?_
  exact ⟨rfl, ⟨(0 : UInt64), Ei.sb, Eh.pk [0, 1, 2], by rw [← carry1]; first | exact (if_pos (by omega)).symm | exact (if_neg (by omega)).symm⟩⟩
 rintro _ _ ⟨c1_1, EU, Er, hc1_1⟩
 refine ze <| d_s [2,3,4,5,6,7,8,9,10] [(2, g_i .u64 (Zj (x := a1 + b1) (y := c2_0) rfl rfl))] EU fun _ EV => wp_seq <| d_s [2,3,4,5,6,7,8,9,10,32] [] EV fun _ Ej => ?_
 have hle1 : zk c2_0 ≤ 1 := (by rw [hc2_0]; exact YI hle0)
 refine QS (F := fun ac wo => ∃ (c2_1 : UInt64), Env ac 39 [(2, pt Eb), (3, pt Ec), (4, pt Ea), (5, .int .u64 0), (6, zm c2_0), (7, .int .i64 1), (8, zm (a1 + b1)), (9, zm c2_1), (10, zm ((a1 + b1) + c2_0))] ∧ Ev w [] wo [.box Eb [zm ((a0 + b0) + (0 : UInt64)), zm a1, zm a2, zm a3] 24, .box Ec [zm b0, zm b1, zm b2, zm b3] 24, .box Ea (zg (zd 4 0)) 24] ∧ (c2_1 = zS a1 b1 c2_0)) ?_ ?_
 ·
  refine c_d (((zk ((a1 + b1) + c2_0) : Nat) : Int) < ((zk (a1 + b1) : Nat) : Int)) Ej (fun EW => ?_) (fun EW => ?_)
  ·
   refine d_r [2,3,4,5,6,7,8,9,10] [] Ej fun _ EX => ?_
   exact ⟨rfl, ⟨(1 : UInt64), EX.sb, Er.pk [0, 1, 2], by rw [← carry2 hle1]; first | exact (if_pos (by omega)).symm | exact hc1_1.trans (if_neg (by omega)).symm⟩⟩
  refine wp_skip ?_
  exact ⟨rfl, ⟨c1_1, Ej.sb, Er.pk [0, 1, 2], by rw [← carry2 hle1]; first | exact (if_pos (by omega)).symm | exact hc1_1.trans (if_neg (by omega)).symm⟩⟩
 rintro _ _ ⟨c2_1, EY, EZ, hc2_1⟩
 refine ze <| wp_seq <| zj <| d_k [2,3,4,5,6,7,8,9,10,34,35] [] 3 EY fun _ E0 => f_o <| m_s 0 [.box Eb [zm ((a0 + b0) + (0 : UInt64)), zm ((a1 + b1) + c2_0), zm a2, zm a3] 24, .box Ec [zm b0, zm b1, zm b2, zm b3] 24, .box Ea (zg (zd 4 0)) 24] E0 EZ fun _ _ E1 Es => f_e <| ze <| d_r [2,3,4,5,6,7,8,10] [] E1 fun _ E2 => zw <| ze <| d_r [2,3,4,5,6,7,8,10] [] E2 fun _ E3 => ?_
 refine ze <| z8 <| wp_seq <| d_s [2,3,4,5,6,7,8,10,12] [] E3 fun _ Et => c_t Et ?_
 refine wp_skip <| ze <| wp_seq <| wp_block <| wp_seq <| r_c (fun ac wo => Env ac 39 [(2, pt Eb), (3, pt Ec), (4, pt Ea), (5, .int .u64 0), (6, zm c2_1), (7, .int .i64 2), (8, zm (a2 + b2)), (10, zm ((a1 + b1) + c2_0))] ∧ Ev w [] wo [.box Eb [zm ((a0 + b0) + (0 : UInt64)), zm ((a1 + b1) + c2_0), zm a2, zm a3] 24, .box Ec [zm b0, zm b1, zm b2, zm b3] 24, .box Ea (zg (zd 4 0)) 24]) ?_ ?_
 ·
  refine h_s (fun wv => Ev w [] wv [.box Eb [zm ((a0 + b0) + (0 : UInt64)), zm ((a1 + b1) + c2_0), zm a2, zm a3] 24, .box Ec [zm b0, zm b1, zm b2, zm b3] 24]) [] 8 ?_
  have Ee := Es.trans (zN Es.heap)
  refine q_s [0,1] [] 6 Et (Ee.pk [0, 1]) fun _ E4 => q_l 0 2 E4 (Ee.pk [0, 1]) fun _ E5 => q_s [3,4] [] 3 E5 (Ee.pk [0, 1]) fun _ E6 => q_l 1 5 E6 (Ee.pk [0, 1]) fun _ E7 => q_s [6,7] [(6, g_i .u64 (Zj (x := a2) (y := b2) rfl rfl))] 0 E7 (Ee.pk [0, 1]) fun _ E8 => ?_
  exact h_e ⟨E8.sb, Ee.pk [0, 1, 2]⟩
 rintro _ _ ⟨E9, Ek⟩
 refine ze <| d_s [2,3,4,5,6,7,8,9,10] [] E9 fun _ Ha => wp_seq <| wp_seq <| zj <| d_k [2,3,4,5,6,7,8,9,10,22,24] [] 3 Ha fun _ Hb => f_o <| m_l 0 Hb Ek fun _ Hc => d_e [2,3,4,5,6,7,8,9,10,26] [] Hc fun _ El => ?_
 refine ze <| QS (F := fun ac wo => ∃ (c1_2 : UInt64), Env ac 39 [(2, pt Eb), (3, pt Ec), (4, pt Ea), (5, .int .u64 0), (6, zm c2_1), (7, .int .i64 2), (8, zm (a2 + b2)), (9, zm c1_2), (10, zm ((a1 + b1) + c2_0))] ∧ Ev w [] wo [.box Eb [zm ((a0 + b0) + (0 : UInt64)), zm ((a1 + b1) + c2_0), zm a2, zm a3] 24, .box Ec [zm b0, zm b1, zm b2, zm b3] 24, .box Ea (zg (zd 4 0)) 24] ∧ (c1_2 = zS a2 b2 0)) ?_ ?_
 ·
  refine c_d (((zk (a2 + b2) : Nat) : Int) < ((zk a2 : Nat) : Int)) El (fun Hd => ?_) (fun Hd => ?_)
  ·
   refine d_r [2,3,4,5,6,7,8,9,10] [] El fun _ He => ?_
   exact ⟨rfl, ⟨(1 : UInt64), He.sb, Ek.pk [0, 1, 2], by rw [← carry1]; first | exact (if_pos (by omega)).symm | exact (if_neg (by omega)).symm⟩⟩
  refine wp_skip ?_
  exact ⟨rfl, ⟨(0 : UInt64), El.sb, Ek.pk [0, 1, 2], by rw [← carry1]; first | exact (if_pos (by omega)).symm | exact (if_neg (by omega)).symm⟩⟩
 rintro _ _ ⟨c1_2, Hf, Eu, hc1_2⟩
 refine ze <| d_s [2,3,4,5,6,7,8,9,10] [(2, g_i .u64 (Zj (x := a2 + b2) (y := c2_1) rfl rfl))] Hf fun _ Hg => wp_seq <| d_s [2,3,4,5,6,7,8,9,10,32] [] Hg fun _ Em => ?_
 have hle2 : zk c2_1 ≤ 1 := (by rw [hc2_1]; exact YI hle1)
 refine QS (F := fun ac wo => ∃ (c2_2 : UInt64), Env ac 39 [(2, pt Eb), (3, pt Ec), (4, pt Ea), (5, .int .u64 0), (6, zm c2_1), (7, .int .i64 2), (8, zm (a2 + b2)), (9, zm c2_2), (10, zm ((a2 + b2) + c2_1))] ∧ Ev w [] wo [.box Eb [zm ((a0 + b0) + (0 : UInt64)), zm ((a1 + b1) + c2_0), zm a2, zm a3] 24, .box Ec [zm b0, zm b1, zm b2, zm b3] 24, .box Ea (zg (zd 4 0)) 24] ∧ (c2_2 = zS a2 b2 c2_1)) ?_ ?_
 ·
  refine c_d (((zk ((a2 + b2) + c2_1) : Nat) : Int) < ((zk (a2 + b2) : Nat) : Int)) Em (fun Hh => ?_) (fun Hh => ?_)
  ·
   refine d_r [2,3,4,5,6,7,8,9,10] [] Em fun _ Hi => ?_
   exact ⟨rfl, ⟨(1 : UInt64), Hi.sb, Eu.pk [0, 1, 2], by rw [← carry2 hle2]; first | exact (if_pos (by omega)).symm | exact hc1_2.trans (if_neg (by omega)).symm⟩⟩
  refine wp_skip ?_
  exact ⟨rfl, ⟨c1_2, Em.sb, Eu.pk [0, 1, 2], by rw [← carry2 hle2]; first | exact (if_pos (by omega)).symm | exact hc1_2.trans (if_neg (by omega)).symm⟩⟩
 rintro _ _ ⟨c2_2, Hj, Hk, hc2_2⟩
 refine ze <| wp_seq <| zj <| d_k [2,3,4,5,6,7,8,9,10,34,35] [] 3 Hj fun _ Hl => f_o <| m_s 0 [.box Eb [zm ((a0 + b0) + (0 : UInt64)), zm ((a1 + b1) + c2_0), zm ((a2 + b2) + c2_1), zm a3] 24, .box Ec [zm b0, zm b1, zm b2, zm b3] 24, .box Ea (zg (zd 4 0)) 24] Hl Hk fun _ _ Hm Ew => f_e <| ze <| d_r [2,3,4,5,6,7,8,10] [] Hm fun _ Hn => zw <| ze <| d_r [2,3,4,5,6,7,8,10] [] Hn fun _ Ho => ?_
 refine ze <| z8 <| wp_seq <| d_s [2,3,4,5,6,7,8,10,12] [] Ho fun _ Ex => c_t Ex ?_
 refine wp_skip <| ze <| wp_seq <| wp_block <| wp_seq <| r_c (fun ac wo => Env ac 39 [(2, pt Eb), (3, pt Ec), (4, pt Ea), (5, .int .u64 0), (6, zm c2_2), (7, .int .i64 3), (8, zm (a3 + b3)), (10, zm ((a2 + b2) + c2_1))] ∧ Ev w [] wo [.box Eb [zm ((a0 + b0) + (0 : UInt64)), zm ((a1 + b1) + c2_0), zm ((a2 + b2) + c2_1), zm a3] 24, .box Ec [zm b0, zm b1, zm b2, zm b3] 24, .box Ea (zg (zd 4 0)) 24]) ?_ ?_
 ·
  refine h_s (fun wv => Ev w [] wv [.box Eb [zm ((a0 + b0) + (0 : UInt64)), zm ((a1 + b1) + c2_0), zm ((a2 + b2) + c2_1), zm a3] 24, .box Ec [zm b0, zm b1, zm b2, zm b3] 24]) [] 8 ?_
  have Ef := Ew.trans (zN Ew.heap)
  refine q_s [0,1] [] 6 Ex (Ef.pk [0, 1]) fun _ Hp => q_l 0 2 Hp (Ef.pk [0, 1]) fun _ Hq => q_s [3,4] [] 3 Hq (Ef.pk [0, 1]) fun _ Hr => q_l 1 5 Hr (Ef.pk [0, 1]) fun _ Hs => q_s [6,7] [(6, g_i .u64 (Zj (x := a3) (y := b3) rfl rfl))] 0 Hs (Ef.pk [0, 1]) fun _ Ht => ?_
  exact h_e ⟨Ht.sb, Ef.pk [0, 1, 2]⟩
 rintro _ _ ⟨Hu, En⟩
 refine ze <| d_s [2,3,4,5,6,7,8,9,10] [] Hu fun _ Hv => wp_seq <| wp_seq <| zj <| d_k [2,3,4,5,6,7,8,9,10,22,24] [] 3 Hv fun _ Hw => f_o <| m_l 0 Hw En fun _ Hx => d_e [2,3,4,5,6,7,8,9,10,26] [] Hx fun _ Eo => ?_
 refine ze <| QS (F := fun ac wo => ∃ (c1_3 : UInt64), Env ac 39 [(2, pt Eb), (3, pt Ec), (4, pt Ea), (5, .int .u64 0), (6, zm c2_2), (7, .int .i64 3), (8, zm (a3 + b3)), (9, zm c1_3), (10, zm ((a2 + b2) + c2_1))] ∧ Ev w [] wo [.box Eb [zm ((a0 + b0) + (0 : UInt64)), zm ((a1 + b1) + c2_0), zm ((a2 + b2) + c2_1), zm a3] 24, .box Ec [zm b0, zm b1, zm b2, zm b3] 24, .box Ea (zg (zd 4 0)) 24] ∧ (c1_3 = zS a3 b3 0)) ?_ ?_
 ·
  refine c_d (((zk (a3 + b3) : Nat) : Int) < ((zk a3 : Nat) : Int)) Eo (fun Hy => ?_) (fun Hy => ?_)
  ·
   refine d_r [2,3,4,5,6,7,8,9,10] [] Eo fun _ Hz => ?_
   exact ⟨rfl, ⟨(1 : UInt64), Hz.sb, En.pk [0, 1, 2], by rw [← carry1]; first | exact (if_pos (by omega)).symm | exact (if_neg (by omega)).symm⟩⟩
  refine wp_skip ?_
  exact ⟨rfl, ⟨(0 : UInt64), Eo.sb, En.pk [0, 1, 2], by rw [← carry1]; first | exact (if_pos (by omega)).symm | exact (if_neg (by omega)).symm⟩⟩
 rintro _ _ ⟨c1_3, HA, Ey, hc1_3⟩
 refine ze <| d_s [2,3,4,5,6,7,8,9,10] [(2, g_i .u64 (Zj (x := a3 + b3) (y := c2_2) rfl rfl))] HA fun _ HB => wp_seq <| d_s [2,3,4,5,6,7,8,9,10,32] [] HB fun _ Ep => ?_
 have hle3 : zk c2_2 ≤ 1 := (by rw [hc2_2]; exact YI hle2)
 refine QS (F := fun ac wo => ∃ (c2_3 : UInt64), Env ac 39 [(2, pt Eb), (3, pt Ec), (4, pt Ea), (5, .int .u64 0), (6, zm c2_2), (7, .int .i64 3), (8, zm (a3 + b3)), (9, zm c2_3), (10, zm ((a3 + b3) + c2_2))] ∧ Ev w [] wo [.box Eb [zm ((a0 + b0) + (0 : UInt64)), zm ((a1 + b1) + c2_0), zm ((a2 + b2) + c2_1), zm a3] 24, .box Ec [zm b0, zm b1, zm b2, zm b3] 24, .box Ea (zg (zd 4 0)) 24] ∧ (c2_3 = zS a3 b3 c2_2)) ?_ ?_
 ·
  refine c_d (((zk ((a3 + b3) + c2_2) : Nat) : Int) < ((zk (a3 + b3) : Nat) : Int)) Ep (fun HC => ?_) (fun HC => ?_)
  ·
   refine d_r [2,3,4,5,6,7,8,9,10] [] Ep fun _ HD => ?_
   exact ⟨rfl, ⟨(1 : UInt64), HD.sb, Ey.pk [0, 1, 2], by rw [← carry2 hle3]; first | exact (if_pos (by omega)).symm | exact hc1_3.trans (if_neg (by omega)).symm⟩⟩
  refine wp_skip ?_
  exact ⟨rfl, ⟨c1_3, Ep.sb, Ey.pk [0, 1, 2], by rw [← carry2 hle3]; first | exact (if_pos (by omega)).symm | exact hc1_3.trans (if_neg (by omega)).symm⟩⟩
 rintro _ _ ⟨c2_3, HE, HF, hc2_3⟩
 refine ze <| wp_seq <| zj <| d_k [2,3,4,5,6,7,8,9,10,34,35] [] 3 HE fun _ HG => f_o <| m_s 0 [.box Eb [zm ((a0 + b0) + (0 : UInt64)), zm ((a1 + b1) + c2_0), zm ((a2 + b2) + c2_1), zm ((a3 + b3) + c2_2)] 24, .box Ec [zm b0, zm b1, zm b2, zm b3] 24, .box Ea (zg (zd 4 0)) 24] HG HF fun _ _ HH Ez => f_e <| ze <| d_r [2,3,4,5,6,7,8,10] [] HH fun _ HI => zw <| ze <| d_r [2,3,4,5,6,7,8,10] [] HI fun _ HJ => ?_
 refine ze <| z8 <| wp_seq <| d_s [2,3,4,5,6,7,8,10,12] [] HJ fun _ EA => c_f EA ?_
 refine wp_exit <| zF <| zF <| zX <| ze <| wp_seq <| zj <| f_o <| m_a 0 0 4 [zm ((a0 + b0) + (0 : UInt64)), zm ((a1 + b1) + c2_0), zm ((a2 + b2) + c2_1), zm ((a3 + b3) + c2_2)] EA Ez rfl rfl rfl fun _ HK => d_k [2,3,4,5,6,7,8,10,37,38] [] 2 HK fun _ HL => f_o <| zW 2 4 [zm ((a0 + b0) + (0 : UInt64)), zm ((a1 + b1) + c2_0), zm ((a2 + b2) + c2_1), zm ((a3 + b3) + c2_2)] _ HL Ez rfl rfl (za (zh)) (one_all (by kernel_rfl)) rfl fun _ _ HM EB => d_e [2,3,4,5,6,7,8,10] [] HM fun _ HN => ze <| wp_ret <| d_cell_tmp (v := .agg #[zm ((a0 + b0) + (0 : UInt64)), zm ((a1 + b1) + c2_0), zm ((a2 + b2) + c2_1), zm ((a3 + b3) + c2_2)]) (x := zm c2_3) (t := 4) (T := 24) (ad := ⟨Ea, 0, none⟩) (u := 5) HN (by kernel_rfl) (by kernel_rfl) (zC (t := 24) (k := 2) (off := 0) (m := 4) (xs := [zm ((a0 + b0) + (0 : UInt64)), zm ((a1 + b1) + c2_0), zm ((a2 + b2) + c2_1), zm ((a3 + b3) + c2_2)]) EB rfl rfl rfl (by kernel_rfl) (by kernel_rfl)) (by kernel_rfl) ?_
 subst hc2_0
 subst hc2_1
 subst hc2_2
 subst hc2_3
 exact ⟨rfl, EB.pk []⟩
theorem rplus_go (w : World) (a b : List UInt64) (ha : zf a = 4) (hb : zf b = 4) : Calls zB 69 #[.agg (zc (zg a)), .agg (zc (zg b))] w fun e w' => e = .returned (.tuple #[.agg (zc (zg (nd (nv a + nv b)))), zm (u1 (zR ≤ nv a + nv b))]) ∧ Ev w [] w' [] := by
  rw [← plus_nd ha hb, ← ad_nd ha hb]
  match a, ha, b, hb with
  | [a0, a1, a2, a3], _, [b0, b1, b2, b3], _ => exact rplus4 w a0 a1 a2 a3 b0 b1 b2 b3
theorem compl_val (x : UInt64) : (~~~ x).toNat = 18446744073709551615 - x.toNat := by
  rw [UInt64.toNat_not]
  rfl
theorem rmin_eq (a0 a1 a2 a3 b0 b1 b2 b3 : UInt64) : nd (nv (nd (nv [a0, a1, a2, a3] + nv [~~~ b0, ~~~ b1, ~~~ b2, ~~~ b3])) + nv [(1 : UInt64), 0, 0, 0]) = nd (nv [a0, a1, a2, a3] + zR - nv [b0, b1, b2, b3]) := by
  have hb := nv_lt (l := [b0, b1, b2, b3]) rfl
  have hc : nv [~~~ b0, ~~~ b1, ~~~ b2, ~~~ b3] + nv [b0, b1, b2, b3] + 1 = zR := by
    rw [nv4, nv4, compl_val, compl_val, compl_val, compl_val]
    have := Qc b0; have := Qc b1; have := Qc b2; have := Qc b3
    simp only [zR]
    omega
  rw [JE, num1, show (1 : UInt64).toNat = 1 from rfl, ← JS, ← JS (_ - _)]
  congr 1
  simp only [zR] at *
  omega
theorem rminus4 (w : World) (a0 a1 a2 a3 b0 b1 b2 b3 : UInt64) : Calls zB 60 #[.agg #[zm a0, zm a1, zm a2, zm a3], .agg #[zm b0, zm b1, zm b2, zm b3]] w fun e w' => e = .returned (.agg (zc (zg (nd (nv [a0, a1, a2, a3] + zR - nv [b0, b1, b2, b3]))))) ∧ Ev w [] w' [] := by
 refine d_0 [(0, .agg #[zm a0, zm a1, zm a2, zm a3]), (1, .agg #[zm b0, zm b1, zm b2, zm b3])] 33 Tryz.func60 Tryz.ntmps60 (Heap.nil _) fun Ha Hb Hc => wp_seq <| zj <| f_o <| m_m 24 [zm a0, zm a1, zm a2, zm a3] Hb Hc fun _ _ Ee Hd He => f_o <| m_m 24 [zm b0, zm b1, zm b2, zm b3] Hd He fun _ _ Ef Hf ED => f_o <| m_z 24 (zg (zd 4 0)) Hf ED fun _ _ Ea EE Eg => f_e <| ze <| wp_seq <| d_s [2,3,4,5] [] EE fun _ EF => ?_
 refine wp_block <| Ym ?_
 refine z8 <| wp_seq <| d_s [2,3,4,5,11] [] EF fun _ Eh => c_t Eh ?_
 refine wp_skip <| ze <| wp_seq <| wp_block <| zj <| d_k [2,3,4,5,14,16] [] 3 Eh fun _ EG => f_o <| m_l 1 EG Eg fun _ EH => d_k [2,3,4,5,18,19] [(4, g_i .u64 (YV (x := 18446744073709551615) (y := b0) rfl rfl))] 6 EH fun _ EI => f_o <| m_s 1 [.box Ee [zm a0, zm a1, zm a2, zm a3] 24, .box Ef [zm ((18446744073709551615 : UInt64) ^^^ b0), zm b1, zm b2, zm b3] 24, .box Ea (zg (zd 4 0)) 24] EI Eg fun _ _ EJ Ei => f_e <| zw <| ze <| d_r [2,3,4,5] [] EJ fun _ EK => ?_
 refine ze <| z8 <| wp_seq <| d_s [2,3,4,5,11] [] EK fun _ Ej => c_t Ej ?_
 refine wp_skip <| ze <| wp_seq <| wp_block <| zj <| d_k [2,3,4,5,14,16] [] 3 Ej fun _ EL => f_o <| m_l 1 EL Ei fun _ EM => d_k [2,3,4,5,18,19] [(4, g_i .u64 (YV (x := 18446744073709551615) (y := b1) rfl rfl))] 6 EM fun _ EN => f_o <| m_s 1 [.box Ee [zm a0, zm a1, zm a2, zm a3] 24, .box Ef [zm ((18446744073709551615 : UInt64) ^^^ b0), zm ((18446744073709551615 : UInt64) ^^^ b1), zm b2, zm b3] 24, .box Ea (zg (zd 4 0)) 24] EN Ei fun _ _ EO Ek => f_e <| zw <| ze <| d_r [2,3,4,5] [] EO fun _ EP => ?_
 refine ze <| z8 <| wp_seq <| d_s [2,3,4,5,11] [] EP fun _ El => c_t El ?_
 refine wp_skip <| ze <| wp_seq <| wp_block <| zj <| d_k [2,3,4,5,14,16] [] 3 El fun _ EQ => f_o <| m_l 1 EQ Ek fun _ ER => d_k [2,3,4,5,18,19] [(4, g_i .u64 (YV (x := 18446744073709551615) (y := b2) rfl rfl))] 6 ER fun _ ES => f_o <| m_s 1 [.box Ee [zm a0, zm a1, zm a2, zm a3] 24, .box Ef [zm ((18446744073709551615 : UInt64) ^^^ b0), zm ((18446744073709551615 : UInt64) ^^^ b1), zm ((18446744073709551615 : UInt64) ^^^ b2), zm b3] 24, .box Ea (zg (zd 4 0)) 24] ES Ek fun _ _ ET Em => f_e <| zw <| ze <| d_r [2,3,4,5] [] ET fun _ EU => ?_
 refine ze <| z8 <| wp_seq <| d_s [2,3,4,5,11] [] EU fun _ En => c_t En ?_
 refine wp_skip <| ze <| wp_seq <| wp_block <| zj <| d_k [2,3,4,5,14,16] [] 3 En fun _ EV => f_o <| m_l 1 EV Em fun _ EW => d_k [2,3,4,5,18,19] [(4, g_i .u64 (YV (x := 18446744073709551615) (y := b3) rfl rfl))] 6 EW fun _ EX => f_o <| m_s 1 [.box Ee [zm a0, zm a1, zm a2, zm a3] 24, .box Ef [zm ((18446744073709551615 : UInt64) ^^^ b0), zm ((18446744073709551615 : UInt64) ^^^ b1), zm ((18446744073709551615 : UInt64) ^^^ b2), zm ((18446744073709551615 : UInt64) ^^^ b3)] 24, .box Ea (zg (zd 4 0)) 24] EX Em fun _ _ EY Ed => f_e <| zw <| ze <| d_r [2,3,4,5] [] EY fun _ EZ => ?_
 refine ze <| z8 <| wp_seq <| d_s [2,3,4,5,11] [] EZ fun _ Eo => c_f Eo ?_
 refine wp_exit <| zF <| zF <| zX <| ze <| wp_seq <| zj <| f_o <| m_a 0 0 4 [zm a0, zm a1, zm a2, zm a3] Eo Ed rfl rfl rfl fun _ E0 => f_o <| m_a 1 0 4 [zm ((18446744073709551615 : UInt64) ^^^ b0), zm ((18446744073709551615 : UInt64) ^^^ b1), zm ((18446744073709551615 : UInt64) ^^^ b2), zm ((18446744073709551615 : UInt64) ^^^ b3)] E0 Ed rfl rfl rfl fun _ E1 => f_o <| c_p E1 Ed (rplus_go _ [a0, a1, a2, a3] [(18446744073709551615 : UInt64) ^^^ b0, (18446744073709551615 : UInt64) ^^^ b1, (18446744073709551615 : UInt64) ^^^ b2, (18446744073709551615 : UInt64) ^^^ b3] rfl rfl) fun _ _ E2 E3 => d_k [3,4,5,24,25] [] 6 E2 fun _ E4 => f_o <| m_z 24 (zg (zd 4 0)) E4 E3 fun _ _ E5 E6 E7 => f_o <| zW 3 4 (zg (nd (nv [a0, a1, a2, a3] + nv [(18446744073709551615 : UInt64) ^^^ b0, (18446744073709551615 : UInt64) ^^^ b1, (18446744073709551615 : UInt64) ^^^ b2, (18446744073709551615 : UInt64) ^^^ b3]))) _ E6 E7 rfl (za (zl _ _)) (za (zh)) (zq _) rfl fun _ _ E8 Ep => ?_
 refine d_e [3,4,5,6] [] E8 fun _ E9 => ze <| wp_seq <| zj <| f_o <| Zn 3 4 (zg (nd (nv [a0, a1, a2, a3] + nv [(18446744073709551615 : UInt64) ^^^ b0, (18446744073709551615 : UInt64) ^^^ b1, (18446744073709551615 : UInt64) ^^^ b2, (18446744073709551615 : UInt64) ^^^ b3]))) E9 Ep rfl (za (zl _ _)) fun _ Eq => d_k [3,4,5,6,27,28] [] 2 Eq fun _ Er => f_o <| c_p Er Ep (rplus_go _ (nd (nv [a0, a1, a2, a3] + nv [(18446744073709551615 : UInt64) ^^^ b0, (18446744073709551615 : UInt64) ^^^ b1, (18446744073709551615 : UInt64) ^^^ b2, (18446744073709551615 : UInt64) ^^^ b3])) ([1, 0, 0, 0] : List UInt64) (zl _ _) (show zf ([1, 0, 0, 0] : List UInt64) = 4 from rfl)) fun _ _ Es Et => d_k [3,4,5,6,30,31] [] 6 Es fun _ Eu => f_o <| m_z 24 (zg (zd 4 0)) Eu Et fun _ _ Ew Ex Ey => ?_
 refine f_o <| zW 4 4 (zg (nd (nv (nd (nv [a0, a1, a2, a3] + nv [(18446744073709551615 : UInt64) ^^^ b0, (18446744073709551615 : UInt64) ^^^ b1, (18446744073709551615 : UInt64) ^^^ b2, (18446744073709551615 : UInt64) ^^^ b3])) + nv ([1, 0, 0, 0] : List UInt64)))) [.box Ee [zm a0, zm a1, zm a2, zm a3] 24, .box Ef [zm ((18446744073709551615 : UInt64) ^^^ b0), zm ((18446744073709551615 : UInt64) ^^^ b1), zm ((18446744073709551615 : UInt64) ^^^ b2), zm ((18446744073709551615 : UInt64) ^^^ b3)] 24, .box Ea (zg (zd 4 0)) 24, .box E5 (zg (nd (nv [a0, a1, a2, a3] + nv [(18446744073709551615 : UInt64) ^^^ b0, (18446744073709551615 : UInt64) ^^^ b1, (18446744073709551615 : UInt64) ^^^ b2, (18446744073709551615 : UInt64) ^^^ b3]))) 24, .box Ew (zg (nd (nv (nd (nv [a0, a1, a2, a3] + nv [(18446744073709551615 : UInt64) ^^^ b0, (18446744073709551615 : UInt64) ^^^ b1, (18446744073709551615 : UInt64) ^^^ b2, (18446744073709551615 : UInt64) ^^^ b3])) + nv ([1, 0, 0, 0] : List UInt64)))) 24] Ex Ey rfl (za (zl _ _)) (za (zh)) (zq _) rfl fun _ _ Ez Eb => d_e [3,4,5,6,8] [] Ez fun _ EA => ze <| wp_seq <| zj <| f_o <| Zn 4 4 (zg (nd (nv (nd (nv [a0, a1, a2, a3] + nv [(18446744073709551615 : UInt64) ^^^ b0, (18446744073709551615 : UInt64) ^^^ b1, (18446744073709551615 : UInt64) ^^^ b2, (18446744073709551615 : UInt64) ^^^ b3])) + nv ([1, 0, 0, 0] : List UInt64)))) EA Eb rfl (za (zl _ _)) fun _ EB => f_o <| zW 2 4 (zg (nd (nv (nd (nv [a0, a1, a2, a3] + nv [(18446744073709551615 : UInt64) ^^^ b0, (18446744073709551615 : UInt64) ^^^ b1, (18446744073709551615 : UInt64) ^^^ b2, (18446744073709551615 : UInt64) ^^^ b3])) + nv ([1, 0, 0, 0] : List UInt64)))) _ EB Eb rfl (za (zl _ _)) (za (zh)) (zq _) rfl fun _ _ EC Ec => f_e <| ze <| wp_ret <| zU (v := .agg (zc (zg (nd (nv (nd (nv [a0, a1, a2, a3] + nv [(18446744073709551615 : UInt64) ^^^ b0, (18446744073709551615 : UInt64) ^^^ b1, (18446744073709551615 : UInt64) ^^^ b2, (18446744073709551615 : UInt64) ^^^ b3])) + nv ([1, 0, 0, 0] : List UInt64)))))) (t := 4) (T := 24) (ad := ⟨Ea, 0, none⟩) EC (by kernel_rfl) (by kernel_rfl) (zC (t := 24) (k := 2) (off := 0) (m := 4) (xs := zg (nd (nv (nd (nv [a0, a1, a2, a3] + nv [(18446744073709551615 : UInt64) ^^^ b0, (18446744073709551615 : UInt64) ^^^ b1, (18446744073709551615 : UInt64) ^^^ b2, (18446744073709551615 : UInt64) ^^^ b3])) + nv ([1, 0, 0, 0] : List UInt64)))) Ec rfl (zn (za (zl _ _))) (za (zl _ _)) (by kernel_rfl) (by kernel_rfl)) ?_
 have e : nd (nv (nd (nv [a0, a1, a2, a3] + nv [(18446744073709551615 : UInt64) ^^^ b0, (18446744073709551615 : UInt64) ^^^ b1, (18446744073709551615 : UInt64) ^^^ b2, (18446744073709551615 : UInt64) ^^^ b3])) + nv ([1, 0, 0, 0] : List UInt64)) = nd (nv [a0, a1, a2, a3] + zR - nv [b0, b1, b2, b3]) := rmin_eq a0 a1 a2 a3 b0 b1 b2 b3
 rw [e]
 exact ⟨rfl, Ec.pk []⟩
theorem rminus_go (w : World) (a b : List UInt64) (ha : zf a = 4) (hb : zf b = 4) : Calls zB 60 #[.agg (zc (zg a)), .agg (zc (zg b))] w fun e w' => e = .returned (.agg (zc (zg (nd (nv a + zR - nv b))))) ∧ Ev w [] w' [] := by
  match a, ha, b, hb with
  | [a0, a1, a2, a3], _, [b0, b1, b2, b3], _ => exact rminus4 w a0 a1 a2 a3 b0 b1 b2 b3
theorem rmod_1 (w : World)  : Calls zB 54 #[.int .i64 1] w fun e w' => e = .returned (.agg (zc (zg (nd (mF 1))))) ∧ Ev w [] w' [] := by
 refine d_0 [(0, .int .i64 1)] 17 Tryz.func54 Tryz.ntmps54 (Heap.nil _) fun Ee Ef Eg => wp_seq <| zj <| f_o <| m_z 24 (zg (zd 4 0)) Ef Eg fun _ _ Eh Ei Ej => f_e <| ze <| wp_seq <| d_s [2,3] [] Ei fun _ Ek => wp_block <| d_s [2,3,4] [] Ek fun _ Ed => c_t Ed ?_
 refine wp_seq <| zj <| d_k [2,3,6] [] 1 Ed fun _ Eb => f_o <| zW 0 4 (zg ([18446744073709551597, 18446744073709551615, 18446744073709551615, 9223372036854775807] : List UInt64)) _ Eb Ej rfl (za (show zf ([18446744073709551597, 18446744073709551615, 18446744073709551615, 9223372036854775807] : List UInt64) = 4 from rfl)) (za (zh)) (zq _) rfl fun _ _ Ec Ea => f_e <| ze <| wp_ret <| ZY <| z9 <| zU (v := .agg (zc (zg ([18446744073709551597, 18446744073709551615, 18446744073709551615, 9223372036854775807] : List UInt64)))) (t := 2) (T := 24) (ad := ⟨Eh, 0, none⟩) Ec (by kernel_rfl) (by kernel_rfl) (zC (t := 24) (k := 0) (off := 0) (m := 4) (xs := zg ([18446744073709551597, 18446744073709551615, 18446744073709551615, 9223372036854775807] : List UInt64)) Ea rfl (zn (za (show zf ([18446744073709551597, 18446744073709551615, 18446744073709551615, 9223372036854775807] : List UInt64) = 4 from rfl))) (za (show zf ([18446744073709551597, 18446744073709551615, 18446744073709551615, 9223372036854775807] : List UInt64) = 4 from rfl)) (by kernel_rfl) (by kernel_rfl)) ?_
 exact ⟨by kernel_rfl, Ea.pk []⟩
theorem rmod_2 (w : World)  : Calls zB 54 #[.int .i64 2] w fun e w' => e = .returned (.agg (zc (zg (nd (mF 2))))) ∧ Ev w [] w' [] := by
 refine d_0 [(0, .int .i64 2)] 17 Tryz.func54 Tryz.ntmps54 (Heap.nil _) fun Ef Eg Eh => wp_seq <| zj <| f_o <| m_z 24 (zg (zd 4 0)) Eg Eh fun _ _ Ei Ej Ek => f_e <| ze <| wp_seq <| d_s [2,3] [] Ej fun _ El => wp_block <| d_s [2,3,4] [] El fun _ Ee => c_f Ee ?_
 refine d_s [2,3,7] [] Ee fun _ Ea => c_t Ea ?_
 refine wp_seq <| zj <| d_k [2,3,9] [] 1 Ea fun _ Ec => f_o <| zW 0 4 (zg ([18446744073709551615, 4294967295, 0, 18446744069414584321] : List UInt64)) _ Ec Ek rfl (za (show zf ([18446744073709551615, 4294967295, 0, 18446744069414584321] : List UInt64) = 4 from rfl)) (za (zh)) (zq _) rfl fun _ _ Ed Eb => f_e <| ze <| wp_ret <| ZY <| z9 <| zU (v := .agg (zc (zg ([18446744073709551615, 4294967295, 0, 18446744069414584321] : List UInt64)))) (t := 2) (T := 24) (ad := ⟨Ei, 0, none⟩) Ed (by kernel_rfl) (by kernel_rfl) (zC (t := 24) (k := 0) (off := 0) (m := 4) (xs := zg ([18446744073709551615, 4294967295, 0, 18446744069414584321] : List UInt64)) Eb rfl (zn (za (show zf ([18446744073709551615, 4294967295, 0, 18446744069414584321] : List UInt64) = 4 from rfl))) (za (show zf ([18446744073709551615, 4294967295, 0, 18446744069414584321] : List UInt64) = 4 from rfl)) (by kernel_rfl) (by kernel_rfl)) ?_
 exact ⟨by kernel_rfl, Eb.pk []⟩
theorem rmod_3 (w : World)  : Calls zB 54 #[.int .i64 3] w fun e w' => e = .returned (.agg (zc (zg (nd (mF 3))))) ∧ Ev w [] w' [] := by
 refine d_0 [(0, .int .i64 3)] 17 Tryz.func54 Tryz.ntmps54 (Heap.nil _) fun Eg Eh Ei => wp_seq <| zj <| f_o <| m_z 24 (zg (zd 4 0)) Eh Ei fun _ _ Ej Ek El => f_e <| ze <| wp_seq <| d_s [2,3] [] Ek fun _ Em => wp_block <| d_s [2,3,4] [] Em fun _ Ef => c_f Ef ?_
 refine d_s [2,3,7] [] Ef fun _ Ea => c_f Ea ?_
 refine d_s [2,3,10] [] Ea fun _ Eb => c_t Eb ?_
 refine wp_seq <| zj <| d_k [2,3,12] [] 1 Eb fun _ Ed => f_o <| zW 0 4 (zg ([17562291160714782033, 13611842547513532036, 18446744073709551615, 18446744069414584320] : List UInt64)) _ Ed El rfl (za (show zf ([17562291160714782033, 13611842547513532036, 18446744073709551615, 18446744069414584320] : List UInt64) = 4 from rfl)) (za (zh)) (zq _) rfl fun _ _ Ee Ec => f_e <| ze <| wp_ret <| ZY <| z9 <| zU (v := .agg (zc (zg ([17562291160714782033, 13611842547513532036, 18446744073709551615, 18446744069414584320] : List UInt64)))) (t := 2) (T := 24) (ad := ⟨Ej, 0, none⟩) Ee (by kernel_rfl) (by kernel_rfl) (zC (t := 24) (k := 0) (off := 0) (m := 4) (xs := zg ([17562291160714782033, 13611842547513532036, 18446744073709551615, 18446744069414584320] : List UInt64)) Ec rfl (zn (za (show zf ([17562291160714782033, 13611842547513532036, 18446744073709551615, 18446744069414584320] : List UInt64) = 4 from rfl))) (za (show zf ([17562291160714782033, 13611842547513532036, 18446744073709551615, 18446744069414584320] : List UInt64) = 4 from rfl)) (by kernel_rfl) (by kernel_rfl)) ?_
 exact ⟨by kernel_rfl, Ec.pk []⟩
theorem rmod_4 (w : World)  : Calls zB 54 #[.int .i64 4] w fun e w' => e = .returned (.agg (zc (zg (nd (mF 4))))) ∧ Ev w [] w' [] := by
 refine d_0 [(0, .int .i64 4)] 17 Tryz.func54 Tryz.ntmps54 (Heap.nil _) fun Eh Ei Ej => wp_seq <| zj <| f_o <| m_z 24 (zg (zd 4 0)) Ei Ej fun _ _ Ek El Em => f_e <| ze <| wp_seq <| d_s [2,3] [] El fun _ En => wp_block <| d_s [2,3,4] [] En fun _ Eg => c_f Eg ?_
 refine d_s [2,3,7] [] Eg fun _ Ea => c_f Ea ?_
 refine d_s [2,3,10] [] Ea fun _ Eb => c_f Eb ?_
 refine d_s [2,3,13] [] Eb fun _ Ec => c_t Ec ?_
 refine wp_seq <| zj <| d_k [2,3,15] [] 1 Ec fun _ Ee => f_o <| zW 0 4 (zg ([6346243789798364141, 1503914060200516822, 0, 1152921504606846976] : List UInt64)) _ Ee Em rfl (za (show zf ([6346243789798364141, 1503914060200516822, 0, 1152921504606846976] : List UInt64) = 4 from rfl)) (za (zh)) (zq _) rfl fun _ _ Ef Ed => f_e <| ze <| wp_ret <| ZY <| z9 <| zU (v := .agg (zc (zg ([6346243789798364141, 1503914060200516822, 0, 1152921504606846976] : List UInt64)))) (t := 2) (T := 24) (ad := ⟨Ek, 0, none⟩) Ef (by kernel_rfl) (by kernel_rfl) (zC (t := 24) (k := 0) (off := 0) (m := 4) (xs := zg ([6346243789798364141, 1503914060200516822, 0, 1152921504606846976] : List UInt64)) Ed rfl (zn (za (show zf ([6346243789798364141, 1503914060200516822, 0, 1152921504606846976] : List UInt64) = 4 from rfl))) (za (show zf ([6346243789798364141, 1503914060200516822, 0, 1152921504606846976] : List UInt64) = 4 from rfl)) (by kernel_rfl) (by kernel_rfl)) ?_
 exact ⟨by kernel_rfl, Ed.pk []⟩
theorem rmod_0 (w : World) (f : Int)  (hf : ¬ (f = 1 ∨ f = 2 ∨ f = 3 ∨ f = 4)) : Calls zB 54 #[.int .i64 f] w fun e w' => e = .returned (.agg (zc (zg (nd (mF 0))))) ∧ Ev w [] w' [] := by
 refine d_0 [(0, .int .i64 f)] 17 Tryz.func54 Tryz.ntmps54 (Heap.nil _) fun El Em En => wp_seq <| zj <| f_o <| m_z 24 (zg (zd 4 0)) Em En fun _ _ Eo Ep Eq => f_e <| ze <| wp_seq <| d_s [2,3] [] Ep fun _ Er => wp_block <| d_s [2,3,4] [] Er fun _ Ek => ?_
 refine c_e f (1 : Int) Ek (fun Ea => ?_) (fun Ea => ?_)
 ·
  exact absurd Ea (by omega)
 refine d_s [2,3,7] [] Ek fun _ Eb => ?_
 refine c_e f (2 : Int) Eb (fun Ec => ?_) (fun Ec => ?_)
 ·
  exact absurd Ec (by omega)
 refine d_s [2,3,10] [] Eb fun _ Ed => ?_
 refine c_e f (3 : Int) Ed (fun Ee => ?_) (fun Ee => ?_)
 ·
  exact absurd Ee (by omega)
 refine d_s [2,3,13] [] Ed fun _ Ef => ?_
 refine c_e f (4 : Int) Ef (fun Eg => ?_) (fun Eg => ?_)
 ·
  exact absurd Eg (by omega)
 refine wp_skip <| zw <| ze <| wp_seq <| zj <| d_k [2,3,16] [] 1 Ef fun _ Ei => f_o <| zW 0 4 (zg ([0, 0, 0, 0] : List UInt64)) _ Ei Eq rfl (za (show zf ([0, 0, 0, 0] : List UInt64) = 4 from rfl)) (za (zh)) (zq _) rfl fun _ _ Ej Eh => f_e <| ze <| wp_ret <| zU (v := .agg (zc (zg ([0, 0, 0, 0] : List UInt64)))) (t := 2) (T := 24) (ad := ⟨Eo, 0, none⟩) Ej (by kernel_rfl) (by kernel_rfl) (zC (t := 24) (k := 0) (off := 0) (m := 4) (xs := zg ([0, 0, 0, 0] : List UInt64)) Eh rfl (zn (za (show zf ([0, 0, 0, 0] : List UInt64) = 4 from rfl))) (za (show zf ([0, 0, 0, 0] : List UInt64) = 4 from rfl)) (by kernel_rfl) (by kernel_rfl)) ?_
 exact ⟨by kernel_rfl, Eh.pk []⟩
theorem rmodulus_go (w : World) (f : Int) : Calls zB 54 #[.int .i64 f] w fun e w' => e = .returned (.agg (zc (zg (nd (mF f))))) ∧ Ev w [] w' [] := by
  by_cases hf : f = 1 ∨ f = 2 ∨ f = 3 ∨ f = 4
  · rcases hf with rfl | rfl | rfl | rfl
    · exact rmod_1 w
    · exact rmod_2 w
    · exact rmod_3 w
    · exact rmod_4 w
  · rw [mF_none hf]
    exact rmod_0 w f hf
theorem ris_go (w : World) (f : Int) : Calls zB 62 #[.int .i64 f] w fun e w' => e = .returned (.bool (decide (f = 1 ∨ f = 2 ∨ f = 3 ∨ f = 4))) ∧ Ev w [] w' [] := by
 refine d_0 [(0, .int .i64 f)] 9 Tryz.func62 Tryz.ntmps62 (Heap.nil _) fun Ef Eg Ed => d_s [0,2] [] Eg fun _ Eh => wp_seq <| zj <| d_k [0,2,5] [] 3 Eh fun _ Ee => ?_
 rcases zM (decide (f ≥ (1 : Int))) with Ea | Ea
 ·
  have Ei := Ee.fx (t := 5) (congrArg Value.bool Ea)
  have hp7 : f ≥ (1 : Int) := of_decide_eq_true Ea
  refine d_e [2] [] Ei fun _ Ej => ze <| wp_ret <| ZH (t := 2) (v := .bool (decide (f ≤ (4 : Int)))) Ej (by kernel_rfl) (by kernel_rfl) ?_
  have e : (decide (f ≤ (4 : Int))) = decide (f = 1 ∨ f = 2 ∨ f = 3 ∨ f = 4) := by
   by_cases hq : f = 1 ∨ f = 2 ∨ f = 3 ∨ f = 4
   · rw [decide_eq_true hq] <;> first | rfl | exact decide_eq_true (by omega) | (exfalso; omega)
   · rw [decide_eq_false hq] <;> first | rfl | exact decide_eq_false (by omega) | (exfalso; omega)
  exact ⟨by rw [e], Ed.pk []⟩
 have Eb := Ee.fx (t := 5) (congrArg Value.bool Ea)
 have hp11 : ¬ (f ≥ (1 : Int)) := of_decide_eq_false Ea
 refine d_e [2] [] Eb fun _ Ec => ze <| wp_ret <| ZH (t := 2) (v := .bool false) Ec (by kernel_rfl) (by kernel_rfl) ?_
 have e : (false) = decide (f = 1 ∨ f = 2 ∨ f = 3 ∨ f = 4) := by
  by_cases hq : f = 1 ∨ f = 2 ∨ f = 3 ∨ f = 4
  · rw [decide_eq_true hq] <;> first | rfl | exact decide_eq_true (by omega) | (exfalso; omega)
  · rw [decide_eq_false hq] <;> first | rfl | exact decide_eq_false (by omega) | (exfalso; omega)
 exact ⟨by rw [e], Ed.pk []⟩
theorem ris_go_yes (w : World) (f : Int) (hf : f = 1 ∨ f = 2 ∨ f = 3 ∨ f = 4) : Calls zB 62 #[.int .i64 f] w fun e w' => e = .returned (.bool true) ∧ Ev w [] w' [] := by
  have h := ris_go w f
  rwa [decide_eq_true hf] at h
end Go.Proofs.YtpfhmbbiadpbeaaGreat
