import Derived.Test.YtlnogkmnklfjlaaGreatDoorSg3
open List renaming length → zb, replicate → zd, toArray → zg, length_replicate → zi, getD_eq_getElem?_getD → zI, length_cons → zX
open UInt64 renaming ofNat → zc, toNat → zw, toNat_add → ZN, toNat_inj → Qr
open Go.Dbr renaming then_normal → ze, u64s_lenh → zf, u64s → zh, region_from → zk, uv64 → zm, load_whole → zq, u64s_one → zt, block_normal → zv, then_exit → zy, loop_once → zF, block_exit → zL, run_loadAgg2 → zM, m_gw → zQ, addHi → zT, d_cell1 → z9, h_from → Zl, m_aw → Zp, then_ret → ZE, block_ret → Z8, lt64 → Qb, h_ways → Qk, h_to → Ql, d_ret1 → Qu, region_cut → QH, loop_enter → QI, addHi_le → YM, addHi_val → JG
open Go.Proofs.YtlnogkmnklfjlaaGreatDoor renaming nds_len → zl, W256 → zU, mod_lt_w → Qm, nv_nd → Qw, mF_pos → Jn, minus_go → JO, nd_mod → JW
open Go.Dbr.Ev renaming cellAgg → zB, drew → zO
open Nat renaming mod_eq_of_lt → zG, lt_trans → Zu, shiftLeft_eq → Zy, mod_lt → ZL, zero_lt_one → QS, mod_eq_sub_mod → Yf
open Bool renaming eq_false_or_eq_true → ZB
namespace Go.Proofs.YtlnogkmnklfjlaaGreatDoor
open Go.Dbr
set_option maxRecDepth 100000
set_option maxHeartbeats 2000000
set_option linter.unusedVariables false
set_option linter.unusedSimpArgs false
theorem mod_1 (w : World)  : Calls Tryz.prog 51 #[.int .i64 1] w fun e w' => e = .returned (.agg (zg (zh (nd (mF 1))))) ∧ Ev w [] w' [] := by
 refine d_0 [(0, .int .i64 1)] 19 Go.Proofs.Tryz.func51 Go.Proofs.Tryz.ntmps51 (Heap.nil _) fun Ef Eg Eh => wp_seq <| zk <| f_o <| m_z 33 (zh (zd 4 0)) Eg Eh fun _ _ Ei Ej Ek => f_e <| ze <| wp_seq <| d_s [2,3] [] Ej fun _ El => wp_block <| d_s [2,3,4] [] El fun _ Ee => ?_
 refine c_t Ee ?_
 refine wp_seq <| zk <| f_o <| c_p Ee Ek (prime1_go _) fun _ _ Eb Ec => f_o <| zQ 0 4 (zh (nd (mF 1))) _ Eb Ec rfl (zf (zl _ _)) (zf (zi)) (zt _) rfl fun _ _ Ed Ea => f_e <| ze <| wp_ret <| Z8 <| ZE <| z9 (v := .agg (zg (zh (nd (mF 1))))) (t := 2) (T := 33) (ad := ⟨Ei, 0, none⟩) Ed (by kernel_rfl) (by kernel_rfl) (zB (t := 33) (k := 0) (off := 0) (m := 4) (xs := zh (nd (mF 1))) Ea rfl (zq (zf (zl _ _))) (zf (zl _ _)) (by kernel_rfl) (by kernel_rfl)) ?_
 exact ⟨rfl, Ea.pk []⟩
theorem mod_2 (w : World)  : Calls Tryz.prog 51 #[.int .i64 2] w fun e w' => e = .returned (.agg (zg (zh (nd (mF 2))))) ∧ Ev w [] w' [] := by
 refine d_0 [(0, .int .i64 2)] 19 Go.Proofs.Tryz.func51 Go.Proofs.Tryz.ntmps51 (Heap.nil _) fun Eg Eh Ei => wp_seq <| zk <| f_o <| m_z 33 (zh (zd 4 0)) Eh Ei fun _ _ Ej Ek El => f_e <| ze <| wp_seq <| d_s [2,3] [] Ek fun _ Em => wp_block <| d_s [2,3,4] [] Em fun _ Ef => ?_
 refine c_f Ef ?_
 refine d_s [2,3,7] [] Ef fun _ Ea => c_t Ea ?_
 refine wp_seq <| zk <| f_o <| c_p Ea El (prime2_go _) fun _ _ Ec Ed => f_o <| zQ 0 4 (zh (nd (mF 2))) _ Ec Ed rfl (zf (zl _ _)) (zf (zi)) (zt _) rfl fun _ _ Ee Eb => f_e <| ze <| wp_ret <| Z8 <| ZE <| z9 (v := .agg (zg (zh (nd (mF 2))))) (t := 2) (T := 33) (ad := ⟨Ej, 0, none⟩) Ee (by kernel_rfl) (by kernel_rfl) (zB (t := 33) (k := 0) (off := 0) (m := 4) (xs := zh (nd (mF 2))) Eb rfl (zq (zf (zl _ _))) (zf (zl _ _)) (by kernel_rfl) (by kernel_rfl)) ?_
 exact ⟨rfl, Eb.pk []⟩
theorem mod_3 (w : World)  : Calls Tryz.prog 51 #[.int .i64 3] w fun e w' => e = .returned (.agg (zg (zh (nd (mF 3))))) ∧ Ev w [] w' [] := by
 refine d_0 [(0, .int .i64 3)] 19 Go.Proofs.Tryz.func51 Go.Proofs.Tryz.ntmps51 (Heap.nil _) fun Ei Ej Ek => wp_seq <| zk <| f_o <| m_z 33 (zh (zd 4 0)) Ej Ek fun _ _ El Em En => f_e <| ze <| wp_seq <| d_s [2,3] [] Em fun _ Eo => wp_block <| d_s [2,3,4] [] Eo fun _ Eh => ?_
 refine c_f Eh ?_
 refine d_s [2,3,7] [] Eh fun _ Ea => c_f Ea ?_
 refine d_s [2,3,10] [] Ea fun _ Eb => c_t Eb ?_
 refine wp_seq <| zk <| d_k [2,3,12] [] 1 Eb fun _ Ed => f_o <| c_p Ed En (prime3_go _) fun _ _ Ee Ef => f_o <| zQ 0 4 (zh (nd (mF 3))) _ Ee Ef rfl (zf (zl _ _)) (zf (zi)) (zt _) rfl fun _ _ Eg Ec => f_e <| ze <| wp_ret <| Z8 <| ZE <| z9 (v := .agg (zg (zh (nd (mF 3))))) (t := 2) (T := 33) (ad := ⟨El, 0, none⟩) Eg (by kernel_rfl) (by kernel_rfl) (zB (t := 33) (k := 0) (off := 0) (m := 4) (xs := zh (nd (mF 3))) Ec rfl (zq (zf (zl _ _))) (zf (zl _ _)) (by kernel_rfl) (by kernel_rfl)) ?_
 exact ⟨rfl, Ec.pk []⟩
theorem mod_4 (w : World)  : Calls Tryz.prog 51 #[.int .i64 4] w fun e w' => e = .returned (.agg (zg (zh (nd (mF 4))))) ∧ Ev w [] w' [] := by
 refine d_0 [(0, .int .i64 4)] 19 Go.Proofs.Tryz.func51 Go.Proofs.Tryz.ntmps51 (Heap.nil _) fun Ej Ek El => wp_seq <| zk <| f_o <| m_z 33 (zh (zd 4 0)) Ek El fun _ _ Em En Eo => f_e <| ze <| wp_seq <| d_s [2,3] [] En fun _ Ep => wp_block <| d_s [2,3,4] [] Ep fun _ Ei => ?_
 refine c_f Ei ?_
 refine d_s [2,3,7] [] Ei fun _ Ea => c_f Ea ?_
 refine d_s [2,3,10] [] Ea fun _ Eb => c_f Eb ?_
 refine d_s [2,3,14] [] Eb fun _ Ec => c_t Ec ?_
 refine wp_seq <| zk <| d_k [2,3,16] [] 1 Ec fun _ Ee => f_o <| c_p Ee Eo (prime4_go _) fun _ _ Ef Eg => f_o <| zQ 0 4 (zh (nd (mF 4))) _ Ef Eg rfl (zf (zl _ _)) (zf (zi)) (zt _) rfl fun _ _ Eh Ed => f_e <| ze <| wp_ret <| Z8 <| ZE <| z9 (v := .agg (zg (zh (nd (mF 4))))) (t := 2) (T := 33) (ad := ⟨Em, 0, none⟩) Eh (by kernel_rfl) (by kernel_rfl) (zB (t := 33) (k := 0) (off := 0) (m := 4) (xs := zh (nd (mF 4))) Ed rfl (zq (zf (zl _ _))) (zf (zl _ _)) (by kernel_rfl) (by kernel_rfl)) ?_
 exact ⟨rfl, Ed.pk []⟩
theorem mod_0 (w : World) (f : Int)  (hf : ¬ (f = 1 ∨ f = 2 ∨ f = 3 ∨ f = 4)) : Calls Tryz.prog 51 #[.int .i64 f] w fun e w' => e = .returned (.agg (zg (zh (nd (mF 0))))) ∧ Ev w [] w' [] := by
 refine d_0 [(0, .int .i64 f)] 19 Go.Proofs.Tryz.func51 Go.Proofs.Tryz.ntmps51 (Heap.nil _) fun El Em En => wp_seq <| zk <| f_o <| m_z 33 (zh (zd 4 0)) Em En fun _ _ Eo Ep Eq => f_e <| ze <| wp_seq <| d_s [2,3] [] Ep fun _ Er => wp_block <| d_s [2,3,4] [] Er fun _ Ek => ?_
 refine c_e f (1 : Int) Ek (fun Ea => ?_) (fun Ea => ?_)
 ·
  exact absurd Ea (by omega)
 refine d_s [2,3,7] [] Ek fun _ Eb => ?_
 refine c_e f (2 : Int) Eb (fun Ec => ?_) (fun Ec => ?_)
 ·
  exact absurd Ec (by omega)
 refine d_s [2,3,10] [] Eb fun _ Ed => ?_
 refine c_e f (3 : Int) Ed (fun Ee => ?_) (fun Ee => ?_)
 ·
  exact absurd Ee (by omega)
 refine d_s [2,3,14] [] Ed fun _ Ef => ?_
 refine c_e f (4 : Int) Ef (fun Eg => ?_) (fun Eg => ?_)
 ·
  exact absurd Eg (by omega)
 refine wp_skip <| zv <| ze <| wp_seq <| zk <| d_k [2,3,18] [] 1 Ef fun _ Ei => f_o <| zQ 0 4 (zh ([0, 0, 0, 0] : List UInt64)) _ Ei Eq rfl (zf (show zb ([0, 0, 0, 0] : List UInt64) = 4 from rfl)) (zf (zi)) (zt _) rfl fun _ _ Ej Eh => f_e <| ze <| wp_ret <| z9 (v := .agg (zg (zh ([0, 0, 0, 0] : List UInt64)))) (t := 2) (T := 33) (ad := ⟨Eo, 0, none⟩) Ej (by kernel_rfl) (by kernel_rfl) (zB (t := 33) (k := 0) (off := 0) (m := 4) (xs := zh ([0, 0, 0, 0] : List UInt64)) Eh rfl (zq (zf (show zb ([0, 0, 0, 0] : List UInt64) = 4 from rfl))) (zf (show zb ([0, 0, 0, 0] : List UInt64) = 4 from rfl)) (by kernel_rfl) (by kernel_rfl)) ?_
 exact ⟨by kernel_rfl, Eh.pk []⟩
theorem mF_none {f : Int} (hf : ¬ (f = 1 ∨ f = 2 ∨ f = 3 ∨ f = 4)) : mF f = 0 := by
  unfold mF
  rw [if_neg (by omega), if_neg (by omega), if_neg (by omega), if_neg (by omega)]
theorem modulus_go (w : World) (f : Int) : Calls Tryz.prog 51 #[.int .i64 f] w fun e w' => e = .returned (.agg (zg (zh (nd (mF f))))) ∧ Ev w [] w' [] := by
  by_cases hf : f = 1 ∨ f = 2 ∨ f = 3 ∨ f = 4
  · rcases hf with rfl | rfl | rfl | rfl
    · exact mod_1 w
    · exact mod_2 w
    · exact mod_3 w
    · exact mod_4 w
  · rw [mF_none hf]
    exact mod_0 w f hf
theorem is_go (w : World) (f : Int) : Calls Tryz.prog 50 #[.int .i64 f] w fun e w' => e = .returned (.bool (decide (f = 1 ∨ f = 2 ∨ f = 3 ∨ f = 4))) ∧ Ev w [] w' [] := by
 refine d_0 [(0, .int .i64 f)] 9 Go.Proofs.Tryz.func50 Go.Proofs.Tryz.ntmps50 (Heap.nil _) fun Ef Eg Ed => d_s [0,2] [] Eg fun _ Eh => wp_seq <| zk <| d_k [0,2,5] [] 3 Eh fun _ Ee => ?_
 rcases ZB (decide (f ≥ (1 : Int))) with Ea | Ea
 ·
  have Ei := Ee.fx (t := 5) (congrArg Value.bool Ea)
  have hp7 : f ≥ (1 : Int) := of_decide_eq_true Ea
  refine d_e [2] [] Ei fun _ Ej => ze <| wp_ret <| Qu (t := 2) (v := .bool (decide (f ≤ (4 : Int)))) Ej (by kernel_rfl) (by kernel_rfl) ?_
  have e : (decide (f ≤ (4 : Int))) = decide (f = 1 ∨ f = 2 ∨ f = 3 ∨ f = 4) := by
   by_cases hq : f = 1 ∨ f = 2 ∨ f = 3 ∨ f = 4
   · rw [decide_eq_true hq] <;> first | rfl | exact decide_eq_true (by omega) | (exfalso; omega)
   · rw [decide_eq_false hq] <;> first | rfl | exact decide_eq_false (by omega) | (exfalso; omega)
  exact ⟨by rw [e], Ed.pk []⟩
 have Eb := Ee.fx (t := 5) (congrArg Value.bool Ea)
 have hp11 : ¬ (f ≥ (1 : Int)) := of_decide_eq_false Ea
 refine d_e [2] [] Eb fun _ Ec => ze <| wp_ret <| Qu (t := 2) (v := .bool false) Ec (by kernel_rfl) (by kernel_rfl) ?_
 have e : (false) = decide (f = 1 ∨ f = 2 ∨ f = 3 ∨ f = 4) := by
  by_cases hq : f = 1 ∨ f = 2 ∨ f = 3 ∨ f = 4
  · rw [decide_eq_true hq] <;> first | rfl | exact decide_eq_true (by omega) | (exfalso; omega)
  · rw [decide_eq_false hq] <;> first | rfl | exact decide_eq_false (by omega) | (exfalso; omega)
 exact ⟨by rw [e], Ed.pk []⟩
theorem is_go_yes (w : World) (f : Int) (hf : f = 1 ∨ f = 2 ∨ f = 3 ∨ f = 4) : Calls Tryz.prog 50 #[.int .i64 f] w fun e w' => e = .returned (.bool true) ∧ Ev w [] w' [] := by
  have h := is_go w f
  rwa [decide_eq_true hf] at h
theorem right_mF (w : World) (f : Int) (hf : f = 1 ∨ f = 2 ∨ f = 3 ∨ f = 4) (a : List UInt64) (ha : zb a = 4) : Calls Tryz.prog 53 #[.agg (zg (zh a)), .agg (zg (zh (nd (mF f))))] w fun e w' => e = .returned (.agg (zg (zh (nd (nv a % mF f))))) ∧ Ev w [] w' [] := by
  have h := right_go w a (nd (mF f)) ha (zl _ _) (by rw [nv_mF]; exact Zu QS (Jn hf))
  rw [nv_mF] at h
  exact h
theorem plus_nd_go (w : World) (x y : Nat) (hx : x < zU) (hy : y < zU) : Calls Tryz.prog 52 #[.agg (zg (zh (nd x))), .agg (zg (zh (nd y)))] w fun e w' => e = .returned (.tuple #[.agg (zg (zh (nd (x + y)))), zm (u1 (zU ≤ x + y))]) ∧ Ev w [] w' [] := by
  have h := plus_go w (nd x) (nd y) (zl _ _) (zl _ _)
  rw [Qw hx, Qw hy] at h
  exact h
theorem minus_nd_go (w : World) (x y : Nat) (hx : x < zU) (hy : y < zU) : Calls Tryz.prog 55 #[.agg (zg (zh (nd x))), .agg (zg (zh (nd y)))] w fun e w' => e = .returned (.tuple #[.agg (zg (zh (nd (x + zU - y)))), zm (u1 (x < y))]) ∧ Ev w [] w' [] := by
  have h := JO w (nd x) (nd y) (zl _ _) (zl _ _)
  rw [Qw hx, Qw hy] at h
  exact h
theorem add_fin1 {x y M : Nat} (hx : x < M) (hy : y < M) (hM : M < zU) (h : zU ≤ x + y ∨ ¬ nv (nd (x + y)) < nv (nd M)) : nd (nv (nd (x + y)) + zU - nv (nd M)) = nd ((x + y) % M) := by
  rw [Qw hM, nd_val] at *
  have e : (x + y) % M = x + y - M := by
    rw [Yf (by simp only [zU] at *; omega), zG (by omega)]
  rw [e, ← JW, ← JW (x + y - M)]
  congr 1
  simp only [zU] at *
  omega
theorem add_fin2 {x y M : Nat} (hM : M < zU) (h1 : ¬ zU ≤ x + y) (h : nv (nd (x + y)) < nv (nd M)) : nd (x + y) = nd ((x + y) % M) := by
  rw [Qw hM, Qw (by omega)] at h
  rw [zG h]
theorem sub_fin1 {x y M : Nat} (hx : x < M) (hy : y < M) (hM : M < zU) (h : x < y) : nd (nv (nd (x + zU - y)) + nv (nd M)) = nd ((x + M - y) % M) := by
  rw [Qw hM, nd_val, zG (a := x + M - y) (by omega), ← JW, ← JW (x + M - y)]
  congr 1
  simp only [zU] at *
  omega
theorem sub_fin2 {x y M : Nat} (hx : x < M) (hy : y < M) (hM : M < zU) (h : ¬ x < y) : nd (x + zU - y) = nd ((x + M - y) % M) := by
  rw [Yf (by omega), zG (by omega), ← JW, ← JW (x + M - y - M)]
  congr 1
  simp only [zU] at *
  omega
def addM (f : Int) (x y : Nat) : Nat := (x + y) % mF f
def subM (f : Int) (x y : Nat) : Nat := (x % mF f + mF f - y % mF f) % mF f
def mulM (f : Int) (x y : Nat) : Nat := (x * y) % mF f
theorem add_mM (f : Int) (x y : Nat) : (x % mF f + y % mF f) % mF f = addM f x y := (Nat.add_mod _ _ _).symm
theorem addM_lt {f : Int} (hf : f = 1 ∨ f = 2 ∨ f = 3 ∨ f = 4) (x y : Nat) : addM f x y < zU := Qm hf
theorem subM_lt {f : Int} (hf : f = 1 ∨ f = 2 ∨ f = 3 ∨ f = 4) (x y : Nat) : subM f x y < zU := Qm hf
theorem mulM_lt {f : Int} (hf : f = 1 ∨ f = 2 ∨ f = 3 ∨ f = 4) (x y : Nat) : mulM f x y < zU := Qm hf
theorem add_go (w : World) (f : Int) (hf : f = 1 ∨ f = 2 ∨ f = 3 ∨ f = 4) (a b : List UInt64) (ha : zb a = 4) (hb : zb b = 4) : Calls Tryz.prog 23 #[.int .i64 f, .agg (zg (zh a)), .agg (zg (zh b))] w fun e w' => e = .returned (.agg (zg (zh (nd (addM f (nv a) (nv b)))))) ∧ Ev w [] w' [] := by
 have hla : nv a % mF f < mF f := ZL _ (Zu QS (Jn hf))
 have hlb : nv b % mF f < mF f := ZL _ (Zu QS (Jn hf))
 have hmw := mF_lt f
 refine d_0 [(0, .int .i64 f), (1, .agg (zg (zh a))), (2, .agg (zg (zh b)))] 39 Go.Proofs.Tryz.func23 Go.Proofs.Tryz.ntmps23 (Heap.nil _) fun H7 H8 H9 => wp_seq <| zk <| f_o <| m_m 33 (zh a) H8 H9 fun _ _ Et aa ab => f_o <| m_m 33 (zh b) aa ab fun _ _ Eu ae HV => f_o <| m_z 33 (zh (zd 4 0)) ae HV fun _ _ Eb HW HX => ?_
 refine f_e <| ze <| wp_seq <| wp_seq <| zk <| d_k [0,4,5,6,10] [] 1 HW fun _ HY => f_o <| c_p HY HX (is_go_yes _ f hf) fun _ _ HZ H0 => d_e [0,4,5,6,12] [] HZ fun _ EU => ze <| c_f EU ?_
 refine wp_skip <| ze <| wp_seq <| zk <| d_k [0,4,5,6,14] [] 1 EU fun _ H1 => f_o <| c_p H1 H0 (modulus_go _ f) fun _ _ H2 H3 => f_o <| m_z 33 (zh (zd 4 0)) H2 H3 fun _ _ Ea H4 H5 => f_o <| zQ 3 4 (zh (nd (mF f))) _ H4 H5 rfl (zf (zl _ _)) (zf (zi)) (zt _) rfl fun _ _ H6 EV => ?_
 refine f_e <| ze <| wp_seq <| r_c (fun ac wo => ∃ (Ec : Nat), Env ac 39 [(0, .int .i64 f), (6, pt Eb), (7, pt Ea), (8, pt Ec), (9, zm (u1 (zU ≤ nv a % mF f + nv b % mF f)))] ∧ Ev w [] wo [.box Eb (zh (zd 4 0)) 33, .box Ea (zh (nd (mF f))) 33, .box Ec (zh (nd (nv a % mF f + nv b % mF f))) 33]) ?_ ?_
 ·
  refine h_s (fun wv => Ev w [] wv [.box Et (zh a) 33, .box Eu (zh b) 33, .box Ea (zh (nd (mF f))) 33]) [] 13 ?_
  have Ek := EV.trans (zO EV.heap)
  refine h_name fun G hG => ?_
  have nd662 : ∀ (ac : Act) (wo : World), Env ac 39 [(0, .int .i64 f), (6, pt Eb), (7, pt Ea), (23, .tuple #[.agg (zg (zh (nd (nv a % mF f + nv b % mF f)))), zm (u1 (zU ≤ nv a % mF f + nv b % mF f))])] → Ev w [] wo [.box Et (zh a) 33, .box Eu (zh b) 33, .box Eb (zh (zd 4 0)) 33, .box Ea (zh (nd (mF f))) 33] → G 6 #[true, true, true, true, true, true, true, false, false, false, false, false, false] ac wo := by
   intro _ _ EW Ew
   refine Zl hG ?_
   refine q_s [7,8,9] [] 3 EW (Ew.pk [0, 1, 3]) fun _ EX => q_t 10 ?_
   refine m_z 33 (zh (zd 4 0)) EX Ew fun _ _ Ex EY Ey => ⟨fun _ => Ey.pk [0, 1, 3], ?_⟩
   refine q_t 11 ?_
   refine zQ 4 4 (zh (nd (nv a % mF f + nv b % mF f))) [.box Et (zh a) 33, .box Eu (zh b) 33, .box Eb (zh (zd 4 0)) 33, .box Ea (zh (nd (mF f))) 33, .box Ex (zh (nd (nv a % mF f + nv b % mF f))) 33] EY Ey rfl (zf (zl _ _)) (zf (zi)) (zt _) rfl fun _ _ EZ El => ⟨fun _ => El.pk [0, 1, 3], ?_⟩
   refine q_s [12] [] 0 EZ (El.pk [0, 1, 3]) fun _ E0 => ?_
   exact h_e ⟨Ex, E0.sb, El.pk [2, 3, 4]⟩
  have nd680 : ∀ (ac : Act) (wo : World) (Eh : Nat), Env ac 39 [(0, .int .i64 f), (6, pt Eb), (7, pt Ea), (8, pt Eh), (19, .agg (zg (zh (nd (nv a % mF f))))), (22, .agg (zg (zh (nd (nv b % mF f)))))] → Ev w [] wo [.box Et (zh a) 33, .box Eu (zh b) 33, .box Eb (zh (zd 4 0)) 33, .box Ea (zh (nd (mF f))) 33, .box Eh (zh (zd 4 0)) 33] → G 6 #[true, true, true, true, true, true, false, false, false, false, true, false, false] ac wo := by
   intro _ _ Eh E1 E2
   refine Zl hG ?_
   refine q_t 6 ?_
   refine c_p E1 E2 (plus_nd_go _ (nv a % mF f) (nv b % mF f) (Qm hf) (Qm hf)) fun _ _ E3 Em => ⟨fun _ => Em.pk [0, 1, 3], ?_⟩
   refine q_s [7,8,9] [] 2 E3 (Em.pk [0, 1, 3]) fun _ E4 => q_t 11 ?_
   refine zQ 4 4 (zh (nd (nv a % mF f + nv b % mF f))) _ E4 Em rfl (zf (zl _ _)) (zf (zi)) (zt _) rfl fun _ _ E5 En => ⟨fun _ => En.pk [0, 1, 3], ?_⟩
   refine q_s [12] [] 0 E5 (En.pk [0, 1, 3]) fun _ E6 => ?_
   exact h_e ⟨Eh, E6.sb, En.pk [2, 3, 4]⟩
  have nd700 : ∀ (ac : Act) (wo : World), Env ac 39 [(0, .int .i64 f), (6, pt Eb), (7, pt Ea), (19, .agg (zg (zh (nd (nv a % mF f))))), (22, .agg (zg (zh (nd (nv b % mF f)))))] → Ev w [] wo [.box Et (zh a) 33, .box Eu (zh b) 33, .box Eb (zh (zd 4 0)) 33, .box Ea (zh (nd (mF f))) 33] → G 7 #[true, true, true, true, true, true, false, false, false, false, false, false, false] ac wo := by
   intro _ _ Ez EA
   refine Zl hG ?_
   refine Qk [6, 10] (by kernel_rfl) rfl ?_
   refine ⟨?_, ?_, trivial⟩
   ·
    rintro _ rfl
    refine c_p Ez EA (plus_nd_go _ (nv a % mF f) (nv b % mF f) (Qm hf) (Qm hf)) fun _ _ E7 EB => ⟨fun _ => EB.pk [0, 1, 3], ?_⟩
    exact Ql hG (by kernel_rfl) (nd662 _ _ (E7.sb) (EB.pk [0, 1, 2, 3]))
   rintro _ rfl
   refine m_z 33 (zh (zd 4 0)) Ez EA fun _ _ E8 E9 EC => ⟨fun _ => EC.pk [0, 1, 3], ?_⟩
   exact Ql hG (by kernel_rfl) (nd680 _ _ E8 (E9.sb) (EC.pk [0, 1, 2, 3, 4]))
  have nd717 : ∀ (ac : Act) (wo : World) (Ed : Nat), Env ac 39 [(0, .int .i64 f), (6, pt Eb), (7, pt Ea), (8, pt Ed), (19, .agg (zg (zh (nd (nv a % mF f))))), (20, .agg (zg (zh b))), (21, .agg (zg (zh (nd (mF f)))))] → Ev w [] wo [.box Et (zh a) 33, .box Eu (zh b) 33, .box Eb (zh (zd 4 0)) 33, .box Ea (zh (nd (mF f))) 33, .box Ed (zh (zd 4 0)) 33] → G 7 #[true, true, true, true, true, false, false, false, false, false, true, false, false] ac wo := by
   intro _ _ Ed Ha Hb
   refine Zl hG ?_
   refine q_t 5 ?_
   refine c_p Ha Hb (right_mF _ f hf b hb) fun _ _ Hc ED => ⟨fun _ => ED.pk [0, 1, 3], ?_⟩
   refine q_t 6 ?_
   refine c_p Hc ED (plus_nd_go _ (nv a % mF f) (nv b % mF f) (Qm hf) (Qm hf)) fun _ _ Hd Eo => ⟨fun _ => Eo.pk [0, 1, 3], ?_⟩
   refine q_s [7,8,9] [] 2 Hd (Eo.pk [0, 1, 3]) fun _ He => q_t 11 ?_
   refine zQ 4 4 (zh (nd (nv a % mF f + nv b % mF f))) [.box Et (zh a) 33, .box Eu (zh b) 33, .box Eb (zh (zd 4 0)) 33, .box Ea (zh (nd (mF f))) 33, .box Ed (zh (nd (nv a % mF f + nv b % mF f))) 33] He Eo rfl (zf (zl _ _)) (zf (zi)) (zt _) rfl fun _ _ Hf Ep => ⟨fun _ => Ep.pk [0, 1, 3], ?_⟩
   refine q_s [12] [] 0 Hf (Ep.pk [0, 1, 3]) fun _ Hg => ?_
   exact h_e ⟨Ed, Hg.sb, Ep.pk [2, 3, 4]⟩
  have nd744 : ∀ (ac : Act) (wo : World), Env ac 39 [(0, .int .i64 f), (6, pt Eb), (7, pt Ea), (19, .agg (zg (zh (nd (nv a % mF f))))), (20, .agg (zg (zh b))), (21, .agg (zg (zh (nd (mF f)))))] → Ev w [] wo [.box Et (zh a) 33, .box Eu (zh b) 33, .box Eb (zh (zd 4 0)) 33, .box Ea (zh (nd (mF f))) 33] → G 8 #[true, true, true, true, true, false, false, false, false, false, false, false, false] ac wo := by
   intro _ _ EE EF
   refine Zl hG ?_
   refine Qk [5, 10] (by kernel_rfl) rfl ?_
   refine ⟨?_, ?_, trivial⟩
   ·
    rintro _ rfl
    refine c_p EE EF (right_mF _ f hf b hb) fun _ _ Hh EG => ⟨fun _ => EG.pk [0, 1, 3], ?_⟩
    exact Ql hG (by kernel_rfl) (nd700 _ _ (Hh.sb) (EG.pk [0, 1, 2, 3]))
   rintro _ rfl
   refine m_z 33 (zh (zd 4 0)) EE EF fun _ _ Hi Hj EH => ⟨fun _ => EH.pk [0, 1, 3], ?_⟩
   exact Ql hG (by kernel_rfl) (nd717 _ _ Hi (Hj.sb) (EH.pk [0, 1, 2, 3, 4]))
  have nd761 : ∀ (ac : Act) (wo : World) (Ei : Nat), Env ac 39 [(0, .int .i64 f), (6, pt Eb), (7, pt Ea), (8, pt Ei), (17, .agg (zg (zh a))), (18, .agg (zg (zh (nd (mF f))))), (20, .agg (zg (zh b))), (21, .agg (zg (zh (nd (mF f)))))] → Ev w [] wo [.box Et (zh a) 33, .box Eu (zh b) 33, .box Eb (zh (zd 4 0)) 33, .box Ea (zh (nd (mF f))) 33, .box Ei (zh (zd 4 0)) 33] → G 8 #[true, true, false, true, true, false, false, false, false, false, true, false, false] ac wo := by
   intro _ _ Ei Hk Hl
   refine Zl hG ?_
   refine q_t 2 ?_
   refine c_p Hk Hl (right_mF _ f hf a ha) fun _ _ Hm EI => ⟨fun _ => EI.pk [0, 1, 3], ?_⟩
   refine q_t 5 ?_
   refine c_p Hm EI (right_mF _ f hf b hb) fun _ _ Hn EJ => ⟨fun _ => EJ.pk [0, 1, 3], ?_⟩
   refine q_t 6 ?_
   refine c_p Hn EJ (plus_nd_go _ (nv a % mF f) (nv b % mF f) (Qm hf) (Qm hf)) fun _ _ Ho Eq => ⟨fun _ => Eq.pk [0, 1, 3], ?_⟩
   refine q_s [7,8,9] [] 2 Ho (Eq.pk [0, 1, 3]) fun _ Hp => q_t 11 ?_
   refine zQ 4 4 (zh (nd (nv a % mF f + nv b % mF f))) _ Hp Eq rfl (zf (zl _ _)) (zf (zi)) (zt _) rfl fun _ _ Hq Er => ⟨fun _ => Er.pk [0, 1, 3], ?_⟩
   refine q_s [12] [] 0 Hq (Er.pk [0, 1, 3]) fun _ Hr => ?_
   exact h_e ⟨Ei, Hr.sb, Er.pk [2, 3, 4]⟩
  refine Zl hG ?_
  refine q_r 0 (s := Instr.loadAt 33 (pt Et)) (v := .agg (zg (zh a))) H6 (fun w hS => zM (m := 4) (cs := zh a) (zf ha) (by kernel_rfl) (by kernel_rfl) (hS.heap.cells (k := 0) (off := 0) (m := 4) rfl (zq (zf ha)))) (Ek.pk [0, 1, 3]) fun _ Hs => q_r 1 (s := Instr.loadAt 33 (pt Ea)) (v := .agg (zg (zh (nd (mF f))))) Hs (fun w hS => zM (m := 4) (cs := zh (nd (mF f))) (zf (zl _ _)) (by kernel_rfl) (by kernel_rfl) (hS.heap.cells (k := 2) (off := 0) (m := 4) rfl (zq (zf (zl _ _))))) (Ek.pk [0, 1, 3]) fun _ Ht => q_r 3 (s := Instr.loadAt 33 (pt Eu)) (v := .agg (zg (zh b))) Ht (fun w hS => zM (m := 4) (cs := zh b) (zf hb) (by kernel_rfl) (by kernel_rfl) (hS.heap.cells (k := 1) (off := 0) (m := 4) rfl (zq (zf hb)))) (Ek.pk [0, 1, 3]) fun _ Hu => q_r 4 (s := Instr.loadAt 33 (pt Ea)) (v := .agg (zg (zh (nd (mF f))))) Hu (fun w hS => zM (m := 4) (cs := zh (nd (mF f))) (zf (zl _ _)) (by kernel_rfl) (by kernel_rfl) (hS.heap.cells (k := 2) (off := 0) (m := 4) rfl (zq (zf (zl _ _))))) (Ek.pk [0, 1, 3]) fun _ EK => ?_
  refine Qk [2, 10] (by kernel_rfl) rfl ?_
  refine ⟨?_, ?_, trivial⟩
  ·
   rintro _ rfl
   refine c_p EK Ek (right_mF _ f hf a ha) fun _ _ Hv EL => ⟨fun _ => EL.pk [0, 1, 3], ?_⟩
   exact Ql hG (by kernel_rfl) (nd744 _ _ (Hv.sb) (EL.pk [0, 1, 2, 3]))
  rintro _ rfl
  refine m_z 33 (zh (zd 4 0)) EK Ek fun _ _ Hw Hx EM => ⟨fun _ => EM.pk [0, 1, 3], ?_⟩
  exact Ql hG (by kernel_rfl) (nd761 _ _ Hw (Hx.sb) (EM.pk [0, 1, 2, 3, 4]))
 rintro _ _ ⟨Ec, Hy, Ej⟩
 refine ze <| wp_seq <| wp_seq <| zk <| d_k [0,6,7,8,28] [(1, g_b (show (((zw (u1 (zU ≤ nv a % mF f + nv b % mF f)) : Nat) : Int) == (1 : Int)) = decide (zU ≤ nv a % mF f + nv b % mF f) from u1_one _))] 3 Hy fun _ EN => ?_
 rcases ZB (decide (zU ≤ nv a % mF f + nv b % mF f)) with Ee | Ee
 ·
  have Hz := EN.fx (t := 28) (congrArg Value.bool Ee)
  have hp823 : zU ≤ nv a % mF f + nv b % mF f := of_decide_eq_true Ee
  refine d_e [0,6,7,8,31] [] Hz fun _ EO => ze <| c_t EO ?_
  refine zk <| f_o <| Zp 2 4 (zh (nd (nv a % mF f + nv b % mF f))) EO Ej rfl (zf (zl _ _)) fun _ HA => f_o <| Zp 1 4 (zh (nd (mF f))) HA Ej rfl (zf (zl _ _)) fun _ HB => f_o <| c_p HB Ej (JO _ (nd (nv a % mF f + nv b % mF f)) (nd (mF f)) (zl _ _) (zl _ _)) fun _ _ HC HD => d_k [0,6,7,8,36] [] 6 HC fun _ HE => ?_
  refine f_o <| zQ 2 4 (zh (nd (nv (nd (nv a % mF f + nv b % mF f)) + zU - nv (nd (mF f))))) [.box Eb (zh (zd 4 0)) 33, .box Ea (zh (nd (mF f))) 33, .box Ec (zh (nd (nv (nd (nv a % mF f + nv b % mF f)) + zU - nv (nd (mF f))))) 33] HE HD rfl (zf (zl _ _)) (zf (zl _ _)) (zt _) rfl fun _ _ HF EP => f_e <| ze <| wp_seq <| zk <| f_o <| Zp 2 4 (zh (nd (nv (nd (nv a % mF f + nv b % mF f)) + zU - nv (nd (mF f))))) HF EP rfl (zf (zl _ _)) fun _ HG => f_o <| zQ 0 4 (zh (nd (nv (nd (nv a % mF f + nv b % mF f)) + zU - nv (nd (mF f))))) _ HG EP rfl (zf (zl _ _)) (zf (zi)) (zt _) rfl fun _ _ HH EQ => f_e <| ze <| wp_ret <| z9 (v := .agg (zg (zh (nd (nv (nd (nv a % mF f + nv b % mF f)) + zU - nv (nd (mF f))))))) (t := 6) (T := 33) (ad := ⟨Eb, 0, none⟩) HH (by kernel_rfl) (by kernel_rfl) (zB (t := 33) (k := 0) (off := 0) (m := 4) (xs := zh (nd (nv (nd (nv a % mF f + nv b % mF f)) + zU - nv (nd (mF f))))) EQ rfl (zq (zf (zl _ _))) (zf (zl _ _)) (by kernel_rfl) (by kernel_rfl)) ?_
  have e : nd (nv (nd (nv a % mF f + nv b % mF f)) + zU - nv (nd (mF f))) = nd (addM f (nv a) (nv b)) := by rw [← add_mM]; first | exact add_fin1 hla hlb hmw (by first | (left; assumption) | (right; assumption)) | exact add_fin2 hmw (by assumption) (by assumption)
  exact ⟨by rw [e], EQ.pk []⟩
 have HI := EN.fx (t := 28) (congrArg Value.bool Ee)
 have hp850 : ¬ (zU ≤ nv a % mF f + nv b % mF f) := of_decide_eq_false Ee
 refine f_o <| c_l [2,1] (M := [.box Ec (zh (nd (nv a % mF f + nv b % mF f))) 33, .box Ea (zh (nd (mF f))) 33]) HI Ej (fun hM851 => less_go _ Ec Ea (nd (nv a % mF f + nv b % mF f)) (nd (mF f)) (zl _ _) (zl _ _) hM851) ?_
 rintro _ _ ⟨rfl, HJ⟩
 refine ⟨_, _, [.box Ec (zh (nd (nv a % mF f + nv b % mF f))) 33, .box Ea (zh (nd (mF f))) 33, .box Eb (zh (zd 4 0)) 33], rfl, HJ, by kernel_rfl, fun _ HK Ef => ?_⟩
 refine d_e [0,6,7,8,31] [] HK fun _ Es => ?_
 refine ze <| cond_at Es (t := !(decide (nv (nd (nv a % mF f + nv b % mF f)) < nv (nd (mF f))))) (by kernel_rfl) (fun Eg => ?_) (fun Eg => ?_)
 ·
  replace Eg : ¬ (nv (nd (nv a % mF f + nv b % mF f)) < nv (nd (mF f))) := by simpa using Eg
  refine zk <| f_o <| Zp 0 4 (zh (nd (nv a % mF f + nv b % mF f))) Es Ef rfl (zf (zl _ _)) fun _ HL => f_o <| Zp 1 4 (zh (nd (mF f))) HL Ef rfl (zf (zl _ _)) fun _ HM => f_o <| c_p HM Ef (JO _ (nd (nv a % mF f + nv b % mF f)) (nd (mF f)) (zl _ _) (zl _ _)) fun _ _ HN HO => d_k [0,6,7,8,36] [] 6 HN fun _ HP => ?_
  refine f_o <| zQ 0 4 (zh (nd (nv (nd (nv a % mF f + nv b % mF f)) + zU - nv (nd (mF f))))) [.box Ec (zh (nd (nv (nd (nv a % mF f + nv b % mF f)) + zU - nv (nd (mF f))))) 33, .box Ea (zh (nd (mF f))) 33, .box Eb (zh (zd 4 0)) 33] HP HO rfl (zf (zl _ _)) (zf (zl _ _)) (zt _) rfl fun _ _ HQ ER => f_e <| ze <| wp_seq <| zk <| f_o <| Zp 0 4 (zh (nd (nv (nd (nv a % mF f + nv b % mF f)) + zU - nv (nd (mF f))))) HQ ER rfl (zf (zl _ _)) fun _ HR => f_o <| zQ 2 4 (zh (nd (nv (nd (nv a % mF f + nv b % mF f)) + zU - nv (nd (mF f))))) _ HR ER rfl (zf (zl _ _)) (zf (zi)) (zt _) rfl fun _ _ HS ES => f_e <| ze <| wp_ret <| z9 (v := .agg (zg (zh (nd (nv (nd (nv a % mF f + nv b % mF f)) + zU - nv (nd (mF f))))))) (t := 6) (T := 33) (ad := ⟨Eb, 0, none⟩) HS (by kernel_rfl) (by kernel_rfl) (zB (t := 33) (k := 2) (off := 0) (m := 4) (xs := zh (nd (nv (nd (nv a % mF f + nv b % mF f)) + zU - nv (nd (mF f))))) ES rfl (zq (zf (zl _ _))) (zf (zl _ _)) (by kernel_rfl) (by kernel_rfl)) ?_
  have e : nd (nv (nd (nv a % mF f + nv b % mF f)) + zU - nv (nd (mF f))) = nd (addM f (nv a) (nv b)) := by rw [← add_mM]; first | exact add_fin1 hla hlb hmw (by first | (left; assumption) | (right; assumption)) | exact add_fin2 hmw (by assumption) (by assumption)
  exact ⟨by rw [e], ES.pk []⟩
 replace Eg : nv (nd (nv a % mF f + nv b % mF f)) < nv (nd (mF f)) := by simpa using Eg
 refine wp_skip <| ze <| wp_seq <| zk <| f_o <| Zp 0 4 (zh (nd (nv a % mF f + nv b % mF f))) Es Ef rfl (zf (zl _ _)) fun _ HT => f_o <| zQ 2 4 (zh (nd (nv a % mF f + nv b % mF f))) [.box Ec (zh (nd (nv a % mF f + nv b % mF f))) 33, .box Ea (zh (nd (mF f))) 33, .box Eb (zh (nd (nv a % mF f + nv b % mF f))) 33] HT Ef rfl (zf (zl _ _)) (zf (zi)) (zt _) rfl fun _ _ HU ET => f_e <| ze <| wp_ret <| z9 (v := .agg (zg (zh (nd (nv a % mF f + nv b % mF f))))) (t := 6) (T := 33) (ad := ⟨Eb, 0, none⟩) HU (by kernel_rfl) (by kernel_rfl) (zB (t := 33) (k := 2) (off := 0) (m := 4) (xs := zh (nd (nv a % mF f + nv b % mF f))) ET rfl (zq (zf (zl _ _))) (zf (zl _ _)) (by kernel_rfl) (by kernel_rfl)) ?_
 have e : nd (nv a % mF f + nv b % mF f) = nd (addM f (nv a) (nv b)) := by rw [← add_mM]; first | exact add_fin1 hla hlb hmw (by first | (left; assumption) | (right; assumption)) | exact add_fin2 hmw (by assumption) (by assumption)
 exact ⟨by rw [e], ET.pk []⟩
theorem sub_go (w : World) (f : Int) (hf : f = 1 ∨ f = 2 ∨ f = 3 ∨ f = 4) (a b : List UInt64) (ha : zb a = 4) (hb : zb b = 4) : Calls Tryz.prog 96 #[.int .i64 f, .agg (zg (zh a)), .agg (zg (zh b))] w fun e w' => e = .returned (.agg (zg (zh (nd (subM f (nv a) (nv b)))))) ∧ Ev w [] w' [] := by
 have hla : nv a % mF f < mF f := ZL _ (Zu QS (Jn hf))
 have hlb : nv b % mF f < mF f := ZL _ (Zu QS (Jn hf))
 have hmw := mF_lt f
 refine d_0 [(0, .int .i64 f), (1, .agg (zg (zh a))), (2, .agg (zg (zh b)))] 35 Go.Proofs.Tryz.func96 Go.Proofs.Tryz.ntmps96 (Heap.nil _) fun HP HQ HR => wp_seq <| zk <| f_o <| m_m 33 (zh a) HQ HR fun _ _ Eq HS HT => f_o <| m_m 33 (zh b) HS HT fun _ _ Er HU HD => f_o <| m_z 33 (zh (zd 4 0)) HU HD fun _ _ Eb HE HF => ?_
 refine f_e <| ze <| wp_seq <| wp_seq <| zk <| d_k [0,4,5,6,10] [] 1 HE fun _ HG => f_o <| c_p HG HF (is_go_yes _ f hf) fun _ _ HH HI => d_e [0,4,5,6,12] [] HH fun _ EN => ze <| c_f EN ?_
 refine wp_skip <| ze <| wp_seq <| zk <| d_k [0,4,5,6,14] [] 1 EN fun _ HJ => f_o <| c_p HJ HI (modulus_go _ f) fun _ _ HK HL => f_o <| m_z 33 (zh (zd 4 0)) HK HL fun _ _ Ea HM HN => f_o <| zQ 3 4 (zh (nd (mF f))) _ HM HN rfl (zf (zl _ _)) (zf (zi)) (zt _) rfl fun _ _ HO EO => ?_
 refine f_e <| ze <| wp_seq <| r_c (fun ac wo => ∃ (Ec : Nat), Env ac 35 [(0, .int .i64 f), (6, pt Eb), (7, pt Ea), (8, pt Ec), (9, zm (u1 (nv a % mF f < nv b % mF f)))] ∧ Ev w [] wo [.box Eb (zh (zd 4 0)) 33, .box Ea (zh (nd (mF f))) 33, .box Ec (zh (nd (nv a % mF f + zU - (nv b % mF f)))) 33]) ?_ ?_
 ·
  refine h_s (fun wv => Ev w [] wv [.box Eq (zh a) 33, .box Er (zh b) 33, .box Ea (zh (nd (mF f))) 33]) [] 13 ?_
  have Eh := EO.trans (zO EO.heap)
  refine h_name fun G hG => ?_
  have nd662 : ∀ (ac : Act) (wo : World), Env ac 35 [(0, .int .i64 f), (6, pt Eb), (7, pt Ea), (23, .tuple #[.agg (zg (zh (nd (nv a % mF f + zU - (nv b % mF f))))), zm (u1 (nv a % mF f < nv b % mF f))])] → Ev w [] wo [.box Eq (zh a) 33, .box Er (zh b) 33, .box Eb (zh (zd 4 0)) 33, .box Ea (zh (nd (mF f))) 33] → G 6 #[true, true, true, true, true, true, true, false, false, false, false, false, false] ac wo := by
   intro _ _ EP Es
   refine Zl hG ?_
   refine q_s [7,8,9] [] 3 EP (Es.pk [0, 1, 3]) fun _ EQ => q_t 10 ?_
   refine m_z 33 (zh (zd 4 0)) EQ Es fun _ _ Et ER Eu => ⟨fun _ => Eu.pk [0, 1, 3], ?_⟩
   refine q_t 11 ?_
   refine zQ 4 4 (zh (nd (nv a % mF f + zU - (nv b % mF f)))) [.box Eq (zh a) 33, .box Er (zh b) 33, .box Eb (zh (zd 4 0)) 33, .box Ea (zh (nd (mF f))) 33, .box Et (zh (nd (nv a % mF f + zU - (nv b % mF f)))) 33] ER Eu rfl (zf (zl _ _)) (zf (zi)) (zt _) rfl fun _ _ ES Ei => ⟨fun _ => Ei.pk [0, 1, 3], ?_⟩
   refine q_s [12] [] 0 ES (Ei.pk [0, 1, 3]) fun _ ET => ?_
   exact h_e ⟨Et, ET.sb, Ei.pk [2, 3, 4]⟩
  have nd680 : ∀ (ac : Act) (wo : World) (Ef : Nat), Env ac 35 [(0, .int .i64 f), (6, pt Eb), (7, pt Ea), (8, pt Ef), (19, .agg (zg (zh (nd (nv a % mF f))))), (22, .agg (zg (zh (nd (nv b % mF f)))))] → Ev w [] wo [.box Eq (zh a) 33, .box Er (zh b) 33, .box Eb (zh (zd 4 0)) 33, .box Ea (zh (nd (mF f))) 33, .box Ef (zh (zd 4 0)) 33] → G 6 #[true, true, true, true, true, true, false, false, false, false, true, false, false] ac wo := by
   intro _ _ Ef EU EV
   refine Zl hG ?_
   refine q_t 6 ?_
   refine c_p EU EV (minus_nd_go _ (nv a % mF f) (nv b % mF f) (Qm hf) (Qm hf)) fun _ _ EW Ej => ⟨fun _ => Ej.pk [0, 1, 3], ?_⟩
   refine q_s [7,8,9] [] 2 EW (Ej.pk [0, 1, 3]) fun _ EX => q_t 11 ?_
   refine zQ 4 4 (zh (nd (nv a % mF f + zU - (nv b % mF f)))) _ EX Ej rfl (zf (zl _ _)) (zf (zi)) (zt _) rfl fun _ _ EY Ek => ⟨fun _ => Ek.pk [0, 1, 3], ?_⟩
   refine q_s [12] [] 0 EY (Ek.pk [0, 1, 3]) fun _ EZ => ?_
   exact h_e ⟨Ef, EZ.sb, Ek.pk [2, 3, 4]⟩
  have nd700 : ∀ (ac : Act) (wo : World), Env ac 35 [(0, .int .i64 f), (6, pt Eb), (7, pt Ea), (19, .agg (zg (zh (nd (nv a % mF f))))), (22, .agg (zg (zh (nd (nv b % mF f)))))] → Ev w [] wo [.box Eq (zh a) 33, .box Er (zh b) 33, .box Eb (zh (zd 4 0)) 33, .box Ea (zh (nd (mF f))) 33] → G 7 #[true, true, true, true, true, true, false, false, false, false, false, false, false] ac wo := by
   intro _ _ Ew Ex
   refine Zl hG ?_
   refine Qk [6, 10] (by kernel_rfl) rfl ?_
   refine ⟨?_, ?_, trivial⟩
   ·
    rintro _ rfl
    refine c_p Ew Ex (minus_nd_go _ (nv a % mF f) (nv b % mF f) (Qm hf) (Qm hf)) fun _ _ E0 Ey => ⟨fun _ => Ey.pk [0, 1, 3], ?_⟩
    exact Ql hG (by kernel_rfl) (nd662 _ _ (E0.sb) (Ey.pk [0, 1, 2, 3]))
   rintro _ rfl
   refine m_z 33 (zh (zd 4 0)) Ew Ex fun _ _ E1 E2 Ez => ⟨fun _ => Ez.pk [0, 1, 3], ?_⟩
   exact Ql hG (by kernel_rfl) (nd680 _ _ E1 (E2.sb) (Ez.pk [0, 1, 2, 3, 4]))
  have nd717 : ∀ (ac : Act) (wo : World) (Ed : Nat), Env ac 35 [(0, .int .i64 f), (6, pt Eb), (7, pt Ea), (8, pt Ed), (19, .agg (zg (zh (nd (nv a % mF f))))), (20, .agg (zg (zh b))), (21, .agg (zg (zh (nd (mF f)))))] → Ev w [] wo [.box Eq (zh a) 33, .box Er (zh b) 33, .box Eb (zh (zd 4 0)) 33, .box Ea (zh (nd (mF f))) 33, .box Ed (zh (zd 4 0)) 33] → G 7 #[true, true, true, true, true, false, false, false, false, false, true, false, false] ac wo := by
   intro _ _ Ed E3 E4
   refine Zl hG ?_
   refine q_t 5 ?_
   refine c_p E3 E4 (right_mF _ f hf b hb) fun _ _ E5 EA => ⟨fun _ => EA.pk [0, 1, 3], ?_⟩
   refine q_t 6 ?_
   refine c_p E5 EA (minus_nd_go _ (nv a % mF f) (nv b % mF f) (Qm hf) (Qm hf)) fun _ _ E6 El => ⟨fun _ => El.pk [0, 1, 3], ?_⟩
   refine q_s [7,8,9] [] 2 E6 (El.pk [0, 1, 3]) fun _ E7 => q_t 11 ?_
   refine zQ 4 4 (zh (nd (nv a % mF f + zU - (nv b % mF f)))) [.box Eq (zh a) 33, .box Er (zh b) 33, .box Eb (zh (zd 4 0)) 33, .box Ea (zh (nd (mF f))) 33, .box Ed (zh (nd (nv a % mF f + zU - (nv b % mF f)))) 33] E7 El rfl (zf (zl _ _)) (zf (zi)) (zt _) rfl fun _ _ E8 Em => ⟨fun _ => Em.pk [0, 1, 3], ?_⟩
   refine q_s [12] [] 0 E8 (Em.pk [0, 1, 3]) fun _ E9 => ?_
   exact h_e ⟨Ed, E9.sb, Em.pk [2, 3, 4]⟩
  have nd744 : ∀ (ac : Act) (wo : World), Env ac 35 [(0, .int .i64 f), (6, pt Eb), (7, pt Ea), (19, .agg (zg (zh (nd (nv a % mF f))))), (20, .agg (zg (zh b))), (21, .agg (zg (zh (nd (mF f)))))] → Ev w [] wo [.box Eq (zh a) 33, .box Er (zh b) 33, .box Eb (zh (zd 4 0)) 33, .box Ea (zh (nd (mF f))) 33] → G 8 #[true, true, true, true, true, false, false, false, false, false, false, false, false] ac wo := by
   intro _ _ EB EC
   refine Zl hG ?_
   refine Qk [5, 10] (by kernel_rfl) rfl ?_
   refine ⟨?_, ?_, trivial⟩
   ·
    rintro _ rfl
    refine c_p EB EC (right_mF _ f hf b hb) fun _ _ Ha ED => ⟨fun _ => ED.pk [0, 1, 3], ?_⟩
    exact Ql hG (by kernel_rfl) (nd700 _ _ (Ha.sb) (ED.pk [0, 1, 2, 3]))
   rintro _ rfl
   refine m_z 33 (zh (zd 4 0)) EB EC fun _ _ Hb Hc EE => ⟨fun _ => EE.pk [0, 1, 3], ?_⟩
   exact Ql hG (by kernel_rfl) (nd717 _ _ Hb (Hc.sb) (EE.pk [0, 1, 2, 3, 4]))
  have nd761 : ∀ (ac : Act) (wo : World) (Eg : Nat), Env ac 35 [(0, .int .i64 f), (6, pt Eb), (7, pt Ea), (8, pt Eg), (17, .agg (zg (zh a))), (18, .agg (zg (zh (nd (mF f))))), (20, .agg (zg (zh b))), (21, .agg (zg (zh (nd (mF f)))))] → Ev w [] wo [.box Eq (zh a) 33, .box Er (zh b) 33, .box Eb (zh (zd 4 0)) 33, .box Ea (zh (nd (mF f))) 33, .box Eg (zh (zd 4 0)) 33] → G 8 #[true, true, false, true, true, false, false, false, false, false, true, false, false] ac wo := by
   intro _ _ Eg Hd He
   refine Zl hG ?_
   refine q_t 2 ?_
   refine c_p Hd He (right_mF _ f hf a ha) fun _ _ Hf EF => ⟨fun _ => EF.pk [0, 1, 3], ?_⟩
   refine q_t 5 ?_
   refine c_p Hf EF (right_mF _ f hf b hb) fun _ _ Hg EG => ⟨fun _ => EG.pk [0, 1, 3], ?_⟩
   refine q_t 6 ?_
   refine c_p Hg EG (minus_nd_go _ (nv a % mF f) (nv b % mF f) (Qm hf) (Qm hf)) fun _ _ Hh En => ⟨fun _ => En.pk [0, 1, 3], ?_⟩
   refine q_s [7,8,9] [] 2 Hh (En.pk [0, 1, 3]) fun _ Hi => q_t 11 ?_
   refine zQ 4 4 (zh (nd (nv a % mF f + zU - (nv b % mF f)))) _ Hi En rfl (zf (zl _ _)) (zf (zi)) (zt _) rfl fun _ _ Hj Eo => ⟨fun _ => Eo.pk [0, 1, 3], ?_⟩
   refine q_s [12] [] 0 Hj (Eo.pk [0, 1, 3]) fun _ Hk => ?_
   exact h_e ⟨Eg, Hk.sb, Eo.pk [2, 3, 4]⟩
  refine Zl hG ?_
  refine q_r 0 (s := Instr.loadAt 33 (pt Eq)) (v := .agg (zg (zh a))) HO (fun w hS => zM (m := 4) (cs := zh a) (zf ha) (by kernel_rfl) (by kernel_rfl) (hS.heap.cells (k := 0) (off := 0) (m := 4) rfl (zq (zf ha)))) (Eh.pk [0, 1, 3]) fun _ Hl => q_r 1 (s := Instr.loadAt 33 (pt Ea)) (v := .agg (zg (zh (nd (mF f))))) Hl (fun w hS => zM (m := 4) (cs := zh (nd (mF f))) (zf (zl _ _)) (by kernel_rfl) (by kernel_rfl) (hS.heap.cells (k := 2) (off := 0) (m := 4) rfl (zq (zf (zl _ _))))) (Eh.pk [0, 1, 3]) fun _ Hm => q_r 3 (s := Instr.loadAt 33 (pt Er)) (v := .agg (zg (zh b))) Hm (fun w hS => zM (m := 4) (cs := zh b) (zf hb) (by kernel_rfl) (by kernel_rfl) (hS.heap.cells (k := 1) (off := 0) (m := 4) rfl (zq (zf hb)))) (Eh.pk [0, 1, 3]) fun _ Hn => q_r 4 (s := Instr.loadAt 33 (pt Ea)) (v := .agg (zg (zh (nd (mF f))))) Hn (fun w hS => zM (m := 4) (cs := zh (nd (mF f))) (zf (zl _ _)) (by kernel_rfl) (by kernel_rfl) (hS.heap.cells (k := 2) (off := 0) (m := 4) rfl (zq (zf (zl _ _))))) (Eh.pk [0, 1, 3]) fun _ EH => ?_
  refine Qk [2, 10] (by kernel_rfl) rfl ?_
  refine ⟨?_, ?_, trivial⟩
  ·
   rintro _ rfl
   refine c_p EH Eh (right_mF _ f hf a ha) fun _ _ Ho EI => ⟨fun _ => EI.pk [0, 1, 3], ?_⟩
   exact Ql hG (by kernel_rfl) (nd744 _ _ (Ho.sb) (EI.pk [0, 1, 2, 3]))
  rintro _ rfl
  refine m_z 33 (zh (zd 4 0)) EH Eh fun _ _ Hp Hq EJ => ⟨fun _ => EJ.pk [0, 1, 3], ?_⟩
  exact Ql hG (by kernel_rfl) (nd761 _ _ Hp (Hq.sb) (EJ.pk [0, 1, 2, 3, 4]))
 rintro _ _ ⟨Ec, Hr, Ee⟩
 refine ze <| wp_seq <| d_s [0,6,7,8,27] [(1, g_b (show (((zw (u1 (nv a % mF f < nv b % mF f)) : Nat) : Int) == (1 : Int)) = decide (nv a % mF f < nv b % mF f) from u1_one _))] Hr fun _ Ep => ?_
 refine c_d (nv a % mF f < nv b % mF f) Ep (fun Hs => ?_) (fun Hs => ?_)
 ·
  refine zk <| f_o <| Zp 2 4 (zh (nd (nv a % mF f + zU - (nv b % mF f)))) Ep Ee rfl (zf (zl _ _)) fun _ Ht => f_o <| Zp 1 4 (zh (nd (mF f))) Ht Ee rfl (zf (zl _ _)) fun _ Hu => f_o <| c_p Hu Ee (plus_go _ (nd (nv a % mF f + zU - (nv b % mF f))) (nd (mF f)) (zl _ _) (zl _ _)) fun _ _ Hv Hw => d_k [0,6,7,8,32] [] 6 Hv fun _ Hx => ?_
  refine f_o <| zQ 2 4 (zh (nd (nv (nd (nv a % mF f + zU - (nv b % mF f))) + nv (nd (mF f))))) [.box Eb (zh (zd 4 0)) 33, .box Ea (zh (nd (mF f))) 33, .box Ec (zh (nd (nv (nd (nv a % mF f + zU - (nv b % mF f))) + nv (nd (mF f))))) 33] Hx Hw rfl (zf (zl _ _)) (zf (zl _ _)) (zt _) rfl fun _ _ Hy EK => f_e <| ze <| wp_seq <| zk <| f_o <| Zp 2 4 (zh (nd (nv (nd (nv a % mF f + zU - (nv b % mF f))) + nv (nd (mF f))))) Hy EK rfl (zf (zl _ _)) fun _ Hz => f_o <| zQ 0 4 (zh (nd (nv (nd (nv a % mF f + zU - (nv b % mF f))) + nv (nd (mF f))))) _ Hz EK rfl (zf (zl _ _)) (zf (zi)) (zt _) rfl fun _ _ HA EL => f_e <| ze <| wp_ret <| z9 (v := .agg (zg (zh (nd (nv (nd (nv a % mF f + zU - (nv b % mF f))) + nv (nd (mF f))))))) (t := 6) (T := 33) (ad := ⟨Eb, 0, none⟩) HA (by kernel_rfl) (by kernel_rfl) (zB (t := 33) (k := 0) (off := 0) (m := 4) (xs := zh (nd (nv (nd (nv a % mF f + zU - (nv b % mF f))) + nv (nd (mF f))))) EL rfl (zq (zf (zl _ _))) (zf (zl _ _)) (by kernel_rfl) (by kernel_rfl)) ?_
  have e : nd (nv (nd (nv a % mF f + zU - (nv b % mF f))) + nv (nd (mF f))) = nd (subM f (nv a) (nv b)) := by first | exact sub_fin1 hla hlb hmw (by assumption) | exact sub_fin2 hla hlb hmw (by assumption)
  exact ⟨by rw [e], EL.pk []⟩
 refine wp_skip <| ze <| wp_seq <| zk <| f_o <| Zp 2 4 (zh (nd (nv a % mF f + zU - (nv b % mF f)))) Ep Ee rfl (zf (zl _ _)) fun _ HB => f_o <| zQ 0 4 (zh (nd (nv a % mF f + zU - (nv b % mF f)))) [.box Eb (zh (nd (nv a % mF f + zU - (nv b % mF f)))) 33, .box Ea (zh (nd (mF f))) 33, .box Ec (zh (nd (nv a % mF f + zU - (nv b % mF f)))) 33] HB Ee rfl (zf (zl _ _)) (zf (zi)) (zt _) rfl fun _ _ HC EM => f_e <| ze <| wp_ret <| z9 (v := .agg (zg (zh (nd (nv a % mF f + zU - (nv b % mF f)))))) (t := 6) (T := 33) (ad := ⟨Eb, 0, none⟩) HC (by kernel_rfl) (by kernel_rfl) (zB (t := 33) (k := 0) (off := 0) (m := 4) (xs := zh (nd (nv a % mF f + zU - (nv b % mF f)))) EM rfl (zq (zf (zl _ _))) (zf (zl _ _)) (by kernel_rfl) (by kernel_rfl)) ?_
 have e : nd (nv a % mF f + zU - (nv b % mF f)) = nd (subM f (nv a) (nv b)) := by first | exact sub_fin1 hla hlb hmw (by assumption) | exact sub_fin2 hla hlb hmw (by assumption)
 exact ⟨by rw [e], EM.pk []⟩
theorem neg_go (w : World) (f : Int) (hf : (f = 1 ∨ f = 2 ∨ f = 3 ∨ f = 4)) (a : List UInt64) (ha : zb a = 4) : Calls Tryz.prog 70 #[.int .i64 f, .agg (zg (zh a))] w fun e w' => e = .returned (.agg (zg (zh (nd (subM f 0 (nv a)))))) ∧ Ev w [] w' [] := by
 refine d_0 [(0, .int .i64 f), (1, .agg (zg (zh a)))] 9 Go.Proofs.Tryz.func70 Go.Proofs.Tryz.ntmps70 (Heap.nil _) fun Eh Ei Ej => wp_seq <| zk <| f_o <| m_m 33 (zh a) Ei Ej fun _ _ Eo Ek El => f_o <| m_z 33 (zh (zd 4 0)) Ek El fun _ _ Em En Ea => f_e <| ze <| wp_seq <| zk <| d_k [3,4,5,6] [] 2 En fun _ Ec => ?_
 refine f_o <| Zp 0 4 (zh a) Ec Ea rfl (zf ha) fun _ Ed => f_o <| c_p Ed Ea (sub_go _ f hf ([0, 0, 0, 0] : List UInt64) a (show zb ([0, 0, 0, 0] : List UInt64) = 4 from rfl) ha) fun _ _ Ee Ef => f_o <| zQ 1 4 (zh (nd (subM f (nv ([0, 0, 0, 0] : List UInt64)) (nv a)))) _ Ee Ef rfl (zf (zl _ _)) (zf (zi)) (zt _) rfl fun _ _ Eg Eb => f_e <| ze <| wp_ret <| z9 (v := .agg (zg (zh (nd (subM f (nv ([0, 0, 0, 0] : List UInt64)) (nv a)))))) (t := 4) (T := 33) (ad := ⟨Em, 0, none⟩) Eg (by kernel_rfl) (by kernel_rfl) (zB (t := 33) (k := 1) (off := 0) (m := 4) (xs := zh (nd (subM f (nv ([0, 0, 0, 0] : List UInt64)) (nv a)))) Eb rfl (zq (zf (zl _ _))) (zf (zl _ _)) (by kernel_rfl) (by kernel_rfl)) ?_
 exact ⟨rfl, Eb.pk []⟩
theorem rightq_go (w : World) (f : Int) (a : List UInt64) (ha : zb a = 4) : Calls Tryz.prog 31 #[.int .i64 f, .agg (zg (zh a))] w fun e w' => e = .returned (.bool (decide (nv a < mF f))) ∧ Ev w [] w' [] := by
 refine d_0 [(0, .int .i64 f), (1, .agg (zg (zh a)))] 9 Go.Proofs.Tryz.func31 Go.Proofs.Tryz.ntmps31 (Heap.nil _) fun Em En Eo => wp_seq <| zk <| f_o <| m_m 33 (zh a) En Eo fun _ _ Eb Ep Eq => d_e [0,3,4] [] Ep fun _ Er => ze <| wp_seq <| zk <| d_k [3,4,6] [] 1 Er fun _ Es => ?_
 refine f_o <| c_p Es Eq (modulus_go _ f) fun _ _ Ec Ed => f_o <| m_z 33 (zh (zd 4 0)) Ec Ed fun _ _ Ea Ee Ef => f_o <| zQ 1 4 (zh (nd (mF f))) _ Ee Ef rfl (zf (zl _ _)) (zf (zi)) (zt _) rfl fun _ _ Eg Eh => f_e <| ze <| wp_seq <| zk <| f_o <| c_l [0,1] (M := [.box Eb (zh a) 33, .box Ea (zh (nd (mF f))) 33]) Eg Eh (fun hM26 => less_go _ Eb Ea a (nd (mF f)) ha (zl _ _) hM26) ?_
 rintro _ _ ⟨rfl, Ei⟩
 refine ⟨_, _, [.box Eb (zh a) 33, .box Ea (zh (nd (mF f))) 33], rfl, Ei, by kernel_rfl, fun _ Ej Ek => ?_⟩
 refine d_e [4,5] [] Ej fun _ El => ze <| wp_ret <| Qu (t := 4) (v := .bool (decide (nv a < nv (nd (mF f))))) El (by kernel_rfl) (by kernel_rfl) ?_
 exact ⟨by rw [nv_mF], Ek.pk []⟩
end Go.Proofs.YtlnogkmnklfjlaaGreatDoor

namespace Go.Proofs.YtlnogkmnklfjlaaGreatDoor
open Go.Dbr
set_option maxRecDepth 100000
set_option maxHeartbeats 2000000
set_option linter.unusedVariables false
set_option linter.unusedSimpArgs false
def n32 : Nat → Nat → List UInt64
  | 0, _ => []
  | k + 1, n => zc (n % 4294967296) :: n32 k (n / 4294967296)
theorem n32_len : ∀ (k n : Nat), (n32 k n).length = k
  | 0, _ => rfl
  | k + 1, n => by rw [n32, zX, n32_len k]
theorem n32_hd (n : Nat) : (zc (n % 4294967296)).toNat = n % 4294967296 := ofNat_toNat (by omega)
theorem n32_val : ∀ (k n : Nat), dv 4294967296 (n32 k n) = n % 4294967296 ^ k
  | 0, n => by rw [Nat.pow_zero, Nat.mod_one]; rfl
  | k + 1, n => by rw [n32, dv_cons, n32_val k, n32_hd, Nat.pow_succ, Nat.mul_comm (4294967296 ^ k), Nat.mod_mul]
def DG (l : List UInt64) : Prop := ∀ j, (List.getD l j 0).toNat < 4294967296
theorem DG.cons {x : UInt64} {r : List UInt64} : DG (x :: r) ↔ x.toNat < 4294967296 ∧ DG r := by
  constructor
  · intro h
    exact ⟨by have := h 0; simpa using this, fun j => by have := h (j + 1); simpa using this⟩
  · rintro ⟨h1, h2⟩ j
    cases j with
    | zero => simpa using h1
    | succ j => have := h2 j; simpa using this
theorem DG.nil : DG [] := fun j => by simp
theorem n32_dig : ∀ (k n : Nat), DG (n32 k n)
  | 0, n => DG.nil
  | k + 1, n => DG.cons.2 ⟨by rw [n32_hd]; omega, n32_dig k _⟩
theorem n32_dv : ∀ (l : List UInt64), DG l → n32 l.length (dv 4294967296 l) = l
  | [], _ => rfl
  | x :: r, h => by
    have hx := (DG.cons.1 h).1
    rw [zX, n32, dv_cons]
    have h1 : (x.toNat + 4294967296 * dv 4294967296 r) / 4294967296 = dv 4294967296 r := by omega
    have h2 : zc ((x.toNat + 4294967296 * dv 4294967296 r) % 4294967296) = x := by
      apply Qr.1
      rw [n32_hd]
      omega
    rw [h1, h2, n32_dv r (DG.cons.1 h).2]
theorem n32_of {l : List UInt64} {k n : Nat} (hl : l.length = k) (hd : DG l) (h : dv 4294967296 l = n) : l = n32 k n := by rw [← h, ← hl, n32_dv l hd]
theorem DG.set {l : List UInt64} (h : DG l) {i : Nat} {x : UInt64} (hx : x.toNat < 4294967296) : DG (List.set l i x) := fun j => by
  by_cases e : i = j
  · subst e
    by_cases hi : i < l.length
    · rw [zI, List.getElem?_set_self hi]; exact hx
    · rw [zI, List.getElem?_eq_none (by rw [List.length_set]; omega)]; decide
  · rw [getD_set_ne _ e]; exact h j
theorem low32 (t : UInt64) : (t &&& 4294967295).toNat < 4294967296 := by rw [and_low]; omega
theorem high32 (t : UInt64) : (t >>> zc 32).toNat < 4294967296 := by rw [shr_high]; have := Qb t; omega
theorem low_high (t : UInt64) : (t &&& 4294967295).toNat + 4294967296 * (t >>> zc 32).toNat = t.toNat := by rw [and_low, shr_high]; omega
theorem or_shl {x y : UInt64} (hx : x.toNat < 4294967296) (hy : y.toNat < 4294967296) : (x ||| (y <<< zc 32)).toNat = x.toNat + 4294967296 * y.toNat := by
  rw [UInt64.toNat_or, UInt64.toNat_shiftLeft]
  have h : (zc 32).toNat % 64 = 32 := by decide
  rw [h, zG (by rw [Zy]; omega), Nat.or_comm, ← Nat.shiftLeft_add_eq_or_of_lt (by omega), Zy]
  omega
theorem rless4 (w : World) (a0 a1 a2 a3 b0 b1 b2 b3 : UInt64) : Calls Tryz.prog 36 #[.agg #[zm a0, zm a1, zm a2, zm a3], .agg #[zm b0, zm b1, zm b2, zm b3]] w fun e w' => e = .returned (.bool (decide (nv [a0, a1, a2, a3] < nv [b0, b1, b2, b3]))) ∧ Ev w [] w' [] := by
 refine d_0 [(0, .agg #[zm a0, zm a1, zm a2, zm a3]), (1, .agg #[zm b0, zm b1, zm b2, zm b3])] 24 Go.Proofs.Tryz.func36 Go.Proofs.Tryz.ntmps36 (Heap.nil _) fun Hw Hx Hy => wp_seq <| zk <| f_o <| m_m 33 [zm a0, zm a1, zm a2, zm a3] Hx Hy fun _ _ Ea Hz HA => f_o <| m_m 33 [zm b0, zm b1, zm b2, zm b3] Hz HA fun _ _ Eb HB Ew => d_e [2,3,4] [] HB fun _ Hg => ?_
 refine ze <| wp_seq <| d_s [2,3,4,5] [] Hg fun _ Hh => wp_block <| QI ?_
 refine zF <| wp_seq <| d_s [2,3,4,5,7] [] Hh fun _ Ex => c_t Ex ?_
 refine wp_skip <| ze <| wp_seq <| wp_block <| wp_seq <| r_c (fun ac wo => Env ac 24 [(2, pt Ea), (3, pt Eb), (4, .bool false), (5, .int .i64 3), (16, .bool (((zw a3 : Nat) : Int) != ((zw b3 : Nat) : Int)))] ∧ Ev w [] wo [.box Ea [zm a0, zm a1, zm a2, zm a3] 33, .box Eb [zm b0, zm b1, zm b2, zm b3] 33]) ?_ ?_
 ·
  refine h_s (fun wv => Ev w [] wv [.box Ea [zm a0, zm a1, zm a2, zm a3] 33, .box Eb [zm b0, zm b1, zm b2, zm b3] 33]) [] 7 ?_
  have Ek := Ew.trans (zO Ew.heap)
  refine q_s [0,1] [] 5 Ex (Ek.pk [0, 1]) fun _ Hi => q_l 0 2 Hi (Ek.pk [0, 1]) fun _ Hj => q_s [3,4] [] 2 Hj (Ek.pk [0, 1]) fun _ Hk => q_l 1 5 Hk (Ek.pk [0, 1]) fun _ Hl => ?_
  refine q_s [6] [] 0 Hl (Ek.pk [0, 1]) fun _ Hm => ?_
  exact h_e ⟨Hm.sb, Ek.pk [0, 1]⟩
 rintro _ _ ⟨Eu, Eq⟩
 refine ze <| c_n ((zw a3 : Nat) : Int) ((zw b3 : Nat) : Int) Eu (fun Hn => ?_) (fun Hn => ?_)
 ·
  refine wp_seq <| r_c (fun ac wo => Env ac 24 [(2, pt Ea), (3, pt Eb), (4, .bool (decide (((zw a3 : Nat) : Int) < ((zw b3 : Nat) : Int)))), (5, .int .i64 3)] ∧ Ev w [] wo [.box Ea [zm a0, zm a1, zm a2, zm a3] 33, .box Eb [zm b0, zm b1, zm b2, zm b3] 33]) ?_ ?_
  ·
   refine h_s (fun wv => Ev w [] wv [.box Ea [zm a0, zm a1, zm a2, zm a3] 33, .box Eb [zm b0, zm b1, zm b2, zm b3] 33]) [] 8 ?_
   have El := Eq.trans (zO Eq.heap)
   refine q_s [0,1] [] 6 Eu (El.pk [0, 1]) fun _ Ho => q_l 0 2 Ho (El.pk [0, 1]) fun _ Hp => q_s [3,4] [] 3 Hp (El.pk [0, 1]) fun _ Hq => q_l 1 5 Hq (El.pk [0, 1]) fun _ Hr => ?_
   refine q_s [6,7] [] 0 Hr (El.pk [0, 1]) fun _ Hs => ?_
   exact h_e ⟨Hs.sb, El.pk [0, 1]⟩
  rintro _ _ ⟨Ht, Hu⟩
  refine ze <| wp_ret <| Z8 <| ZE <| ZE <| Z8 <| ZE <| Qu (t := 4) (v := .bool (decide (((zw a3 : Nat) : Int) < ((zw b3 : Nat) : Int)))) Ht (by kernel_rfl) (by kernel_rfl) ?_
  have e : (decide (((zw a3 : Nat) : Int) < ((zw b3 : Nat) : Int))) = decide (nv [a0, a1, a2, a3] < nv [b0, b1, b2, b3]) := by
   rw [nv4, nv4]
   have := Qb a0; have := Qb a1; have := Qb a2; have := Qb a3; have := Qb b0; have := Qb b1; have := Qb b2; have := Qb b3
   first | exact decide_eq_decide.2 (by omega) | exact (decide_eq_false (by omega)).symm
  exact ⟨by rw [e], Hu.pk []⟩
 refine wp_skip <| zv <| ze <| d_r [2,3,4,5] [] Eu fun _ Hv => ze <| zF <| wp_seq <| d_s [2,3,4,5,7] [] Hv fun _ Ey => c_t Ey ?_
 refine wp_skip <| ze <| wp_seq <| wp_block <| wp_seq <| r_c (fun ac wo => Env ac 24 [(2, pt Ea), (3, pt Eb), (4, .bool false), (5, .int .i64 2), (16, .bool (((zw a2 : Nat) : Int) != ((zw b2 : Nat) : Int)))] ∧ Ev w [] wo [.box Ea [zm a0, zm a1, zm a2, zm a3] 33, .box Eb [zm b0, zm b1, zm b2, zm b3] 33]) ?_ ?_
 ·
  refine h_s (fun wv => Ev w [] wv [.box Ea [zm a0, zm a1, zm a2, zm a3] 33, .box Eb [zm b0, zm b1, zm b2, zm b3] 33]) [] 7 ?_
  have Ec := Eq.trans (zO Eq.heap)
  refine q_s [0,1] [] 5 Ey (Ec.pk [0, 1]) fun _ Ez => q_l 0 2 Ez (Ec.pk [0, 1]) fun _ EA => q_s [3,4] [] 2 EA (Ec.pk [0, 1]) fun _ EB => q_l 1 5 EB (Ec.pk [0, 1]) fun _ EC => ?_
  refine q_s [6] [] 0 EC (Ec.pk [0, 1]) fun _ ED => ?_
  exact h_e ⟨ED.sb, Ec.pk [0, 1]⟩
 rintro _ _ ⟨Em, Ei⟩
 refine ze <| c_n ((zw a2 : Nat) : Int) ((zw b2 : Nat) : Int) Em (fun EE => ?_) (fun EE => ?_)
 ·
  refine wp_seq <| r_c (fun ac wo => Env ac 24 [(2, pt Ea), (3, pt Eb), (4, .bool (decide (((zw a2 : Nat) : Int) < ((zw b2 : Nat) : Int)))), (5, .int .i64 2)] ∧ Ev w [] wo [.box Ea [zm a0, zm a1, zm a2, zm a3] 33, .box Eb [zm b0, zm b1, zm b2, zm b3] 33]) ?_ ?_
  ·
   refine h_s (fun wv => Ev w [] wv [.box Ea [zm a0, zm a1, zm a2, zm a3] 33, .box Eb [zm b0, zm b1, zm b2, zm b3] 33]) [] 8 ?_
   have Ed := Ei.trans (zO Ei.heap)
   refine q_s [0,1] [] 6 Em (Ed.pk [0, 1]) fun _ EF => q_l 0 2 EF (Ed.pk [0, 1]) fun _ EG => q_s [3,4] [] 3 EG (Ed.pk [0, 1]) fun _ EH => q_l 1 5 EH (Ed.pk [0, 1]) fun _ EI => ?_
   refine q_s [6,7] [] 0 EI (Ed.pk [0, 1]) fun _ EJ => ?_
   exact h_e ⟨EJ.sb, Ed.pk [0, 1]⟩
  rintro _ _ ⟨EK, EL⟩
  refine ze <| wp_ret <| Z8 <| ZE <| ZE <| Z8 <| ZE <| Qu (t := 4) (v := .bool (decide (((zw a2 : Nat) : Int) < ((zw b2 : Nat) : Int)))) EK (by kernel_rfl) (by kernel_rfl) ?_
  have e : (decide (((zw a2 : Nat) : Int) < ((zw b2 : Nat) : Int))) = decide (nv [a0, a1, a2, a3] < nv [b0, b1, b2, b3]) := by
   rw [nv4, nv4]
   have := Qb a0; have := Qb a1; have := Qb a2; have := Qb a3; have := Qb b0; have := Qb b1; have := Qb b2; have := Qb b3
   first | exact decide_eq_decide.2 (by omega) | exact (decide_eq_false (by omega)).symm
  exact ⟨by rw [e], EL.pk []⟩
 refine wp_skip <| zv <| ze <| d_r [2,3,4,5] [] Em fun _ EM => ze <| zF <| wp_seq <| d_s [2,3,4,5,7] [] EM fun _ Er => c_t Er ?_
 refine wp_skip <| ze <| wp_seq <| wp_block <| wp_seq <| r_c (fun ac wo => Env ac 24 [(2, pt Ea), (3, pt Eb), (4, .bool false), (5, .int .i64 1), (16, .bool (((zw a1 : Nat) : Int) != ((zw b1 : Nat) : Int)))] ∧ Ev w [] wo [.box Ea [zm a0, zm a1, zm a2, zm a3] 33, .box Eb [zm b0, zm b1, zm b2, zm b3] 33]) ?_ ?_
 ·
  refine h_s (fun wv => Ev w [] wv [.box Ea [zm a0, zm a1, zm a2, zm a3] 33, .box Eb [zm b0, zm b1, zm b2, zm b3] 33]) [] 7 ?_
  have Ee := Ei.trans (zO Ei.heap)
  refine q_s [0,1] [] 5 Er (Ee.pk [0, 1]) fun _ EN => q_l 0 2 EN (Ee.pk [0, 1]) fun _ EO => q_s [3,4] [] 2 EO (Ee.pk [0, 1]) fun _ EP => q_l 1 5 EP (Ee.pk [0, 1]) fun _ EQ => ?_
  refine q_s [6] [] 0 EQ (Ee.pk [0, 1]) fun _ ER => ?_
  exact h_e ⟨ER.sb, Ee.pk [0, 1]⟩
 rintro _ _ ⟨En, Ej⟩
 refine ze <| c_n ((zw a1 : Nat) : Int) ((zw b1 : Nat) : Int) En (fun ES => ?_) (fun ES => ?_)
 ·
  refine wp_seq <| r_c (fun ac wo => Env ac 24 [(2, pt Ea), (3, pt Eb), (4, .bool (decide (((zw a1 : Nat) : Int) < ((zw b1 : Nat) : Int)))), (5, .int .i64 1)] ∧ Ev w [] wo [.box Ea [zm a0, zm a1, zm a2, zm a3] 33, .box Eb [zm b0, zm b1, zm b2, zm b3] 33]) ?_ ?_
  ·
   refine h_s (fun wv => Ev w [] wv [.box Ea [zm a0, zm a1, zm a2, zm a3] 33, .box Eb [zm b0, zm b1, zm b2, zm b3] 33]) [] 8 ?_
   have Ef := Ej.trans (zO Ej.heap)
   refine q_s [0,1] [] 6 En (Ef.pk [0, 1]) fun _ ET => q_l 0 2 ET (Ef.pk [0, 1]) fun _ EU => q_s [3,4] [] 3 EU (Ef.pk [0, 1]) fun _ EV => q_l 1 5 EV (Ef.pk [0, 1]) fun _ EW => ?_
   refine q_s [6,7] [] 0 EW (Ef.pk [0, 1]) fun _ EX => ?_
   exact h_e ⟨EX.sb, Ef.pk [0, 1]⟩
  rintro _ _ ⟨EY, EZ⟩
  refine ze <| wp_ret <| Z8 <| ZE <| ZE <| Z8 <| ZE <| Qu (t := 4) (v := .bool (decide (((zw a1 : Nat) : Int) < ((zw b1 : Nat) : Int)))) EY (by kernel_rfl) (by kernel_rfl) ?_
  have e : (decide (((zw a1 : Nat) : Int) < ((zw b1 : Nat) : Int))) = decide (nv [a0, a1, a2, a3] < nv [b0, b1, b2, b3]) := by
   rw [nv4, nv4]
   have := Qb a0; have := Qb a1; have := Qb a2; have := Qb a3; have := Qb b0; have := Qb b1; have := Qb b2; have := Qb b3
   first | exact decide_eq_decide.2 (by omega) | exact (decide_eq_false (by omega)).symm
  exact ⟨by rw [e], EZ.pk []⟩
 refine wp_skip <| zv <| ze <| d_r [2,3,4,5] [] En fun _ E0 => ze <| zF <| wp_seq <| d_s [2,3,4,5,7] [] E0 fun _ Es => c_t Es ?_
 refine wp_skip <| ze <| wp_seq <| wp_block <| wp_seq <| r_c (fun ac wo => Env ac 24 [(2, pt Ea), (3, pt Eb), (4, .bool false), (5, .int .i64 0), (16, .bool (((zw a0 : Nat) : Int) != ((zw b0 : Nat) : Int)))] ∧ Ev w [] wo [.box Ea [zm a0, zm a1, zm a2, zm a3] 33, .box Eb [zm b0, zm b1, zm b2, zm b3] 33]) ?_ ?_
 ·
  refine h_s (fun wv => Ev w [] wv [.box Ea [zm a0, zm a1, zm a2, zm a3] 33, .box Eb [zm b0, zm b1, zm b2, zm b3] 33]) [] 7 ?_
  have Eg := Ej.trans (zO Ej.heap)
  refine q_s [0,1] [] 5 Es (Eg.pk [0, 1]) fun _ E1 => q_l 0 2 E1 (Eg.pk [0, 1]) fun _ E2 => q_s [3,4] [] 2 E2 (Eg.pk [0, 1]) fun _ E3 => q_l 1 5 E3 (Eg.pk [0, 1]) fun _ E4 => ?_
  refine q_s [6] [] 0 E4 (Eg.pk [0, 1]) fun _ E5 => ?_
  exact h_e ⟨E5.sb, Eg.pk [0, 1]⟩
 rintro _ _ ⟨Eo, Ep⟩
 refine ze <| c_n ((zw a0 : Nat) : Int) ((zw b0 : Nat) : Int) Eo (fun E6 => ?_) (fun E6 => ?_)
 ·
  refine wp_seq <| r_c (fun ac wo => Env ac 24 [(2, pt Ea), (3, pt Eb), (4, .bool (decide (((zw a0 : Nat) : Int) < ((zw b0 : Nat) : Int)))), (5, .int .i64 0)] ∧ Ev w [] wo [.box Ea [zm a0, zm a1, zm a2, zm a3] 33, .box Eb [zm b0, zm b1, zm b2, zm b3] 33]) ?_ ?_
  ·
   refine h_s (fun wv => Ev w [] wv [.box Ea [zm a0, zm a1, zm a2, zm a3] 33, .box Eb [zm b0, zm b1, zm b2, zm b3] 33]) [] 8 ?_
   have Eh := Ep.trans (zO Ep.heap)
   refine q_s [0,1] [] 6 Eo (Eh.pk [0, 1]) fun _ E7 => q_l 0 2 E7 (Eh.pk [0, 1]) fun _ E8 => q_s [3,4] [] 3 E8 (Eh.pk [0, 1]) fun _ E9 => q_l 1 5 E9 (Eh.pk [0, 1]) fun _ Ha => ?_
   refine q_s [6,7] [] 0 Ha (Eh.pk [0, 1]) fun _ Hb => ?_
   exact h_e ⟨Hb.sb, Eh.pk [0, 1]⟩
  rintro _ _ ⟨Hc, Hd⟩
  refine ze <| wp_ret <| Z8 <| ZE <| ZE <| Z8 <| ZE <| Qu (t := 4) (v := .bool (decide (((zw a0 : Nat) : Int) < ((zw b0 : Nat) : Int)))) Hc (by kernel_rfl) (by kernel_rfl) ?_
  have e : (decide (((zw a0 : Nat) : Int) < ((zw b0 : Nat) : Int))) = decide (nv [a0, a1, a2, a3] < nv [b0, b1, b2, b3]) := by
   rw [nv4, nv4]
   have := Qb a0; have := Qb a1; have := Qb a2; have := Qb a3; have := Qb b0; have := Qb b1; have := Qb b2; have := Qb b3
   first | exact decide_eq_decide.2 (by omega) | exact (decide_eq_false (by omega)).symm
  exact ⟨by rw [e], Hd.pk []⟩
 refine wp_skip <| zv <| ze <| d_r [2,3,4,5] [] Eo fun _ He => ze <| zF <| wp_seq <| d_s [2,3,4,5,7] [] He fun _ Et => c_f Et ?_
 refine wp_exit <| zy <| zy <| zL <| ze <| d_s [2,3,4,5] [] Et fun _ Hf => wp_ret <| Qu (t := 4) (v := .bool false) Hf (by kernel_rfl) (by kernel_rfl) ?_
 have e : (false) = decide (nv [a0, a1, a2, a3] < nv [b0, b1, b2, b3]) := by
  rw [nv4, nv4]
  have := Qb a0; have := Qb a1; have := Qb a2; have := Qb a3; have := Qb b0; have := Qb b1; have := Qb b2; have := Qb b3
  first | exact decide_eq_decide.2 (by omega) | exact (decide_eq_false (by omega)).symm
 exact ⟨by rw [e], Ep.pk []⟩
theorem rless_go (w : World) (a b : List UInt64) (ha : zb a = 4) (hb : zb b = 4) : Calls Tryz.prog 36 #[.agg (zg (zh a)), .agg (zg (zh b))] w fun e w' => e = .returned (.bool (decide (nv a < nv b))) ∧ Ev w [] w' [] := by
  match a, ha, b, hb with
  | [a0, a1, a2, a3], _, [b0, b1, b2, b3], _ => exact rless4 w a0 a1 a2 a3 b0 b1 b2 b3
theorem carry1 {x y : UInt64} : (if (x + y).toNat < x.toNat then (1 : UInt64) else 0) = zT x y 0 := by
  apply Qr.1
  rw [JG]
  have := Qb x; have := Qb y
  rw [ZN, show (0 : UInt64).toNat = 0 from rfl]
  split
  · rw [show (1 : UInt64).toNat = 1 from rfl]; omega
  · rw [show (0 : UInt64).toNat = 0 from rfl]; omega
theorem carry2 {x y c : UInt64} (h : c.toNat ≤ 1) : (if (x + y + c).toNat < (x + y).toNat then (1 : UInt64) else zT x y 0) = zT x y c := by
  apply Qr.1
  have := Qb x; have := Qb y
  split
  · rename_i q
    rw [JG, show (1 : UInt64).toNat = 1 from rfl]
    rw [ZN (x + y), ZN] at q
    omega
  · rename_i q
    rw [JG, JG, show (0 : UInt64).toNat = 0 from rfl]
    rw [ZN (x + y), ZN] at q
    omega
theorem rplus4 (w : World) (a0 a1 a2 a3 b0 b1 b2 b3 : UInt64) : Calls Tryz.prog 62 #[.agg #[zm a0, zm a1, zm a2, zm a3], .agg #[zm b0, zm b1, zm b2, zm b3]] w fun e w' => e = .returned (.tuple #[.agg (zg (zh (plusL [a0, a1, a2, a3] [b0, b1, b2, b3]))), zm (adF [a0, a1, a2, a3] [b0, b1, b2, b3] 4)]) ∧ Ev w [] w' [] := by
 refine d_0 [(0, .agg #[zm a0, zm a1, zm a2, zm a3]), (1, .agg #[zm b0, zm b1, zm b2, zm b3])] 39 Go.Proofs.Tryz.func62 Go.Proofs.Tryz.ntmps62 (Heap.nil _) fun ag ah ai => wp_seq <| zk <| f_o <| m_m 33 [zm a0, zm a1, zm a2, zm a3] ah ai fun _ _ Eb aj ak => f_o <| m_m 33 [zm b0, zm b1, zm b2, zm b3] aj ak fun _ _ Ec al HO => f_o <| m_z 33 (zh (zd 4 0)) al HO fun _ _ Ea HP EF => ?_
 refine d_e [2,3,4,5] [] HP fun _ HQ => ze <| d_s [2,3,4,5,6] [] HQ fun _ HR => wp_seq <| d_s [2,3,4,5,6,7] [] HR fun _ HS => wp_block <| QI ?_
 refine zF <| wp_seq <| d_s [2,3,4,5,6,7,12] [] HS fun _ EG => c_t EG ?_
 refine wp_skip <| ze <| wp_seq <| wp_block <| wp_seq <| r_c (fun ac wo => Env ac 39 [(2, pt Eb), (3, pt Ec), (4, pt Ea), (5, .int .u64 0), (6, .int .u64 0), (7, .int .i64 0), (8, zm (a0 + b0))] ∧ Ev w [] wo [.box Eb [zm a0, zm a1, zm a2, zm a3] 33, .box Ec [zm b0, zm b1, zm b2, zm b3] 33, .box Ea (zh (zd 4 0)) 33]) ?_ ?_
 ·
  refine h_s (fun wv => Ev w [] wv [.box Eb [zm a0, zm a1, zm a2, zm a3] 33, .box Ec [zm b0, zm b1, zm b2, zm b3] 33]) [] 8 ?_
  have Eg := EF.trans (zO EF.heap)
  refine q_s [0,1] [] 6 EG (Eg.pk [0, 1]) fun _ HT => q_l 0 2 HT (Eg.pk [0, 1]) fun _ HU => q_s [3,4] [] 3 HU (Eg.pk [0, 1]) fun _ HV => q_l 1 5 HV (Eg.pk [0, 1]) fun _ HW => ?_
  refine q_s [6,7] [(6, g_i .u64 (Go.Dbr.u64_add (x := a0) (y := b0) rfl rfl))] 0 HW (Eg.pk [0, 1]) fun _ HX => ?_
  exact h_e ⟨HX.sb, Eg.pk [0, 1, 2]⟩
 rintro _ _ ⟨HY, EC⟩
 refine ze <| d_s [2,3,4,5,6,7,8,9] [] HY fun _ HZ => wp_seq <| wp_seq <| zk <| d_k [2,3,4,5,6,7,8,9,22,24] [] 3 HZ fun _ H0 => f_o <| m_l 0 H0 EC fun _ H1 => d_e [2,3,4,5,6,7,8,9,26] [] H1 fun _ ED => ?_
 refine ze <| QH (F := fun ac wo => ∃ (c1_0 : UInt64), Env ac 39 [(2, pt Eb), (3, pt Ec), (4, pt Ea), (5, .int .u64 0), (6, .int .u64 0), (7, .int .i64 0), (8, zm (a0 + b0)), (9, zm c1_0)] ∧ Ev w [] wo [.box Eb [zm a0, zm a1, zm a2, zm a3] 33, .box Ec [zm b0, zm b1, zm b2, zm b3] 33, .box Ea (zh (zd 4 0)) 33] ∧ (c1_0 = zT a0 b0 0)) ?_ ?_
 ·
  refine c_d (((zw (a0 + b0) : Nat) : Int) < ((zw a0 : Nat) : Int)) ED (fun H2 => ?_) (fun H2 => ?_)
  ·
   refine d_r [2,3,4,5,6,7,8,9] [] ED fun _ H3 => ?_
   exact ⟨rfl, ⟨(1 : UInt64), H3.sb, EC.pk [0, 1, 2], by rw [← carry1]; first | exact (if_pos (by omega)).symm | exact (if_neg (by omega)).symm⟩⟩
  refine wp_skip ?_
  exact ⟨rfl, ⟨(0 : UInt64), ED.sb, EC.pk [0, 1, 2], by rw [← carry1]; first | exact (if_pos (by omega)).symm | exact (if_neg (by omega)).symm⟩⟩
 rintro _ _ ⟨c1_0, H4, EH, hc1_0⟩
 refine ze <| d_s [2,3,4,5,6,7,8,9,10] [(2, g_i .u64 (Go.Dbr.u64_add (x := a0 + b0) (y := (0 : UInt64)) rfl rfl))] H4 fun _ H5 => wp_seq <| d_s [2,3,4,5,6,7,8,9,10,32] [] H5 fun _ EE => ?_
 have hle0 : zw (0 : UInt64) ≤ 1 := (by decide)
 refine QH (F := fun ac wo => ∃ (c2_0 : UInt64), Env ac 39 [(2, pt Eb), (3, pt Ec), (4, pt Ea), (5, .int .u64 0), (6, .int .u64 0), (7, .int .i64 0), (8, zm (a0 + b0)), (9, zm c2_0), (10, zm ((a0 + b0) + (0 : UInt64)))] ∧ Ev w [] wo [.box Eb [zm a0, zm a1, zm a2, zm a3] 33, .box Ec [zm b0, zm b1, zm b2, zm b3] 33, .box Ea (zh (zd 4 0)) 33] ∧ (c2_0 = zT a0 b0 (0 : UInt64))) ?_ ?_
 ·
  refine c_d (((zw ((a0 + b0) + (0 : UInt64)) : Nat) : Int) < ((zw (a0 + b0) : Nat) : Int)) EE (fun H6 => ?_) (fun H6 => ?_)
  ·
   refine d_r [2,3,4,5,6,7,8,9,10] [] EE fun _ H7 => ?_
   exact ⟨rfl, ⟨(1 : UInt64), H7.sb, EH.pk [0, 1, 2], by rw [← carry2 hle0]; first | exact (if_pos (by omega)).symm | exact hc1_0.trans (if_neg (by omega)).symm⟩⟩
  refine wp_skip ?_
  exact ⟨rfl, ⟨c1_0, EE.sb, EH.pk [0, 1, 2], by rw [← carry2 hle0]; first | exact (if_pos (by omega)).symm | exact hc1_0.trans (if_neg (by omega)).symm⟩⟩
 rintro _ _ ⟨c2_0, H8, H9, hc2_0⟩
 refine ze <| wp_seq <| zk <| d_k [2,3,4,5,6,7,8,9,10,34,35] [] 3 H8 fun _ aa => f_o <| m_s 0 [.box Eb [zm ((a0 + b0) + (0 : UInt64)), zm a1, zm a2, zm a3] 33, .box Ec [zm b0, zm b1, zm b2, zm b3] 33, .box Ea (zh (zd 4 0)) 33] aa H9 fun _ _ ab EI => f_e <| ze <| d_r [2,3,4,5,6,7,8,10] [] ab fun _ ae => zv <| ze <| d_r [2,3,4,5,6,7,8,10] [] ae fun _ af => ?_
 refine ze <| zF <| wp_seq <| d_s [2,3,4,5,6,7,8,10,12] [] af fun _ Eq => c_t Eq ?_
 refine wp_skip <| ze <| wp_seq <| wp_block <| wp_seq <| r_c (fun ac wo => Env ac 39 [(2, pt Eb), (3, pt Ec), (4, pt Ea), (5, .int .u64 0), (6, zm c2_0), (7, .int .i64 1), (8, zm (a1 + b1)), (10, zm ((a0 + b0) + (0 : UInt64)))] ∧ Ev w [] wo [.box Eb [zm ((a0 + b0) + (0 : UInt64)), zm a1, zm a2, zm a3] 33, .box Ec [zm b0, zm b1, zm b2, zm b3] 33, .box Ea (zh (zd 4 0)) 33]) ?_ ?_
 ·
  refine h_s (fun wv => Ev w [] wv [.box Eb [zm ((a0 + b0) + (0 : UInt64)), zm a1, zm a2, zm a3] 33, .box Ec [zm b0, zm b1, zm b2, zm b3] 33]) [] 8 ?_
  have Ed := EI.trans (zO EI.heap)
  refine q_s [0,1] [] 6 Eq (Ed.pk [0, 1]) fun _ EJ => q_l 0 2 EJ (Ed.pk [0, 1]) fun _ EK => q_s [3,4] [] 3 EK (Ed.pk [0, 1]) fun _ EL => q_l 1 5 EL (Ed.pk [0, 1]) fun _ EM => ?_
  refine q_s [6,7] [(6, g_i .u64 (Go.Dbr.u64_add (x := a1) (y := b1) rfl rfl))] 0 EM (Ed.pk [0, 1]) fun _ EN => ?_
  exact h_e ⟨EN.sb, Ed.pk [0, 1, 2]⟩
 rintro _ _ ⟨EO, Eh⟩
 refine ze <| d_s [2,3,4,5,6,7,8,9,10] [] EO fun _ EP => wp_seq <| wp_seq <| zk <| d_k [2,3,4,5,6,7,8,9,10,22,24] [] 3 EP fun _ EQ => f_o <| m_l 0 EQ Eh fun _ ER => d_e [2,3,4,5,6,7,8,9,10,26] [] ER fun _ Ei => ?_
 refine ze <| QH (F := fun ac wo => ∃ (c1_1 : UInt64), Env ac 39 [(2, pt Eb), (3, pt Ec), (4, pt Ea), (5, .int .u64 0), (6, zm c2_0), (7, .int .i64 1), (8, zm (a1 + b1)), (9, zm c1_1), (10, zm ((a0 + b0) + (0 : UInt64)))] ∧ Ev w [] wo [.box Eb [zm ((a0 + b0) + (0 : UInt64)), zm a1, zm a2, zm a3] 33, .box Ec [zm b0, zm b1, zm b2, zm b3] 33, .box Ea (zh (zd 4 0)) 33] ∧ (c1_1 = zT a1 b1 0)) ?_ ?_
 ·
  refine c_d (((zw (a1 + b1) : Nat) : Int) < ((zw a1 : Nat) : Int)) Ei (fun ES => ?_) (fun ES => ?_)
  ·
   refine d_r [2,3,4,5,6,7,8,9,10] [] Ei fun _ ET => ?_
   exact ⟨rfl, ⟨(1 : UInt64), ET.sb, Eh.pk [0, 1, 2], by rw [← carry1]; first | exact (if_pos (by omega)).symm | exact (if_neg (by omega)).symm⟩⟩
  refine wp_skip ?_
  exact ⟨rfl, ⟨(0 : UInt64), Ei.sb, Eh.pk [0, 1, 2], by rw [← carry1]; first | exact (if_pos (by omega)).symm | exact (if_neg (by omega)).symm⟩⟩
 rintro _ _ ⟨c1_1, EU, Er, hc1_1⟩
 refine ze <| d_s [2,3,4,5,6,7,8,9,10] [(2, g_i .u64 (Go.Dbr.u64_add (x := a1 + b1) (y := c2_0) rfl rfl))] EU fun _ EV => wp_seq <| d_s [2,3,4,5,6,7,8,9,10,32] [] EV fun _ Ej => ?_
 have hle1 : zw c2_0 ≤ 1 := (by rw [hc2_0]; exact YM hle0)
 refine QH (F := fun ac wo => ∃ (c2_1 : UInt64), Env ac 39 [(2, pt Eb), (3, pt Ec), (4, pt Ea), (5, .int .u64 0), (6, zm c2_0), (7, .int .i64 1), (8, zm (a1 + b1)), (9, zm c2_1), (10, zm ((a1 + b1) + c2_0))] ∧ Ev w [] wo [.box Eb [zm ((a0 + b0) + (0 : UInt64)), zm a1, zm a2, zm a3] 33, .box Ec [zm b0, zm b1, zm b2, zm b3] 33, .box Ea (zh (zd 4 0)) 33] ∧ (c2_1 = zT a1 b1 c2_0)) ?_ ?_
 ·
  refine c_d (((zw ((a1 + b1) + c2_0) : Nat) : Int) < ((zw (a1 + b1) : Nat) : Int)) Ej (fun EW => ?_) (fun EW => ?_)
  ·
   refine d_r [2,3,4,5,6,7,8,9,10] [] Ej fun _ EX => ?_
   exact ⟨rfl, ⟨(1 : UInt64), EX.sb, Er.pk [0, 1, 2], by rw [← carry2 hle1]; first | exact (if_pos (by omega)).symm | exact hc1_1.trans (if_neg (by omega)).symm⟩⟩
  refine wp_skip ?_
  exact ⟨rfl, ⟨c1_1, Ej.sb, Er.pk [0, 1, 2], by rw [← carry2 hle1]; first | exact (if_pos (by omega)).symm | exact hc1_1.trans (if_neg (by omega)).symm⟩⟩
 rintro _ _ ⟨c2_1, EY, EZ, hc2_1⟩
 refine ze <| wp_seq <| zk <| d_k [2,3,4,5,6,7,8,9,10,34,35] [] 3 EY fun _ E0 => f_o <| m_s 0 [.box Eb [zm ((a0 + b0) + (0 : UInt64)), zm ((a1 + b1) + c2_0), zm a2, zm a3] 33, .box Ec [zm b0, zm b1, zm b2, zm b3] 33, .box Ea (zh (zd 4 0)) 33] E0 EZ fun _ _ E1 Es => f_e <| ze <| d_r [2,3,4,5,6,7,8,10] [] E1 fun _ E2 => zv <| ze <| d_r [2,3,4,5,6,7,8,10] [] E2 fun _ E3 => ?_
 refine ze <| zF <| wp_seq <| d_s [2,3,4,5,6,7,8,10,12] [] E3 fun _ Et => c_t Et ?_
 refine wp_skip <| ze <| wp_seq <| wp_block <| wp_seq <| r_c (fun ac wo => Env ac 39 [(2, pt Eb), (3, pt Ec), (4, pt Ea), (5, .int .u64 0), (6, zm c2_1), (7, .int .i64 2), (8, zm (a2 + b2)), (10, zm ((a1 + b1) + c2_0))] ∧ Ev w [] wo [.box Eb [zm ((a0 + b0) + (0 : UInt64)), zm ((a1 + b1) + c2_0), zm a2, zm a3] 33, .box Ec [zm b0, zm b1, zm b2, zm b3] 33, .box Ea (zh (zd 4 0)) 33]) ?_ ?_
 ·
  refine h_s (fun wv => Ev w [] wv [.box Eb [zm ((a0 + b0) + (0 : UInt64)), zm ((a1 + b1) + c2_0), zm a2, zm a3] 33, .box Ec [zm b0, zm b1, zm b2, zm b3] 33]) [] 8 ?_
  have Ee := Es.trans (zO Es.heap)
  refine q_s [0,1] [] 6 Et (Ee.pk [0, 1]) fun _ E4 => q_l 0 2 E4 (Ee.pk [0, 1]) fun _ E5 => q_s [3,4] [] 3 E5 (Ee.pk [0, 1]) fun _ E6 => q_l 1 5 E6 (Ee.pk [0, 1]) fun _ E7 => ?_
  refine q_s [6,7] [(6, g_i .u64 (Go.Dbr.u64_add (x := a2) (y := b2) rfl rfl))] 0 E7 (Ee.pk [0, 1]) fun _ E8 => ?_
  exact h_e ⟨E8.sb, Ee.pk [0, 1, 2]⟩
 rintro _ _ ⟨E9, Ek⟩
 refine ze <| d_s [2,3,4,5,6,7,8,9,10] [] E9 fun _ Ha => wp_seq <| wp_seq <| zk <| d_k [2,3,4,5,6,7,8,9,10,22,24] [] 3 Ha fun _ Hb => f_o <| m_l 0 Hb Ek fun _ Hc => d_e [2,3,4,5,6,7,8,9,10,26] [] Hc fun _ El => ?_
 refine ze <| QH (F := fun ac wo => ∃ (c1_2 : UInt64), Env ac 39 [(2, pt Eb), (3, pt Ec), (4, pt Ea), (5, .int .u64 0), (6, zm c2_1), (7, .int .i64 2), (8, zm (a2 + b2)), (9, zm c1_2), (10, zm ((a1 + b1) + c2_0))] ∧ Ev w [] wo [.box Eb [zm ((a0 + b0) + (0 : UInt64)), zm ((a1 + b1) + c2_0), zm a2, zm a3] 33, .box Ec [zm b0, zm b1, zm b2, zm b3] 33, .box Ea (zh (zd 4 0)) 33] ∧ (c1_2 = zT a2 b2 0)) ?_ ?_
 ·
  refine c_d (((zw (a2 + b2) : Nat) : Int) < ((zw a2 : Nat) : Int)) El (fun Hd => ?_) (fun Hd => ?_)
  ·
   refine d_r [2,3,4,5,6,7,8,9,10] [] El fun _ He => ?_
   exact ⟨rfl, ⟨(1 : UInt64), He.sb, Ek.pk [0, 1, 2], by rw [← carry1]; first | exact (if_pos (by omega)).symm | exact (if_neg (by omega)).symm⟩⟩
  refine wp_skip ?_
  exact ⟨rfl, ⟨(0 : UInt64), El.sb, Ek.pk [0, 1, 2], by rw [← carry1]; first | exact (if_pos (by omega)).symm | exact (if_neg (by omega)).symm⟩⟩
 rintro _ _ ⟨c1_2, Hf, Eu, hc1_2⟩
 refine ze <| d_s [2,3,4,5,6,7,8,9,10] [(2, g_i .u64 (Go.Dbr.u64_add (x := a2 + b2) (y := c2_1) rfl rfl))] Hf fun _ Hg => wp_seq <| d_s [2,3,4,5,6,7,8,9,10,32] [] Hg fun _ Em => ?_
 have hle2 : zw c2_1 ≤ 1 := (by rw [hc2_1]; exact YM hle1)
 refine QH (F := fun ac wo => ∃ (c2_2 : UInt64), Env ac 39 [(2, pt Eb), (3, pt Ec), (4, pt Ea), (5, .int .u64 0), (6, zm c2_1), (7, .int .i64 2), (8, zm (a2 + b2)), (9, zm c2_2), (10, zm ((a2 + b2) + c2_1))] ∧ Ev w [] wo [.box Eb [zm ((a0 + b0) + (0 : UInt64)), zm ((a1 + b1) + c2_0), zm a2, zm a3] 33, .box Ec [zm b0, zm b1, zm b2, zm b3] 33, .box Ea (zh (zd 4 0)) 33] ∧ (c2_2 = zT a2 b2 c2_1)) ?_ ?_
 ·
  refine c_d (((zw ((a2 + b2) + c2_1) : Nat) : Int) < ((zw (a2 + b2) : Nat) : Int)) Em (fun Hh => ?_) (fun Hh => ?_)
  ·
   refine d_r [2,3,4,5,6,7,8,9,10] [] Em fun _ Hi => ?_
   exact ⟨rfl, ⟨(1 : UInt64), Hi.sb, Eu.pk [0, 1, 2], by rw [← carry2 hle2]; first | exact (if_pos (by omega)).symm | exact hc1_2.trans (if_neg (by omega)).symm⟩⟩
  refine wp_skip ?_
  exact ⟨rfl, ⟨c1_2, Em.sb, Eu.pk [0, 1, 2], by rw [← carry2 hle2]; first | exact (if_pos (by omega)).symm | exact hc1_2.trans (if_neg (by omega)).symm⟩⟩
 rintro _ _ ⟨c2_2, Hj, Hk, hc2_2⟩
 refine ze <| wp_seq <| zk <| d_k [2,3,4,5,6,7,8,9,10,34,35] [] 3 Hj fun _ Hl => f_o <| m_s 0 [.box Eb [zm ((a0 + b0) + (0 : UInt64)), zm ((a1 + b1) + c2_0), zm ((a2 + b2) + c2_1), zm a3] 33, .box Ec [zm b0, zm b1, zm b2, zm b3] 33, .box Ea (zh (zd 4 0)) 33] Hl Hk fun _ _ Hm Ew => f_e <| ze <| d_r [2,3,4,5,6,7,8,10] [] Hm fun _ Hn => zv <| ze <| d_r [2,3,4,5,6,7,8,10] [] Hn fun _ Ho => ?_
 refine ze <| zF <| wp_seq <| d_s [2,3,4,5,6,7,8,10,12] [] Ho fun _ Ex => c_t Ex ?_
 refine wp_skip <| ze <| wp_seq <| wp_block <| wp_seq <| r_c (fun ac wo => Env ac 39 [(2, pt Eb), (3, pt Ec), (4, pt Ea), (5, .int .u64 0), (6, zm c2_2), (7, .int .i64 3), (8, zm (a3 + b3)), (10, zm ((a2 + b2) + c2_1))] ∧ Ev w [] wo [.box Eb [zm ((a0 + b0) + (0 : UInt64)), zm ((a1 + b1) + c2_0), zm ((a2 + b2) + c2_1), zm a3] 33, .box Ec [zm b0, zm b1, zm b2, zm b3] 33, .box Ea (zh (zd 4 0)) 33]) ?_ ?_
 ·
  refine h_s (fun wv => Ev w [] wv [.box Eb [zm ((a0 + b0) + (0 : UInt64)), zm ((a1 + b1) + c2_0), zm ((a2 + b2) + c2_1), zm a3] 33, .box Ec [zm b0, zm b1, zm b2, zm b3] 33]) [] 8 ?_
  have Ef := Ew.trans (zO Ew.heap)
  refine q_s [0,1] [] 6 Ex (Ef.pk [0, 1]) fun _ Hp => q_l 0 2 Hp (Ef.pk [0, 1]) fun _ Hq => q_s [3,4] [] 3 Hq (Ef.pk [0, 1]) fun _ Hr => q_l 1 5 Hr (Ef.pk [0, 1]) fun _ Hs => ?_
  refine q_s [6,7] [(6, g_i .u64 (Go.Dbr.u64_add (x := a3) (y := b3) rfl rfl))] 0 Hs (Ef.pk [0, 1]) fun _ Ht => ?_
  exact h_e ⟨Ht.sb, Ef.pk [0, 1, 2]⟩
 rintro _ _ ⟨Hu, En⟩
 refine ze <| d_s [2,3,4,5,6,7,8,9,10] [] Hu fun _ Hv => wp_seq <| wp_seq <| zk <| d_k [2,3,4,5,6,7,8,9,10,22,24] [] 3 Hv fun _ Hw => f_o <| m_l 0 Hw En fun _ Hx => d_e [2,3,4,5,6,7,8,9,10,26] [] Hx fun _ Eo => ?_
 refine ze <| QH (F := fun ac wo => ∃ (c1_3 : UInt64), Env ac 39 [(2, pt Eb), (3, pt Ec), (4, pt Ea), (5, .int .u64 0), (6, zm c2_2), (7, .int .i64 3), (8, zm (a3 + b3)), (9, zm c1_3), (10, zm ((a2 + b2) + c2_1))] ∧ Ev w [] wo [.box Eb [zm ((a0 + b0) + (0 : UInt64)), zm ((a1 + b1) + c2_0), zm ((a2 + b2) + c2_1), zm a3] 33, .box Ec [zm b0, zm b1, zm b2, zm b3] 33, .box Ea (zh (zd 4 0)) 33] ∧ (c1_3 = zT a3 b3 0)) ?_ ?_
 ·
  refine c_d (((zw (a3 + b3) : Nat) : Int) < ((zw a3 : Nat) : Int)) Eo (fun Hy => ?_) (fun Hy => ?_)
  ·
   refine d_r [2,3,4,5,6,7,8,9,10] [] Eo fun _ Hz => ?_
   exact ⟨rfl, ⟨(1 : UInt64), Hz.sb, En.pk [0, 1, 2], by rw [← carry1]; first | exact (if_pos (by omega)).symm | exact (if_neg (by omega)).symm⟩⟩
  refine wp_skip ?_
  exact ⟨rfl, ⟨(0 : UInt64), Eo.sb, En.pk [0, 1, 2], by rw [← carry1]; first | exact (if_pos (by omega)).symm | exact (if_neg (by omega)).symm⟩⟩
 rintro _ _ ⟨c1_3, HA, Ey, hc1_3⟩
 refine ze <| d_s [2,3,4,5,6,7,8,9,10] [(2, g_i .u64 (Go.Dbr.u64_add (x := a3 + b3) (y := c2_2) rfl rfl))] HA fun _ HB => wp_seq <| d_s [2,3,4,5,6,7,8,9,10,32] [] HB fun _ Ep => ?_
 have hle3 : zw c2_2 ≤ 1 := (by rw [hc2_2]; exact YM hle2)
 refine QH (F := fun ac wo => ∃ (c2_3 : UInt64), Env ac 39 [(2, pt Eb), (3, pt Ec), (4, pt Ea), (5, .int .u64 0), (6, zm c2_2), (7, .int .i64 3), (8, zm (a3 + b3)), (9, zm c2_3), (10, zm ((a3 + b3) + c2_2))] ∧ Ev w [] wo [.box Eb [zm ((a0 + b0) + (0 : UInt64)), zm ((a1 + b1) + c2_0), zm ((a2 + b2) + c2_1), zm a3] 33, .box Ec [zm b0, zm b1, zm b2, zm b3] 33, .box Ea (zh (zd 4 0)) 33] ∧ (c2_3 = zT a3 b3 c2_2)) ?_ ?_
 ·
  refine c_d (((zw ((a3 + b3) + c2_2) : Nat) : Int) < ((zw (a3 + b3) : Nat) : Int)) Ep (fun HC => ?_) (fun HC => ?_)
  ·
   refine d_r [2,3,4,5,6,7,8,9,10] [] Ep fun _ HD => ?_
   exact ⟨rfl, ⟨(1 : UInt64), HD.sb, Ey.pk [0, 1, 2], by rw [← carry2 hle3]; first | exact (if_pos (by omega)).symm | exact hc1_3.trans (if_neg (by omega)).symm⟩⟩
  refine wp_skip ?_
  exact ⟨rfl, ⟨c1_3, Ep.sb, Ey.pk [0, 1, 2], by rw [← carry2 hle3]; first | exact (if_pos (by omega)).symm | exact hc1_3.trans (if_neg (by omega)).symm⟩⟩
 rintro _ _ ⟨c2_3, HE, HF, hc2_3⟩
 refine ze <| wp_seq <| zk <| d_k [2,3,4,5,6,7,8,9,10,34,35] [] 3 HE fun _ HG => f_o <| m_s 0 [.box Eb [zm ((a0 + b0) + (0 : UInt64)), zm ((a1 + b1) + c2_0), zm ((a2 + b2) + c2_1), zm ((a3 + b3) + c2_2)] 33, .box Ec [zm b0, zm b1, zm b2, zm b3] 33, .box Ea (zh (zd 4 0)) 33] HG HF fun _ _ HH Ez => f_e <| ze <| d_r [2,3,4,5,6,7,8,10] [] HH fun _ HI => zv <| ze <| d_r [2,3,4,5,6,7,8,10] [] HI fun _ HJ => ?_
 refine ze <| zF <| wp_seq <| d_s [2,3,4,5,6,7,8,10,12] [] HJ fun _ EA => c_f EA ?_
 refine wp_exit <| zy <| zy <| zL <| ze <| wp_seq <| zk <| f_o <| m_a 0 0 4 [zm ((a0 + b0) + (0 : UInt64)), zm ((a1 + b1) + c2_0), zm ((a2 + b2) + c2_1), zm ((a3 + b3) + c2_2)] EA Ez rfl rfl rfl fun _ HK => d_k [2,3,4,5,6,7,8,10,37,38] [] 2 HK fun _ HL => f_o <| zQ 2 4 [zm ((a0 + b0) + (0 : UInt64)), zm ((a1 + b1) + c2_0), zm ((a2 + b2) + c2_1), zm ((a3 + b3) + c2_2)] _ HL Ez rfl rfl (zf (zi)) (one_all (by kernel_rfl)) rfl fun _ _ HM EB => d_e [2,3,4,5,6,7,8,10] [] HM fun _ HN => ?_
 refine ze <| wp_ret <| d_cell_tmp (v := .agg #[zm ((a0 + b0) + (0 : UInt64)), zm ((a1 + b1) + c2_0), zm ((a2 + b2) + c2_1), zm ((a3 + b3) + c2_2)]) (x := zm c2_3) (t := 4) (T := 33) (ad := ⟨Ea, 0, none⟩) (u := 5) HN (by kernel_rfl) (by kernel_rfl) (zB (t := 33) (k := 2) (off := 0) (m := 4) (xs := [zm ((a0 + b0) + (0 : UInt64)), zm ((a1 + b1) + c2_0), zm ((a2 + b2) + c2_1), zm ((a3 + b3) + c2_2)]) EB rfl rfl rfl (by kernel_rfl) (by kernel_rfl)) (by kernel_rfl) ?_
 subst hc2_0
 subst hc2_1
 subst hc2_2
 subst hc2_3
 exact ⟨rfl, EB.pk []⟩
theorem rplus_go (w : World) (a b : List UInt64) (ha : zb a = 4) (hb : zb b = 4) : Calls Tryz.prog 62 #[.agg (zg (zh a)), .agg (zg (zh b))] w fun e w' => e = .returned (.tuple #[.agg (zg (zh (nd (nv a + nv b)))), zm (u1 (zU ≤ nv a + nv b))]) ∧ Ev w [] w' [] := by
  rw [← plus_nd ha hb, ← ad_nd ha hb]
  match a, ha, b, hb with
  | [a0, a1, a2, a3], _, [b0, b1, b2, b3], _ => exact rplus4 w a0 a1 a2 a3 b0 b1 b2 b3
theorem compl_val (x : UInt64) : (~~~ x).toNat = 18446744073709551615 - x.toNat := by
  rw [UInt64.toNat_not]
  rfl
theorem rmin_eq (a0 a1 a2 a3 b0 b1 b2 b3 : UInt64) : nd (nv (nd (nv [a0, a1, a2, a3] + nv [~~~ b0, ~~~ b1, ~~~ b2, ~~~ b3])) + nv [(1 : UInt64), 0, 0, 0]) = nd (nv [a0, a1, a2, a3] + zU - nv [b0, b1, b2, b3]) := by
  have hb := nv_lt (l := [b0, b1, b2, b3]) rfl
  have hc : nv [~~~ b0, ~~~ b1, ~~~ b2, ~~~ b3] + nv [b0, b1, b2, b3] + 1 = zU := by
    rw [nv4, nv4, compl_val, compl_val, compl_val, compl_val]
    have := Qb b0; have := Qb b1; have := Qb b2; have := Qb b3
    simp only [zU]
    omega
  rw [nd_val, num1, show (1 : UInt64).toNat = 1 from rfl, ← JW, ← JW (_ - _)]
  congr 1
  simp only [zU] at *
  omega
theorem rminus4 (w : World) (a0 a1 a2 a3 b0 b1 b2 b3 : UInt64) : Calls Tryz.prog 94 #[.agg #[zm a0, zm a1, zm a2, zm a3], .agg #[zm b0, zm b1, zm b2, zm b3]] w fun e w' => e = .returned (.agg (zg (zh (nd (nv [a0, a1, a2, a3] + zU - nv [b0, b1, b2, b3]))))) ∧ Ev w [] w' [] := by
 refine d_0 [(0, .agg #[zm a0, zm a1, zm a2, zm a3]), (1, .agg #[zm b0, zm b1, zm b2, zm b3])] 33 Go.Proofs.Tryz.func94 Go.Proofs.Tryz.ntmps94 (Heap.nil _) fun Ha Hb Hc => wp_seq <| zk <| f_o <| m_m 33 [zm a0, zm a1, zm a2, zm a3] Hb Hc fun _ _ Ee Hd He => f_o <| m_m 33 [zm b0, zm b1, zm b2, zm b3] Hd He fun _ _ Ef Hf ED => f_o <| m_z 33 (zh (zd 4 0)) Hf ED fun _ _ Ea EE Eg => ?_
 refine f_e <| ze <| wp_seq <| d_s [2,3,4,5] [] EE fun _ EF => wp_block <| QI ?_
 refine zF <| wp_seq <| d_s [2,3,4,5,11] [] EF fun _ Eh => c_t Eh ?_
 refine wp_skip <| ze <| wp_seq <| wp_block <| zk <| d_k [2,3,4,5,14,16] [] 3 Eh fun _ EG => f_o <| m_l 1 EG Eg fun _ EH => d_k [2,3,4,5,18,19] [(4, g_i .u64 (Go.Dbr.u64_xor (x := 18446744073709551615) (y := b0) rfl rfl))] 6 EH fun _ EI => f_o <| m_s 1 [.box Ee [zm a0, zm a1, zm a2, zm a3] 33, .box Ef [zm ((18446744073709551615 : UInt64) ^^^ b0), zm b1, zm b2, zm b3] 33, .box Ea (zh (zd 4 0)) 33] EI Eg fun _ _ EJ Ei => ?_
 refine f_e <| zv <| ze <| d_r [2,3,4,5] [] EJ fun _ EK => ze <| zF <| wp_seq <| d_s [2,3,4,5,11] [] EK fun _ Ej => c_t Ej ?_
 refine wp_skip <| ze <| wp_seq <| wp_block <| zk <| d_k [2,3,4,5,14,16] [] 3 Ej fun _ EL => f_o <| m_l 1 EL Ei fun _ EM => d_k [2,3,4,5,18,19] [(4, g_i .u64 (Go.Dbr.u64_xor (x := 18446744073709551615) (y := b1) rfl rfl))] 6 EM fun _ EN => f_o <| m_s 1 [.box Ee [zm a0, zm a1, zm a2, zm a3] 33, .box Ef [zm ((18446744073709551615 : UInt64) ^^^ b0), zm ((18446744073709551615 : UInt64) ^^^ b1), zm b2, zm b3] 33, .box Ea (zh (zd 4 0)) 33] EN Ei fun _ _ EO Ek => ?_
 refine f_e <| zv <| ze <| d_r [2,3,4,5] [] EO fun _ EP => ze <| zF <| wp_seq <| d_s [2,3,4,5,11] [] EP fun _ El => c_t El ?_
 refine wp_skip <| ze <| wp_seq <| wp_block <| zk <| d_k [2,3,4,5,14,16] [] 3 El fun _ EQ => f_o <| m_l 1 EQ Ek fun _ ER => d_k [2,3,4,5,18,19] [(4, g_i .u64 (Go.Dbr.u64_xor (x := 18446744073709551615) (y := b2) rfl rfl))] 6 ER fun _ ES => f_o <| m_s 1 [.box Ee [zm a0, zm a1, zm a2, zm a3] 33, .box Ef [zm ((18446744073709551615 : UInt64) ^^^ b0), zm ((18446744073709551615 : UInt64) ^^^ b1), zm ((18446744073709551615 : UInt64) ^^^ b2), zm b3] 33, .box Ea (zh (zd 4 0)) 33] ES Ek fun _ _ ET Em => ?_
 refine f_e <| zv <| ze <| d_r [2,3,4,5] [] ET fun _ EU => ze <| zF <| wp_seq <| d_s [2,3,4,5,11] [] EU fun _ En => c_t En ?_
 refine wp_skip <| ze <| wp_seq <| wp_block <| zk <| d_k [2,3,4,5,14,16] [] 3 En fun _ EV => f_o <| m_l 1 EV Em fun _ EW => d_k [2,3,4,5,18,19] [(4, g_i .u64 (Go.Dbr.u64_xor (x := 18446744073709551615) (y := b3) rfl rfl))] 6 EW fun _ EX => f_o <| m_s 1 [.box Ee [zm a0, zm a1, zm a2, zm a3] 33, .box Ef [zm ((18446744073709551615 : UInt64) ^^^ b0), zm ((18446744073709551615 : UInt64) ^^^ b1), zm ((18446744073709551615 : UInt64) ^^^ b2), zm ((18446744073709551615 : UInt64) ^^^ b3)] 33, .box Ea (zh (zd 4 0)) 33] EX Em fun _ _ EY Ed => ?_
 refine f_e <| zv <| ze <| d_r [2,3,4,5] [] EY fun _ EZ => ze <| zF <| wp_seq <| d_s [2,3,4,5,11] [] EZ fun _ Eo => c_f Eo ?_
 refine wp_exit <| zy <| zy <| zL <| ze <| wp_seq <| zk <| f_o <| m_a 0 0 4 [zm a0, zm a1, zm a2, zm a3] Eo Ed rfl rfl rfl fun _ E0 => f_o <| m_a 1 0 4 [zm ((18446744073709551615 : UInt64) ^^^ b0), zm ((18446744073709551615 : UInt64) ^^^ b1), zm ((18446744073709551615 : UInt64) ^^^ b2), zm ((18446744073709551615 : UInt64) ^^^ b3)] E0 Ed rfl rfl rfl fun _ E1 => f_o <| c_p E1 Ed (rplus_go _ [a0, a1, a2, a3] [(18446744073709551615 : UInt64) ^^^ b0, (18446744073709551615 : UInt64) ^^^ b1, (18446744073709551615 : UInt64) ^^^ b2, (18446744073709551615 : UInt64) ^^^ b3] rfl rfl) fun _ _ E2 E3 => d_k [3,4,5,24,25] [] 6 E2 fun _ E4 => ?_
 refine f_o <| m_z 33 (zh (zd 4 0)) E4 E3 fun _ _ E5 E6 E7 => f_o <| zQ 3 4 (zh (nd (nv [a0, a1, a2, a3] + nv [(18446744073709551615 : UInt64) ^^^ b0, (18446744073709551615 : UInt64) ^^^ b1, (18446744073709551615 : UInt64) ^^^ b2, (18446744073709551615 : UInt64) ^^^ b3]))) _ E6 E7 rfl (zf (zl _ _)) (zf (zi)) (zt _) rfl fun _ _ E8 Ep => d_e [3,4,5,6] [] E8 fun _ E9 => ze <| wp_seq <| zk <| f_o <| Zp 3 4 (zh (nd (nv [a0, a1, a2, a3] + nv [(18446744073709551615 : UInt64) ^^^ b0, (18446744073709551615 : UInt64) ^^^ b1, (18446744073709551615 : UInt64) ^^^ b2, (18446744073709551615 : UInt64) ^^^ b3]))) E9 Ep rfl (zf (zl _ _)) fun _ Eq => ?_
 refine d_k [3,4,5,6,27,28] [] 2 Eq fun _ Er => f_o <| c_p Er Ep (rplus_go _ (nd (nv [a0, a1, a2, a3] + nv [(18446744073709551615 : UInt64) ^^^ b0, (18446744073709551615 : UInt64) ^^^ b1, (18446744073709551615 : UInt64) ^^^ b2, (18446744073709551615 : UInt64) ^^^ b3])) ([1, 0, 0, 0] : List UInt64) (zl _ _) (show zb ([1, 0, 0, 0] : List UInt64) = 4 from rfl)) fun _ _ Es Et => d_k [3,4,5,6,30,31] [] 6 Es fun _ Eu => f_o <| m_z 33 (zh (zd 4 0)) Eu Et fun _ _ Ew Ex Ey => ?_
 refine f_o <| zQ 4 4 (zh (nd (nv (nd (nv [a0, a1, a2, a3] + nv [(18446744073709551615 : UInt64) ^^^ b0, (18446744073709551615 : UInt64) ^^^ b1, (18446744073709551615 : UInt64) ^^^ b2, (18446744073709551615 : UInt64) ^^^ b3])) + nv ([1, 0, 0, 0] : List UInt64)))) [.box Ee [zm a0, zm a1, zm a2, zm a3] 33, .box Ef [zm ((18446744073709551615 : UInt64) ^^^ b0), zm ((18446744073709551615 : UInt64) ^^^ b1), zm ((18446744073709551615 : UInt64) ^^^ b2), zm ((18446744073709551615 : UInt64) ^^^ b3)] 33, .box Ea (zh (zd 4 0)) 33, .box E5 (zh (nd (nv [a0, a1, a2, a3] + nv [(18446744073709551615 : UInt64) ^^^ b0, (18446744073709551615 : UInt64) ^^^ b1, (18446744073709551615 : UInt64) ^^^ b2, (18446744073709551615 : UInt64) ^^^ b3]))) 33, .box Ew (zh (nd (nv (nd (nv [a0, a1, a2, a3] + nv [(18446744073709551615 : UInt64) ^^^ b0, (18446744073709551615 : UInt64) ^^^ b1, (18446744073709551615 : UInt64) ^^^ b2, (18446744073709551615 : UInt64) ^^^ b3])) + nv ([1, 0, 0, 0] : List UInt64)))) 33] Ex Ey rfl (zf (zl _ _)) (zf (zi)) (zt _) rfl fun _ _ Ez Eb => d_e [3,4,5,6,8] [] Ez fun _ EA => ze <| wp_seq <| zk <| f_o <| Zp 4 4 (zh (nd (nv (nd (nv [a0, a1, a2, a3] + nv [(18446744073709551615 : UInt64) ^^^ b0, (18446744073709551615 : UInt64) ^^^ b1, (18446744073709551615 : UInt64) ^^^ b2, (18446744073709551615 : UInt64) ^^^ b3])) + nv ([1, 0, 0, 0] : List UInt64)))) EA Eb rfl (zf (zl _ _)) fun _ EB => f_o <| zQ 2 4 (zh (nd (nv (nd (nv [a0, a1, a2, a3] + nv [(18446744073709551615 : UInt64) ^^^ b0, (18446744073709551615 : UInt64) ^^^ b1, (18446744073709551615 : UInt64) ^^^ b2, (18446744073709551615 : UInt64) ^^^ b3])) + nv ([1, 0, 0, 0] : List UInt64)))) _ EB Eb rfl (zf (zl _ _)) (zf (zi)) (zt _) rfl fun _ _ EC Ec => ?_
 refine f_e <| ze <| wp_ret <| z9 (v := .agg (zg (zh (nd (nv (nd (nv [a0, a1, a2, a3] + nv [(18446744073709551615 : UInt64) ^^^ b0, (18446744073709551615 : UInt64) ^^^ b1, (18446744073709551615 : UInt64) ^^^ b2, (18446744073709551615 : UInt64) ^^^ b3])) + nv ([1, 0, 0, 0] : List UInt64)))))) (t := 4) (T := 33) (ad := ⟨Ea, 0, none⟩) EC (by kernel_rfl) (by kernel_rfl) (zB (t := 33) (k := 2) (off := 0) (m := 4) (xs := zh (nd (nv (nd (nv [a0, a1, a2, a3] + nv [(18446744073709551615 : UInt64) ^^^ b0, (18446744073709551615 : UInt64) ^^^ b1, (18446744073709551615 : UInt64) ^^^ b2, (18446744073709551615 : UInt64) ^^^ b3])) + nv ([1, 0, 0, 0] : List UInt64)))) Ec rfl (zq (zf (zl _ _))) (zf (zl _ _)) (by kernel_rfl) (by kernel_rfl)) ?_
 have e : nd (nv (nd (nv [a0, a1, a2, a3] + nv [(18446744073709551615 : UInt64) ^^^ b0, (18446744073709551615 : UInt64) ^^^ b1, (18446744073709551615 : UInt64) ^^^ b2, (18446744073709551615 : UInt64) ^^^ b3])) + nv ([1, 0, 0, 0] : List UInt64)) = nd (nv [a0, a1, a2, a3] + zU - nv [b0, b1, b2, b3]) := rmin_eq a0 a1 a2 a3 b0 b1 b2 b3
 rw [e]
 exact ⟨rfl, Ec.pk []⟩
theorem rminus_go (w : World) (a b : List UInt64) (ha : zb a = 4) (hb : zb b = 4) : Calls Tryz.prog 94 #[.agg (zg (zh a)), .agg (zg (zh b))] w fun e w' => e = .returned (.agg (zg (zh (nd (nv a + zU - nv b))))) ∧ Ev w [] w' [] := by
  match a, ha, b, hb with
  | [a0, a1, a2, a3], _, [b0, b1, b2, b3], _ => exact rminus4 w a0 a1 a2 a3 b0 b1 b2 b3
theorem rmod_1 (w : World)  : Calls Tryz.prog 37 #[.int .i64 1] w fun e w' => e = .returned (.agg (zg (zh (nd (mF 1))))) ∧ Ev w [] w' [] := by
 refine d_0 [(0, .int .i64 1)] 17 Go.Proofs.Tryz.func37 Go.Proofs.Tryz.ntmps37 (Heap.nil _) fun Ee Ef Eg => wp_seq <| zk <| f_o <| m_z 33 (zh (zd 4 0)) Ef Eg fun _ _ Eh Ei Ej => f_e <| ze <| wp_seq <| d_s [2,3] [] Ei fun _ Ek => wp_block <| d_s [2,3,4] [] Ek fun _ Ed => ?_
 refine c_t Ed ?_
 refine wp_seq <| zk <| d_k [2,3,6] [] 1 Ed fun _ Eb => f_o <| zQ 0 4 (zh ([18446744073709551597, 18446744073709551615, 18446744073709551615, 9223372036854775807] : List UInt64)) _ Eb Ej rfl (zf (show zb ([18446744073709551597, 18446744073709551615, 18446744073709551615, 9223372036854775807] : List UInt64) = 4 from rfl)) (zf (zi)) (zt _) rfl fun _ _ Ec Ea => f_e <| ze <| wp_ret <| Z8 <| ZE <| z9 (v := .agg (zg (zh ([18446744073709551597, 18446744073709551615, 18446744073709551615, 9223372036854775807] : List UInt64)))) (t := 2) (T := 33) (ad := ⟨Eh, 0, none⟩) Ec (by kernel_rfl) (by kernel_rfl) (zB (t := 33) (k := 0) (off := 0) (m := 4) (xs := zh ([18446744073709551597, 18446744073709551615, 18446744073709551615, 9223372036854775807] : List UInt64)) Ea rfl (zq (zf (show zb ([18446744073709551597, 18446744073709551615, 18446744073709551615, 9223372036854775807] : List UInt64) = 4 from rfl))) (zf (show zb ([18446744073709551597, 18446744073709551615, 18446744073709551615, 9223372036854775807] : List UInt64) = 4 from rfl)) (by kernel_rfl) (by kernel_rfl)) ?_
 exact ⟨by kernel_rfl, Ea.pk []⟩
theorem rmod_2 (w : World)  : Calls Tryz.prog 37 #[.int .i64 2] w fun e w' => e = .returned (.agg (zg (zh (nd (mF 2))))) ∧ Ev w [] w' [] := by
 refine d_0 [(0, .int .i64 2)] 17 Go.Proofs.Tryz.func37 Go.Proofs.Tryz.ntmps37 (Heap.nil _) fun Ef Eg Eh => wp_seq <| zk <| f_o <| m_z 33 (zh (zd 4 0)) Eg Eh fun _ _ Ei Ej Ek => f_e <| ze <| wp_seq <| d_s [2,3] [] Ej fun _ El => wp_block <| d_s [2,3,4] [] El fun _ Ee => ?_
 refine c_f Ee ?_
 refine d_s [2,3,7] [] Ee fun _ Ea => c_t Ea ?_
 refine wp_seq <| zk <| d_k [2,3,9] [] 1 Ea fun _ Ec => f_o <| zQ 0 4 (zh ([18446744073709551615, 4294967295, 0, 18446744069414584321] : List UInt64)) _ Ec Ek rfl (zf (show zb ([18446744073709551615, 4294967295, 0, 18446744069414584321] : List UInt64) = 4 from rfl)) (zf (zi)) (zt _) rfl fun _ _ Ed Eb => f_e <| ze <| wp_ret <| Z8 <| ZE <| z9 (v := .agg (zg (zh ([18446744073709551615, 4294967295, 0, 18446744069414584321] : List UInt64)))) (t := 2) (T := 33) (ad := ⟨Ei, 0, none⟩) Ed (by kernel_rfl) (by kernel_rfl) (zB (t := 33) (k := 0) (off := 0) (m := 4) (xs := zh ([18446744073709551615, 4294967295, 0, 18446744069414584321] : List UInt64)) Eb rfl (zq (zf (show zb ([18446744073709551615, 4294967295, 0, 18446744069414584321] : List UInt64) = 4 from rfl))) (zf (show zb ([18446744073709551615, 4294967295, 0, 18446744069414584321] : List UInt64) = 4 from rfl)) (by kernel_rfl) (by kernel_rfl)) ?_
 exact ⟨by kernel_rfl, Eb.pk []⟩
theorem rmod_3 (w : World)  : Calls Tryz.prog 37 #[.int .i64 3] w fun e w' => e = .returned (.agg (zg (zh (nd (mF 3))))) ∧ Ev w [] w' [] := by
 refine d_0 [(0, .int .i64 3)] 17 Go.Proofs.Tryz.func37 Go.Proofs.Tryz.ntmps37 (Heap.nil _) fun Eg Eh Ei => wp_seq <| zk <| f_o <| m_z 33 (zh (zd 4 0)) Eh Ei fun _ _ Ej Ek El => f_e <| ze <| wp_seq <| d_s [2,3] [] Ek fun _ Em => wp_block <| d_s [2,3,4] [] Em fun _ Ef => ?_
 refine c_f Ef ?_
 refine d_s [2,3,7] [] Ef fun _ Ea => c_f Ea ?_
 refine d_s [2,3,10] [] Ea fun _ Eb => c_t Eb ?_
 refine wp_seq <| zk <| d_k [2,3,12] [] 1 Eb fun _ Ed => f_o <| zQ 0 4 (zh ([17562291160714782033, 13611842547513532036, 18446744073709551615, 18446744069414584320] : List UInt64)) _ Ed El rfl (zf (show zb ([17562291160714782033, 13611842547513532036, 18446744073709551615, 18446744069414584320] : List UInt64) = 4 from rfl)) (zf (zi)) (zt _) rfl fun _ _ Ee Ec => f_e <| ze <| wp_ret <| Z8 <| ZE <| z9 (v := .agg (zg (zh ([17562291160714782033, 13611842547513532036, 18446744073709551615, 18446744069414584320] : List UInt64)))) (t := 2) (T := 33) (ad := ⟨Ej, 0, none⟩) Ee (by kernel_rfl) (by kernel_rfl) (zB (t := 33) (k := 0) (off := 0) (m := 4) (xs := zh ([17562291160714782033, 13611842547513532036, 18446744073709551615, 18446744069414584320] : List UInt64)) Ec rfl (zq (zf (show zb ([17562291160714782033, 13611842547513532036, 18446744073709551615, 18446744069414584320] : List UInt64) = 4 from rfl))) (zf (show zb ([17562291160714782033, 13611842547513532036, 18446744073709551615, 18446744069414584320] : List UInt64) = 4 from rfl)) (by kernel_rfl) (by kernel_rfl)) ?_
 exact ⟨by kernel_rfl, Ec.pk []⟩
theorem rmod_4 (w : World)  : Calls Tryz.prog 37 #[.int .i64 4] w fun e w' => e = .returned (.agg (zg (zh (nd (mF 4))))) ∧ Ev w [] w' [] := by
 refine d_0 [(0, .int .i64 4)] 17 Go.Proofs.Tryz.func37 Go.Proofs.Tryz.ntmps37 (Heap.nil _) fun Eh Ei Ej => wp_seq <| zk <| f_o <| m_z 33 (zh (zd 4 0)) Ei Ej fun _ _ Ek El Em => f_e <| ze <| wp_seq <| d_s [2,3] [] El fun _ En => wp_block <| d_s [2,3,4] [] En fun _ Eg => ?_
 refine c_f Eg ?_
 refine d_s [2,3,7] [] Eg fun _ Ea => c_f Ea ?_
 refine d_s [2,3,10] [] Ea fun _ Eb => c_f Eb ?_
 refine d_s [2,3,13] [] Eb fun _ Ec => c_t Ec ?_
 refine wp_seq <| zk <| d_k [2,3,15] [] 1 Ec fun _ Ee => f_o <| zQ 0 4 (zh ([6346243789798364141, 1503914060200516822, 0, 1152921504606846976] : List UInt64)) _ Ee Em rfl (zf (show zb ([6346243789798364141, 1503914060200516822, 0, 1152921504606846976] : List UInt64) = 4 from rfl)) (zf (zi)) (zt _) rfl fun _ _ Ef Ed => f_e <| ze <| wp_ret <| Z8 <| ZE <| z9 (v := .agg (zg (zh ([6346243789798364141, 1503914060200516822, 0, 1152921504606846976] : List UInt64)))) (t := 2) (T := 33) (ad := ⟨Ek, 0, none⟩) Ef (by kernel_rfl) (by kernel_rfl) (zB (t := 33) (k := 0) (off := 0) (m := 4) (xs := zh ([6346243789798364141, 1503914060200516822, 0, 1152921504606846976] : List UInt64)) Ed rfl (zq (zf (show zb ([6346243789798364141, 1503914060200516822, 0, 1152921504606846976] : List UInt64) = 4 from rfl))) (zf (show zb ([6346243789798364141, 1503914060200516822, 0, 1152921504606846976] : List UInt64) = 4 from rfl)) (by kernel_rfl) (by kernel_rfl)) ?_
 exact ⟨by kernel_rfl, Ed.pk []⟩
theorem rmod_0 (w : World) (f : Int)  (hf : ¬ (f = 1 ∨ f = 2 ∨ f = 3 ∨ f = 4)) : Calls Tryz.prog 37 #[.int .i64 f] w fun e w' => e = .returned (.agg (zg (zh (nd (mF 0))))) ∧ Ev w [] w' [] := by
 refine d_0 [(0, .int .i64 f)] 17 Go.Proofs.Tryz.func37 Go.Proofs.Tryz.ntmps37 (Heap.nil _) fun El Em En => wp_seq <| zk <| f_o <| m_z 33 (zh (zd 4 0)) Em En fun _ _ Eo Ep Eq => f_e <| ze <| wp_seq <| d_s [2,3] [] Ep fun _ Er => wp_block <| d_s [2,3,4] [] Er fun _ Ek => ?_
 refine c_e f (1 : Int) Ek (fun Ea => ?_) (fun Ea => ?_)
 ·
  exact absurd Ea (by omega)
 refine d_s [2,3,7] [] Ek fun _ Eb => ?_
 refine c_e f (2 : Int) Eb (fun Ec => ?_) (fun Ec => ?_)
 ·
  exact absurd Ec (by omega)
 refine d_s [2,3,10] [] Eb fun _ Ed => ?_
 refine c_e f (3 : Int) Ed (fun Ee => ?_) (fun Ee => ?_)
 ·
  exact absurd Ee (by omega)
 refine d_s [2,3,13] [] Ed fun _ Ef => ?_
 refine c_e f (4 : Int) Ef (fun Eg => ?_) (fun Eg => ?_)
 ·
  exact absurd Eg (by omega)
 refine wp_skip <| zv <| ze <| wp_seq <| zk <| d_k [2,3,16] [] 1 Ef fun _ Ei => f_o <| zQ 0 4 (zh ([0, 0, 0, 0] : List UInt64)) _ Ei Eq rfl (zf (show zb ([0, 0, 0, 0] : List UInt64) = 4 from rfl)) (zf (zi)) (zt _) rfl fun _ _ Ej Eh => f_e <| ze <| wp_ret <| z9 (v := .agg (zg (zh ([0, 0, 0, 0] : List UInt64)))) (t := 2) (T := 33) (ad := ⟨Eo, 0, none⟩) Ej (by kernel_rfl) (by kernel_rfl) (zB (t := 33) (k := 0) (off := 0) (m := 4) (xs := zh ([0, 0, 0, 0] : List UInt64)) Eh rfl (zq (zf (show zb ([0, 0, 0, 0] : List UInt64) = 4 from rfl))) (zf (show zb ([0, 0, 0, 0] : List UInt64) = 4 from rfl)) (by kernel_rfl) (by kernel_rfl)) ?_
 exact ⟨by kernel_rfl, Eh.pk []⟩
theorem rmodulus_go (w : World) (f : Int) : Calls Tryz.prog 37 #[.int .i64 f] w fun e w' => e = .returned (.agg (zg (zh (nd (mF f))))) ∧ Ev w [] w' [] := by
  by_cases hf : f = 1 ∨ f = 2 ∨ f = 3 ∨ f = 4
  · rcases hf with rfl | rfl | rfl | rfl
    · exact rmod_1 w
    · exact rmod_2 w
    · exact rmod_3 w
    · exact rmod_4 w
  · rw [mF_none hf]
    exact rmod_0 w f hf
theorem ris_go (w : World) (f : Int) : Calls Tryz.prog 61 #[.int .i64 f] w fun e w' => e = .returned (.bool (decide (f = 1 ∨ f = 2 ∨ f = 3 ∨ f = 4))) ∧ Ev w [] w' [] := by
 refine d_0 [(0, .int .i64 f)] 9 Go.Proofs.Tryz.func61 Go.Proofs.Tryz.ntmps61 (Heap.nil _) fun Ef Eg Ed => d_s [0,2] [] Eg fun _ Eh => wp_seq <| zk <| d_k [0,2,5] [] 3 Eh fun _ Ee => ?_
 rcases ZB (decide (f ≥ (1 : Int))) with Ea | Ea
 ·
  have Ei := Ee.fx (t := 5) (congrArg Value.bool Ea)
  have hp7 : f ≥ (1 : Int) := of_decide_eq_true Ea
  refine d_e [2] [] Ei fun _ Ej => ze <| wp_ret <| Qu (t := 2) (v := .bool (decide (f ≤ (4 : Int)))) Ej (by kernel_rfl) (by kernel_rfl) ?_
  have e : (decide (f ≤ (4 : Int))) = decide (f = 1 ∨ f = 2 ∨ f = 3 ∨ f = 4) := by
   by_cases hq : f = 1 ∨ f = 2 ∨ f = 3 ∨ f = 4
   · rw [decide_eq_true hq] <;> first | rfl | exact decide_eq_true (by omega) | (exfalso; omega)
   · rw [decide_eq_false hq] <;> first | rfl | exact decide_eq_false (by omega) | (exfalso; omega)
  exact ⟨by rw [e], Ed.pk []⟩
 have Eb := Ee.fx (t := 5) (congrArg Value.bool Ea)
 have hp11 : ¬ (f ≥ (1 : Int)) := of_decide_eq_false Ea
 refine d_e [2] [] Eb fun _ Ec => ze <| wp_ret <| Qu (t := 2) (v := .bool false) Ec (by kernel_rfl) (by kernel_rfl) ?_
 have e : (false) = decide (f = 1 ∨ f = 2 ∨ f = 3 ∨ f = 4) := by
  by_cases hq : f = 1 ∨ f = 2 ∨ f = 3 ∨ f = 4
  · rw [decide_eq_true hq] <;> first | rfl | exact decide_eq_true (by omega) | (exfalso; omega)
  · rw [decide_eq_false hq] <;> first | rfl | exact decide_eq_false (by omega) | (exfalso; omega)
 exact ⟨by rw [e], Ed.pk []⟩
theorem ris_go_yes (w : World) (f : Int) (hf : f = 1 ∨ f = 2 ∨ f = 3 ∨ f = 4) : Calls Tryz.prog 61 #[.int .i64 f] w fun e w' => e = .returned (.bool true) ∧ Ev w [] w' [] := by
  have h := ris_go w f
  rwa [decide_eq_true hf] at h
end Go.Proofs.YtlnogkmnklfjlaaGreatDoor
