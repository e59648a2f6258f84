import Derived.Test.YtlnogkmnklfjlaaGreatDoorVr3
import Derived.Laws.StructEq
import Derived.Laws.Tables
import Derived.Test.YtlnogkmnklfjlaaGreatDoorVr1
open List renaming getD → za, length → zc, replicate → zf, toArray → zg, length_replicate → zi, take → zm, drop → zo, set → zp, length_take → zs, drop_append → zu, take_append → zv, length_append → zH, take_of_length_le → zJ, getD_eq_getElem?_getD → zN, getElem?_append_left → z6, getElem?_append_right → Zc, all_eq_true → Zo, contains_iff_mem → ZD, not_mem_nil → ZF, append_nil → ZH, map_append → ZO, getElem?_take → ZQ, take_append_drop → QJ, append_assoc → QK, getElem?_drop → QL, drop_drop → QO, mem_cons_of_mem → Q5, mem_cons → Q7, mem_cons_self → Yf, map_cons → Yg, ext_getElem? → Yp, range → Yu, mem_append → Yy, mem_map → Ja, nodup_cons → J6, nodup_append → Xo, map_map → XD, drop_of_length_le → XI, length_singleton → XL, mem_append_right → XM, nodup_nil → XT, mem_map_of_mem → XZ, countP_cons → Ko, map_nil → KE
open UInt64 renaming ofNat → zb, toUInt8 → zj, toNat → zA, toNat_and → Ys
open Go.Dbr renaming u64s_lenh → zd, then_normal → ze, u64s → zh, region_from → zk, uv64 → zn, load_whole → zr, run_indexarr → zt, u64s_one → zw, block_normal → zx, u64s_getD → zC, then_exit → zD, len_app → zG, block_exit → zP, run_loadAgg2 → zV, m_gw → zZ, bys_lenh → z7, d_cell1 → Zf, m_aw → Zn, u64_and → Zp, h_from → Zr, then_ret → Zx, any_to → ZE, u64_xor → ZK, any_from → ZT, u64s_eqop → Z0, d_cell_tmp → Z9, d_ret1 → Qh, bys_getD → Qr, h_ways → QA, h_to → QF, one_app → QS, run_shr_u64 → Q0, look → Ya, cond_at → Ym, any_two → YH, any_ways → YS, opTy → YY, one_all → YZ, look_self → Jz, nodupO_spec → JB, u64s_neop → JP, eqOp → Xc, u8_and → Xu, nodupO → XE, zeroV → Kw
open Go.Proofs.YtlnogkmnklfjlaaGreatDoor renaming nds_len → zl, mulM → zq, powM → zU, W256 → zY, subM → z8, lb_len → Zj, addM → Zs, nv_nd → QI, baseL → Q6, rootOk → Ye, rootN → YK, xOkE → JD, sub_len → JQ, wtE_len → JR, leftOk3 → Xd, ptL_len → Xq, zero16 → XH, rmulOk → Kb, inv_go → Kc, half_go → Kj
open Go.Proofs.Tryz renaming prog → zB
open Go.Dbr.Ev renaming cellAgg → zF, drew → zS
open Nat renaming mod_eq_of_lt → zL, mod_lt → ZU, pow_add → Qn, lt_or_ge → Qq, pow_mul → QM, beq → Yl, testBit → Y8, testBit_or → Xk, beq_eq → XG
open UInt8 renaming toNat → zM, ofNat → zQ
open Bool renaming eq_false_or_eq_true → Za, and_eq_true → Zd, true_and → Qd, cond_true → QB, false_and → QC, cond_false → QQ, eq_false_iff → Q9, and_false → YL, or_eq_true → Js, and_true → JT
open Array renaming getElem?_setIfInBounds_ne → Zw, getElem?_eq_some_iff → Z8, getElem?_toList → Qs, all_eq_true_iff_forall_mem → YF, ext → KG
open BitVec renaming ofInt → ZN
open UInt32 renaming ofNat → XJ
set_option maxRecDepth 100000
set_option maxHeartbeats 2000000
set_option linter.unusedVariables false
set_option linter.unusedSimpArgs false
namespace Go.Proofs.YtlnogkmnklfjlaaGreatDoor
open Go.Dbr
theorem rroot1_go (w : World) (a : List UInt64) (ha : zc a = 4) : Calls zB 80 #[.int .i64 1, .agg (zg (zh a))] w fun e w' => e = .returned (.tuple #[.agg (zg (zh (nd (YK 1 (nv a))))), .bool (Ye 1 (nv a))]) ∧ Ev w [] w' [] := by
 refine d_0 [(0, .int .i64 1), (1, .agg (zg (zh a)))] 89 Tryz.func80 Tryz.ntmps80 (Heap.nil _) fun an ao ap => wp_seq <| zk <| f_o <| m_m 33 (zh a) ao ap fun _ _ Eq aq ar => f_o <| m_z 33 (zh (zf 4 0)) aq ar fun _ _ Ej au HQ => d_e [0,3,4,5] [] au fun _ HR => ze <| wp_seq <| zk <| d_k [0,3,4,5,16] [] 1 HR fun _ HS => f_o <| c_p HS HQ (rmodulus_go _ 1) fun _ _ HT HU => ?_
 refine f_o <| m_z 33 (zh (zf 4 0)) HT HU fun _ _ Eh HV HW => f_o <| zZ 2 4 (zh (nd (mF 1))) _ HV HW rfl (zd (zl _ _)) (zd (zi)) (zw _) rfl fun _ _ HX HY => f_e <| ze <| wp_seq <| zk <| d_k [0,3,4,5,6,18] [] 1 HX fun _ HZ => f_o <| m_z 33 (zh (zf 4 0)) HZ HY fun _ _ Eb H0 H1 => f_o <| zZ 3 4 (zh ([0, 0, 0, 0] : List UInt64)) [.box Eq (zh a) 33, .box Ej (zh (zf 4 0)) 33, .box Eh (zh (nd (mF 1))) 33, .box Eb (zh ([0, 0, 0, 0] : List UInt64)) 33] H0 H1 rfl (zd (show zc ([0, 0, 0, 0] : List UInt64) = 4 from rfl)) (zd (zi)) (zw _) rfl fun _ _ H2 EE => f_e <| ze <| wp_seq <| zk <| d_k [0,3,4,5,6,7,19] [] 1 H2 fun _ H3 => ?_
 refine f_o <| Zn 0 4 (zh a) H3 EE rfl (zd ha) fun _ H4 => d_k [0,3,4,5,6,7,19,20,21] [] 3 H4 fun _ H5 => f_o <| c_p H5 EE ((Kb h1f (Xd (by decide))) _ a ([1, 0, 0, 0] : List UInt64) ha (show zc ([1, 0, 0, 0] : List UInt64) = 4 from rfl)) fun _ _ H6 H7 => f_o <| m_z 33 (zh (zf 4 0)) H6 H7 fun _ _ Ed H8 H9 => f_o <| zZ 4 4 (zh (nd (zq 1 (nv a) (nv ([1, 0, 0, 0] : List UInt64))))) _ H8 H9 rfl (zd (zl _ _)) (zd (zi)) (zw _) rfl fun _ _ aa EF => f_e <| ze <| wp_seq <| wp_seq <| d_r [0,3,4,5,6,7,8,23] [] aa fun _ ab => ?_
 refine ze <| wp_block <| wp_seq <| d_r [0,3,4,5,6,7,8,23,25] [] ab fun _ EG => ze <| c_f EG ?_
 refine wp_seq <| d_r [0,3,4,5,6,7,8,23,39] [] EG fun _ EH => ze <| c_t EH ?_
 refine wp_seq <| zk <| f_o <| Zn 2 4 (zh (nd (mF 1))) EH EF rfl (zd (zl _ _)) fun _ ae => d_k [0,3,4,5,6,7,8,23,42,43] [] 2 ae fun _ af => f_o <| c_p af EF (rplus_go _ (nd (mF 1)) ([3, 0, 0, 0] : List UInt64) (zl _ _) (show zc ([3, 0, 0, 0] : List UInt64) = 4 from rfl)) fun _ _ ag ah => d_k [0,3,4,5,6,7,8,23,45,46] [] 6 ag fun _ ai => f_o <| m_z 33 (zh (zf 4 0)) ai ah fun _ _ Ee aj ak => f_o <| zZ 5 4 (zh (nd (nv (nd (mF 1)) + nv ([3, 0, 0, 0] : List UInt64)))) [.box Eq (zh a) 33, .box Ej (zh (zf 4 0)) 33, .box Eh (zh (nd (mF 1))) 33, .box Eb (zh ([0, 0, 0, 0] : List UInt64)) 33, .box Ed (zh (nd (zq 1 (nv a) (nv ([1, 0, 0, 0] : List UInt64))))) 33, .box Ee (zh (nd (nv (nd (mF 1)) + nv ([3, 0, 0, 0] : List UInt64)))) 33] aj ak rfl (zd (zl _ _)) (zd (zi)) (zw _) rfl fun _ _ al EI => ?_
 refine d_e [0,3,4,5,6,7,8,11,23] [] al fun _ am => ?_
 refine ze <| wp_seq <| r_c (fun ac wo => Env ac 89 [(0, .int .i64 1), (3, pt Eq), (4, pt Ej), (5, .bool false), (6, pt Eh), (7, pt Eb), (8, pt Ed), (11, pt Ee), (23, .int .i64 1)] ∧ Ev w [] wo [.box Eq (zh a) 33, .box Ej (zh (zf 4 0)) 33, .box Eh (zh (nd (mF 1))) 33, .box Eb (zh (nd (zU 1 (nv a) (nv (nd (nv (nd (nv (nd (nv (nd (nv (nd (mF 1)) + nv ([3, 0, 0, 0] : List UInt64))) / 2)) / 2)) / 2)))))) 33, .box Ed (zh (nd (zq 1 (nv a) (nv ([1, 0, 0, 0] : List UInt64))))) 33, .box Ee (zh (nd (nv (nd (mF 1)) + nv ([3, 0, 0, 0] : List UInt64)))) 33]) ?_ ?_
 ·
  refine h_s (fun wv => Ev w [] wv [.box Eq (zh a) 33, .box Ee (zh (nd (nv (nd (mF 1)) + nv ([3, 0, 0, 0] : List UInt64)))) 33]) [] 8 ?_
  have Er := EI.trans (zS EI.heap)
  refine q_s [0] [] 7 am (Er.pk [0, 5]) fun _ EJ => q_r 1 (s := Instr.loadAt 33 (pt Eq)) (v := .agg (zg (zh a))) EJ (fun w hS => zV (m := 4) (cs := zh a) (zd ha) (by kernel_rfl) (by kernel_rfl) (hS.heap.cells (k := 0) (off := 0) (m := 4) rfl (zr (zd ha)))) (Er.pk [0, 5]) fun _ EK => q_r 2 (s := Instr.loadAt 33 (pt Ee)) (v := .agg (zg (zh (nd (nv (nd (mF 1)) + nv ([3, 0, 0, 0] : List UInt64)))))) EK (fun w hS => zV (m := 4) (cs := zh (nd (nv (nd (mF 1)) + nv ([3, 0, 0, 0] : List UInt64)))) (zd (zl _ _)) (by kernel_rfl) (by kernel_rfl) (hS.heap.cells (k := 1) (off := 0) (m := 4) rfl (zr (zd (zl _ _))))) (Er.pk [0, 5]) fun _ EL => q_t 3 ?_
  refine c_p EL Er (Kj _ (nd (nv (nd (mF 1)) + nv ([3, 0, 0, 0] : List UInt64))) (zl _ _)) fun _ _ EM Es => ⟨fun _ => Es.pk [0, 5], ?_⟩
  refine q_t 4 ?_
  refine c_p EM Es (Kj _ (nd (nv (nd (nv (nd (mF 1)) + nv ([3, 0, 0, 0] : List UInt64))) / 2)) (zl _ _)) fun _ _ EN Et => ⟨fun _ => Et.pk [0, 5], ?_⟩
  refine q_t 5 ?_
  refine c_p EN Et (Kj _ (nd (nv (nd (nv (nd (nv (nd (mF 1)) + nv ([3, 0, 0, 0] : List UInt64))) / 2)) / 2)) (zl _ _)) fun _ _ EO Eu => ⟨fun _ => Eu.pk [0, 5], ?_⟩
  refine q_t 6 ?_
  refine c_p EO Eu (rexp_go _ 1 h1f (Kb h1f (Xd (by decide))) a (nd (nv (nd (nv (nd (nv (nd (nv (nd (mF 1)) + nv ([3, 0, 0, 0] : List UInt64))) / 2)) / 2)) / 2)) ha (zl _ _)) fun _ _ EP Ew => ⟨fun _ => Ew.pk [0, 5], ?_⟩
  refine q_t 7 ?_
  refine zZ 3 4 (zh (nd (zU 1 (nv a) (nv (nd (nv (nd (nv (nd (nv (nd (nv (nd (mF 1)) + nv ([3, 0, 0, 0] : List UInt64))) / 2)) / 2)) / 2)))))) _ EP Ew rfl (zd (zl _ _)) (zd (show zc ([0, 0, 0, 0] : List UInt64) = 4 from rfl)) (zw _) rfl fun _ _ EQ Ex => ⟨fun _ => Ex.pk [0, 5], ?_⟩
  exact h_e ⟨EQ.sb, Ex.pk [0, 1, 2, 3, 4, 5]⟩
 rintro _ _ ⟨ER, Ei⟩
 refine ze <| wp_seq ?_
 rw [show (nd (zU 1 (nv a) (nv (nd (nv (nd (nv (nd (nv (nd (nv (nd (mF 1)) + nv ([3, 0, 0, 0] : List UInt64))) / 2)) / 2)) / 2))))) = (nd (rq 1 (nv a))) from (congrArg (fun e => nd (zU 1 (nv a) e)) (show _ = (mF 1 + 3) / 8 by decide +kernel))] at Ei
 refine zk <| d_k [0,3,4,5,6,7,8,11,23,54] [] 1 ER fun _ ES => f_o <| Zn 3 4 (zh (nd (rq 1 (nv a)))) ES Ei rfl (zd (zl _ _)) fun _ ET => f_o <| Zn 3 4 (zh (nd (rq 1 (nv a)))) ET Ei rfl (zd (zl _ _)) fun _ EU => f_o <| c_p EU Ei ((Kb h1f (Xd (by decide))) _ (nd (rq 1 (nv a))) (nd (rq 1 (nv a))) (zl _ _) (zl _ _)) fun _ _ EV EW => f_o <| m_z 33 (zh (zf 4 0)) EV EW fun _ _ Ek EX EY => f_o <| zZ 6 4 (zh (nd (zq 1 (nv (nd (rq 1 (nv a)))) (nv (nd (rq 1 (nv a))))))) [.box Eq (zh a) 33, .box Ej (zh (zf 4 0)) 33, .box Eh (zh (nd (mF 1))) 33, .box Eb (zh (nd (rq 1 (nv a)))) 33, .box Ed (zh (nd (zq 1 (nv a) (nv ([1, 0, 0, 0] : List UInt64))))) 33, .box Ee (zh (nd (nv (nd (mF 1)) + nv ([3, 0, 0, 0] : List UInt64)))) 33, .box Ek (zh (nd (zq 1 (nv (nd (rq 1 (nv a)))) (nv (nd (rq 1 (nv a))))))) 33] EX EY rfl (zd (zl _ _)) (zd (zi)) (zw _) rfl fun _ _ EZ Ec => ?_
 refine f_e <| ze <| wp_seq <| zk <| f_o <| Zn 6 4 (zh (nd (zq 1 (nv (nd (rq 1 (nv a)))) (nv (nd (rq 1 (nv a))))))) EZ Ec rfl (zd (zl _ _)) fun _ E0 => f_o <| Zn 4 4 (zh (nd (zq 1 (nv a) (nv ([1, 0, 0, 0] : List UInt64))))) E0 Ec rfl (zd (zl _ _)) fun _ E1 => f_o <| q_v (x := Xc .neq 33 (.tmp 58) (.tmp 59) (.agg (zg (zh (nd (zq 1 (nv (nd (rq 1 (nv a)))) (nv (nd (rq 1 (nv a))))))))) (.agg (zg (zh (nd (zq 1 (nv a) (nv ([1, 0, 0, 0] : List UInt64)))))))) (v := .bool (!((nd (zq 1 (nv (nd (rq 1 (nv a)))) (nv (nd (rq 1 (nv a)))))) == (nd (zq 1 (nv a) (nv ([1, 0, 0, 0] : List UInt64))))))) E1 (JP (a := (.tmp 58)) (b := (.tmp 59)) (e := 31) (m := 4) (by kernel_rfl) (by kernel_rfl) (by kernel_rfl) (by kernel_rfl) (by kernel_rfl) (zl _ _) (zl _ _) _) fun _ El => ?_
 refine f_e <| ze <| region_cut (F := fun ac wo => Env ac 89 [(0, .int .i64 1), (3, pt Eq), (4, pt Ej), (5, .bool false), (6, pt Eh), (7, pt Eb), (8, pt Ed), (11, pt Ee), (13, pt Ek), (23, .int .i64 1)] ∧ Ev w [] wo [.box Ej (zh (zf 4 0)) 33, .box Ed (zh (nd (zq 1 (nv a) (nv ([1, 0, 0, 0] : List UInt64))))) 33, .box Eb (zh (nd (rs 1 (nv a)))) 33]) ?_ ?_
 ·
  refine Ym El (t := !((nd (zq 1 (nv (nd (rq 1 (nv a)))) (nv (nd (rq 1 (nv a)))))) == (nd (zq 1 (nv a) (nv ([1, 0, 0, 0] : List UInt64)))))) (by kernel_rfl) (fun Ef => ?_) (fun Ef => ?_)
  ·
   replace Ef : ¬ ((nd (zq 1 (nv (nd (rq 1 (nv a)))) (nv (nd (rq 1 (nv a)))))) = (nd (zq 1 (nv a) (nv ([1, 0, 0, 0] : List UInt64))))) := by simpa using Ef
   refine wp_seq <| zk <| d_k [0,3,4,5,6,7,8,11,13,23,61,62] [] 2 El fun _ E2 => f_o <| Zn 2 4 (zh (nd (mF 1))) E2 Ec rfl (zd (zl _ _)) fun _ E3 => d_k [0,3,4,5,6,7,8,11,13,23,61,62,63,64] [] 4 E3 fun _ E4 => f_o <| c_p E4 Ec (rminus_go _ (nd (mF 1)) ([1, 0, 0, 0] : List UInt64) (zl _ _) (show zc ([1, 0, 0, 0] : List UInt64) = 4 from rfl)) fun _ _ E5 E6 => f_o <| c_p E5 E6 (Kj _ (nd (nv (nd (mF 1)) + zY - nv ([1, 0, 0, 0] : List UInt64))) (zl _ _)) fun _ _ E7 E8 => f_o <| c_p E7 E8 (Kj _ (nd (nv (nd (nv (nd (mF 1)) + zY - nv ([1, 0, 0, 0] : List UInt64))) / 2)) (zl _ _)) fun _ _ E9 Ha => ?_
   refine f_o <| c_p E9 Ha (rexp_go _ 1 h1f (Kb h1f (Xd (by decide))) ([2, 0, 0, 0] : List UInt64) (nd (nv (nd (nv (nd (nv (nd (mF 1)) + zY - nv ([1, 0, 0, 0] : List UInt64))) / 2)) / 2)) (show zc ([2, 0, 0, 0] : List UInt64) = 4 from rfl) (zl _ _)) fun _ _ Hb Hc => f_o <| m_z 33 (zh (zf 4 0)) Hb Hc fun _ _ Hd He Hf => f_o <| zZ 7 4 (zh (nd (zU 1 (nv ([2, 0, 0, 0] : List UInt64)) (nv (nd (nv (nd (nv (nd (nv (nd (mF 1)) + zY - nv ([1, 0, 0, 0] : List UInt64))) / 2)) / 2)))))) _ He Hf rfl (zd (zl _ _)) (zd (zi)) (zw _) rfl fun _ _ Hg Em => f_e <| ze <| zk <| d_k [0,3,4,5,6,7,8,11,13,14,23,69] [] 1 Hg fun _ Hh => f_o <| Zn 3 4 (zh (nd (rq 1 (nv a)))) Hh Em rfl (zd (zl _ _)) fun _ Hi => f_o <| Zn 7 4 (zh (nd (zU 1 (nv ([2, 0, 0, 0] : List UInt64)) (nv (nd (nv (nd (nv (nd (nv (nd (mF 1)) + zY - nv ([1, 0, 0, 0] : List UInt64))) / 2)) / 2)))))) Hi Em rfl (zd (zl _ _)) fun _ Hj => ?_
   refine f_o <| c_p Hj Em ((Kb h1f (Xd (by decide))) _ (nd (rq 1 (nv a))) (nd (zU 1 (nv ([2, 0, 0, 0] : List UInt64)) (nv (nd (nv (nd (nv (nd (nv (nd (mF 1)) + zY - nv ([1, 0, 0, 0] : List UInt64))) / 2)) / 2))))) (zl _ _) (zl _ _)) fun _ _ Hk Hl => f_o <| zZ 3 4 (zh (nd (zq 1 (nv (nd (rq 1 (nv a)))) (nv (nd (zU 1 (nv ([2, 0, 0, 0] : List UInt64)) (nv (nd (nv (nd (nv (nd (nv (nd (mF 1)) + zY - nv ([1, 0, 0, 0] : List UInt64))) / 2)) / 2))))))))) [.box Eq (zh a) 33, .box Ej (zh (zf 4 0)) 33, .box Eh (zh (nd (mF 1))) 33, .box Eb (zh (nd (zq 1 (nv (nd (rq 1 (nv a)))) (nv (nd (zU 1 (nv ([2, 0, 0, 0] : List UInt64)) (nv (nd (nv (nd (nv (nd (nv (nd (mF 1)) + zY - nv ([1, 0, 0, 0] : List UInt64))) / 2)) / 2))))))))) 33, .box Ed (zh (nd (zq 1 (nv a) (nv ([1, 0, 0, 0] : List UInt64))))) 33, .box Ee (zh (nd (nv (nd (mF 1)) + nv ([3, 0, 0, 0] : List UInt64)))) 33, .box Ek (zh (nd (zq 1 (nv (nd (rq 1 (nv a)))) (nv (nd (rq 1 (nv a))))))) 33, .box Hd (zh (nd (zU 1 (nv ([2, 0, 0, 0] : List UInt64)) (nv (nd (nv (nd (nv (nd (nv (nd (mF 1)) + zY - nv ([1, 0, 0, 0] : List UInt64))) / 2)) / 2)))))) 33] Hk Hl rfl (zd (zl _ _)) (zd (zl _ _)) (zw _) rfl fun _ _ Hm Ey => f_e ?_
   rw [show (nd (zq 1 (nv (nd (rq 1 (nv a)))) (nv (nd (zU 1 (nv ([2, 0, 0, 0] : List UInt64)) (nv (nd (nv (nd (nv (nd (nv (nd (mF 1)) + zY - nv ([1, 0, 0, 0] : List UInt64))) / 2)) / 2)))))))) = (nd (rs 1 (nv a))) from (rs1_b (by assumption) (by decide +kernel))] at Ey
   exact ⟨rfl, ⟨Hm.sb, Ey.pk [1, 4, 3]⟩⟩
  replace Ef : (nd (zq 1 (nv (nd (rq 1 (nv a)))) (nv (nd (rq 1 (nv a)))))) = (nd (zq 1 (nv a) (nv ([1, 0, 0, 0] : List UInt64)))) := by simpa using Ef
  refine wp_skip ?_
  rw [show (nd (rq 1 (nv a))) = (nd (rs 1 (nv a))) from (rs1_a (by assumption))] at Ec
  exact ⟨rfl, ⟨El.sb, Ec.pk [1, 4, 3]⟩⟩
 rintro _ _ ⟨Hn, En⟩
 refine zx <| ze <| wp_seq <| zk <| d_k [0,3,4,5,6,7,8,11,13,23,73] [] 1 Hn fun _ Ho => f_o <| Zn 2 4 (zh (nd (rs 1 (nv a)))) Ho En rfl (zd (zl _ _)) fun _ Hp => f_o <| Zn 2 4 (zh (nd (rs 1 (nv a)))) Hp En rfl (zd (zl _ _)) fun _ Hq => f_o <| c_p Hq En ((Kb h1f (Xd (by decide))) _ (nd (rs 1 (nv a))) (nd (rs 1 (nv a))) (zl _ _) (zl _ _)) fun _ _ Hr Hs => f_o <| m_z 33 (zh (zf 4 0)) Hr Hs fun _ _ Ez Ht Hu => f_o <| zZ 3 4 (zh (nd (zq 1 (nv (nd (rs 1 (nv a)))) (nv (nd (rs 1 (nv a))))))) _ Ht Hu rfl (zd (zl _ _)) (zd (zi)) (zw _) rfl fun _ _ Hv Ea => ?_
 refine f_e <| ze <| wp_seq <| wp_seq <| zk <| f_o <| Zn 3 4 (zh (nd (zq 1 (nv (nd (rs 1 (nv a)))) (nv (nd (rs 1 (nv a))))))) Hv Ea rfl (zd (zl _ _)) fun _ Hw => f_o <| Zn 1 4 (zh (nd (zq 1 (nv a) (nv ([1, 0, 0, 0] : List UInt64))))) Hw Ea rfl (zd (zl _ _)) fun _ Hx => f_o <| q_v (x := Xc .neq 33 (.tmp 77) (.tmp 78) (.agg (zg (zh (nd (zq 1 (nv (nd (rs 1 (nv a)))) (nv (nd (rs 1 (nv a))))))))) (.agg (zg (zh (nd (zq 1 (nv a) (nv ([1, 0, 0, 0] : List UInt64)))))))) (v := .bool (!((nd (zq 1 (nv (nd (rs 1 (nv a)))) (nv (nd (rs 1 (nv a)))))) == (nd (zq 1 (nv a) (nv ([1, 0, 0, 0] : List UInt64))))))) Hx (JP (a := (.tmp 77)) (b := (.tmp 78)) (e := 31) (m := 4) (by kernel_rfl) (by kernel_rfl) (by kernel_rfl) (by kernel_rfl) (by kernel_rfl) (zl _ _) (zl _ _) _) fun _ Eo => ?_
 refine f_e <| ze <| Ym Eo (t := !((nd (zq 1 (nv (nd (rs 1 (nv a)))) (nv (nd (rs 1 (nv a)))))) == (nd (zq 1 (nv a) (nv ([1, 0, 0, 0] : List UInt64)))))) (by kernel_rfl) (fun Eg => ?_) (fun Eg => ?_)
 ·
  replace Eg : ¬ ((nd (zq 1 (nv (nd (rs 1 (nv a)))) (nv (nd (rs 1 (nv a)))))) = (nd (zq 1 (nv a) (nv ([1, 0, 0, 0] : List UInt64))))) := by simpa using Eg
  refine wp_seq <| zk <| d_k [0,3,4,5,6,7,8,11,13,15,23,80] [] 1 Eo fun _ Hy => f_o <| zZ 0 4 (zh ([0, 0, 0, 0] : List UInt64)) [.box Ej (zh ([0, 0, 0, 0] : List UInt64)) 33, .box Ed (zh (nd (zq 1 (nv a) (nv ([1, 0, 0, 0] : List UInt64))))) 33, .box Eb (zh (nd (rs 1 (nv a)))) 33, .box Ez (zh (nd (zq 1 (nv (nd (rs 1 (nv a)))) (nv (nd (rs 1 (nv a))))))) 33] Hy Ea rfl (zd (show zc ([0, 0, 0, 0] : List UInt64) = 4 from rfl)) (zd (zi)) (zw _) rfl fun _ _ Hz EA => d_e [0,3,4,5,6,7,8,11,13,15,23] [] Hz fun _ HA => ze <| wp_ret <| Zx <| Z9 (v := .agg (zg (zh ([0, 0, 0, 0] : List UInt64)))) (x := .bool false) (t := 4) (T := 33) (ad := ⟨Ej, 0, none⟩) (u := 5) HA (by kernel_rfl) (by kernel_rfl) (zF (t := 33) (k := 0) (off := 0) (m := 4) (xs := zh ([0, 0, 0, 0] : List UInt64)) EA rfl (zr (zd (show zc ([0, 0, 0, 0] : List UInt64) = 4 from rfl))) (zd (show zc ([0, 0, 0, 0] : List UInt64) = 4 from rfl)) (by kernel_rfl) (by kernel_rfl)) (by kernel_rfl) ?_
  have eb := (root_no (f := 1) h1f (by assumption)).1
  have e : ([0, 0, 0, 0] : List UInt64) = nd (YK 1 (nv a)) := root_z (root_no (f := 1) h1f (by assumption))
  rw [eb]
  exact ⟨congrArg (fun l : List UInt64 => Ending.returned (.tuple #[Value.agg (zh l).toArray, .bool false])) e, EA.pk []⟩
 replace Eg : (nd (zq 1 (nv (nd (rs 1 (nv a)))) (nv (nd (rs 1 (nv a)))))) = (nd (zq 1 (nv a) (nv ([1, 0, 0, 0] : List UInt64)))) := by simpa using Eg
 refine wp_skip <| ze <| wp_seq <| wp_seq <| zk <| d_k [0,3,4,5,6,7,8,11,13,15,23,81] [] 1 Eo fun _ HB => f_o ?_
 have HC : 0 < zc (nd (rs 1 (nv a))) := by rw [(zl _ _)]; omega
 refine m_v 2 0 (zn (za (nd (rs 1 (nv a))) 0 0)) HB Ea rfl (zC HC) fun _ HD => d_e [0,3,4,5,6,7,8,11,13,15,23,84] [(2, g_i .u64 (Zp (x := za (nd (rs 1 (nv a))) 0 0) (y := (1 : UInt64)) rfl rfl))] HD fun _ Ep => ?_
 refine ze <| c_e ((zA ((za (nd (rs 1 (nv a))) 0 0) &&& (1 : UInt64)) : Nat) : Int) (1 : Int) Ep (fun HE => ?_) (fun HE => ?_)
 ·
  refine zk <| d_k [0,3,4,5,6,7,8,11,13,15,23,85] [] 1 Ep fun _ HF => f_o <| Zn 2 4 (zh (nd (rs 1 (nv a)))) HF Ea rfl (zd (zl _ _)) fun _ HG => f_o <| c_p HG Ea (rneg_go _ 1 h1f (Xd (by decide)) (nd (rs 1 (nv a))) (zl _ _)) fun _ _ HH HI => f_o <| zZ 2 4 (zh (nd (z8 1 0 (nv (nd (rs 1 (nv a))))))) _ HH HI rfl (zd (zl _ _)) (zd (zl _ _)) (zw _) rfl fun _ _ HJ EB => f_e <| ze <| wp_seq <| zk <| f_o <| Zn 2 4 (zh (nd (z8 1 0 (nv (nd (rs 1 (nv a))))))) HJ EB rfl (zd (zl _ _)) fun _ HK => f_o <| zZ 0 4 (zh (nd (z8 1 0 (nv (nd (rs 1 (nv a))))))) [.box Ej (zh (nd (z8 1 0 (nv (nd (rs 1 (nv a))))))) 33, .box Ed (zh (nd (zq 1 (nv a) (nv ([1, 0, 0, 0] : List UInt64))))) 33, .box Eb (zh (nd (z8 1 0 (nv (nd (rs 1 (nv a))))))) 33, .box Ez (zh (nd (zq 1 (nv (nd (rs 1 (nv a)))) (nv (nd (rs 1 (nv a))))))) 33] HK EB rfl (zd (zl _ _)) (zd (zi)) (zw _) rfl fun _ _ HL EC => ?_
  refine d_e [0,3,4,5,6,7,8,11,13,15,23] [] HL fun _ HM => ze <| wp_ret <| Z9 (v := .agg (zg (zh (nd (z8 1 0 (nv (nd (rs 1 (nv a))))))))) (x := .bool true) (t := 4) (T := 33) (ad := ⟨Ej, 0, none⟩) (u := 5) HM (by kernel_rfl) (by kernel_rfl) (zF (t := 33) (k := 0) (off := 0) (m := 4) (xs := zh (nd (z8 1 0 (nv (nd (rs 1 (nv a))))))) EC rfl (zr (zd (zl _ _))) (zd (zl _ _)) (by kernel_rfl) (by kernel_rfl)) (by kernel_rfl) ?_
  have eb := root_yes (f := 1) (A := nv a) (by decide) (by assumption)
  have e : nd (z8 1 0 (nv (nd (rs 1 (nv a))))) = nd (YK 1 (nv a)) := by first | exact root_odd (by decide) (by assumption) (by assumption) | exact root_even (by decide) (by assumption) (by assumption)
  rw [eb]
  exact ⟨congrArg (fun l : List UInt64 => Ending.returned (.tuple #[Value.agg (zh l).toArray, .bool true])) e, EC.pk []⟩
 refine wp_skip <| ze <| wp_seq <| zk <| f_o <| Zn 2 4 (zh (nd (rs 1 (nv a)))) Ep Ea rfl (zd (zl _ _)) fun _ HN => f_o <| zZ 0 4 (zh (nd (rs 1 (nv a)))) _ HN Ea rfl (zd (zl _ _)) (zd (zi)) (zw _) rfl fun _ _ HO ED => d_e [0,3,4,5,6,7,8,11,13,15,23] [] HO fun _ HP => ze <| wp_ret <| Z9 (v := .agg (zg (zh (nd (rs 1 (nv a)))))) (x := .bool true) (t := 4) (T := 33) (ad := ⟨Ej, 0, none⟩) (u := 5) HP (by kernel_rfl) (by kernel_rfl) (zF (t := 33) (k := 0) (off := 0) (m := 4) (xs := zh (nd (rs 1 (nv a)))) ED rfl (zr (zd (zl _ _))) (zd (zl _ _)) (by kernel_rfl) (by kernel_rfl)) (by kernel_rfl) ?_
 have eb := root_yes (f := 1) (A := nv a) (by decide) (by assumption)
 have e : nd (rs 1 (nv a)) = nd (YK 1 (nv a)) := by first | exact root_odd (by decide) (by assumption) (by assumption) | exact root_even (by decide) (by assumption) (by assumption)
 rw [eb]
 exact ⟨congrArg (fun l : List UInt64 => Ending.returned (.tuple #[Value.agg (zh l).toArray, .bool true])) e, ED.pk []⟩
end Go.Proofs.YtlnogkmnklfjlaaGreatDoor
namespace Go.Dbr
open Go Go.RowKit
def cloStep (acc : List Nat) : List Edge → Nat
  | [] => 0
  | e :: r => bif Region.binds .any e then 2 ^ e.on ||| acc.getD e.on 0 ||| cloStep acc r else cloStep acc r
def clo : List Oper → List Nat → List Nat
  | [], acc => acc
  | o :: r, acc => clo r (acc ++ [cloStep acc o.after.toList])
theorem cloStep_spec {acc : List Nat} {i : Nat} : ∀ (es : List Edge), Y8 (cloStep acc es) i = true → ∃ e ∈ es, Region.binds .any e = true ∧ (e.on = i ∨ Y8 (acc.getD e.on 0) i = true)
  | [], h => by simp [cloStep] at h
  | e :: r, h => by
    unfold cloStep at h
    cases hb : Region.binds .any e with
    | true =>
      rw [hb, QB, Xk, Xk, Js, Js] at h
      rcases h with (h | h) | h
      · refine ⟨e, Yf .., hb, .inl ?_⟩
        rw [Nat.testBit_two_pow] at h
        exact of_decide_eq_true h
      · exact ⟨e, Yf .., hb, .inr h⟩
      · obtain ⟨e', he, hr⟩ := cloStep_spec r h
        exact ⟨e', Q5 _ he, hr⟩
    | false =>
      rw [hb, QQ] at h
      obtain ⟨e', he, hr⟩ := cloStep_spec r h
      exact ⟨e', Q5 _ he, hr⟩
theorem WaitsT.of {ops : Array Oper} {i s : Nat} {o : Oper} {e : Edge} (ho : ops[s]? = some o) (he : e ∈ o.after) (hb : Region.binds .any e = true) (h : e.on = i ∨ WaitsT ops i e.on) : WaitsT ops i s := h.elim (.one ho he hb) (.step ho he hb)
theorem clo_spec {ops : Array Oper} {i : Nat} : ∀ (l : List Oper) (acc : List Nat), (∀ (k : Nat) (o : Oper), l[k]? = some o → ops[acc.length + k]? = some o) → (∀ j, Y8 (acc.getD j 0) i = true → WaitsT ops i j) → ∀ j, Y8 ((clo l acc).getD j 0) i = true → WaitsT ops i j
  | [], acc, _, h, j, hj => h j hj
  | o :: r, acc, hl, h, j, hj => by
    refine clo_spec r (acc ++ [cloStep acc o.after.toList]) (fun k o' hk => ?_) (fun j' hj' => ?_) j hj
    · have := hl (k + 1) o' (by simpa using hk)
      rw [zH, XL]
      rw [show acc.length + (k + 1) = acc.length + 1 + k by omega] at this
      exact this
    · rcases Nat.lt_trichotomy j' acc.length with c | c | c
      · rw [zN, z6 c, ← zN] at hj'
        exact h j' hj'
      · subst c
        rw [zN, Zc (Nat.le_refl _), Nat.sub_self] at hj'
        obtain ⟨e, he, hb, hr⟩ := cloStep_spec _ hj'
        have ho := hl 0 o rfl
        rw [Nat.add_zero] at ho
        exact .of ho (by simpa using he) hb (hr.imp id (h _))
      · rw [zN, List.getElem?_eq_none (by rw [zH, XL]; omega)] at hj'
        simp at hj'
def maskOf : List Nat → Nat
  | [] => 0
  | i :: r => 2 ^ i ||| maskOf r
theorem maskOf_spec {i : Nat} : ∀ {l : List Nat}, i ∈ l → Y8 (maskOf l) i = true
  | j :: r, h => by
    unfold maskOf
    rw [Xk]
    rcases Q7.1 h with rfl | h'
    · rw [Nat.testBit_two_pow_self, Bool.true_or]
    · rw [maskOf_spec h', Bool.or_true]
def restB (I : List Nat) (m : Nat) : List Nat → Nat → Bool
  | [], _ => true
  | c :: r, j => (I.contains j || Yl (m &&& c) m) && restB I m r (j + 1)
theorem restB_spec {I : List Nat} {m : Nat} : ∀ (l : List Nat) (k : Nat), restB I m l k = true → ∀ (j : Nat) (c : Nat), l[j]? = some c → I.contains (k + j) = true ∨ m &&& c = m
  | [], k, _, j, c, h => by simp at h
  | x :: r, k, h, j, c, hc => by
    unfold restB at h
    simp only [Zd, Js, XG] at h
    cases j with
    | zero => simp at hc; subst hc; exact h.1
    | succ j =>
      have := restB_spec r (k + 1) h.2 j c (by simpa using hc)
      rwa [show k + 1 + j = k + (j + 1) by omega] at this
def inB (ops : Array Oper) (I : List Nat) (l0 : List (Nat × Value)) (i : Nat) : Bool := match ops[i]? with
  | some o => (o.after.all fun e => !Region.binds .any e || (Nat.blt e.on i && I.contains e.on)) && (match o.dst with | some d => (Ya l0 d).isNone | none => true)
  | none => false
def stabB (ops : Array Oper) (I : List Nat) (l0 : List (Nat × Value)) : Bool := XE ops.toList 0 && (I.all fun i => inB ops I l0 i) && restB I (maskOf I) (clo ops.toList []) 0 && Yl (clo ops.toList []).length ops.size
def srcOf (ops : Array Oper) (l0 L : List (Nat × Value)) (i t : Nat) : Option Value := match ops[i]? with
  | some o => bif (o.after.any fun e => Region.binds .any e && (match ops[e.on]? with | some q => (match q.dst with | some c => Yl c t | none => false) | none => false)) then Ya L t else Ya l0 t
  | none => none
def oneL (ops : Array Oper) (L : List (Nat × Value)) (i : Nat) : List (Nat × Value) := match ops[i]? with
  | some o => (match o.dst with | some d => [(d, (Ya L d).getD undef)] | none => [])
  | none => []
theorem leastN {P : Nat → Prop} : ∀ n, P n → ∃ k, P k ∧ ∀ j, j < k → ¬ P j := fun n => by
  induction n using Nat.strongRecOn with
  | _ n ih =>
    intro h
    by_cases e : ∃ j, j < n ∧ P j
    · obtain ⟨j, hj, hp⟩ := e
      exact ih j hj hp
    · exact ⟨n, h, fun j hj hp => e ⟨j, hj, hp⟩⟩
theorem look_map_some2 {f : Nat → Option Value} {l : List (Nat × Value)} (h : l.map (fun p => f p.1) = l.map (fun p => some p.2)) : ∀ i v, Ya l i = some v → f i = some v := by
  induction l with
  | nil => intro i v hv; cases hv
  | cons x r ih =>
    intro i v hv
    simp only [Yg, List.cons.injEq] at h
    unfold Ya at hv
    cases hb : Yl x.1 i with
    | true =>
      rw [hb, QB] at hv
      cases hv
      have := Nat.eq_of_beq_eq_true hb
      rw [← this]
      exact h.1
    | false =>
      rw [hb, QQ] at hv
      exact ih h.2 i v hv
section
variable {P : Program} {ops : Array Oper} {Q : Exit → Act → World → Prop} {n : Nat} {S : World → Prop} {l0 L : List (Nat × Value)} {I : List Nat}
def Stab (P : Program) (ops : Array Oper) (Q : Exit → Act → World → Prop) (n : Nat) (S : World → Prop) (l0 L : List (Nat × Value)) (i : Nat) : Prop :=
  ∃ E : List (Nat × Value), E.map (fun p => srcOf ops l0 L i p.1) = E.map (fun p => some p.2) ∧ ∀ a w, Env a n E → S w → wpOp P ops Q i (fun a' w' => Env a' n (oneL ops L i) ∧ S w') a w
structure Know (ops : Array Oper) (n : Nat) (l0 L : List (Nat × Value)) (I : List Nat) (a : Act) (listed : Array Bool) : Prop where
  size : a.tmps.size = n
  defers : a.defers = []
  old : ∀ t v, Ya l0 t = some v → a.tmps[t]? = some v
  new : ∀ i o d, i ∈ I → ops[i]? = some o → o.dst = some d → listed.getD i false = true → a.tmps[d]? = some ((Ya L d).getD undef)
theorem wpOp_put {i : Nat} {a : Act} {w : World} {K : Act → World → Prop} {o : Oper} (ho : ops[i]? = some o) (hd : ∀ a' w', K a' w' → a'.defers = []) (h : wpOp P ops Q i K a w) : wpOp P ops Q i (fun a' w' => K a' w' ∧ ∃ v, a' = a.put o.dst v) a w := by
  unfold wpOp at *
  simp only [ho] at h ⊢
  split
  · rename_i hw
    simp only [hw, if_true] at h
    refine h.imp (fun hh => ?_) id
    unfold Oper.wp at *
    generalize (execOp a.eval o).run P w = r at *
    cases r with
    | ok nx w' =>
      cases nx <;> simp only [Oper.upon] at hh ⊢
      all_goals first
        | exact ⟨hh, _, rfl⟩
        | exact Calls.mono hh (fun e w'' he => by cases e <;> first | exact ⟨he, _, rfl⟩ | exact he)
        | exact Rows.mono hh (fun _ _ he => ⟨he, _, rfl⟩)
        | (have := hd _ _ hh; cases hdst : o.dst <;> simp [Act.put, hdst] at this)
        | exact hh
    | halt x w' => cases x <;> simp only [Oper.upon] at hh ⊢ <;> exact hh
  · rename_i hw
    simp only [hw] at h
    exact ⟨h, _, rfl⟩
def cntF (l : Array Bool) : Nat := l.toList.countP fun b => !b
theorem cnt_set {l : List Bool} : ∀ {i : Nat}, l[i]? = some false → (l.set i true).countP (fun b => !b) + 1 = l.countP fun b => !b := by
  induction l with
  | nil => intro i h; simp at h
  | cons x r ih =>
    intro i h
    cases i with
    | zero =>
      simp at h
      subst h
      simp [Ko]
    | succ i =>
      have := ih (i := i) (by simpa using h)
      simp only [List.set_cons_succ, Ko]
      omega
theorem cntF_set {l : Array Bool} {i : Nat} (h : l.getD i true = false) : cntF (l.setIfInBounds i true) + 1 = cntF l := by
  have hi : i < l.size := by
    rcases Qq i l.size with g | g
    · exact g
    · simp [g] at h
  have e : l.toList[i]? = some false := by
    simp [hi] at h
    simp [hi, h]
  have := cnt_set e
  unfold cntF
  rw [Array.toList_setIfInBounds]
  exact this
def LI (ops : Array Oper) (I : List Nat) : Array Bool := ((Yu ops.size).map fun j => I.contains j).toArray
def envI (ops : Array Oper) (l0 L : List (Nat × Value)) (i : Nat) : List (Nat × Value) := match ops[i]? with
  | some o => (o.looksAt ops).map fun t => (t, (srcOf ops l0 L i t).getD undef)
  | none => []
theorem stab_go {J : Array Bool → Act → World → Prop} (hB : stabB ops I l0 = true)
    (step : ∀ i ∈ I, ∀ (listed : Array Bool) (a : Act) (w : World) (o : Oper), ops[i]? = some o → listed.size = ops.size → listed.getD i true = false → (∀ e ∈ o.after, Region.binds .any e = true → e.on ∈ I ∧ listed.getD e.on false = true) → (∀ d, o.dst = some d → Ya l0 d = none) → J listed a w → wpOp P ops Q i (fun a' w' => J (listed.setIfInBounds i true) a' w') a w)
    (next : ∀ a w, J (LI ops I) a w → wpAny P .any ops Q (cntF (LI ops I)) (LI ops I) a w) :
    ∀ (m : Nat) (listed : Array Bool) (a : Act) (w : World), m = cntF listed → listed.size = ops.size → (∀ j, listed.getD j false = true → j ∈ I) → Closed ops listed → J listed a w → wpAny P .any ops Q m listed a w := by
  have hB' := hB
  unfold stabB at hB'
  simp only [Zd, Zo, XG] at hB'
  obtain ⟨⟨⟨hnd, hin⟩, hrest⟩, hlen⟩ := hB'
  have inS : ∀ i ∈ I, ∃ o, ops[i]? = some o ∧ (∀ e ∈ o.after, Region.binds .any e = true → e.on < i ∧ e.on ∈ I) ∧ ∀ d, o.dst = some d → Ya l0 d = none := fun i hi => by
    have h := hin i hi
    unfold inB at h
    cases ho : ops[i]? with
    | none => rw [ho] at h; cases h
    | some o =>
      rw [ho] at h
      simp only [Zd] at h
      refine ⟨o, rfl, fun e he hb => ?_, fun d hd => ?_⟩
      · have h1 := (YF.1 h.1) e he
        rw [hb] at h1
        simp only [Bool.not_true, Bool.false_or, Zd, Nat.blt_eq] at h1
        exact ⟨h1.1, ZD.1 h1.2⟩
      · have h2 := h.2
        rw [hd] at h2
        exact Option.isNone_iff_eq_none.1 h2
  intro m
  induction m with
  | zero =>
    intro listed a w hm hs hsub hcl hk
    have hall : ∀ j, j < ops.size → listed.getD j false = true := fun j hj => by
      cases h : listed.getD j false with
      | true => rfl
      | false =>
        have : listed.getD j true = false := by
          have hj' : j < listed.size := by omega
          simp [hj'] at h ⊢
          exact h
        have := cntF_set this
        omega
    have e : listed = LI ops I := by
      refine KG (by simp [LI, hs]) fun j h1 h2 => ?_
      have h3 := hall j (by omega)
      have h4 := hsub j h3
      simp [h1] at h3
      simp [LI, h3, ZD, h4]
    subst e
    rw [hm]
    exact next a w hk
  | succ m ih =>
    intro listed a w hm hs hsub hcl hk
    by_cases hall : ∀ i ∈ I, listed.getD i false = true
    · have e : listed = LI ops I := by
        refine KG (by simp [LI, hs]) fun j h1 h2 => ?_
        by_cases hj : j ∈ I
        · have h3 := hall j hj
          simp [h1] at h3
          simp [LI, h3, ZD, hj]
        · cases h3 : listed.getD j false with
          | true => exact absurd (hsub j h3) hj
          | false =>
            simp [h1] at h3
            simp [LI, h3, ZD, hj]
      subst e
      rw [hm]
      exact next a w hk
    · have ⟨i0, h0⟩ : ∃ i, i ∈ I ∧ listed.getD i false = false := Classical.byContradiction fun hno => hall fun i hi => by
        cases h : listed.getD i false with
        | true => rfl
        | false => exact absurd ⟨i, hi, h⟩ hno
      obtain ⟨k, ⟨hkI, hku⟩, hmin⟩ := Go.Dbr.leastN (P := fun i => i ∈ I ∧ listed.getD i false = false) i0 h0
      obtain ⟨ok, hok, hafk, _⟩ := inS k hkI
      have hkt : listed.getD k true = false := by
        have : k < listed.size := by rw [hs]; exact (Z8.1 hok).1
        simp [this] at hku ⊢
        exact hku
      have hkr : k ∈ Region.ready .any ops listed := mem_ready.2 ⟨hkt, ok, hok, fun e he hb => by
        obtain ⟨h1, h2⟩ := hafk e he hb
        cases h : listed.getD e.on false with
        | true => rfl
        | false => exact absurd ⟨h2, h⟩ (hmin _ h1)⟩
      refine ⟨fun hr => absurd hkr (by rw [hr]; exact ZF), fun i hi => ?_⟩
      obtain ⟨hiu, o, ho, haf⟩ := mem_ready.1 hi
      have hiI : i ∈ I := Classical.byContradiction fun hno => by
        have hib := (Z8.1 ho).1
        have hc : (clo ops.toList [])[i]? = some ((clo ops.toList []).getD i 0) := by
          rw [zN, List.getElem?_eq_getElem (by omega)]
          rfl
        rcases restB_spec _ 0 hrest i _ hc with h | h
        · rw [Nat.zero_add] at h
          exact hno (ZD.1 h)
        · have hb := maskOf_spec hkI
          rw [← h, Nat.testBit_and, Zd] at hb
          have hw := clo_spec (ops := ops) (i := k) ops.toList [] (fun j o' hj => by simpa using hj) (fun j hj => by simp at hj) i hb.2
          have := hw.no hcl o ho haf
          rw [hku] at this
          cases this
      obtain ⟨o', ho', hafI, hdn⟩ := inS i hiI
      rw [ho] at ho'
      cases ho'
      refine wpOp_mono (fun a' w' h => ?_) (step i hiI listed a w o ho hs hiu (fun e he hb => ⟨(hafI e he hb).2, haf e he hb⟩) hdn hk)
      exact ih (listed.setIfInBounds i true) a' w' (by have := cntF_set hiu; omega) (by simp [hs]) (fun j hj => by
        by_cases e : i = j
        · exact e ▸ hiI
        · refine hsub j ?_
          simp [Zw e] at hj ⊢
          exact hj) (hcl.set hi) h
theorem stab_step (hnd : XE ops.toList 0 = true) {i : Nat} {listed : Array Bool} {a : Act} {w : World} {o : Oper} (hiI : i ∈ I) (hst : Stab P ops Q n S l0 L i) (ho : ops[i]? = some o) (hs : listed.size = ops.size) (hiu : listed.getD i true = false)
    (haf : ∀ e ∈ o.after, Region.binds .any e = true → e.on ∈ I ∧ listed.getD e.on false = true) (hdn : ∀ d, o.dst = some d → Ya l0 d = none) (hk : Know ops n l0 L I a listed) (hS : S w) :
    wpOp P ops Q i (fun a' w' => Know ops n l0 L I a' (listed.setIfInBounds i true) ∧ S w' ∧ ∃ v, a' = a.put o.dst v) a w := by
  obtain ⟨E, hE, hrun⟩ := hst
  have env : Env a n E := ⟨hk.size, hk.defers, fun t v hv => by
    have h1 := look_map_some2 hE t v hv
    unfold srcOf at h1
    rw [ho] at h1
    simp only at h1
    cases hany : (o.after.any fun e => Region.binds .any e && (match ops[e.on]? with | some q => (match q.dst with | some c => Yl c t | none => false) | none => false)) with
    | true =>
      rw [hany, QB] at h1
      obtain ⟨e, he, hb⟩ := Array.any_eq_true'.1 hany
      simp only [Zd] at hb
      cases hq : ops[e.on]? with
      | none => rw [hq] at hb; cases hb.2
      | some q =>
        rw [hq] at hb
        cases hc : q.dst with
        | none => simp [hc] at hb
        | some c =>
          simp only [hc, XG] at hb
          have := hk.new e.on q t (haf e he hb.1).1 hq (by rw [hc, hb.2]) (haf e he hb.1).2
          rw [h1] at this
          exact this
    | false =>
      rw [hany, QQ] at h1
      exact hk.old t v h1⟩
  have hrun2 := wpOp_put ho (fun a' w' h => h.1.defers) (hrun a w env hS)
  refine wpOp_mono (fun a' w' h => ?_) hrun2
  obtain ⟨⟨hE', hS'⟩, v', rfl⟩ := h
  have keep : ∀ t, o.dst ≠ some t → (a.put o.dst v').tmps[t]? = a.tmps[t]? := fun t ht => by
    cases hd : o.dst with
    | none => rfl
    | some d =>
      have : d ≠ t := fun e => ht (by rw [hd, e])
      simp [Act.put, Zw this]
  refine ⟨⟨hE'.size, hE'.defers, fun t v hv => ?_, fun i' oi d hi' hoi hd hl => ?_⟩, hS', v', rfl⟩
  · rw [keep t (fun e => by rw [hdn t e] at hv; cases hv)]
    exact hk.old t v hv
  · by_cases e : i = i'
    · subst e
      rw [ho] at hoi
      cases hoi
      refine hE'.slot d _ ?_
      unfold oneL
      rw [ho]
      simp only [hd, Jz]
    · rw [keep d (fun g => e ((JB _ _ hnd).2 i i' o oi d (by rw [Qs]; exact ho) (by rw [Qs]; exact hoi) g hd))]
      refine hk.new i' oi d hi' hoi hd ?_
      simp [Zw e] at hl ⊢
      exact hl
end
section
variable {P : Program} {ops : Array Oper} {Q : Exit → Act → World → Prop} {n : Nat} {l0 L : List (Nat × Value)} {I A : List Nat} {a : Act} {w w0 : World} {L0 Lh : List Ent}
def StabL (P : Program) (ops : Array Oper) (Q : Exit → Act → World → Prop) (n : Nat) (w0 : World) (L0 Lh : List Ent) (l0 L : List (Nat × Value)) : List Nat → Prop
  | [] => True
  | i :: r => (∀ M, Stab P ops Q n (fun wv => Ev w0 L0 wv (Lh ++ M)) l0 L i) ∧ StabL P ops Q n w0 L0 Lh l0 L r
theorem StabL.all : ∀ {I : List Nat}, StabL P ops Q n w0 L0 Lh l0 L I → ∀ i ∈ I, ∀ M, Stab P ops Q n (fun wv => Ev w0 L0 wv (Lh ++ M)) l0 L i
  | _ :: _, h, i, hi => (Q7.1 hi).elim (fun e => e ▸ h.1) (h.2.all i)
def srcE (ops : Array Oper) (I : List Nat) (l0 L : List (Nat × Value)) (t : Nat) : Option Value := bif I.any fun i => (match opD ops i with | some d => Yl d t | none => false) then Ya L t else Ya l0 t
theorem Know.env {listed : Array Bool} {l' : List (Nat × Value)} (k : Know ops n l0 L I a listed) (hl : ∀ i ∈ I, listed.getD i false = true) (h : l'.map (fun p => srcE ops I l0 L p.1) = l'.map (fun p => some p.2)) : Env a n l' := ⟨k.size, k.defers, fun t v hv => by
  have h1 := look_map_some2 h t v hv
  unfold srcE at h1
  cases hany : (I.any fun i => (match opD ops i with | some d => Yl d t | none => false)) with
  | true =>
    rw [hany, QB] at h1
    obtain ⟨i, hi, hb⟩ := List.any_eq_true.1 hany
    unfold opD at hb
    cases ho : ops[i]? with
    | none => rw [ho] at hb; cases hb
    | some o =>
      rw [ho] at hb
      simp only at hb
      cases hd : o.dst with
      | none => rw [hd] at hb; cases hb
      | some d =>
        rw [hd] at hb
        simp only [XG] at hb
        subst hb
        have := k.new i o d hi ho hd (hl i hi)
        rw [h1] at this
        exact this
  | false =>
    rw [hany, QQ] at h1
    exact k.old t v h1⟩
theorem put_keep {o : Oper} {v : Value} {t : Nat} (ht : o.dst ≠ some t) : (a.put o.dst v).tmps[t]? = a.tmps[t]? := by
  cases hd : o.dst with
  | none => rfl
  | some d =>
    have : d ≠ t := fun e => ht (by rw [hd, e])
    simp [Act.put, Zw this]
theorem Know.put {listed : Array Bool} {i : Nat} {o : Oper} {v : Value} (hnd : XE ops.toList 0 = true) (hk : Know ops n l0 L I a listed) (ho : ops[i]? = some o) (hiI : i ∉ I) (hdn : ∀ d, o.dst = some d → Ya l0 d = none) : Know ops n l0 L I (a.put o.dst v) (listed.setIfInBounds i true) := by
  refine ⟨?_, ?_, fun t v hv => ?_, fun i' oi d hi' hoi hd hl => ?_⟩
  · cases o.dst with
    | none => exact hk.size
    | some d => simp [Act.put, hk.size]
  · cases o.dst with
    | none => exact hk.defers
    | some d => exact hk.defers
  · rw [put_keep (fun e => by rw [hdn t e] at hv; cases hv)]
    exact hk.old t v hv
  · have e : i ≠ i' := fun e => hiI (e ▸ hi')
    rw [put_keep (fun g => e ((JB _ _ hnd).2 i i' o oi d (by rw [Qs]; exact ho) (by rw [Qs]; exact hoi) g hd))]
    refine hk.new i' oi d hi' hoi hd ?_
    simp [Zw e] at hl ⊢
    exact hl
def Alc (ops : Array Oper) (A : List Nat) (cA : Nat → List Value) (tA : Nat → TypeId) (w0 : World) (L0 Lh : List Ent) (listed : Array Bool) (a : Act) (w : World) : Prop :=
  ∃ bs : List (Nat × Nat), (bs.map Prod.fst).Nodup ∧ (∀ i, i ∈ bs.map Prod.fst ↔ i ∈ A ∧ listed.getD i false = true) ∧ (∀ p ∈ bs, ∀ o d, ops[p.1]? = some o → o.dst = some d → a.tmps[d]? = some (.pointer (some ⟨p.2, 0, none⟩))) ∧ Ev w0 L0 w (Lh ++ bs.map fun p => .box p.2 (cA p.1) (tA p.1))
def alcB (ops : Array Oper) (I A : List Nat) : Bool := (I.all fun i => match ops[i]? with
    | some o => o.after.all fun e => !Region.binds .any e || I.contains e.on
    | none => false) && (A.all fun i => !I.contains i && (match opD ops i with | some _ => true | none => false)) && nodupB A
def dN (ops : Array Oper) (i : Nat) : Nat := (opD ops i).getD 0
theorem Alc.put {cA : Nat → List Value} {tA : Nat → TypeId} {listed : Array Bool} {i : Nat} {o : Oper} {v : Value} {w' : World} {bs : List (Nat × Nat)} (hnd : XE ops.toList 0 = true) (ho : ops[i]? = some o) (hiA : i ∉ A)
    (h1 : (bs.map Prod.fst).Nodup) (h2 : ∀ i, i ∈ bs.map Prod.fst ↔ i ∈ A ∧ listed.getD i false = true) (h3 : ∀ p ∈ bs, ∀ o d, ops[p.1]? = some o → o.dst = some d → a.tmps[d]? = some (.pointer (some ⟨p.2, 0, none⟩))) (h4 : Ev w0 L0 w' (Lh ++ bs.map fun p => .box p.2 (cA p.1) (tA p.1))) :
    Alc ops A cA tA w0 L0 Lh (listed.setIfInBounds i true) (a.put o.dst v) w' := by
  refine ⟨bs, h1, fun j => ?_, fun p hp o' d ho' hd => ?_, h4⟩
  · rw [h2 j]
    by_cases e : i = j
    · subst e
      exact ⟨fun h => absurd h.1 hiA, fun h => absurd h.1 hiA⟩
    · simp [Zw e]
  · have hpA := ((h2 p.1).1 (XZ hp)).1
    have e : i ≠ p.1 := fun e => hiA (e ▸ hpA)
    rw [put_keep (fun g => e ((JB _ _ hnd).2 i p.1 o o' d (by rw [Qs]; exact ho) (by rw [Qs]; exact ho') g hd))]
    exact h3 p hp o' d ho' hd
theorem Alc.step {cA : Nat → List Value} {tA : Nat → TypeId} {listed : Array Bool} {i : Nat} {o : Oper} (hnd : XE ops.toList 0 = true) (ho : ops[i]? = some o) (hiA : i ∈ A) (hiI : i ∉ I) (hs : listed.size = ops.size) (hiu : listed.getD i true = false)
    (hdn : ∀ d, o.dst = some d → Ya l0 d = none) (hk : Know ops n l0 L I a listed) (hA : Alc ops A cA tA w0 L0 Lh listed a w)
    (hop : opAt ops n i [] = some (.run (opD ops i) (nv (Instr.alloc (tA i) true (.tuple #[]))))) (hz : (fun w => (zeroValue (tA i)).run P w) = fun w => .ok (Kw P (tA i)) w) (hc : (Kw P (tA i)).cells.toList = cA i) (hsome : ∃ d, opD ops i = some d) :
    wpOp P ops Q i (fun a' w' => Know ops n l0 L I a' (listed.setIfInBounds i true) ∧ Alc ops A cA tA w0 L0 Lh (listed.setIfInBounds i true) a' w') a w := by
  obtain ⟨bs, h1, h2, h3, h4⟩ := hA
  have hil : i < listed.size := by rw [hs]; exact (Z8.1 ho).1
  have hif : listed.getD i false = false := by
    simp [hil] at hiu ⊢
    exact hiu
  have E0 : Env a n [] := ⟨hk.size, hk.defers, fun t v hv => by cases hv⟩
  have hrun : wpOp P ops Q i (fun a' w' => ∃ b, Env a' n (putl (opD ops i) (.pointer (some ⟨b, 0, none⟩)) []) ∧ Ev w0 L0 w' ((Lh ++ bs.map fun p => .box p.2 (cA p.1) (tA p.1)) ++ [.box b (cA i) (tA i)])) a w :=
    m_z (tA i) (cA i) E0 h4 (fun a' w' b E' H' => ⟨b, E', H'⟩) hop hz hc
  refine wpOp_mono (fun a' w' h => ?_) (wpOp_put ho (fun a' w' h => by obtain ⟨b, E', _⟩ := h; exact E'.defers) hrun)
  obtain ⟨⟨b, E', H'⟩, v, rfl⟩ := h
  obtain ⟨d, hd⟩ := hsome
  have hod : o.dst = some d := by
    unfold opD at hd
    rw [ho] at hd
    exact hd
  refine ⟨hk.put hnd ho hiI hdn, bs ++ [(i, b)], ?_, fun j => ?_, fun p hp o' d' ho' hd' => ?_, ?_⟩
  · rw [ZO, Xo]
    refine ⟨h1, by simp, fun x hx y hy e => ?_⟩
    simp at hy
    have := ((h2 x).1 hx).2
    rw [e, hy, hif] at this
    cases this
  · rw [ZO, Yy, h2 j]
    by_cases e : i = j
    · subst e
      simp [hil, hiA]
    · have e' : j ≠ i := fun g => e g.symm
      simp [Zw e, e']
  · rcases Yy.1 hp with hp | hp
    · have hpl := ((h2 p.1).1 (XZ hp)).2
      have e : i ≠ p.1 := fun e => by rw [← e, hif] at hpl; cases hpl
      rw [put_keep (fun g => e ((JB _ _ hnd).2 i p.1 o o' d' (by rw [Qs]; exact ho) (by rw [Qs]; exact ho') g hd'))]
      exact h3 p hp o' d' ho' hd'
    · simp at hp
      subst hp
      rw [ho] at ho'
      cases ho'
      rw [hod] at hd'
      cases hd'
      refine E'.slot d _ ?_
      rw [hd]
      exact Jz _ _ _
  · rw [ZO, ← QK]
    exact H'
def blkOf (bs : List (Nat × Nat)) (i : Nat) : Nat := ((bs.find? fun p => p.1 == i).map Prod.snd).getD 0
theorem look_alc {ops : Array Oper} {B : Nat → Nat} {l' : List (Nat × Value)} {t : Nat} {v : Value} : ∀ (A : List Nat), Ya ((A.map fun i => (dN ops i, Value.pointer (some ⟨B i, 0, none⟩))) ++ l') t = some v → (∃ i ∈ A, dN ops i = t ∧ v = .pointer (some ⟨B i, 0, none⟩)) ∨ Ya l' t = some v
  | [], h => .inr h
  | i :: r, h => by
    rw [Yg, List.cons_append] at h
    by_cases e : dN ops i = t
    · left
      refine ⟨i, Yf .., e, ?_⟩
      subst e
      rw [Jz] at h
      cases h
      rfl
    · rw [look_other _ _ e] at h
      rcases look_alc r h with ⟨j, hj, h1⟩ | h1
      · exact .inl ⟨j, Q5 _ hj, h1⟩
      · exact .inr h1
end
section
variable {P : Program} {ops : Array Oper} {Q : Exit → Act → World → Prop} {n : Nat} {l0 L : List (Nat × Value)} {I A : List Nat} {a : Act} {w w0 : World} {L0 Lh : List Ent}
theorem Alc.order {cA : Nat → List Value} {tA : Nat → TypeId} {listed : Array Bool} (hA : Alc ops A cA tA w0 L0 Lh listed a w) (hnA : A.Nodup) (hl : ∀ i ∈ A, listed.getD i false = true) (hd : ∀ i ∈ A, ∃ o d, ops[i]? = some o ∧ o.dst = some d) :
    ∃ B : Nat → Nat, (∀ i ∈ A, a.tmps[dN ops i]? = some (.pointer (some ⟨B i, 0, none⟩))) ∧ Ev w0 L0 w (Lh ++ A.map fun i => .box (B i) (cA i) (tA i)) := by
  obtain ⟨bs, h1, h2, h3, h4⟩ := hA
  have hB : ∀ i ∈ A, ∃ k, ∃ p : Nat × Nat, bs[k]? = some p ∧ p.1 = i ∧ blkOf bs i = p.2 := fun i hi => by
    have hm := (h2 i).2 ⟨hi, hl i hi⟩
    obtain ⟨p0, hp0, e0⟩ := Ja.1 hm
    have hf : ∃ p, bs.find? (fun p => p.1 == i) = some p := by
      cases h : bs.find? (fun p => p.1 == i) with
      | some p => exact ⟨p, rfl⟩
      | none => exact absurd (List.find?_eq_none.1 h p0 hp0) (by simp [e0])
    obtain ⟨p, hp⟩ := hf
    have hpm := List.mem_of_find?_eq_some hp
    have hpe := List.find?_some hp
    obtain ⟨k, hk⟩ := List.getElem?_of_mem hpm
    refine ⟨k, p, hk, by simpa using hpe, ?_⟩
    unfold blkOf
    rw [hp]
    rfl
  refine ⟨blkOf bs, fun i hi => ?_, ?_⟩
  · obtain ⟨k, p, hk, hp, hb⟩ := hB i hi
    obtain ⟨o, d, ho, hdd⟩ := hd i hi
    rw [hb]
    refine h3 p (List.mem_of_getElem? hk) o (dN ops i) (by rw [hp]; exact ho) ?_
    unfold dN opD
    rw [ho]
    simp [hdd]
  · have ix : ∀ (A' : List Nat), (∀ i ∈ A', i ∈ A) → A'.Nodup → ∃ ks : List Nat, (∀ k ∈ ks, ∃ p : Nat × Nat, bs[k]? = some p ∧ p.1 ∈ A') ∧ ks.Nodup ∧ (A'.map fun i => some (Ent.box (blkOf bs i) (cA i) (tA i))) = ks.map fun k => (bs.map fun p => Ent.box p.2 (cA p.1) (tA p.1))[k]? := fun A' => by
      induction A' with
      | nil => exact fun _ _ => ⟨[], by simp, XT, rfl⟩
      | cons i r ih =>
        intro hs hn
        obtain ⟨ks, h5, h6, h7⟩ := ih (fun j hj => hs j (Q5 _ hj)) (J6.1 hn).2
        obtain ⟨k, p, hk, hp, hb⟩ := hB i (hs i (Yf ..))
        refine ⟨k :: ks, fun j hj => ?_, J6.2 ⟨fun hm => ?_, h6⟩, ?_⟩
        · rcases Q7.1 hj with rfl | hj
          · exact ⟨p, hk, by rw [hp]; exact Yf ..⟩
          · obtain ⟨q, hq, hq2⟩ := h5 j hj
            exact ⟨q, hq, Q5 _ hq2⟩
        · obtain ⟨q, hq, hq2⟩ := h5 k hm
          rw [hk] at hq
          cases hq
          rw [hp] at hq2
          exact (J6.1 hn).1 hq2
        · rw [Yg, Yg, h7, List.getElem?_map, hk]
          simp [hp, hb]
    obtain ⟨ks, h5, h6, h7⟩ := ix A (fun _ h => h) hnA
    refine h4.pick ((Yu Lh.length) ++ ks.map (Lh.length + ·)) ?_ ?_
    · rw [ZO, ZO, XD]
      congr 1
      · refine Yp fun j => ?_
        rcases Qq j Lh.length with h | h
        · simp [h, z6]
        · simp [h]
      · rw [XD]
        refine Eq.trans (by rfl) (h7.trans ?_)
        refine List.map_congr_left fun k hk => ?_
        show _ = (Lh ++ bs.map fun p => Ent.box p.2 (cA p.1) (tA p.1))[Lh.length + k]?
        rw [Zc (Nat.le_add_right _ _), Nat.add_sub_cancel_left]
    · rw [Xo]
      refine ⟨List.nodup_range, ?_, fun x hx y hy e => ?_⟩
      · exact List.Pairwise.map _ (fun x y h g => h (by simpa using g)) h6
      · obtain ⟨k, _, rfl⟩ := Ja.1 hy
        have := List.mem_range.1 hx
        omega
def alcOk (P : Program) (ops : Array Oper) (n : Nat) (cA : Nat → List Value) (tA : Nat → TypeId) (i : Nat) : Prop :=
  opAt ops n i [] = some (.run (opD ops i) (nv (Instr.alloc (tA i) true (.tuple #[])))) ∧ ((fun w => (zeroValue (tA i)).run P w) = fun w => .ok (Kw P (tA i)) w) ∧ (Kw P (tA i)).cells.toList = cA i
theorem s_gen {F : Act → World → Prop} {id : Nat} (cA : Nat → List Value) (tA : Nat → TypeId) (m' : Nat) (l' : List (Nat × Value)) (E : Env a n l0) (H : Ev w0 L0 w.drew Lh) (hst : StabL P ops (HQ F) n w0 L0 Lh l0 L I) (hal : ∀ i ∈ A, alcOk P ops n cA tA i)
    (next : ∀ a' w' (B : Nat → Nat), Env a' n ((A.map fun i => (dN ops i, Value.pointer (some ⟨B i, 0, none⟩))) ++ l') → Ev w0 L0 w' (Lh ++ A.map fun i => .box (B i) (cA i) (tA i)) → wpAny P .any ops (HQ F) m' (LI ops (I ++ A)) a' w')
    (hp : P.follows .mixedOrders = true) (hB : stabB ops (I ++ A) l0 = true) (hC : alcB ops I A = true) (hl : l'.map (fun p => srcE ops I l0 L p.1) = l'.map (fun p => some p.2)) (hm : cntF (LI ops (I ++ A)) = m') : (Code.region id ops true).wp P (HQ F) a w := by
  have hB' := hB
  unfold stabB at hB'
  simp only [Zd, Zo] at hB'
  have hnd := hB'.1.1.1
  have key : ∀ i ∈ I ++ A, ∃ o, ops[i]? = some o := fun i hi => by
    have h := hB'.1.1.2 i hi
    unfold inB at h
    cases ho : ops[i]? with
    | none => rw [ho] at h; cases h
    | some o => exact ⟨o, rfl⟩
  unfold alcB at hC
  simp only [Zd, Zo] at hC
  have hIA : ∀ i ∈ A, i ∉ I := fun i hi h => by
    have := (hC.1.2 i hi).1
    rw [ZD.2 h] at this
    cases this
  have hAd : ∀ i ∈ A, ∃ o d, ops[i]? = some o ∧ o.dst = some d := fun i hi => by
    obtain ⟨o, ho⟩ := key i (XM _ hi)
    have h := (hC.1.2 i hi).2
    unfold opD at h
    rw [ho] at h
    cases hd : o.dst with
    | none => simp [hd] at h
    | some d => exact ⟨o, d, ho, hd⟩
  have hlist : ∀ i ∈ I ++ A, (LI ops (I ++ A)).getD i false = true := fun i hi => by
    obtain ⟨o, ho⟩ := key i hi
    have hib := (Z8.1 ho).1
    simp only [Yy] at hi
    simp [LI, hib, hi]
  refine draw_any hp ops.size rfl ?_
  refine stab_go (J := fun listed a w => Know ops n l0 L I a listed ∧ Alc ops A cA tA w0 L0 Lh listed a w) hB (fun i hi listed a w o ho hs hiu haf hdn hJ => ?_) (fun a' w' hJ => ?_) ops.size (Array.replicate ops.size false) a w.drew (by simp [cntF, List.countP_replicate]) (by simp) (fun j hj => ?_) ?_ ⟨⟨E.size, E.defers, E.slot, fun i o d hi ho hd hl => ?_⟩, [], XT, fun i => ?_, (fun p hp => by cases hp), (by rw [KE, ZH]; exact H)⟩
  · obtain ⟨hk, hA⟩ := hJ
    rcases Yy.1 hi with hi | hi
    · obtain ⟨bs, h1, h2, h3, h4⟩ := hA
      have haf' : ∀ e ∈ o.after, Region.binds .any e = true → e.on ∈ I ∧ listed.getD e.on false = true := fun e he hb => by
        have h := hC.1.1 i hi
        rw [ho] at h
        have h1 := (YF.1 h) e he
        rw [hb] at h1
        exact ⟨ZD.1 (by simpa using h1), (haf e he hb).2⟩
      refine wpOp_mono (fun a' w' h => ?_) (stab_step hnd hi (hst.all i hi (bs.map fun p => .box p.2 (cA p.1) (tA p.1))) ho hs hiu haf' hdn hk h4)
      obtain ⟨hk', hS', v, rfl⟩ := h
      exact ⟨hk', Alc.put hnd ho (fun h => hIA i h hi) h1 h2 h3 hS'⟩
    · obtain ⟨h1, h2, h3⟩ := hal i hi
      obtain ⟨o', d, ho', hd⟩ := hAd i hi
      exact Alc.step hnd ho hi (hIA i hi) hs hiu hdn hk hA h1 h2 h3 ⟨d, by unfold opD; rw [ho']; exact hd⟩
  · obtain ⟨hk, hA⟩ := hJ
    obtain ⟨B, hB1, hB2⟩ := Alc.order hA (nodup_of hC.2) (fun i hi => hlist i (XM _ hi)) hAd
    rw [hm]
    have E' := hk.env (fun i hi => hlist i (List.mem_append_left _ hi)) hl
    refine next a' w' B ⟨E'.size, E'.defers, fun t v hv => ?_⟩ hB2
    rcases look_alc A hv with ⟨i, hi, rfl, rfl⟩ | h
    · exact hB1 i hi
    · exact E'.slot t v h
  · rcases Qq j ops.size with h | h
    · simp [h] at hj
    · simp [h] at hj
  · intro j o hj hl
    rcases Qq j ops.size with h | h
    · simp [h] at hl
    · simp [h] at hl
  · rcases Qq i ops.size with h | h
    · simp [h] at hl
    · simp [h] at hl
  · rcases Qq i ops.size with h | h
    · simp [h]
    · simp [h]
def cAl (P : Program) (ops : Array Oper) (i : Nat) : List Value := (Kw P (YY ops i)).cells.toList
theorem s_g0 {F : Act → World → Prop} {id : Nat} (l0 : List (Nat × Value)) (I : List Nat) (L : List (Nat × Value)) (m' : Nat) (l' : List (Nat × Value)) (E : Env a n l0) (H : Ev w0 L0 w.drew Lh) (hst : StabL P ops (HQ F) n w0 L0 Lh l0 L I)
    (next : ∀ a' w', Env a' n (l') → Ev w0 L0 w' Lh → wpAny P .any ops (HQ F) m' (LI ops (I ++ [])) a' w')
    (hp : P.follows .mixedOrders = true := by kernel_rfl) (hB : stabB ops (I ++ []) l0 = true := by kernel_rfl) (hC : alcB ops I [] = true := by kernel_rfl) (hl : l'.map (fun p => srcE ops I l0 L p.1) = l'.map (fun p => some p.2) := by kernel_rfl) (hm : cntF (LI ops (I ++ [])) = m' := by kernel_rfl) : (Code.region id ops true).wp P (HQ F) a w := by
  exact s_gen (A := []) (cAl P ops) (YY ops) m' l' E H hst (fun i hi => by cases hi) (fun a' w' B E' H' => next a' w' E' (by rw [KE, ZH] at H'; exact H')) hp hB hC hl hm
theorem s_g1 {F : Act → World → Prop} {id : Nat} (l0 : List (Nat × Value)) (I : List Nat) (L : List (Nat × Value)) (m' : Nat) (l' : List (Nat × Value)) (i1 : Nat) (c1 : List Value) (E : Env a n l0) (H : Ev w0 L0 w.drew Lh) (hst : StabL P ops (HQ F) n w0 L0 Lh l0 L I)
    (next : ∀ a' w' (b1 : Nat), Env a' n ((dN ops i1, .pointer (some ⟨b1, 0, none⟩)) :: l') → Ev w0 L0 w' (Lh ++ [.box b1 c1 (YY ops i1)]) → wpAny P .any ops (HQ F) m' (LI ops (I ++ [i1])) a' w')
    (hp : P.follows .mixedOrders = true := by kernel_rfl) (hB : stabB ops (I ++ [i1]) l0 = true := by kernel_rfl) (hC : alcB ops I [i1] = true := by kernel_rfl) (hl : l'.map (fun p => srcE ops I l0 L p.1) = l'.map (fun p => some p.2) := by kernel_rfl) (hm : cntF (LI ops (I ++ [i1])) = m' := by kernel_rfl) (e1 : alcOk P ops n (cAl P ops) (YY ops) i1 := by exact ⟨by kernel_rfl, by kernel_rfl, rfl⟩) (f1 : cAl P ops i1 = c1 := by kernel_rfl) : (Code.region id ops true).wp P (HQ F) a w := by
  subst f1
  exact s_gen (A := [i1]) (cAl P ops) (YY ops) m' l' E H hst (fun i hi => by simp only [Q7, ZF, or_false] at hi; rcases hi with rfl <;> assumption) (fun a' w' B E' H' => next a' w' (B i1) E' H') hp hB hC hl hm
theorem s_g4 {F : Act → World → Prop} {id : Nat} (l0 : List (Nat × Value)) (I : List Nat) (L : List (Nat × Value)) (m' : Nat) (l' : List (Nat × Value)) (i1 i2 i3 i4 : Nat) (c1 c2 c3 c4 : List Value) (E : Env a n l0) (H : Ev w0 L0 w.drew Lh) (hst : StabL P ops (HQ F) n w0 L0 Lh l0 L I)
    (next : ∀ a' w' (b1 b2 b3 b4 : Nat), Env a' n ((dN ops i1, .pointer (some ⟨b1, 0, none⟩)) :: (dN ops i2, .pointer (some ⟨b2, 0, none⟩)) :: (dN ops i3, .pointer (some ⟨b3, 0, none⟩)) :: (dN ops i4, .pointer (some ⟨b4, 0, none⟩)) :: l') → Ev w0 L0 w' (Lh ++ [.box b1 c1 (YY ops i1), .box b2 c2 (YY ops i2), .box b3 c3 (YY ops i3), .box b4 c4 (YY ops i4)]) → wpAny P .any ops (HQ F) m' (LI ops (I ++ [i1, i2, i3, i4])) a' w')
    (hp : P.follows .mixedOrders = true := by kernel_rfl) (hB : stabB ops (I ++ [i1, i2, i3, i4]) l0 = true := by kernel_rfl) (hC : alcB ops I [i1, i2, i3, i4] = true := by kernel_rfl) (hl : l'.map (fun p => srcE ops I l0 L p.1) = l'.map (fun p => some p.2) := by kernel_rfl) (hm : cntF (LI ops (I ++ [i1, i2, i3, i4])) = m' := by kernel_rfl) (e1 : alcOk P ops n (cAl P ops) (YY ops) i1 := by exact ⟨by kernel_rfl, by kernel_rfl, rfl⟩) (f1 : cAl P ops i1 = c1 := by kernel_rfl) (e2 : alcOk P ops n (cAl P ops) (YY ops) i2 := by exact ⟨by kernel_rfl, by kernel_rfl, rfl⟩) (f2 : cAl P ops i2 = c2 := by kernel_rfl) (e3 : alcOk P ops n (cAl P ops) (YY ops) i3 := by exact ⟨by kernel_rfl, by kernel_rfl, rfl⟩) (f3 : cAl P ops i3 = c3 := by kernel_rfl) (e4 : alcOk P ops n (cAl P ops) (YY ops) i4 := by exact ⟨by kernel_rfl, by kernel_rfl, rfl⟩) (f4 : cAl P ops i4 = c4 := by kernel_rfl) : (Code.region id ops true).wp P (HQ F) a w := by
  subst f1 f2 f3 f4
  exact s_gen (A := [i1, i2, i3, i4]) (cAl P ops) (YY ops) m' l' E H hst (fun i hi => by simp only [Q7, ZF, or_false] at hi; rcases hi with rfl | rfl | rfl | rfl <;> assumption) (fun a' w' B E' H' => next a' w' (B i1) (B i2) (B i3) (B i4) E' H') hp hB hC hl hm
theorem app_at {M : List Ent} {k : Nat} {e : Ent} (h : Lh[k]? = some e) : (Lh ++ M)[k]? = some e := by rw [z6 (List.getElem?_eq_some_iff.1 h).1]; exact h
theorem s_n : StabL P ops Q n w0 L0 Lh l0 L [] := trivial
theorem s_c {i : Nat} {r : List Nat} (h : ∀ M a w, Env a n (envI ops l0 L i) → Ev w0 L0 w (Lh ++ M) → wpOp P ops Q i (fun a' w' => Env a' n (oneL ops L i) ∧ Ev w0 L0 w' (Lh ++ M)) a w) (hr : StabL P ops Q n w0 L0 Lh l0 L r)
    (hE : (envI ops l0 L i).map (fun p => srcOf ops l0 L i p.1) = (envI ops l0 L i).map (fun p => some p.2) := by kernel_rfl) : StabL P ops Q n w0 L0 Lh l0 L (i :: r) := ⟨fun M => ⟨_, hE, h M⟩, hr⟩
theorem s_f {i : Nat} {r : List Nat} {f : FuncId} {args : Array Value} {v : Value} (hc : ∀ w, Calls P f args w fun e w' => e = .returned v ∧ Ev w [] w' []) (hr : StabL P ops Q n w0 L0 Lh l0 L r)
    (h : opRuns P ops n i (envI ops l0 L i) = some (opD ops i, fun w => .ok (.enter f args) w) := by kernel_rfl)
    (h1 : (oneL ops L i).map (fun p => Ya (putl (opD ops i) v (envI ops l0 L i)) p.1) = (oneL ops L i).map (fun p => some p.2) := by kernel_rfl)
    (hE : (envI ops l0 L i).map (fun p => srcOf ops l0 L i p.1) = (envI ops l0 L i).map (fun p => some p.2) := by kernel_rfl) : StabL P ops Q n w0 L0 Lh l0 L (i :: r) :=
  s_c (fun M a w E H => c_p E H (hc w) (fun a' w' E' H' => ⟨E'.sub h1, H'⟩) h) hr hE
theorem s_p {i : Nat} {r : List Nat} (fs : List (Nat × FV)) (hr : StabL P ops Q n w0 L0 Lh l0 L r)
    (h : (fun w => resA P ops n w (envI ops l0 L i) i) = (fun w => expA P ops n fs w (envI ops l0 L i) i) := by kernel_rfl)
    (h1 : (oneL ops L i).map (fun p => Ya (nextL P ops n fs (envI ops l0 L i) i) p.1) = (oneL ops L i).map (fun p => some p.2) := by kernel_rfl)
    (hE : (envI ops l0 L i).map (fun p => srcOf ops l0 L i p.1) = (envI ops l0 L i).map (fun p => some p.2) := by kernel_rfl) : StabL P ops Q n w0 L0 Lh l0 L (i :: r) :=
  s_c (fun M a w E H => by
    have h2 := congrFun h w
    unfold resA expA at h2
    have go : ∀ a', Env a' n (nextL P ops n fs (envI ops l0 L i) i) → Env a' n (oneL ops L i) ∧ Ev w0 L0 w (Lh ++ M) := fun a' E' => ⟨E'.sub h1, H⟩
    unfold nextL at go
    cases ho : opAt ops n i (envI ops l0 L i) with
    | none => simp [ho] at h2
    | some x =>
      cases x with
      | run d s =>
        simp only [ho, Option.some.injEq] at h2 go
        rw [raw_fin] at h2
        exact any_run E ho h2 go
      | skip d =>
        simp only [ho] at go
        obtain ⟨o, hq, hw, rfl, hf⟩ := opAt_skip E ho
        simp only [wpOp, hq, hw, Bool.false_eq_true, if_false]
        exact go _ (E.put undef hf)) hr hE
theorem s_a {i : Nat} {r : List Nat} (k off m : Nat) (xs : List Value) {b : Nat} {cs : List Value} {T : TypeId} (hk : Lh[k]? = some (.box b cs T)) (hx : (cs.drop off).take m = xs) (hm : xs.length = m) (hr : StabL P ops Q n w0 L0 Lh l0 L r)
    (h : opAt ops n i (envI ops l0 L i) = some (.run (opD ops i) (nv (Instr.loadAt (YY ops i) (.pointer (some ⟨b, off, none⟩))))) := by kernel_rfl)
    (ht : (fun w => (isAgg (YY ops i)).run P w) = fun w => .ok true w := by kernel_rfl) (hs : (fun w => (sizeOf (YY ops i)).run P w) = fun w => .ok m w := by kernel_rfl)
    (h1 : (oneL ops L i).map (fun p => Ya (putl (opD ops i) (.agg xs.toArray) (envI ops l0 L i)) p.1) = (oneL ops L i).map (fun p => some p.2) := by kernel_rfl)
    (hE : (envI ops l0 L i).map (fun p => srcOf ops l0 L i p.1) = (envI ops l0 L i).map (fun p => some p.2) := by kernel_rfl) : StabL P ops Q n w0 L0 Lh l0 L (i :: r) :=
  s_c (fun M a w E H => m_a k off m xs E H (app_at hk) hx hm (fun a' E' => ⟨E'.sub h1, H⟩) h ht hs) hr hE
theorem s_e {i : Nat} {l : List (Nat × Value)} {a' : Act} {w' : World} {Lh : List Ent} (E : Env a' n l) (H : Ev w0 L0 w' Lh) (h1 : (oneL ops L i).map (fun p => Ya l p.1) = (oneL ops L i).map (fun p => some p.2) := by kernel_rfl) : Env a' n (oneL ops L i) ∧ Ev w0 L0 w' Lh := ⟨E.sub h1, H⟩
end
end Go.Dbr
namespace Go.Proofs.YtlnogkmnklfjlaaGreatDoor
open Go.Dbr
theorem hL1 : LeftOk 1 := Xd (by decide)
theorem hR1 : RMulOk 1 := Kb h1f hL1
theorem nv_m1 (x y : Nat) : nv (nd (zq 1 x y)) = zq 1 x y := QI (mulM_lt h1f x y)
theorem nv_a1 (x y : Nat) : nv (nd (Zs 1 x y)) = Zs 1 x y := QI (addM_lt h1f x y)
theorem nv_s1 (x y : Nat) : nv (nd (z8 1 x y)) = z8 1 x y := QI (subM_lt h1f x y)
theorem nv_d2 : nv (nd D2N) = D2N := QI (by decide)
theorem nv_dn : nv (nd DN) = DN := QI (by decide)
theorem nv_iv (x : Nat) : nv (nd (zU 1 x (mF 1 - 2))) = ivE x := QI (powM_lt h1f x _)
theorem cut16 (p : L4) : zh (p.take 4) ++ (zh ((p.drop 4).take 4) ++ (zh ((p.drop 8).take 4) ++ zh (p.drop 12))) = zh p := by
  unfold zh
  rw [← ZO, ← ZO, ← ZO]
  congr 1
  have h : p.drop 8 = (p.drop 4).drop 4 := by rw [QO]
  have h2 : p.drop 12 = (p.drop 8).drop 4 := by rw [QO]
  rw [h2, QJ, h, QJ, QJ]
theorem cat16 (a b c d : L4) : zh a ++ (zh b ++ (zh c ++ zh d)) = zh (a ++ (b ++ (c ++ d))) := by
  unfold zh
  rw [ZO, ZO, ZO]
theorem ret4 {x y z t x' y' z' t' : List UInt64} (h1 : x = x') (h2 : y = y') (h3 : z = z') (h4 : t = t') : Ending.returned (.agg (zg ((zh x) ++ ((zh y) ++ ((zh z) ++ (zh t)))))) = Ending.returned (.agg (zg ((zh x') ++ ((zh y') ++ ((zh z') ++ (zh t')))))) := by rw [h1, h2, h3, h4]
theorem emul_go (w : World) (a b : List UInt64) (ha : zc a = 4) (hb : zc b = 4) : Calls zB 43 #[.agg (zg (zh a)), .agg (zg (zh b))] w fun e w' => e = .returned (.agg (zg (zh (nd (zq 1 (nv a) (nv b)))))) ∧ Ev w [] w' [] := by
 refine d_0 [(0, .agg (zg (zh a))), (1, .agg (zg (zh b)))] 8 Tryz.func43 Tryz.ntmps43 (Heap.nil _) fun Ek El Em => wp_seq <| zk <| f_o <| m_m 33 (zh a) El Em fun _ _ Eq En Eo => f_o <| m_m 33 (zh b) En Eo fun _ _ Er Ep Ec => f_o <| m_z 33 (zh (zf 4 0)) Ep Ec fun _ _ Ed Ee Ea => f_e <| ze <| wp_seq <| zk <| f_o <| Zn 0 4 (zh a) Ee Ea rfl (zd ha) fun _ Ef => f_o <| Zn 1 4 (zh b) Ef Ea rfl (zd hb) fun _ Eg => ?_
 refine f_o <| c_p Eg Ea (hM1 _ a b ha hb) fun _ _ Eh Ei => f_o <| zZ 2 4 (zh (nd (zq 1 (nv a) (nv b)))) _ Eh Ei rfl (zd (zl _ _)) (zd (zi)) (zw _) rfl fun _ _ Ej Eb => f_e <| ze <| wp_ret <| Zf (v := .agg (zg (zh (nd (zq 1 (nv a) (nv b)))))) (t := 4) (T := 33) (ad := ⟨Ed, 0, none⟩) Ej (by kernel_rfl) (by kernel_rfl) (zF (t := 33) (k := 2) (off := 0) (m := 4) (xs := zh (nd (zq 1 (nv a) (nv b)))) Eb rfl (zr (zd (zl _ _))) (zd (zl _ _)) (by kernel_rfl) (by kernel_rfl)) ?_
 exact ⟨rfl, Eb.pk []⟩
theorem esum_go (w : World) (a b : List UInt64) (ha : zc a = 4) (hb : zc b = 4) : Calls zB 69 #[.agg (zg (zh a)), .agg (zg (zh b))] w fun e w' => e = .returned (.agg (zg (zh (nd (Zs 1 (nv a) (nv b)))))) ∧ Ev w [] w' [] := by
 refine d_0 [(0, .agg (zg (zh a))), (1, .agg (zg (zh b)))] 8 Tryz.func69 Tryz.ntmps69 (Heap.nil _) fun Ek El Em => wp_seq <| zk <| f_o <| m_m 33 (zh a) El Em fun _ _ Eq En Eo => f_o <| m_m 33 (zh b) En Eo fun _ _ Er Ep Ec => f_o <| m_z 33 (zh (zf 4 0)) Ep Ec fun _ _ Ed Ee Ea => f_e <| ze <| wp_seq <| zk <| f_o <| Zn 0 4 (zh a) Ee Ea rfl (zd ha) fun _ Ef => f_o <| Zn 1 4 (zh b) Ef Ea rfl (zd hb) fun _ Eg => ?_
 refine f_o <| c_p Eg Ea (add_go _ 1 h1f a b ha hb) fun _ _ Eh Ei => f_o <| zZ 2 4 (zh (nd (Zs 1 (nv a) (nv b)))) _ Eh Ei rfl (zd (zl _ _)) (zd (zi)) (zw _) rfl fun _ _ Ej Eb => f_e <| ze <| wp_ret <| Zf (v := .agg (zg (zh (nd (Zs 1 (nv a) (nv b)))))) (t := 4) (T := 33) (ad := ⟨Ed, 0, none⟩) Ej (by kernel_rfl) (by kernel_rfl) (zF (t := 33) (k := 2) (off := 0) (m := 4) (xs := zh (nd (Zs 1 (nv a) (nv b)))) Eb rfl (zr (zd (zl _ _))) (zd (zl _ _)) (by kernel_rfl) (by kernel_rfl)) ?_
 exact ⟨rfl, Eb.pk []⟩
theorem edif_go (w : World) (a b : List UInt64) (ha : zc a = 4) (hb : zc b = 4) : Calls zB 68 #[.agg (zg (zh a)), .agg (zg (zh b))] w fun e w' => e = .returned (.agg (zg (zh (nd (z8 1 (nv a) (nv b)))))) ∧ Ev w [] w' [] := by
 refine d_0 [(0, .agg (zg (zh a))), (1, .agg (zg (zh b)))] 8 Tryz.func68 Tryz.ntmps68 (Heap.nil _) fun Ek El Em => wp_seq <| zk <| f_o <| m_m 33 (zh a) El Em fun _ _ Eq En Eo => f_o <| m_m 33 (zh b) En Eo fun _ _ Er Ep Ec => f_o <| m_z 33 (zh (zf 4 0)) Ep Ec fun _ _ Ed Ee Ea => f_e <| ze <| wp_seq <| zk <| f_o <| Zn 0 4 (zh a) Ee Ea rfl (zd ha) fun _ Ef => f_o <| Zn 1 4 (zh b) Ef Ea rfl (zd hb) fun _ Eg => ?_
 refine f_o <| c_p Eg Ea (sub_go _ 1 h1f a b ha hb) fun _ _ Eh Ei => f_o <| zZ 2 4 (zh (nd (z8 1 (nv a) (nv b)))) _ Eh Ei rfl (zd (zl _ _)) (zd (zi)) (zw _) rfl fun _ _ Ej Eb => f_e <| ze <| wp_ret <| Zf (v := .agg (zg (zh (nd (z8 1 (nv a) (nv b)))))) (t := 4) (T := 33) (ad := ⟨Ed, 0, none⟩) Ej (by kernel_rfl) (by kernel_rfl) (zF (t := 33) (k := 2) (off := 0) (m := 4) (xs := zh (nd (z8 1 (nv a) (nv b)))) Eb rfl (zr (zd (zl _ _))) (zd (zl _ _)) (by kernel_rfl) (by kernel_rfl)) ?_
 exact ⟨rfl, Eb.pk []⟩
theorem dmul_go (w : World) (a b : List UInt64) (ha : zc a = 4) (hb : zc b = 4) : Calls zB 44 #[.agg (zg (zh a)), .agg (zg (zh b))] w fun e w' => e = .returned (.agg (zg (zh (nd (zq 1 (nv a) (nv b)))))) ∧ Ev w [] w' [] := by
 refine d_0 [(0, .agg (zg (zh a))), (1, .agg (zg (zh b)))] 8 Tryz.func44 Tryz.ntmps44 (Heap.nil _) fun Ek El Em => wp_seq <| zk <| f_o <| m_m 33 (zh a) El Em fun _ _ Eq En Eo => f_o <| m_m 33 (zh b) En Eo fun _ _ Er Ep Ec => f_o <| m_z 33 (zh (zf 4 0)) Ep Ec fun _ _ Ed Ee Ea => f_e <| ze <| wp_seq <| zk <| f_o <| Zn 0 4 (zh a) Ee Ea rfl (zd ha) fun _ Ef => f_o <| Zn 1 4 (zh b) Ef Ea rfl (zd hb) fun _ Eg => ?_
 refine f_o <| c_p Eg Ea (hR1 _ a b ha hb) fun _ _ Eh Ei => f_o <| zZ 2 4 (zh (nd (zq 1 (nv a) (nv b)))) _ Eh Ei rfl (zd (zl _ _)) (zd (zi)) (zw _) rfl fun _ _ Ej Eb => f_e <| ze <| wp_ret <| Zf (v := .agg (zg (zh (nd (zq 1 (nv a) (nv b)))))) (t := 4) (T := 33) (ad := ⟨Ed, 0, none⟩) Ej (by kernel_rfl) (by kernel_rfl) (zF (t := 33) (k := 2) (off := 0) (m := 4) (xs := zh (nd (zq 1 (nv a) (nv b)))) Eb rfl (zr (zd (zl _ _))) (zd (zl _ _)) (by kernel_rfl) (by kernel_rfl)) ?_
 exact ⟨rfl, Eb.pk []⟩
theorem dadd_go (w : World) (a b : List UInt64) (ha : zc a = 4) (hb : zc b = 4) : Calls zB 71 #[.agg (zg (zh a)), .agg (zg (zh b))] w fun e w' => e = .returned (.agg (zg (zh (nd (Zs 1 (nv a) (nv b)))))) ∧ Ev w [] w' [] := by
 refine d_0 [(0, .agg (zg (zh a))), (1, .agg (zg (zh b)))] 8 Tryz.func71 Tryz.ntmps71 (Heap.nil _) fun Ek El Em => wp_seq <| zk <| f_o <| m_m 33 (zh a) El Em fun _ _ Eq En Eo => f_o <| m_m 33 (zh b) En Eo fun _ _ Er Ep Ec => f_o <| m_z 33 (zh (zf 4 0)) Ep Ec fun _ _ Ed Ee Ea => f_e <| ze <| wp_seq <| zk <| f_o <| Zn 0 4 (zh a) Ee Ea rfl (zd ha) fun _ Ef => f_o <| Zn 1 4 (zh b) Ef Ea rfl (zd hb) fun _ Eg => ?_
 refine f_o <| c_p Eg Ea (radd_go _ 1 h1f hL1 a b ha hb) fun _ _ Eh Ei => f_o <| zZ 2 4 (zh (nd (Zs 1 (nv a) (nv b)))) _ Eh Ei rfl (zd (zl _ _)) (zd (zi)) (zw _) rfl fun _ _ Ej Eb => f_e <| ze <| wp_ret <| Zf (v := .agg (zg (zh (nd (Zs 1 (nv a) (nv b)))))) (t := 4) (T := 33) (ad := ⟨Ed, 0, none⟩) Ej (by kernel_rfl) (by kernel_rfl) (zF (t := 33) (k := 2) (off := 0) (m := 4) (xs := zh (nd (Zs 1 (nv a) (nv b)))) Eb rfl (zr (zd (zl _ _))) (zd (zl _ _)) (by kernel_rfl) (by kernel_rfl)) ?_
 exact ⟨rfl, Eb.pk []⟩
theorem dsub_go (w : World) (a b : List UInt64) (ha : zc a = 4) (hb : zc b = 4) : Calls zB 45 #[.agg (zg (zh a)), .agg (zg (zh b))] w fun e w' => e = .returned (.agg (zg (zh (nd (z8 1 (nv a) (nv b)))))) ∧ Ev w [] w' [] := by
 refine d_0 [(0, .agg (zg (zh a))), (1, .agg (zg (zh b)))] 8 Tryz.func45 Tryz.ntmps45 (Heap.nil _) fun Ek El Em => wp_seq <| zk <| f_o <| m_m 33 (zh a) El Em fun _ _ Eq En Eo => f_o <| m_m 33 (zh b) En Eo fun _ _ Er Ep Ec => f_o <| m_z 33 (zh (zf 4 0)) Ep Ec fun _ _ Ed Ee Ea => f_e <| ze <| wp_seq <| zk <| f_o <| Zn 0 4 (zh a) Ee Ea rfl (zd ha) fun _ Ef => f_o <| Zn 1 4 (zh b) Ef Ea rfl (zd hb) fun _ Eg => ?_
 refine f_o <| c_p Eg Ea (rsub_go _ 1 h1f hL1 a b ha hb) fun _ _ Eh Ei => f_o <| zZ 2 4 (zh (nd (z8 1 (nv a) (nv b)))) _ Eh Ei rfl (zd (zl _ _)) (zd (zi)) (zw _) rfl fun _ _ Ej Eb => f_e <| ze <| wp_ret <| Zf (v := .agg (zg (zh (nd (z8 1 (nv a) (nv b)))))) (t := 4) (T := 33) (ad := ⟨Ed, 0, none⟩) Ej (by kernel_rfl) (by kernel_rfl) (zF (t := 33) (k := 2) (off := 0) (m := 4) (xs := zh (nd (z8 1 (nv a) (nv b)))) Eb rfl (zr (zd (zl _ _))) (zd (zl _ _)) (by kernel_rfl) (by kernel_rfl)) ?_
 exact ⟨rfl, Eb.pk []⟩
theorem twiceD_go (w : World) : Calls zB 66 #[] w fun e w' => e = .returned (.agg (zg (zh (nd D2N)))) ∧ Ev w [] w' [] := by
 refine d_0 [] 2 Tryz.func66 Tryz.ntmps66 (Heap.nil _) fun Ec Ed Ee => wp_seq <| zk <| f_o <| m_z 33 (zh (zf 4 0)) Ed Ee fun _ _ Ef Eg Eh => f_e <| ze <| wp_seq <| zk <| d_k [0,1] [] 1 Eg fun _ Ei => f_o <| zZ 0 4 (zh ([16993941304535871833, 63073048630374742, 1841551078520508720, 2596001775599221991] : List UInt64)) _ Ei Eh rfl (zd (show zc ([16993941304535871833, 63073048630374742, 1841551078520508720, 2596001775599221991] : List UInt64) = 4 from rfl)) (zd (zi)) (zw _) rfl fun _ _ Eb Ea => f_e <| ze <| wp_ret <| Zf (v := .agg (zg (zh ([16993941304535871833, 63073048630374742, 1841551078520508720, 2596001775599221991] : List UInt64)))) (t := 0) (T := 33) (ad := ⟨Ef, 0, none⟩) Eb (by kernel_rfl) (by kernel_rfl) (zF (t := 33) (k := 0) (off := 0) (m := 4) (xs := zh ([16993941304535871833, 63073048630374742, 1841551078520508720, 2596001775599221991] : List UInt64)) Ea rfl (zr (zd (show zc ([16993941304535871833, 63073048630374742, 1841551078520508720, 2596001775599221991] : List UInt64) = 4 from rfl))) (zd (show zc ([16993941304535871833, 63073048630374742, 1841551078520508720, 2596001775599221991] : List UInt64) = 4 from rfl)) (by kernel_rfl) (by kernel_rfl)) ?_
 exact ⟨by kernel_rfl, Ea.pk []⟩
theorem nothing_go (w : World) : Calls zB 41 #[] w fun e w' => e = .returned (.agg (zg (zh XH))) ∧ Ev w [] w' [] := by
 refine d_0 [] 4 Tryz.func41 Tryz.ntmps41 (Heap.nil _) fun Ec Ed Ee => wp_seq <| zk <| f_o <| m_z 37 ((zh (zf 4 0)) ++ ((zh (zf 4 0)) ++ ((zh (zf 4 0)) ++ (zh (zf 4 0))))) Ed Ee fun _ _ Ef Eg Eh => f_e <| ze <| wp_seq <| zk <| d_k [0,3] [] 3 Eg fun _ Ei => f_o <| zZ 0 16 ((zh (zf 4 0)) ++ ((zh ([1, 0, 0, 0] : List UInt64)) ++ ((zh ([1, 0, 0, 0] : List UInt64)) ++ (zh (zf 4 0))))) _ Ei Eh rfl (zG (zd (zi)) (zG (zd (show zc ([1, 0, 0, 0] : List UInt64) = 4 from rfl)) (zG (zd (show zc ([1, 0, 0, 0] : List UInt64) = 4 from rfl)) (zd (zi))))) (zG (zd (zi)) (zG (zd (zi)) (zG (zd (zi)) (zd (zi))))) (QS (zw _) (QS (zw _) (QS (zw _) (zw _)))) rfl fun _ _ Eb Ea => f_e <| ze <| wp_ret <| Zf (v := .agg (zg ((zh (zf 4 0)) ++ ((zh ([1, 0, 0, 0] : List UInt64)) ++ ((zh ([1, 0, 0, 0] : List UInt64)) ++ (zh (zf 4 0))))))) (t := 0) (T := 37) (ad := ⟨Ef, 0, none⟩) Eb (by kernel_rfl) (by kernel_rfl) (zF (t := 37) (k := 0) (off := 0) (m := 16) (xs := (zh (zf 4 0)) ++ ((zh ([1, 0, 0, 0] : List UInt64)) ++ ((zh ([1, 0, 0, 0] : List UInt64)) ++ (zh (zf 4 0))))) Ea rfl (zr (zG (zd (zi)) (zG (zd (show zc ([1, 0, 0, 0] : List UInt64) = 4 from rfl)) (zG (zd (show zc ([1, 0, 0, 0] : List UInt64) = 4 from rfl)) (zd (zi)))))) (zG (zd (zi)) (zG (zd (show zc ([1, 0, 0, 0] : List UInt64) = 4 from rfl)) (zG (zd (show zc ([1, 0, 0, 0] : List UInt64) = 4 from rfl)) (zd (zi))))) (by kernel_rfl) (by kernel_rfl)) ?_
 exact ⟨by first | rfl | kernel_rfl, Ea.pk []⟩
theorem with_go (w : World) (x1 y1 z1 t1 x2 y2 z2 t2 : List UInt64) (hx1 : zc x1 = 4) (hy1 : zc y1 = 4) (Eq : zc z1 = 4) (ht1 : zc t1 = 4) (hx2 : zc x2 = 4) (hy2 : zc y2 = 4) (Er : zc z2 = 4) (ht2 : zc t2 = 4) : Calls zB 33 #[.agg (zg ((zh x1) ++ ((zh y1) ++ ((zh z1) ++ (zh t1))))), .agg (zg ((zh x2) ++ ((zh y2) ++ ((zh z2) ++ (zh t2)))))] w fun e w' => e = .returned (.agg (zg ((zh (nd (zq 1 (oE (nv x1) (nv y1) (nv x2) (nv y2)) (oF (nv z1) (nv t1) (nv z2) (nv t2))))) ++ ((zh (nd (zq 1 (oG (nv z1) (nv t1) (nv z2) (nv t2)) (oH (nv x1) (nv y1) (nv x2) (nv y2))))) ++ ((zh (nd (zq 1 (oF (nv z1) (nv t1) (nv z2) (nv t2)) (oG (nv z1) (nv t1) (nv z2) (nv t2))))) ++ (zh (nd (zq 1 (oE (nv x1) (nv y1) (nv x2) (nv y2)) (oH (nv x1) (nv y1) (nv x2) (nv y2)))))))))) ∧ Ev w [] w' [] := by
 refine d_0 [(0, .agg (zg ((zh x1) ++ ((zh y1) ++ ((zh z1) ++ (zh t1)))))), (1, .agg (zg ((zh x2) ++ ((zh y2) ++ ((zh z2) ++ (zh t2))))))] 75 Tryz.func33 Tryz.ntmps33 (Heap.nil _) fun Hp Hq Hr => wp_seq <| zk <| f_o <| m_m 37 ((zh x1) ++ ((zh y1) ++ ((zh z1) ++ (zh t1)))) Hq Hr fun _ _ Ej Hs Ht => f_o <| m_m 37 ((zh x2) ++ ((zh y2) ++ ((zh z2) ++ (zh t2)))) Hs Ht fun _ _ Ek Hu Hi => f_o <| m_z 37 ((zh (zf 4 0)) ++ ((zh (zf 4 0)) ++ ((zh (zf 4 0)) ++ (zh (zf 4 0))))) Hu Hi fun _ _ Eb Hj Eu => ?_
 refine f_e <| ze <| wp_seq <| r_c (fun ac wo => ∃ (Ec : Nat), Env ac 75 [(2, pt Ej), (3, pt Ek), (4, pt Eb), (5, pt Ec)] ∧ Ev w [] wo [.box Ej ((zh x1) ++ ((zh y1) ++ ((zh z1) ++ (zh t1)))) 37, .box Ek ((zh x2) ++ ((zh y2) ++ ((zh z2) ++ (zh t2)))) 37, .box Eb ((zh (zf 4 0)) ++ ((zh (zf 4 0)) ++ ((zh (zf 4 0)) ++ (zh (zf 4 0))))) 37, .box Ec (zh (nd (zq 1 (nv (nd (z8 1 (nv y1) (nv x1)))) (nv (nd (z8 1 (nv y2) (nv x2))))))) 33]) ?_ ?_
 ·
  refine s_g1 [(2, pt Ej), (3, pt Ek), (4, pt Eb)] [0,1,2,3,4,5,6,7,8,9,10] [(13, .pointer (some ⟨Ej, 4, none⟩)), (14, .agg (zg (zh y1))), (15, pt Ej), (16, .agg (zg (zh x1))), (17, .agg (zg (zh (nd (z8 1 (nv y1) (nv x1)))))), (18, .pointer (some ⟨Ek, 4, none⟩)), (19, .agg (zg (zh y2))), (20, pt Ek), (21, .agg (zg (zh x2))), (22, .agg (zg (zh (nd (z8 1 (nv y2) (nv x2)))))), (23, .agg (zg (zh (nd (zq 1 (nv (nd (z8 1 (nv y1) (nv x1)))) (nv (nd (z8 1 (nv y2) (nv x2)))))))))] 1 [(2, pt Ej), (3, pt Ek), (4, pt Eb), (23, .agg (zg (zh (nd (zq 1 (nv (nd (z8 1 (nv y1) (nv x1)))) (nv (nd (z8 1 (nv y2) (nv x2)))))))))] 11 (zh (zf 4 0)) (Hj.sb) (Eu.trans (zS Eu.heap)) ?_ fun _ _ Ec Hk Hl => ?_
  ·
   refine s_p [] <| s_a 0 4 4 (zh y1) rfl (by simp [zd hx1, zd hy1, zd Eq, zd ht1, zu, zv]) (zd hy1) <| s_p [] <| s_a 0 0 4 (zh x1) rfl (by simp [zd hx1, zd hy1, zd Eq, zd ht1, zu, zv]) (zd hx1) <| s_f (fun _ => edif_go _ y1 x1 hy1 hx1) ?_
   refine s_p [] <| s_a 1 4 4 (zh y2) rfl (by simp [zd hx2, zd hy2, zd Er, zd ht2, zu, zv]) (zd hy2) <| s_p [] <| s_a 1 0 4 (zh x2) rfl (by simp [zd hx2, zd hy2, zd Er, zd ht2, zu, zv]) (zd hx2) <| s_f (fun _ => edif_go _ y2 x2 hy2 hx2) ?_
   refine s_f (fun _ => emul_go _ (nd (z8 1 (nv y1) (nv x1))) (nd (z8 1 (nv y2) (nv x2))) (zl _ _) (zl _ _)) ?_
   exact s_n
  refine q_u 12 ?_
  refine zZ 3 4 (zh (nd (zq 1 (nv (nd (z8 1 (nv y1) (nv x1)))) (nv (nd (z8 1 (nv y2) (nv x2))))))) _ Hk Hl rfl (zd (zl _ _)) (zd (zi)) (zw _) rfl fun _ _ Hm Hn => ?_
  exact a_e ⟨Ec, Hm.sb, Hn.pk [0, 1, 2, 3]⟩
 rintro _ _ ⟨Ec, Ho, Et⟩
 obtain ⟨qa, h_qa⟩ : ∃ q : List UInt64, q = nd (zq 1 (nv (nd (z8 1 (nv y1) (nv x1)))) (nv (nd (z8 1 (nv y2) (nv x2))))) := ⟨_, rfl⟩
 rw [← h_qa] at Et
 have n_qa : zc qa = 4 := by rw [h_qa]; exact zl _ _
 refine ze <| wp_seq <| r_c (fun ac wo => ∃ (Ea : Nat), Env ac 75 [(2, pt Ej), (3, pt Ek), (4, pt Eb), (5, pt Ec), (6, pt Ea)] ∧ Ev w [] wo [.box Ej ((zh x1) ++ ((zh y1) ++ ((zh z1) ++ (zh t1)))) 37, .box Ek ((zh x2) ++ ((zh y2) ++ ((zh z2) ++ (zh t2)))) 37, .box Eb ((zh (zf 4 0)) ++ ((zh (zf 4 0)) ++ ((zh (zf 4 0)) ++ (zh (zf 4 0))))) 37, .box Ec (zh qa) 33, .box Ea (zh (nd (zq 1 (nv (nd (Zs 1 (nv y1) (nv x1)))) (nv (nd (Zs 1 (nv y2) (nv x2))))))) 33]) ?_ ?_
 ·
  refine s_g1 [(2, pt Ej), (3, pt Ek), (4, pt Eb), (5, pt Ec)] [0,1,2,3,4,5,6,7,8,9,10] [(24, .pointer (some ⟨Ej, 4, none⟩)), (25, .agg (zg (zh y1))), (26, pt Ej), (27, .agg (zg (zh x1))), (28, .agg (zg (zh (nd (Zs 1 (nv y1) (nv x1)))))), (29, .pointer (some ⟨Ek, 4, none⟩)), (30, .agg (zg (zh y2))), (31, pt Ek), (32, .agg (zg (zh x2))), (33, .agg (zg (zh (nd (Zs 1 (nv y2) (nv x2)))))), (34, .agg (zg (zh (nd (zq 1 (nv (nd (Zs 1 (nv y1) (nv x1)))) (nv (nd (Zs 1 (nv y2) (nv x2)))))))))] 1 [(2, pt Ej), (3, pt Ek), (4, pt Eb), (5, pt Ec), (34, .agg (zg (zh (nd (zq 1 (nv (nd (Zs 1 (nv y1) (nv x1)))) (nv (nd (Zs 1 (nv y2) (nv x2)))))))))] 11 (zh (zf 4 0)) (Ho.sb) (Et.trans (zS Et.heap)) ?_ fun _ _ Ea Ew Ex => ?_
  ·
   refine s_p [] <| s_a 0 4 4 (zh y1) rfl (by simp [zd hx1, zd hy1, zd Eq, zd ht1, zu, zv]) (zd hy1) <| s_p [] <| s_a 0 0 4 (zh x1) rfl (by simp [zd hx1, zd hy1, zd Eq, zd ht1, zu, zv]) (zd hx1) <| s_f (fun _ => esum_go _ y1 x1 hy1 hx1) ?_
   refine s_p [] <| s_a 1 4 4 (zh y2) rfl (by simp [zd hx2, zd hy2, zd Er, zd ht2, zu, zv]) (zd hy2) <| s_p [] <| s_a 1 0 4 (zh x2) rfl (by simp [zd hx2, zd hy2, zd Er, zd ht2, zu, zv]) (zd hx2) <| s_f (fun _ => esum_go _ y2 x2 hy2 hx2) ?_
   refine s_f (fun _ => emul_go _ (nd (Zs 1 (nv y1) (nv x1))) (nd (Zs 1 (nv y2) (nv x2))) (zl _ _) (zl _ _)) ?_
   exact s_n
  refine q_u 12 ?_
  refine zZ 4 4 (zh (nd (zq 1 (nv (nd (Zs 1 (nv y1) (nv x1)))) (nv (nd (Zs 1 (nv y2) (nv x2))))))) [.box Ej ((zh x1) ++ ((zh y1) ++ ((zh z1) ++ (zh t1)))) 37, .box Ek ((zh x2) ++ ((zh y2) ++ ((zh z2) ++ (zh t2)))) 37, .box Eb ((zh (zf 4 0)) ++ ((zh (zf 4 0)) ++ ((zh (zf 4 0)) ++ (zh (zf 4 0))))) 37, .box Ec (zh qa) 33, .box Ea (zh (nd (zq 1 (nv (nd (Zs 1 (nv y1) (nv x1)))) (nv (nd (Zs 1 (nv y2) (nv x2))))))) 33] Ew Ex rfl (zd (zl _ _)) (zd (zi)) (zw _) rfl fun _ _ Ey Ez => ?_
  exact a_e ⟨Ea, Ey.sb, Ez.pk [0, 1, 2, 3, 4]⟩
 rintro _ _ ⟨Ea, EA, Em⟩
 obtain ⟨qb, h_qb⟩ : ∃ q : List UInt64, q = nd (zq 1 (nv (nd (Zs 1 (nv y1) (nv x1)))) (nv (nd (Zs 1 (nv y2) (nv x2))))) := ⟨_, rfl⟩
 rw [← h_qb] at Em
 have n_qb : zc qb = 4 := by rw [h_qb]; exact zl _ _
 refine ze <| wp_seq <| zk <| d_k [2,3,4,5,6,35] [] 1 EA fun _ EB => f_o <| m_a 0 12 4 (zh t1) EB Em rfl (by simp [zd hx1, zd hy1, zd Eq, zd ht1, zu, zv, zJ, XI]) (zd ht1) fun _ EC => d_k [2,3,4,5,6,36,37] [] 3 EC fun _ ED => f_o <| m_a 1 12 4 (zh t2) ED Em rfl (by simp [zd hx2, zd hy2, zd Er, zd ht2, zu, zv, zJ, XI]) (zd ht2) fun _ EE => f_o <| c_p EE Em (emul_go _ t1 t2 ht1 ht2) fun _ _ EF EG => f_o <| c_p EF EG (twiceD_go _) fun _ _ EH EI => ?_
 refine f_o <| c_p EH EI (emul_go _ (nd (zq 1 (nv t1) (nv t2))) (nd D2N) (zl _ _) (zl _ _)) fun _ _ EJ EK => f_o <| m_z 33 (zh (zf 4 0)) EJ EK fun _ _ Ed EL EM => f_o <| zZ 5 4 (zh (nd (zq 1 (nv (nd (zq 1 (nv t1) (nv t2)))) (nv (nd D2N))))) _ EL EM rfl (zd (zl _ _)) (zd (zi)) (zw _) rfl fun _ _ EN En => f_e ?_
 obtain ⟨qc, h_qc⟩ : ∃ q : List UInt64, q = nd (zq 1 (nv (nd (zq 1 (nv t1) (nv t2)))) (nv (nd D2N))) := ⟨_, rfl⟩
 rw [← h_qc] at En
 have n_qc : zc qc = 4 := by rw [h_qc]; exact zl _ _
 refine ze <| wp_seq <| zk <| d_k [2,3,4,5,6,7,42] [] 1 EN fun _ EO => f_o <| m_a 0 8 4 (zh z1) EO En rfl (by simp [zd hx1, zd hy1, zd Eq, zd ht1, zu, zv]) (zd Eq) fun _ EP => d_k [2,3,4,5,6,7,43,44] [] 3 EP fun _ EQ => f_o <| m_a 1 8 4 (zh z2) EQ En rfl (by simp [zd hx2, zd hy2, zd Er, zd ht2, zu, zv]) (zd Er) fun _ ER => f_o <| c_p ER En (emul_go _ z1 z2 Eq Er) fun _ _ ES ET => f_o <| m_z 33 (zh (zf 4 0)) ES ET fun _ _ Ee EU EV => ?_
 refine f_o <| zZ 6 4 (zh (nd (zq 1 (nv z1) (nv z2)))) [.box Ej ((zh x1) ++ ((zh y1) ++ ((zh z1) ++ (zh t1)))) 37, .box Ek ((zh x2) ++ ((zh y2) ++ ((zh z2) ++ (zh t2)))) 37, .box Eb ((zh (zf 4 0)) ++ ((zh (zf 4 0)) ++ ((zh (zf 4 0)) ++ (zh (zf 4 0))))) 37, .box Ec (zh qa) 33, .box Ea (zh qb) 33, .box Ed (zh qc) 33, .box Ee (zh (nd (zq 1 (nv z1) (nv z2)))) 33] EU EV rfl (zd (zl _ _)) (zd (zi)) (zw _) rfl fun _ _ EW Eo => f_e <| ze <| wp_seq <| zk <| f_o <| Zn 6 4 (zh (nd (zq 1 (nv z1) (nv z2)))) EW Eo rfl (zd (zl _ _)) fun _ EX => f_o <| Zn 6 4 (zh (nd (zq 1 (nv z1) (nv z2)))) EX Eo rfl (zd (zl _ _)) fun _ EY => f_o <| c_p EY Eo (esum_go _ (nd (zq 1 (nv z1) (nv z2))) (nd (zq 1 (nv z1) (nv z2))) (zl _ _) (zl _ _)) fun _ _ EZ E0 => f_o <| zZ 6 4 (zh (nd (Zs 1 (nv (nd (zq 1 (nv z1) (nv z2)))) (nv (nd (zq 1 (nv z1) (nv z2))))))) _ EZ E0 rfl (zd (zl _ _)) (zd (zl _ _)) (zw _) rfl fun _ _ E1 Ep => f_e ?_
 obtain ⟨qd, h_qd⟩ : ∃ q : List UInt64, q = nd (Zs 1 (nv (nd (zq 1 (nv z1) (nv z2)))) (nv (nd (zq 1 (nv z1) (nv z2))))) := ⟨_, rfl⟩
 rw [← h_qd] at Ep
 have n_qd : zc qd = 4 := by rw [h_qd]; exact zl _ _
 refine ze <| wp_seq <| r_c (fun ac wo => ∃ (Ef : Nat) (Eg : Nat) (Eh : Nat) (Ei : Nat), Env ac 75 [(2, pt Ej), (3, pt Ek), (4, pt Eb), (5, pt Ec), (6, pt Ea), (7, pt Ed), (8, pt Ee), (9, pt Ef), (10, pt Eg), (11, pt Eh), (12, pt Ei)] ∧ Ev w [] wo [.box Ej ((zh x1) ++ ((zh y1) ++ ((zh z1) ++ (zh t1)))) 37, .box Ek ((zh x2) ++ ((zh y2) ++ ((zh z2) ++ (zh t2)))) 37, .box Eb ((zh (zf 4 0)) ++ ((zh (zf 4 0)) ++ ((zh (zf 4 0)) ++ (zh (zf 4 0))))) 37, .box Ec (zh qa) 33, .box Ea (zh qb) 33, .box Ed (zh qc) 33, .box Ee (zh qd) 33, .box Ef (zh (nd (z8 1 (nv qb) (nv qa)))) 33, .box Eg (zh (nd (z8 1 (nv qd) (nv qc)))) 33, .box Eh (zh (nd (Zs 1 (nv qd) (nv qc)))) 33, .box Ei (zh (nd (Zs 1 (nv qb) (nv qa)))) 33]) ?_ ?_
 ·
  refine s_g4 [(2, pt Ej), (3, pt Ek), (4, pt Eb), (5, pt Ec), (6, pt Ea), (7, pt Ed), (8, pt Ee)] [0,1,2,3,4,5,6,7,8,9,10,11] [(50, .agg (zg (zh qb))), (51, .agg (zg (zh qa))), (52, .agg (zg (zh (nd (z8 1 (nv qb) (nv qa)))))), (53, .agg (zg (zh qd))), (54, .agg (zg (zh qc))), (55, .agg (zg (zh (nd (z8 1 (nv qd) (nv qc)))))), (56, .agg (zg (zh qd))), (57, .agg (zg (zh qc))), (58, .agg (zg (zh (nd (Zs 1 (nv qd) (nv qc)))))), (59, .agg (zg (zh qb))), (60, .agg (zg (zh qa))), (61, .agg (zg (zh (nd (Zs 1 (nv qb) (nv qa))))))] 4 [(2, pt Ej), (3, pt Ek), (4, pt Eb), (5, pt Ec), (6, pt Ea), (7, pt Ed), (8, pt Ee), (52, .agg (zg (zh (nd (z8 1 (nv qb) (nv qa)))))), (55, .agg (zg (zh (nd (z8 1 (nv qd) (nv qc)))))), (58, .agg (zg (zh (nd (Zs 1 (nv qd) (nv qc)))))), (61, .agg (zg (zh (nd (Zs 1 (nv qb) (nv qa))))))] 12 13 14 15 (zh (zf 4 0)) (zh (zf 4 0)) (zh (zf 4 0)) (zh (zf 4 0)) (E1.sb) (Ep.trans (zS Ep.heap)) ?_ fun _ _ Ef Eg Eh Ei E2 E3 => ?_
  ·
   refine s_a 4 0 4 (zh qb) rfl (zr (zd n_qb)) (zd n_qb) <| s_a 3 0 4 (zh qa) rfl (zr (zd n_qa)) (zd n_qa) <| s_f (fun _ => edif_go _ qb qa n_qb n_qa) ?_
   refine s_a 6 0 4 (zh qd) rfl (zr (zd n_qd)) (zd n_qd) <| s_a 5 0 4 (zh qc) rfl (zr (zd n_qc)) (zd n_qc) <| s_f (fun _ => edif_go _ qd qc n_qd n_qc) ?_
   refine s_a 6 0 4 (zh qd) rfl (zr (zd n_qd)) (zd n_qd) <| s_a 5 0 4 (zh qc) rfl (zr (zd n_qc)) (zd n_qc) <| s_f (fun _ => esum_go _ qd qc n_qd n_qc) ?_
   refine s_a 4 0 4 (zh qb) rfl (zr (zd n_qb)) (zd n_qb) <| s_a 3 0 4 (zh qa) rfl (zr (zd n_qa)) (zd n_qa) <| s_f (fun _ => esum_go _ qb qa n_qb n_qa) ?_
   exact s_n
  refine q_u 16 ?_
  refine zZ 7 4 (zh (nd (z8 1 (nv qb) (nv qa)))) [.box Ej ((zh x1) ++ ((zh y1) ++ ((zh z1) ++ (zh t1)))) 37, .box Ek ((zh x2) ++ ((zh y2) ++ ((zh z2) ++ (zh t2)))) 37, .box Eb ((zh (zf 4 0)) ++ ((zh (zf 4 0)) ++ ((zh (zf 4 0)) ++ (zh (zf 4 0))))) 37, .box Ec (zh qa) 33, .box Ea (zh qb) 33, .box Ed (zh qc) 33, .box Ee (zh qd) 33, .box Ef (zh (nd (z8 1 (nv qb) (nv qa)))) 33, .box Eg (zh (zf 4 0)) 33, .box Eh (zh (zf 4 0)) 33, .box Ei (zh (zf 4 0)) 33] E2 E3 rfl (zd (zl _ _)) (zd (zi)) (zw _) rfl fun _ _ E4 E5 => q_u 17 ?_
  refine zZ 8 4 (zh (nd (z8 1 (nv qd) (nv qc)))) _ E4 E5 rfl (zd (zl _ _)) (zd (zi)) (zw _) rfl fun _ _ E6 E7 => q_u 18 ?_
  refine zZ 9 4 (zh (nd (Zs 1 (nv qd) (nv qc)))) [.box Ej ((zh x1) ++ ((zh y1) ++ ((zh z1) ++ (zh t1)))) 37, .box Ek ((zh x2) ++ ((zh y2) ++ ((zh z2) ++ (zh t2)))) 37, .box Eb ((zh (zf 4 0)) ++ ((zh (zf 4 0)) ++ ((zh (zf 4 0)) ++ (zh (zf 4 0))))) 37, .box Ec (zh qa) 33, .box Ea (zh qb) 33, .box Ed (zh qc) 33, .box Ee (zh qd) 33, .box Ef (zh (nd (z8 1 (nv qb) (nv qa)))) 33, .box Eg (zh (nd (z8 1 (nv qd) (nv qc)))) 33, .box Eh (zh (nd (Zs 1 (nv qd) (nv qc)))) 33, .box Ei (zh (zf 4 0)) 33] E6 E7 rfl (zd (zl _ _)) (zd (zi)) (zw _) rfl fun _ _ E8 E9 => q_u 19 ?_
  refine zZ 10 4 (zh (nd (Zs 1 (nv qb) (nv qa)))) _ E8 E9 rfl (zd (zl _ _)) (zd (zi)) (zw _) rfl fun _ _ Ha Hb => ?_
  exact a_e ⟨Ef, Eg, Eh, Ei, Ha.sb, Hb.pk [0, 1, 2, 3, 4, 5, 6, 7, 8, 9, 10]⟩
 rintro _ _ ⟨Ef, Eg, Eh, Ei, Hc, El⟩
 obtain ⟨qe, h_qe⟩ : ∃ q : List UInt64, q = nd (z8 1 (nv qb) (nv qa)) := ⟨_, rfl⟩
 rw [← h_qe] at El
 have n_qe : zc qe = 4 := by rw [h_qe]; exact zl _ _
 obtain ⟨qf, h_qf⟩ : ∃ q : List UInt64, q = nd (z8 1 (nv qd) (nv qc)) := ⟨_, rfl⟩
 rw [← h_qf] at El
 have n_qf : zc qf = 4 := by rw [h_qf]; exact zl _ _
 obtain ⟨qg, h_qg⟩ : ∃ q : List UInt64, q = nd (Zs 1 (nv qd) (nv qc)) := ⟨_, rfl⟩
 rw [← h_qg] at El
 have n_qg : zc qg = 4 := by rw [h_qg]; exact zl _ _
 obtain ⟨qh, h_qh⟩ : ∃ q : List UInt64, q = nd (Zs 1 (nv qb) (nv qa)) := ⟨_, rfl⟩
 rw [← h_qh] at El
 have n_qh : zc qh = 4 := by rw [h_qh]; exact zl _ _
 refine ze <| wp_seq <| r_c (fun ac wo => Env ac 75 [(2, pt Ej), (3, pt Ek), (4, pt Eb), (5, pt Ec), (6, pt Ea), (7, pt Ed), (8, pt Ee), (9, pt Ef), (10, pt Eg), (11, pt Eh), (12, pt Ei)] ∧ Ev w [] wo [.box Ej ((zh x1) ++ ((zh y1) ++ ((zh z1) ++ (zh t1)))) 37, .box Ek ((zh x2) ++ ((zh y2) ++ ((zh z2) ++ (zh t2)))) 37, .box Eb ((zh (nd (zq 1 (nv qe) (nv qf)))) ++ ((zh (nd (zq 1 (nv qg) (nv qh)))) ++ ((zh (nd (zq 1 (nv qf) (nv qg)))) ++ (zh (nd (zq 1 (nv qe) (nv qh))))))) 37, .box Ec (zh qa) 33, .box Ea (zh qb) 33, .box Ed (zh qc) 33, .box Ee (zh qd) 33, .box Ef (zh qe) 33, .box Eg (zh qf) 33, .box Eh (zh qg) 33, .box Ei (zh qh) 33]) ?_ ?_
 ·
  refine s_g0 [(2, pt Ej), (3, pt Ek), (4, pt Eb), (5, pt Ec), (6, pt Ea), (7, pt Ed), (8, pt Ee), (9, pt Ef), (10, pt Eg), (11, pt Eh), (12, pt Ei)] [0,1,2,3,4,5,6,7,8,9,10,11,12] [(62, .agg (zg (zh qe))), (63, .agg (zg (zh qf))), (64, .agg (zg (zh (nd (zq 1 (nv qe) (nv qf)))))), (65, .agg (zg (zh qg))), (66, .agg (zg (zh qh))), (67, .agg (zg (zh (nd (zq 1 (nv qg) (nv qh)))))), (68, .agg (zg (zh qf))), (69, .agg (zg (zh qg))), (70, .agg (zg (zh (nd (zq 1 (nv qf) (nv qg)))))), (71, .agg (zg (zh qe))), (72, .agg (zg (zh qh))), (73, .agg (zg (zh (nd (zq 1 (nv qe) (nv qh)))))), (74, .agg (zg ((zh (nd (zq 1 (nv qe) (nv qf)))) ++ ((zh (nd (zq 1 (nv qg) (nv qh)))) ++ ((zh (nd (zq 1 (nv qf) (nv qg)))) ++ (zh (nd (zq 1 (nv qe) (nv qh)))))))))] 1 [(2, pt Ej), (3, pt Ek), (4, pt Eb), (5, pt Ec), (6, pt Ea), (7, pt Ed), (8, pt Ee), (9, pt Ef), (10, pt Eg), (11, pt Eh), (12, pt Ei), (74, .agg (zg ((zh (nd (zq 1 (nv qe) (nv qf)))) ++ ((zh (nd (zq 1 (nv qg) (nv qh)))) ++ ((zh (nd (zq 1 (nv qf) (nv qg)))) ++ (zh (nd (zq 1 (nv qe) (nv qh)))))))))] (Hc.sb) (El.trans (zS El.heap)) ?_ fun _ _ Hd He => ?_
  ·
   refine s_a 7 0 4 (zh qe) rfl (zr (zd n_qe)) (zd n_qe) <| s_a 8 0 4 (zh qf) rfl (zr (zd n_qf)) (zd n_qf) <| s_f (fun _ => emul_go _ qe qf n_qe n_qf) ?_
   refine s_a 9 0 4 (zh qg) rfl (zr (zd n_qg)) (zd n_qg) <| s_a 10 0 4 (zh qh) rfl (zr (zd n_qh)) (zd n_qh) <| s_f (fun _ => emul_go _ qg qh n_qg n_qh) ?_
   refine s_a 8 0 4 (zh qf) rfl (zr (zd n_qf)) (zd n_qf) <| s_a 9 0 4 (zh qg) rfl (zr (zd n_qg)) (zd n_qg) <| s_f (fun _ => emul_go _ qf qg n_qf n_qg) ?_
   refine s_a 7 0 4 (zh qe) rfl (zr (zd n_qe)) (zd n_qe) <| s_a 10 0 4 (zh qh) rfl (zr (zd n_qh)) (zd n_qh) <| s_f (fun _ => emul_go _ qe qh n_qe n_qh) ?_
   refine s_p [] ?_
   exact s_n
  refine q_u 13 ?_
  refine zZ 2 16 ((zh (nd (zq 1 (nv qe) (nv qf)))) ++ ((zh (nd (zq 1 (nv qg) (nv qh)))) ++ ((zh (nd (zq 1 (nv qf) (nv qg)))) ++ (zh (nd (zq 1 (nv qe) (nv qh))))))) [.box Ej ((zh x1) ++ ((zh y1) ++ ((zh z1) ++ (zh t1)))) 37, .box Ek ((zh x2) ++ ((zh y2) ++ ((zh z2) ++ (zh t2)))) 37, .box Eb ((zh (nd (zq 1 (nv qe) (nv qf)))) ++ ((zh (nd (zq 1 (nv qg) (nv qh)))) ++ ((zh (nd (zq 1 (nv qf) (nv qg)))) ++ (zh (nd (zq 1 (nv qe) (nv qh))))))) 37, .box Ec (zh qa) 33, .box Ea (zh qb) 33, .box Ed (zh qc) 33, .box Ee (zh qd) 33, .box Ef (zh qe) 33, .box Eg (zh qf) 33, .box Eh (zh qg) 33, .box Ei (zh qh) 33] Hd He rfl (zG (zd (zl _ _)) (zG (zd (zl _ _)) (zG (zd (zl _ _)) (zd (zl _ _))))) (zG (zd (zi)) (zG (zd (zi)) (zG (zd (zi)) (zd (zi))))) (QS (zw _) (QS (zw _) (QS (zw _) (zw _)))) rfl fun _ _ Hf Hg => ?_
  exact a_e ⟨Hf.sb, Hg.pk [0, 1, 2, 3, 4, 5, 6, 7, 8, 9, 10]⟩
 rintro _ _ ⟨Hh, Es⟩
 refine ze <| wp_ret <| Zf (v := .agg (zg ((zh (nd (zq 1 (nv qe) (nv qf)))) ++ ((zh (nd (zq 1 (nv qg) (nv qh)))) ++ ((zh (nd (zq 1 (nv qf) (nv qg)))) ++ (zh (nd (zq 1 (nv qe) (nv qh))))))))) (t := 4) (T := 37) (ad := ⟨Eb, 0, none⟩) Hh (by kernel_rfl) (by kernel_rfl) (zF (t := 37) (k := 2) (off := 0) (m := 16) (xs := (zh (nd (zq 1 (nv qe) (nv qf)))) ++ ((zh (nd (zq 1 (nv qg) (nv qh)))) ++ ((zh (nd (zq 1 (nv qf) (nv qg)))) ++ (zh (nd (zq 1 (nv qe) (nv qh))))))) Es rfl (zr (zG (zd (zl _ _)) (zG (zd (zl _ _)) (zG (zd (zl _ _)) (zd (zl _ _)))))) (zG (zd (zl _ _)) (zG (zd (zl _ _)) (zG (zd (zl _ _)) (zd (zl _ _))))) (by kernel_rfl) (by kernel_rfl)) ?_
 have e0 : nd (zq 1 (nv qe) (nv qf)) = nd (zq 1 (oE (nv x1) (nv y1) (nv x2) (nv y2)) (oF (nv z1) (nv t1) (nv z2) (nv t2))) := by
  subst h_qh h_qg h_qf h_qe h_qd h_qc h_qb h_qa
  simp only [nv_m1, nv_a1, nv_s1, nv_d2, oE, oF, oG, oH, oA, oB, oC, oD]
 have e1 : nd (zq 1 (nv qg) (nv qh)) = nd (zq 1 (oG (nv z1) (nv t1) (nv z2) (nv t2)) (oH (nv x1) (nv y1) (nv x2) (nv y2))) := by
  subst h_qh h_qg h_qf h_qe h_qd h_qc h_qb h_qa
  simp only [nv_m1, nv_a1, nv_s1, nv_d2, oE, oF, oG, oH, oA, oB, oC, oD]
 have e2 : nd (zq 1 (nv qf) (nv qg)) = nd (zq 1 (oF (nv z1) (nv t1) (nv z2) (nv t2)) (oG (nv z1) (nv t1) (nv z2) (nv t2))) := by
  subst h_qh h_qg h_qf h_qe h_qd h_qc h_qb h_qa
  simp only [nv_m1, nv_a1, nv_s1, nv_d2, oE, oF, oG, oH, oA, oB, oC, oD]
 have e3 : nd (zq 1 (nv qe) (nv qh)) = nd (zq 1 (oE (nv x1) (nv y1) (nv x2) (nv y2)) (oH (nv x1) (nv y1) (nv x2) (nv y2))) := by
  subst h_qh h_qg h_qf h_qe h_qd h_qc h_qb h_qa
  simp only [nv_m1, nv_a1, nv_s1, nv_d2, oE, oF, oG, oH, oA, oB, oC, oD]
 exact ⟨ret4 e0 e1 e2 e3, Es.pk []⟩
theorem with16_go (w : World) (p q : L4) (hp : p.length = 16) (hq : q.length = 16) : Calls zB 33 #[.agg (zg (zh p)), .agg (zg (zh q))] w fun e w' => e = .returned (.agg (zg (zh (wtE p q)))) ∧ Ev w [] w' [] := by
  have h := with_go w (p.take 4) ((p.drop 4).take 4) ((p.drop 8).take 4) (p.drop 12) (q.take 4) ((q.drop 4).take 4) ((q.drop 8).take 4) (q.drop 12) (by simp [hp]) (by simp [hp]) (by simp [hp]) (by simp [hp]) (by simp [hq]) (by simp [hq]) (by simp [hq]) (by simp [hq])
  rw [cut16, cut16, cat16] at h
  exact h
end Go.Proofs.YtlnogkmnklfjlaaGreatDoor
namespace Go.Dbr
open Go Go.RowKit
section
variable {P : Program} {w : World}
end
end Go.Dbr
namespace Go.Dbr
open Go Go.RowKit
end Go.Dbr
namespace Go.Proofs.YtlnogkmnklfjlaaGreatDoor
open Go.Dbr
def rows0 : L4 := XH ++ zf 240 0
theorem rows0_len : rows0.length = 256 := rfl
theorem put_same {l x : L4} {i : Nat} (hl : l.length = 256) (hx : x.length = 16) (hi : i < 16) : zm 16 (zo (i * 16) (zm (i * 16) l ++ x ++ zo (i * 16 + 16) l)) = x := by
  have h1 : (zm (i * 16) l).length = i * 16 := by rw [zs]; omega
  rw [QK, List.drop_left' h1, List.take_left' hx]
theorem put_other {l x : L4} {i j : Nat} (hl : l.length = 256) (hx : x.length = 16) (hi : i < 16) (hj : j < i) : zm 16 (zo (j * 16) (zm (i * 16) l ++ x ++ zo (i * 16 + 16) l)) = zm 16 (zo (j * 16) l) := by
  refine Yp fun q => ?_
  rw [ZQ, ZQ]
  split
  · rename_i hq
    rw [QL, QL, QK, z6 (by rw [zs]; omega), ZQ, if_pos (by omega)]
  · rfl
theorem nib_shr (x : UInt64) (m : Nat) (hm : m < 16) : ((x >>> zb (4 * m)) &&& 15).toNat = x.toNat / 16 ^ m % 16 := by
  rw [Ys, UInt64.toNat_shiftRight, show (15 : UInt64).toNat = 2 ^ 4 - 1 from rfl, Nat.and_two_pow_sub_one_eq_mod, ofNat_val, zL (show 4 * m < 18446744073709551616 by omega), zL (show 4 * m < 64 by omega), Nat.shiftRight_eq_div_pow, show (2 : Nat) ^ (4 * m) = 16 ^ m from by rw [QM]]
theorem dig_nv {k : L4} (hk : k.length = 4) (j : Nat) (hj : j < 4) : (za k j 0).toNat = nv k / 18446744073709551616 ^ j % 18446744073709551616 := by
  match k, hk with
  | [a, b, c, d], _ =>
    rw [nv4]
    have h1 := lt64 a
    have h2 := lt64 b
    have h3 := lt64 c
    have h4 := lt64 d
    match j, hj with
    | 0, _ => show a.toNat = _; rw [Nat.pow_zero]; omega
    | 1, _ => show b.toNat = _; rw [Nat.pow_one]; omega
    | 2, _ => show c.toNat = _; rw [show (18446744073709551616 : Nat) ^ 2 = 340282366920938463463374607431768211456 from rfl]; omega
    | 3, _ => show d.toNat = _; rw [show (18446744073709551616 : Nat) ^ 3 = 6277101735386680763835789423207666416102355444464034512896 from rfl]; omega
theorem nib_u {k : L4} (hk : k.length = 4) {i : Nat} (hi : i < 64) : ((zA ((za k (i / 16) 0 >>> zb (4 * (i % 16))) &&& 15) : Nat) : Int) = ((nib (nv k) i : Nat) : Int) := by
  rw [nib_shr _ _ (by omega), dig_nv hk _ (by omega), nib]
  congr 1
  have e : (16 : Nat) ^ i = 18446744073709551616 ^ (i / 16) * 16 ^ (i % 16) := by
    rw [show (18446744073709551616 : Nat) = 16 ^ 16 from rfl, ← QM, ← Qn]
    congr 1
    omega
  rw [e, ← Nat.div_div_eq_div_mul]
  generalize nv k / 18446744073709551616 ^ (i / 16) = q
  have hm : i % 16 < 16 := ZU _ (by decide)
  have e2 : (18446744073709551616 : Nat) = 16 ^ (i % 16) * (16 * 16 ^ (15 - i % 16)) := by
    rw [show (18446744073709551616 : Nat) = 16 ^ 16 from rfl, ← Nat.pow_succ', ← Qn]
    congr 1
    omega
  rw [e2, Nat.mod_mul_right_div_self, Nat.mod_mul_right_mod]
theorem nib_lt (k i : Nat) : nib k i < 16 := ZU _ (by decide)
theorem rows0_0 : zm 16 (zo (0 * 16) rows0) = XH := rfl
theorem times16_go (w : World) (p k : List UInt64) (hp : zc p = 16) (hk : zc k = 4) : Calls zB 14 #[.agg (zg (zh p)), .agg (zg (zh k))] w fun e w' => e = .returned (.agg (zg (zh (tmF p (nv k) 64)))) ∧ Ev w [] w' [] := by
 refine d_0 [(0, .agg (zg (zh p))), (1, .agg (zg (zh k)))] 48 Tryz.func14 Tryz.ntmps14 (Heap.nil _) fun Hx Hy Hz => wp_seq <| zk <| f_o <| m_m 37 (zh p) Hy Hz fun _ _ Ee HA HB => f_o <| m_m 33 (zh k) HA HB fun _ _ Ed HC E4 => f_o <| m_z 37 (zh (zf 16 0)) HC E4 fun _ _ Eb E5 E6 => f_e <| ze <| wp_seq <| zk <| f_o <| c_p E5 E6 (nothing_go _) fun _ _ E7 E8 => d_k [2,3,4,10] [] 2 E7 fun _ E9 => ?_
 refine f_o <| m_z 65 (zh (zf 256 0)) E9 E8 fun _ _ Ea Ha Hb => f_o <| zZ 3 256 (zh rows0) _ Ha Hb rfl (zd rows0_len) (zd (zi)) (zw _) rfl fun _ _ Hc Hd => f_e <| ze <| wp_seq <| d_s [2,3,4,5,6] [] Hc fun _ He => ?_
 refine wp_block <| loop_m (fun Hf ac wo => ∃ (i : Nat) (R : List UInt64), Hf = (15 - i : Nat) ∧ Env ac 48 [(2, pt Ee), (3, pt Ed), (4, pt Eb), (5, pt Ea), (6, ni (i + 1))] ∧ Ev w [] wo [.box Ea (zh R) 65, .box Ee (zh p) 37, .box Ed (zh k) 33, .box Eb (zh (zf 16 0)) 37] ∧ (i ≤ 15) ∧ (zc R = 256) ∧ (∀ j, j < i + 1 → zm 16 (zo (j * 16) R) = rowF p j)) ⟨_, 0, rows0, rfl, He.sb, Hd.pk [3, 0, 1, 2], (by omega), rows0_len, (fun j hj => by have e : j = 0 := (by omega); subst e; exact rows0_0)⟩ ?_
 rintro HD _ _ ⟨i, R, rfl, Hg, El, hi, hR, hf⟩
 refine wp_seq <| d_s [2,3,4,5,6,12] [] Hg fun _ Em => ?_
 refine c_d (((i + 1 : Nat) : Int) < (16 : Int)) Em (fun Hh => ?_) (fun Hh => ?_)
 ·
  refine wp_skip <| ze <| wp_seq <| wp_block <| r_c (fun ac wo => Env ac 48 [(2, pt Ee), (3, pt Ed), (4, pt Eb), (5, pt Ea), (6, ni (i + 1))] ∧ Ev w [] wo [.box Ea (zh (zm ((i + 1) * 16) R ++ (wtE (zm 16 (zo (i * 16) R)) p) ++ zo (((i + 1) * 16) + 16) R)) 65, .box Ee (zh p) 37, .box Ed (zh k) 33, .box Eb (zh (zf 16 0)) 37]) ?_ ?_
  ·
   refine s_g0 [(2, pt Ee), (3, pt Ed), (4, pt Eb), (5, pt Ea), (6, ni (i + 1))] [0,1,2,3,4,5,6,7] [(15, ni (i + 1)), (16, ni (i + 1)), (17, ni i), (18, .pointer (some ⟨Ea, i * 16, none⟩)), (19, .agg (zg (zh (zm 16 (zo (i * 16) R))))), (20, .agg (zg (zh p))), (21, .agg (zg (zh (wtE (zm 16 (zo (i * 16) R)) p)))), (22, .pointer (some ⟨Ea, (i + 1) * 16, none⟩))] 1 [(2, pt Ee), (3, pt Ed), (4, pt Eb), (5, pt Ea), (6, ni (i + 1)), (21, .agg (zg (zh (wtE (zm 16 (zo (i * 16) R)) p)))), (22, .pointer (some ⟨Ea, (i + 1) * 16, none⟩))] (Em.sb) (El.trans (zS El.heap)) ?_ fun _ _ Hi Hj => ?_
   ·
    refine s_p [] <| s_p [] <| s_p [(2, g_n (w_r (e := ((i + 1 : Nat) : Int) - (1 : Int)) (x := ((i : Nat) : Int)) (by omega)))] ?_
    refine s_c (fun Mx46 _ _ Hk Hl => ?_) ?_
    ·
     refine q_v (x := Instr.indexAt 65 (pt Ea) (ni i)) (v := .pointer (some ⟨Ea, i * 16, none⟩)) Hk (zt (e := 37) (sz := 16) (m := 16) (j := i) (o := i * 16) (by kernel_rfl) (by kernel_rfl) (by omega) (by omega) (by omega) _) fun _ Hm => ?_
     exact s_e Hm Hl
    refine s_a 0 (i * 16) 16 (zh (zm 16 (zo (i * 16) R))) rfl (u64s_sub _ _ _) (zd (JQ hR (by omega))) <| s_a 1 0 16 (zh p) rfl (zr (zd hp)) (zd hp) <| s_f (fun _ => with16_go _ (zm 16 (zo (i * 16) R)) p (JQ hR (by omega)) hp) ?_
    refine s_c (fun Mx72 _ _ Hn Ho => ?_) ?_
    ·
     refine q_v (x := Instr.indexAt 65 (pt Ea) (ni (i + 1))) (v := .pointer (some ⟨Ea, (i + 1) * 16, none⟩)) Hn (zt (e := 37) (sz := 16) (m := 16) (j := i + 1) (o := (i + 1) * 16) (by kernel_rfl) (by kernel_rfl) (by omega) (by omega) (by omega) _) fun _ Hp => ?_
     exact s_e Hp Ho
    exact s_n
   refine q_u 8 ?_
   refine m_g 0 ((i + 1) * 16) 16 (zh (wtE (zm 16 (zo (i * 16) R)) p)) (zh (zm ((i + 1) * 16) R ++ (wtE (zm 16 (zo (i * 16) R)) p) ++ zo (((i + 1) * 16) + 16) R)) [.box Ea (zh (zm ((i + 1) * 16) R ++ (wtE (zm 16 (zo (i * 16) R)) p) ++ zo (((i + 1) * 16) + 16) R)) 65, .box Ee (zh p) 37, .box Ed (zh k) 33, .box Eb (zh (zf 16 0)) 37] Hi Hj rfl (zd (JR _ _)) (by rw [(zd hR)]; omega) (zw _) (u64s_put _ _ _ _) rfl fun _ _ Hq Hr => ?_
   exact a_e ⟨Hq.sb, Hr.pk [0, 1, 2, 3]⟩
  rintro _ _ ⟨Hs, Ht⟩
  refine zx <| ze <| d_r [2,3,4,5,6] [(1, g_n (w_a (i + 1) 1))] Hs fun _ Hu => ze <| ⟨_, ⟨i + 1, (zm ((i + 1) * 16) R ++ (wtE (zm 16 (zo (i * 16) R)) p) ++ zo (((i + 1) * 16) + 16) R), rfl, Hu.sb, Ht.pk [0, 1, 2, 3], (by omega), (put_len hR (JR _ _) (by omega)), (fun j hj => by rcases Nat.lt_succ_iff_lt_or_eq.1 hj with h | h; (rw [put_other hR (JR _ _) (by omega) (by omega)]; exact hf j (by omega)); (rw [h, put_same hR (JR _ _) (by omega)]; rw [hf i (Nat.lt_succ_self i)]; rfl))⟩, ?_⟩
  omega
 refine wp_exit <| zD <| zD <| zP <| ze <| wp_seq <| zk <| f_o <| c_p Em El (nothing_go _) fun _ _ En Eo => f_o <| m_z 37 (zh (zf 16 0)) En Eo fun _ _ Ec Ep Eq => f_o <| zZ 4 16 (zh XH) _ Ep Eq rfl (zd (l4_len _ _ _ _)) (zd (zi)) (zw _) rfl fun _ _ Er Es => f_e <| ze <| wp_seq <| d_s [2,3,4,5,6,7,8] [] Er fun _ Et => ?_
 refine wp_block <| loop_m (fun Eu ac wo => ∃ (j : Nat) (o : List UInt64), Eu = (64 - j : Nat) ∧ Env ac 48 [(2, pt Ee), (3, pt Ed), (4, pt Eb), (5, pt Ea), (6, ni (i + 1)), (7, pt Ec), (8, .int .i64 ((63 : Int) - ((j : Nat) : Int)))] ∧ Ev w [] wo [.box Ec (zh o) 37, .box Ea (zh R) 65, .box Ee (zh p) 37, .box Ed (zh k) 33, .box Eb (zh (zf 16 0)) 37] ∧ (j ≤ 64) ∧ (zc o = 16) ∧ (o = tmF p (nv k) j)) ⟨_, 0, XH, rfl, Et.sb, Es.pk [4, 0, 1, 2, 3], (by omega), (l4_len _ _ _ _), rfl⟩ ?_
 rintro Hv _ _ ⟨j, o, rfl, Ew, Eg, hj, ho, he⟩
 refine wp_seq <| d_s [2,3,4,5,6,7,8,25] [] Ew fun _ Eh => ?_
 refine c_d ((63 : Int) - ((j : Nat) : Int) ≥ (0 : Int)) Eh (fun Ex => ?_) (fun Ex => ?_)
 ·
  refine wp_skip <| ze <| wp_seq <| wp_block <| wp_seq <| d_s [2,3,4,5,6,7,8,28] [] Eh fun _ Ey => ?_
  refine wp_block <| loop_m (fun Ez ac wo => ∃ (q : Nat) (o2 : List UInt64), Ez = (4 - q : Nat) ∧ Env ac 48 [(2, pt Ee), (3, pt Ed), (4, pt Eb), (5, pt Ea), (6, ni (i + 1)), (7, pt Ec), (8, .int .i64 ((63 : Int) - ((j : Nat) : Int))), (28, ni q)] ∧ Ev w [] wo [.box Ec (zh o2) 37, .box Ea (zh R) 65, .box Ee (zh p) 37, .box Ed (zh k) 33, .box Eb (zh (zf 16 0)) 37] ∧ (q ≤ 4) ∧ (zc o2 = 16) ∧ (o2 = dblF o q)) ⟨_, 0, o, rfl, Ey.sb, Eg.pk [0, 1, 2, 3, 4], (by omega), ho, rfl⟩ ?_
  rintro Hw _ _ ⟨q, o2, rfl, EA, Ef, hq, ho2, heq⟩
  refine d_s [2,3,4,5,6,7,8,28,29] [] EA fun _ Ei => ?_
  refine wp_seq <| c_d (((q : Nat) : Int) < (4 : Int)) Ei (fun EB => ?_) (fun EB => ?_)
  ·
   refine wp_skip <| ze <| wp_seq <| wp_block <| zk <| f_o <| Zn 0 16 (zh o2) Ei Ef rfl (zd ho2) fun _ EC => f_o <| Zn 0 16 (zh o2) EC Ef rfl (zd ho2) fun _ ED => f_o <| c_p ED Ef (with16_go _ o2 o2 ho2 ho2) fun _ _ EE EF => f_o <| zZ 0 16 (zh (wtE o2 o2)) [.box Ec (zh (wtE o2 o2)) 37, .box Ea (zh R) 65, .box Ee (zh p) 37, .box Ed (zh k) 33, .box Eb (zh (zf 16 0)) 37] EE EF rfl (zd (JR _ _)) (zd ho2) (zw _) rfl fun _ _ EG EH => f_e <| zx <| ze <| d_r [2,3,4,5,6,7,8,28] [(0, g_n (w_a q 1))] EG fun _ EI => ze <| ⟨_, ⟨q + 1, (wtE o2 o2), rfl, EI.sb, EH.pk [0, 1, 2, 3, 4], (by omega), (JR _ _), (by rw [heq]; rfl)⟩, ?_⟩
   omega
  refine wp_exit <| zD <| zD <| zP <| ze ?_
  have hq4 : q = 4 := by omega
  have HE : o2 = dblF o 4 := by rw [heq, hq4]
  have hj63 : j < 64 := by omega
  have hnl := nib_lt (nv k) (63 - j)
  refine r_c (fun ac wo => Env ac 48 [(2, pt Ee), (3, pt Ed), (4, pt Eb), (5, pt Ea), (6, ni (i + 1)), (7, pt Ec), (8, .int .i64 ((63 : Int) - ((j : Nat) : Int))), (28, ni q)] ∧ Ev w [] wo [.box Ec (zh (wtE o2 (zm 16 (zo ((nib (nv k) (63 - j)) * 16) R)))) 37, .box Ea (zh R) 65, .box Ee (zh p) 37, .box Ed (zh k) 33, .box Eb (zh (zf 16 0)) 37]) ?_ ?_
  ·
   refine s_g0 [(2, pt Ee), (3, pt Ed), (4, pt Eb), (5, pt Ea), (6, ni (i + 1)), (7, pt Ec), (8, .int .i64 ((63 : Int) - ((j : Nat) : Int))), (28, ni q)] [0,1,2,3,4,5,6,7,8,9,10,11,12] [(34, .agg (zg (zh o2))), (35, ni (63 - j)), (36, ni ((63 - j) / 16)), (37, .pointer (some ⟨Ed, (63 - j) / 16, none⟩)), (38, zn (za k ((63 - j) / 16) 0)), (39, ni (63 - j)), (40, ni ((63 - j) % 16)), (41, ni (4 * ((63 - j) % 16))), (42, zn ((za k ((63 - j) / 16) 0) >>> zb (4 * ((63 - j) % 16)))), (43, .int .u64 ((nib (nv k) (63 - j) : Nat) : Int)), (44, .pointer (some ⟨Ea, (nib (nv k) (63 - j)) * 16, none⟩)), (45, .agg (zg (zh (zm 16 (zo ((nib (nv k) (63 - j)) * 16) R))))), (46, .agg (zg (zh (wtE o2 (zm 16 (zo ((nib (nv k) (63 - j)) * 16) R))))))] 1 [(2, pt Ee), (3, pt Ed), (4, pt Eb), (5, pt Ea), (6, ni (i + 1)), (7, pt Ec), (8, .int .i64 ((63 : Int) - ((j : Nat) : Int))), (28, ni q), (46, .agg (zg (zh (wtE o2 (zm 16 (zo ((nib (nv k) (63 - j)) * 16) R))))))] (Ei.sb) (Ef.trans (zS Ef.heap)) ?_ fun _ _ EJ EK => ?_
   ·
    refine s_a 0 0 16 (zh o2) rfl (zr (zd ho2)) (zd ho2) <| s_p [(1, g_i .i64 (show (63 : Int) - ((j : Nat) : Int) = ((63 - j : Nat) : Int) from by omega))] <| s_p [(2, g_i .i64 (show IntKind.wrap .i64 (Int.tdiv ((63 - j : Nat) : Int) (16 : Int)) = (((63 - j) / 16 : Nat) : Int) from Go.Dbr.i64_quo_nat (a := ((63 - j : Nat) : Int)) (n := 63 - j) (m := 16) rfl (by omega)))] ?_
    refine s_c (fun Mx159 _ _ EL EM => ?_) ?_
    ·
     refine q_v (x := Instr.indexAt 33 (pt Ed) (ni ((63 - j) / 16))) (v := .pointer (some ⟨Ed, (63 - j) / 16, none⟩)) EL (zt (e := 31) (sz := 1) (m := 4) (j := (63 - j) / 16) (o := (63 - j) / 16) (by kernel_rfl) (by kernel_rfl) (by omega) (by omega) (by omega) _) fun _ EN => ?_
     exact s_e EN EM
    refine s_c (fun Mx166 _ _ EO Ej => ?_) ?_
    ·
     have EP : (63 - j) / 16 < zc k := by rw [hk]; omega
     refine m_v 3 ((63 - j) / 16) (zn (za k ((63 - j) / 16) 0)) EO Ej rfl (zC EP) fun _ EQ => ?_
     exact s_e EQ Ej
    refine s_p [(5, g_i .i64 (show (63 : Int) - ((j : Nat) : Int) = ((63 - j : Nat) : Int) from by omega))] <| s_p [(6, g_i .i64 (show Int.tmod ((63 - j : Nat) : Int) (16 : Int) = (((63 - j) % 16 : Nat) : Int) from Go.Dbr.i64_rem_nat (a := ((63 - j : Nat) : Int)) (n := 63 - j) (m := 16) rfl (by omega)))] <| s_p [(7, g_n (w_m 4 ((63 - j) % 16)))] ?_
    refine s_c (fun Mx174 _ _ ER ES => ?_) ?_
    ·
     refine q_v ER (Q0 (za k ((63 - j) / 16) 0) .i64 (4 * ((63 - j) % 16)) (by omega) _) fun _ ET => ?_
     exact s_e ET ES
    refine s_p [(9, g_v (show (.int .u64 (IntKind.wrap .u64 ((ZN (IntKind.bits .u64) ((zA ((za k ((63 - j) / 16) 0) >>> zb (4 * ((63 - j) % 16))) : Nat) : Int) &&& ZN (IntKind.bits .u64) (15 : Int)).toNat : Int)) : Value) = .int .u64 ((nib (nv k) (63 - j) : Nat) : Int) by rw [Zp (a := ((zA ((za k ((63 - j) / 16) 0) >>> zb (4 * ((63 - j) % 16))) : Nat) : Int)) (b := (15 : Int)) (x := (za k ((63 - j) / 16) 0) >>> zb (4 * ((63 - j) % 16))) (y := (15 : UInt64)) rfl rfl, nib_u hk (show 63 - j < 64 by omega)] <;> rfl))] ?_
    refine s_c (fun Mx181 _ _ EU EV => ?_) ?_
    ·
     refine q_v (x := Instr.indexAt 65 (pt Ea) (.int .u64 ((nib (nv k) (63 - j) : Nat) : Int))) (v := .pointer (some ⟨Ea, (nib (nv k) (63 - j)) * 16, none⟩)) EU (zt (e := 37) (sz := 16) (m := 16) (j := nib (nv k) (63 - j)) (o := (nib (nv k) (63 - j)) * 16) (by kernel_rfl) (by kernel_rfl) (by omega) (by omega) (by omega) _) fun _ EW => ?_
     exact s_e EW EV
    refine s_a 1 ((nib (nv k) (63 - j)) * 16) 16 (zh (zm 16 (zo ((nib (nv k) (63 - j)) * 16) R))) rfl (u64s_sub _ _ _) (zd (JQ hR (by omega))) <| s_f (fun _ => with16_go _ o2 (zm 16 (zo ((nib (nv k) (63 - j)) * 16) R)) ho2 (JQ hR (by omega))) ?_
    exact s_n
   refine q_u 13 ?_
   refine zZ 0 16 (zh (wtE o2 (zm 16 (zo ((nib (nv k) (63 - j)) * 16) R)))) _ EJ EK rfl (zd (JR _ _)) (zd ho2) (zw _) rfl fun _ _ EX EY => ?_
   exact a_e ⟨EX.sb, EY.pk [0, 1, 2, 3, 4]⟩
  rintro _ _ ⟨EZ, E0⟩
  refine zx <| ze <| d_r [2,3,4,5,6,7,8,28] [(1, g_n (w_r (e := ((63 : Int) - ((j : Nat) : Int)) - (1 : Int)) (x := (63 : Int) - ((j + 1 : Nat) : Int)) (by omega)))] EZ fun _ E1 => ze <| ⟨_, ⟨j + 1, (wtE o2 (zm 16 (zo ((nib (nv k) (63 - j)) * 16) R))), rfl, E1.sb, E0.pk [0, 1, 2, 3, 4], (by omega), (JR _ _), (by rw [HE, hf _ (by have := nib_lt (nv k) (63 - j); omega), he]; rfl)⟩, ?_⟩
  omega
 refine wp_exit <| zD <| zD <| zP <| ze <| wp_seq <| zk <| f_o <| Zn 0 16 (zh o) Eh Eg rfl (zd ho) fun _ E2 => f_o <| zZ 4 16 (zh o) [.box Ec (zh o) 37, .box Ea (zh R) 65, .box Ee (zh p) 37, .box Ed (zh k) 33, .box Eb (zh o) 37] E2 Eg rfl (zd ho) (zd (zi)) (zw _) rfl fun _ _ E3 Ek => f_e <| ze <| wp_ret <| Zf (v := .agg (zg (zh o))) (t := 4) (T := 37) (ad := ⟨Eb, 0, none⟩) E3 (by kernel_rfl) (by kernel_rfl) (zF (t := 37) (k := 4) (off := 0) (m := 16) (xs := zh o) Ek rfl (zr (zd ho)) (zd ho) (by kernel_rfl) (by kernel_rfl)) ?_
 have hj4 : j = 64 := by omega
 exact ⟨by rw [he, hj4], Ek.pk []⟩
theorem same_go (w : World) (x1 y1 z1 t1 x2 y2 z2 t2 : List UInt64) (hx1 : zc x1 = 4) (hy1 : zc y1 = 4) (Ea : zc z1 = 4) (ht1 : zc t1 = 4) (hx2 : zc x2 = 4) (hy2 : zc y2 = 4) (Eb : zc z2 = 4) (ht2 : zc t2 = 4) : Calls zB 32 #[.agg (zg ((zh x1) ++ ((zh y1) ++ ((zh z1) ++ (zh t1))))), .agg (zg ((zh x2) ++ ((zh y2) ++ ((zh z2) ++ (zh t2)))))] w fun e w' => e = .returned (.bool (sameN (nv x1) (nv y1) (nv z1) (nv x2) (nv y2) (nv z2))) ∧ Ev w [] w' [] := by
 refine d_0 [(0, .agg (zg ((zh x1) ++ ((zh y1) ++ ((zh z1) ++ (zh t1)))))), (1, .agg (zg ((zh x2) ++ ((zh y2) ++ ((zh z2) ++ (zh t2))))))] 29 Tryz.func32 Tryz.ntmps32 (Heap.nil _) fun ah ai aj => wp_seq <| zk <| f_o <| m_m 37 ((zh x1) ++ ((zh y1) ++ ((zh z1) ++ (zh t1)))) ai aj fun _ _ Ec ak al => f_o <| m_m 37 ((zh x2) ++ ((zh y2) ++ ((zh z2) ++ (zh t2)))) ak al fun _ _ Ed am EA => d_e [2,3,4] [] am fun _ EN => ze <| wp_seq ?_
 rcases Za ((nd (zq 1 (nv x1) (nv z2))) == (nd (zq 1 (nv x2) (nv z1)))) with Ek | Ek
 ·
  have hb13p : (nd (zq 1 (nv x1) (nv z2))) = (nd (zq 1 (nv x2) (nv z1))) := eq_of_beq Ek
  refine r_c (fun ac wo => Env ac 29 [(4, .bool ((nd (zq 1 (nv y1) (nv z2))) == (nd (zq 1 (nv y2) (nv z1)))))] ∧ Ev w [] wo []) ?_ ?_
  ·
   refine s_g0 [(2, pt Ec), (3, pt Ed), (4, .bool false)] [0,1,2,3,4,5,6,7,8,9,10,11] [(5, pt Ec), (6, .agg (zg (zh x1))), (7, .pointer (some ⟨Ed, 8, none⟩)), (8, .agg (zg (zh z2))), (9, .agg (zg (zh (nd (zq 1 (nv x1) (nv z2)))))), (10, pt Ed), (11, .agg (zg (zh x2))), (12, .pointer (some ⟨Ec, 8, none⟩)), (13, .agg (zg (zh z1))), (14, .agg (zg (zh (nd (zq 1 (nv x2) (nv z1)))))), (15, .bool ((nd (zq 1 (nv x1) (nv z2))) == (nd (zq 1 (nv x2) (nv z1))))), (16, .bool ((nd (zq 1 (nv x1) (nv z2))) == (nd (zq 1 (nv x2) (nv z1)))))] 13 [(2, pt Ec), (3, pt Ed), (4, .bool false), (16, .bool ((nd (zq 1 (nv x1) (nv z2))) == (nd (zq 1 (nv x2) (nv z1)))))] (EN.sb) (EA.trans (zS EA.heap)) ?_ fun _ _ ad Ei => ?_
   ·
    refine s_p [] <| s_a 0 0 4 (zh x1) rfl (by simp [zd hx1, zd hy1, zd Ea, zd ht1, zu, zv]) (zd hx1) <| s_p [] <| s_a 1 8 4 (zh z2) rfl (by simp [zd hx2, zd hy2, zd Eb, zd ht2, zu, zv]) (zd Eb) <| s_f (fun _ => emul_go _ x1 z2 hx1 Eb) ?_
    refine s_p [] <| s_a 1 0 4 (zh x2) rfl (by simp [zd hx2, zd hy2, zd Eb, zd ht2, zu, zv]) (zd hx2) <| s_p [] <| s_a 0 8 4 (zh z1) rfl (by simp [zd hx1, zd hy1, zd Ea, zd ht1, zu, zv]) (zd Ea) <| s_f (fun _ => emul_go _ x2 z1 hx2 Ea) ?_
    refine s_c (fun Mx52 _ _ ae af => ?_) ?_
    ·
     refine q_v (x := Xc .eql 33 (.tmp 9) (.tmp 14) (.agg (zg (zh (nd (zq 1 (nv x1) (nv z2)))))) (.agg (zg (zh (nd (zq 1 (nv x2) (nv z1))))))) (v := .bool ((nd (zq 1 (nv x1) (nv z2))) == (nd (zq 1 (nv x2) (nv z1))))) ae (Z0 (a := (.tmp 9)) (b := (.tmp 14)) (e := 31) (m := 4) (by kernel_rfl) (by kernel_rfl) (by kernel_rfl) (by kernel_rfl) (by kernel_rfl) (zl _ _) (zl _ _) _) fun _ ag => ?_
     exact s_e ag af
    refine s_p [] ?_
    exact s_n
   refine any_name fun G hG => ?_
   have nd235 : ∀ (ac : Act) (wo : World), Env ac 29 [(4, .bool false), (16, .bool true), (21, .agg (zg (zh (nd (zq 1 (nv y1) (nv z2)))))), (23, .agg (zg (zh y2))), (24, .pointer (some ⟨Ec, 8, none⟩))] → Ev w [] wo [.box Ec ((zh x1) ++ ((zh y1) ++ ((zh z1) ++ (zh t1)))) 37] → G 5 #[true, true, true, true, true, true, true, true, true, true, true, true, true, true, true, true, true, true, true, true, false, false, false, false, false] ac wo := by
    intro _ _ EO EB
    refine ZT hG ?_
    refine q_u 20 ?_
    refine m_a 0 8 4 (zh z1) EO EB rfl (by simp [zd hx1, zd hy1, zd Ea, zd ht1, zu, zv]) (zd Ea) fun _ EP => q_u 21 ?_
    refine c_p EP EB (emul_go _ y2 z1 hy2 Ea) fun _ _ EQ ER => q_g 22 (s := Xc .eql 33 (.tmp 21) (.tmp 26) (.agg (zg (zh (nd (zq 1 (nv y1) (nv z2)))))) (.agg (zg (zh (nd (zq 1 (nv y2) (nv z1))))))) (v := .bool ((nd (zq 1 (nv y1) (nv z2))) == (nd (zq 1 (nv y2) (nv z1))))) EQ (fun _ => Z0 (a := (.tmp 21)) (b := (.tmp 26)) (e := 31) (m := 4) (by kernel_rfl) (by kernel_rfl) (by kernel_rfl) (by kernel_rfl) (by kernel_rfl) (zl _ _) (zl _ _) _) fun _ ES => q_a [23,24] [] 0 ES fun _ ET => ?_
    exact a_e ⟨ET.sb, ER.pk []⟩
   have nd253 : ∀ (ac : Act) (wo : World), Env ac 29 [(4, .bool false), (16, .bool true), (21, .agg (zg (zh (nd (zq 1 (nv y1) (nv z2)))))), (22, .pointer (some ⟨Ed, 4, none⟩)), (25, .agg (zg (zh z1)))] → Ev w [] wo [.box Ed ((zh x2) ++ ((zh y2) ++ ((zh z2) ++ (zh t2)))) 37] → G 5 #[true, true, true, true, true, true, true, true, true, true, true, true, true, true, true, true, true, true, false, true, true, false, false, false, false] ac wo := by
    intro _ _ EU EC
    refine ZT hG ?_
    refine q_u 18 ?_
    refine m_a 0 4 4 (zh y2) EU EC rfl (by simp [zd hx2, zd hy2, zd Eb, zd ht2, zu, zv]) (zd hy2) fun _ EV => q_u 21 ?_
    refine c_p EV EC (emul_go _ y2 z1 hy2 Ea) fun _ _ EW EX => q_g 22 (s := Xc .eql 33 (.tmp 21) (.tmp 26) (.agg (zg (zh (nd (zq 1 (nv y1) (nv z2)))))) (.agg (zg (zh (nd (zq 1 (nv y2) (nv z1))))))) (v := .bool ((nd (zq 1 (nv y1) (nv z2))) == (nd (zq 1 (nv y2) (nv z1))))) EW (fun _ => Z0 (a := (.tmp 21)) (b := (.tmp 26)) (e := 31) (m := 4) (by kernel_rfl) (by kernel_rfl) (by kernel_rfl) (by kernel_rfl) (by kernel_rfl) (zl _ _) (zl _ _) _) fun _ EY => q_a [23,24] [] 0 EY fun _ EZ => ?_
    exact a_e ⟨EZ.sb, EX.pk []⟩
   have nd271 : ∀ (ac : Act) (wo : World), Env ac 29 [(4, .bool false), (16, .bool true), (18, .agg (zg (zh y1))), (20, .agg (zg (zh z2))), (23, .agg (zg (zh y2))), (25, .agg (zg (zh z1)))] → Ev w [] wo [] → G 5 #[true, true, true, true, true, true, true, true, true, true, true, true, true, true, true, true, false, true, true, true, true, false, false, false, false] ac wo := by
    intro _ _ E0 E1
    refine ZT hG ?_
    refine q_u 16 ?_
    refine c_p E0 E1 (emul_go _ y1 z2 hy1 Eb) fun _ _ E2 E3 => q_u 21 ?_
    refine c_p E2 E3 (emul_go _ y2 z1 hy2 Ea) fun _ _ E4 E5 => q_g 22 (s := Xc .eql 33 (.tmp 21) (.tmp 26) (.agg (zg (zh (nd (zq 1 (nv y1) (nv z2)))))) (.agg (zg (zh (nd (zq 1 (nv y2) (nv z1))))))) (v := .bool ((nd (zq 1 (nv y1) (nv z2))) == (nd (zq 1 (nv y2) (nv z1))))) E4 (fun _ => Z0 (a := (.tmp 21)) (b := (.tmp 26)) (e := 31) (m := 4) (by kernel_rfl) (by kernel_rfl) (by kernel_rfl) (by kernel_rfl) (by kernel_rfl) (zl _ _) (zl _ _) _) fun _ E6 => q_a [23,24] [] 0 E6 fun _ E7 => ?_
    exact a_e ⟨E7.sb, E5.pk []⟩
   have nd294 : ∀ (ac : Act) (wo : World), Env ac 29 [(4, .bool false), (16, .bool true), (21, .agg (zg (zh (nd (zq 1 (nv y1) (nv z2)))))), (22, .pointer (some ⟨Ed, 4, none⟩)), (24, .pointer (some ⟨Ec, 8, none⟩))] → Ev w [] wo [.box Ec ((zh x1) ++ ((zh y1) ++ ((zh z1) ++ (zh t1)))) 37, .box Ed ((zh x2) ++ ((zh y2) ++ ((zh z2) ++ (zh t2)))) 37] → G 6 #[true, true, true, true, true, true, true, true, true, true, true, true, true, true, true, true, true, true, false, true, false, false, false, false, false] ac wo := by
    intro _ _ ED El
    refine ZT hG ?_
    refine YH 18 20 (by kernel_rfl) ?_ ?_
    ·
     rintro _ rfl
     refine m_a 1 4 4 (zh y2) ED El rfl (by simp [zd hx2, zd hy2, zd Eb, zd ht2, zu, zv]) (zd hy2) fun _ E8 => ?_
     exact ZE hG (by kernel_rfl) (nd235 _ _ (E8.sb) (El.pk [0]))
    rintro _ rfl
    refine m_a 0 8 4 (zh z1) ED El rfl (by simp [zd hx1, zd hy1, zd Ea, zd ht1, zu, zv]) (zd Ea) fun _ E9 => ?_
    exact ZE hG (by kernel_rfl) (nd253 _ _ (E9.sb) (El.pk [1]))
   have nd303 : ∀ (ac : Act) (wo : World), Env ac 29 [(4, .bool false), (16, .bool true), (18, .agg (zg (zh y1))), (20, .agg (zg (zh z2))), (23, .agg (zg (zh y2))), (24, .pointer (some ⟨Ec, 8, none⟩))] → Ev w [] wo [.box Ec ((zh x1) ++ ((zh y1) ++ ((zh z1) ++ (zh t1)))) 37] → G 6 #[true, true, true, true, true, true, true, true, true, true, true, true, true, true, true, true, false, true, true, true, false, false, false, false, false] ac wo := by
    intro _ _ EE Es
    refine ZT hG ?_
    refine YH 16 20 (by kernel_rfl) ?_ ?_
    ·
     rintro _ rfl
     refine c_p EE Es (emul_go _ y1 z2 hy1 Eb) fun _ _ Ha Hb => ?_
     exact ZE hG (by kernel_rfl) (nd235 _ _ (Ha.sb) (Hb.pk [0]))
    rintro _ rfl
    refine m_a 0 8 4 (zh z1) EE Es rfl (by simp [zd hx1, zd hy1, zd Ea, zd ht1, zu, zv]) (zd Ea) fun _ Hc => ?_
    exact ZE hG (by kernel_rfl) (nd271 _ _ (Hc.sb) (Es.pk []))
   have nd317 : ∀ (ac : Act) (wo : World), Env ac 29 [(4, .bool false), (16, .bool true), (18, .agg (zg (zh y1))), (20, .agg (zg (zh z2))), (22, .pointer (some ⟨Ed, 4, none⟩)), (25, .agg (zg (zh z1)))] → Ev w [] wo [.box Ed ((zh x2) ++ ((zh y2) ++ ((zh z2) ++ (zh t2)))) 37] → G 6 #[true, true, true, true, true, true, true, true, true, true, true, true, true, true, true, true, false, true, false, true, true, false, false, false, false] ac wo := by
    intro _ _ EF Et
    refine ZT hG ?_
    refine YH 16 18 (by kernel_rfl) ?_ ?_
    ·
     rintro _ rfl
     refine c_p EF Et (emul_go _ y1 z2 hy1 Eb) fun _ _ Hd He => ?_
     exact ZE hG (by kernel_rfl) (nd253 _ _ (Hd.sb) (He.pk [0]))
    rintro _ rfl
    refine m_a 0 4 4 (zh y2) EF Et rfl (by simp [zd hx2, zd hy2, zd Eb, zd ht2, zu, zv]) (zd hy2) fun _ Hf => ?_
    exact ZE hG (by kernel_rfl) (nd271 _ _ (Hf.sb) (Et.pk []))
   have nd331 : ∀ (ac : Act) (wo : World), Env ac 29 [(4, .bool false), (16, .bool true), (18, .agg (zg (zh y1))), (19, .pointer (some ⟨Ed, 8, none⟩)), (23, .agg (zg (zh y2))), (25, .agg (zg (zh z1)))] → Ev w [] wo [.box Ed ((zh x2) ++ ((zh y2) ++ ((zh z2) ++ (zh t2)))) 37] → G 6 #[true, true, true, true, true, true, true, true, true, true, true, true, true, true, true, false, false, true, true, true, true, false, false, false, false] ac wo := by
    intro _ _ Hg EG
    refine ZT hG ?_
    refine q_u 15 ?_
    refine m_a 0 8 4 (zh z2) Hg EG rfl (by simp [zd hx2, zd hy2, zd Eb, zd ht2, zu, zv]) (zd Eb) fun _ Hh => q_u 16 ?_
    refine c_p Hh EG (emul_go _ y1 z2 hy1 Eb) fun _ _ Hi Hj => q_u 21 ?_
    refine c_p Hi Hj (emul_go _ y2 z1 hy2 Ea) fun _ _ Hk Hl => q_g 22 (s := Xc .eql 33 (.tmp 21) (.tmp 26) (.agg (zg (zh (nd (zq 1 (nv y1) (nv z2)))))) (.agg (zg (zh (nd (zq 1 (nv y2) (nv z1))))))) (v := .bool ((nd (zq 1 (nv y1) (nv z2))) == (nd (zq 1 (nv y2) (nv z1))))) Hk (fun _ => Z0 (a := (.tmp 21)) (b := (.tmp 26)) (e := 31) (m := 4) (by kernel_rfl) (by kernel_rfl) (by kernel_rfl) (by kernel_rfl) (by kernel_rfl) (zl _ _) (zl _ _) _) fun _ Hm => q_a [23,24] [] 0 Hm fun _ Hn => ?_
    exact a_e ⟨Hn.sb, Hl.pk []⟩
   have nd356 : ∀ (ac : Act) (wo : World), Env ac 29 [(4, .bool false), (16, .bool true), (17, .pointer (some ⟨Ec, 4, none⟩)), (20, .agg (zg (zh z2))), (23, .agg (zg (zh y2))), (25, .agg (zg (zh z1)))] → Ev w [] wo [.box Ec ((zh x1) ++ ((zh y1) ++ ((zh z1) ++ (zh t1)))) 37] → G 6 #[true, true, true, true, true, true, true, true, true, true, true, true, true, false, true, true, false, true, true, true, true, false, false, false, false] ac wo := by
    intro _ _ Ho EH
    refine ZT hG ?_
    refine q_u 13 ?_
    refine m_a 0 4 4 (zh y1) Ho EH rfl (by simp [zd hx1, zd hy1, zd Ea, zd ht1, zu, zv]) (zd hy1) fun _ Hp => q_u 16 ?_
    refine c_p Hp EH (emul_go _ y1 z2 hy1 Eb) fun _ _ Hq Hr => q_u 21 ?_
    refine c_p Hq Hr (emul_go _ y2 z1 hy2 Ea) fun _ _ Hs Ht => q_g 22 (s := Xc .eql 33 (.tmp 21) (.tmp 26) (.agg (zg (zh (nd (zq 1 (nv y1) (nv z2)))))) (.agg (zg (zh (nd (zq 1 (nv y2) (nv z1))))))) (v := .bool ((nd (zq 1 (nv y1) (nv z2))) == (nd (zq 1 (nv y2) (nv z1))))) Hs (fun _ => Z0 (a := (.tmp 21)) (b := (.tmp 26)) (e := 31) (m := 4) (by kernel_rfl) (by kernel_rfl) (by kernel_rfl) (by kernel_rfl) (by kernel_rfl) (zl _ _) (zl _ _) _) fun _ Hu => q_a [23,24] [] 0 Hu fun _ Hv => ?_
    exact a_e ⟨Hv.sb, Ht.pk []⟩
   have nd381 : ∀ (ac : Act) (wo : World), Env ac 29 [(4, .bool false), (16, .bool true), (18, .agg (zg (zh y1))), (20, .agg (zg (zh z2))), (22, .pointer (some ⟨Ed, 4, none⟩)), (24, .pointer (some ⟨Ec, 8, none⟩))] → Ev w [] wo [.box Ec ((zh x1) ++ ((zh y1) ++ ((zh z1) ++ (zh t1)))) 37, .box Ed ((zh x2) ++ ((zh y2) ++ ((zh z2) ++ (zh t2)))) 37] → G 7 #[true, true, true, true, true, true, true, true, true, true, true, true, true, true, true, true, false, true, false, true, false, false, false, false, false] ac wo := by
    intro _ _ Eu Ej
    refine ZT hG ?_
    refine YS [16, 18, 20] (by kernel_rfl) rfl ?_
    refine ⟨?_, ?_, ?_, trivial⟩
    ·
     rintro _ rfl
     refine c_p Eu Ej (emul_go _ y1 z2 hy1 Eb) fun _ _ Hw Hx => ?_
     exact ZE hG (by kernel_rfl) (nd294 _ _ (Hw.sb) (Hx.pk [0, 1]))
    ·
     rintro _ rfl
     refine m_a 1 4 4 (zh y2) Eu Ej rfl (by simp [zd hx2, zd hy2, zd Eb, zd ht2, zu, zv]) (zd hy2) fun _ Hy => ?_
     exact ZE hG (by kernel_rfl) (nd303 _ _ (Hy.sb) (Ej.pk [0]))
    rintro _ rfl
    refine m_a 0 8 4 (zh z1) Eu Ej rfl (by simp [zd hx1, zd hy1, zd Ea, zd ht1, zu, zv]) (zd Ea) fun _ Hz => ?_
    exact ZE hG (by kernel_rfl) (nd317 _ _ (Hz.sb) (Ej.pk [1]))
   have nd397 : ∀ (ac : Act) (wo : World), Env ac 29 [(4, .bool false), (16, .bool true), (18, .agg (zg (zh y1))), (19, .pointer (some ⟨Ed, 8, none⟩)), (23, .agg (zg (zh y2))), (24, .pointer (some ⟨Ec, 8, none⟩))] → Ev w [] wo [.box Ec ((zh x1) ++ ((zh y1) ++ ((zh z1) ++ (zh t1)))) 37, .box Ed ((zh x2) ++ ((zh y2) ++ ((zh z2) ++ (zh t2)))) 37] → G 7 #[true, true, true, true, true, true, true, true, true, true, true, true, true, true, true, false, false, true, true, true, false, false, false, false, false] ac wo := by
    intro _ _ EI Em
    refine ZT hG ?_
    refine YH 15 20 (by kernel_rfl) ?_ ?_
    ·
     rintro _ rfl
     refine m_a 1 8 4 (zh z2) EI Em rfl (by simp [zd hx2, zd hy2, zd Eb, zd ht2, zu, zv]) (zd Eb) fun _ HA => ?_
     exact ZE hG (by kernel_rfl) (nd303 _ _ (HA.sb) (Em.pk [0]))
    rintro _ rfl
    refine m_a 0 8 4 (zh z1) EI Em rfl (by simp [zd hx1, zd hy1, zd Ea, zd ht1, zu, zv]) (zd Ea) fun _ HB => ?_
    exact ZE hG (by kernel_rfl) (nd331 _ _ (HB.sb) (Em.pk [1]))
   have nd406 : ∀ (ac : Act) (wo : World), Env ac 29 [(4, .bool false), (16, .bool true), (18, .agg (zg (zh y1))), (19, .pointer (some ⟨Ed, 8, none⟩)), (22, .pointer (some ⟨Ed, 4, none⟩)), (25, .agg (zg (zh z1)))] → Ev w [] wo [.box Ed ((zh x2) ++ ((zh y2) ++ ((zh z2) ++ (zh t2)))) 37] → G 7 #[true, true, true, true, true, true, true, true, true, true, true, true, true, true, true, false, false, true, false, true, true, false, false, false, false] ac wo := by
    intro _ _ EJ En
    refine ZT hG ?_
    refine YH 15 18 (by kernel_rfl) ?_ ?_
    ·
     rintro _ rfl
     refine m_a 0 8 4 (zh z2) EJ En rfl (by simp [zd hx2, zd hy2, zd Eb, zd ht2, zu, zv]) (zd Eb) fun _ HC => ?_
     exact ZE hG (by kernel_rfl) (nd317 _ _ (HC.sb) (En.pk [0]))
    rintro _ rfl
    refine m_a 0 4 4 (zh y2) EJ En rfl (by simp [zd hx2, zd hy2, zd Eb, zd ht2, zu, zv]) (zd hy2) fun _ HD => ?_
    exact ZE hG (by kernel_rfl) (nd331 _ _ (HD.sb) (En.pk [0]))
   have nd415 : ∀ (ac : Act) (wo : World), Env ac 29 [(4, .bool false), (16, .bool true), (17, .pointer (some ⟨Ec, 4, none⟩)), (20, .agg (zg (zh z2))), (23, .agg (zg (zh y2))), (24, .pointer (some ⟨Ec, 8, none⟩))] → Ev w [] wo [.box Ec ((zh x1) ++ ((zh y1) ++ ((zh z1) ++ (zh t1)))) 37] → G 7 #[true, true, true, true, true, true, true, true, true, true, true, true, true, false, true, true, false, true, true, true, false, false, false, false, false] ac wo := by
    intro _ _ EK Eo
    refine ZT hG ?_
    refine YH 13 20 (by kernel_rfl) ?_ ?_
    ·
     rintro _ rfl
     refine m_a 0 4 4 (zh y1) EK Eo rfl (by simp [zd hx1, zd hy1, zd Ea, zd ht1, zu, zv]) (zd hy1) fun _ HE => ?_
     exact ZE hG (by kernel_rfl) (nd303 _ _ (HE.sb) (Eo.pk [0]))
    rintro _ rfl
    refine m_a 0 8 4 (zh z1) EK Eo rfl (by simp [zd hx1, zd hy1, zd Ea, zd ht1, zu, zv]) (zd Ea) fun _ HF => ?_
    exact ZE hG (by kernel_rfl) (nd356 _ _ (HF.sb) (Eo.pk [0]))
   have nd424 : ∀ (ac : Act) (wo : World), Env ac 29 [(4, .bool false), (16, .bool true), (17, .pointer (some ⟨Ec, 4, none⟩)), (20, .agg (zg (zh z2))), (22, .pointer (some ⟨Ed, 4, none⟩)), (25, .agg (zg (zh z1)))] → Ev w [] wo [.box Ec ((zh x1) ++ ((zh y1) ++ ((zh z1) ++ (zh t1)))) 37, .box Ed ((zh x2) ++ ((zh y2) ++ ((zh z2) ++ (zh t2)))) 37] → G 7 #[true, true, true, true, true, true, true, true, true, true, true, true, true, false, true, true, false, true, false, true, true, false, false, false, false] ac wo := by
    intro _ _ EL Ep
    refine ZT hG ?_
    refine YH 13 18 (by kernel_rfl) ?_ ?_
    ·
     rintro _ rfl
     refine m_a 0 4 4 (zh y1) EL Ep rfl (by simp [zd hx1, zd hy1, zd Ea, zd ht1, zu, zv]) (zd hy1) fun _ HG => ?_
     exact ZE hG (by kernel_rfl) (nd317 _ _ (HG.sb) (Ep.pk [1]))
    rintro _ rfl
    refine m_a 1 4 4 (zh y2) EL Ep rfl (by simp [zd hx2, zd hy2, zd Eb, zd ht2, zu, zv]) (zd hy2) fun _ HH => ?_
    exact ZE hG (by kernel_rfl) (nd356 _ _ (HH.sb) (Ep.pk [0]))
   have nd433 : ∀ (ac : Act) (wo : World), Env ac 29 [(4, .bool false), (16, .bool true), (17, .pointer (some ⟨Ec, 4, none⟩)), (19, .pointer (some ⟨Ed, 8, none⟩)), (23, .agg (zg (zh y2))), (25, .agg (zg (zh z1)))] → Ev w [] wo [.box Ec ((zh x1) ++ ((zh y1) ++ ((zh z1) ++ (zh t1)))) 37, .box Ed ((zh x2) ++ ((zh y2) ++ ((zh z2) ++ (zh t2)))) 37] → G 7 #[true, true, true, true, true, true, true, true, true, true, true, true, true, false, true, false, false, true, true, true, true, false, false, false, false] ac wo := by
    intro _ _ EM Eq
    refine ZT hG ?_
    refine YH 13 15 (by kernel_rfl) ?_ ?_
    ·
     rintro _ rfl
     refine m_a 0 4 4 (zh y1) EM Eq rfl (by simp [zd hx1, zd hy1, zd Ea, zd ht1, zu, zv]) (zd hy1) fun _ HI => ?_
     exact ZE hG (by kernel_rfl) (nd331 _ _ (HI.sb) (Eq.pk [1]))
    rintro _ rfl
    refine m_a 1 8 4 (zh z2) EM Eq rfl (by simp [zd hx2, zd hy2, zd Eb, zd ht2, zu, zv]) (zd Eb) fun _ HJ => ?_
    exact ZE hG (by kernel_rfl) (nd356 _ _ (HJ.sb) (Eq.pk [0]))
   have nd442 : ∀ (ac : Act) (wo : World), Env ac 29 [(4, .bool false), (16, .bool true), (18, .agg (zg (zh y1))), (19, .pointer (some ⟨Ed, 8, none⟩)), (22, .pointer (some ⟨Ed, 4, none⟩)), (24, .pointer (some ⟨Ec, 8, none⟩))] → Ev w [] wo [.box Ec ((zh x1) ++ ((zh y1) ++ ((zh z1) ++ (zh t1)))) 37, .box Ed ((zh x2) ++ ((zh y2) ++ ((zh z2) ++ (zh t2)))) 37] → G 8 #[true, true, true, true, true, true, true, true, true, true, true, true, true, true, true, false, false, true, false, true, false, false, false, false, false] ac wo := by
    intro _ _ Ew Ee
    refine ZT hG ?_
    refine YS [15, 18, 20] (by kernel_rfl) rfl ?_
    refine ⟨?_, ?_, ?_, trivial⟩
    ·
     rintro _ rfl
     refine m_a 1 8 4 (zh z2) Ew Ee rfl (by simp [zd hx2, zd hy2, zd Eb, zd ht2, zu, zv]) (zd Eb) fun _ HK => ?_
     exact ZE hG (by kernel_rfl) (nd381 _ _ (HK.sb) (Ee.pk [0, 1]))
    ·
     rintro _ rfl
     refine m_a 1 4 4 (zh y2) Ew Ee rfl (by simp [zd hx2, zd hy2, zd Eb, zd ht2, zu, zv]) (zd hy2) fun _ HL => ?_
     exact ZE hG (by kernel_rfl) (nd397 _ _ (HL.sb) (Ee.pk [0, 1]))
    rintro _ rfl
    refine m_a 0 8 4 (zh z1) Ew Ee rfl (by simp [zd hx1, zd hy1, zd Ea, zd ht1, zu, zv]) (zd Ea) fun _ HM => ?_
    exact ZE hG (by kernel_rfl) (nd406 _ _ (HM.sb) (Ee.pk [1]))
   have nd453 : ∀ (ac : Act) (wo : World), Env ac 29 [(4, .bool false), (16, .bool true), (17, .pointer (some ⟨Ec, 4, none⟩)), (20, .agg (zg (zh z2))), (22, .pointer (some ⟨Ed, 4, none⟩)), (24, .pointer (some ⟨Ec, 8, none⟩))] → Ev w [] wo [.box Ec ((zh x1) ++ ((zh y1) ++ ((zh z1) ++ (zh t1)))) 37, .box Ed ((zh x2) ++ ((zh y2) ++ ((zh z2) ++ (zh t2)))) 37] → G 8 #[true, true, true, true, true, true, true, true, true, true, true, true, true, false, true, true, false, true, false, true, false, false, false, false, false] ac wo := by
    intro _ _ Ex Ef
    refine ZT hG ?_
    refine YS [13, 18, 20] (by kernel_rfl) rfl ?_
    refine ⟨?_, ?_, ?_, trivial⟩
    ·
     rintro _ rfl
     refine m_a 0 4 4 (zh y1) Ex Ef rfl (by simp [zd hx1, zd hy1, zd Ea, zd ht1, zu, zv]) (zd hy1) fun _ HN => ?_
     exact ZE hG (by kernel_rfl) (nd381 _ _ (HN.sb) (Ef.pk [0, 1]))
    ·
     rintro _ rfl
     refine m_a 1 4 4 (zh y2) Ex Ef rfl (by simp [zd hx2, zd hy2, zd Eb, zd ht2, zu, zv]) (zd hy2) fun _ HO => ?_
     exact ZE hG (by kernel_rfl) (nd415 _ _ (HO.sb) (Ef.pk [0]))
    rintro _ rfl
    refine m_a 0 8 4 (zh z1) Ex Ef rfl (by simp [zd hx1, zd hy1, zd Ea, zd ht1, zu, zv]) (zd Ea) fun _ HP => ?_
    exact ZE hG (by kernel_rfl) (nd424 _ _ (HP.sb) (Ef.pk [0, 1]))
   have nd464 : ∀ (ac : Act) (wo : World), Env ac 29 [(4, .bool false), (16, .bool true), (17, .pointer (some ⟨Ec, 4, none⟩)), (19, .pointer (some ⟨Ed, 8, none⟩)), (23, .agg (zg (zh y2))), (24, .pointer (some ⟨Ec, 8, none⟩))] → Ev w [] wo [.box Ec ((zh x1) ++ ((zh y1) ++ ((zh z1) ++ (zh t1)))) 37, .box Ed ((zh x2) ++ ((zh y2) ++ ((zh z2) ++ (zh t2)))) 37] → G 8 #[true, true, true, true, true, true, true, true, true, true, true, true, true, false, true, false, false, true, true, true, false, false, false, false, false] ac wo := by
    intro _ _ Ey Eg
    refine ZT hG ?_
    refine YS [13, 15, 20] (by kernel_rfl) rfl ?_
    refine ⟨?_, ?_, ?_, trivial⟩
    ·
     rintro _ rfl
     refine m_a 0 4 4 (zh y1) Ey Eg rfl (by simp [zd hx1, zd hy1, zd Ea, zd ht1, zu, zv]) (zd hy1) fun _ HQ => ?_
     exact ZE hG (by kernel_rfl) (nd397 _ _ (HQ.sb) (Eg.pk [0, 1]))
    ·
     rintro _ rfl
     refine m_a 1 8 4 (zh z2) Ey Eg rfl (by simp [zd hx2, zd hy2, zd Eb, zd ht2, zu, zv]) (zd Eb) fun _ HR => ?_
     exact ZE hG (by kernel_rfl) (nd415 _ _ (HR.sb) (Eg.pk [0]))
    rintro _ rfl
    refine m_a 0 8 4 (zh z1) Ey Eg rfl (by simp [zd hx1, zd hy1, zd Ea, zd ht1, zu, zv]) (zd Ea) fun _ HS => ?_
    exact ZE hG (by kernel_rfl) (nd433 _ _ (HS.sb) (Eg.pk [0, 1]))
   have nd475 : ∀ (ac : Act) (wo : World), Env ac 29 [(4, .bool false), (16, .bool true), (17, .pointer (some ⟨Ec, 4, none⟩)), (19, .pointer (some ⟨Ed, 8, none⟩)), (22, .pointer (some ⟨Ed, 4, none⟩)), (25, .agg (zg (zh z1)))] → Ev w [] wo [.box Ec ((zh x1) ++ ((zh y1) ++ ((zh z1) ++ (zh t1)))) 37, .box Ed ((zh x2) ++ ((zh y2) ++ ((zh z2) ++ (zh t2)))) 37] → G 8 #[true, true, true, true, true, true, true, true, true, true, true, true, true, false, true, false, false, true, false, true, true, false, false, false, false] ac wo := by
    intro _ _ Ez Eh
    refine ZT hG ?_
    refine YS [13, 15, 18] (by kernel_rfl) rfl ?_
    refine ⟨?_, ?_, ?_, trivial⟩
    ·
     rintro _ rfl
     refine m_a 0 4 4 (zh y1) Ez Eh rfl (by simp [zd hx1, zd hy1, zd Ea, zd ht1, zu, zv]) (zd hy1) fun _ HT => ?_
     exact ZE hG (by kernel_rfl) (nd406 _ _ (HT.sb) (Eh.pk [1]))
    ·
     rintro _ rfl
     refine m_a 1 8 4 (zh z2) Ez Eh rfl (by simp [zd hx2, zd hy2, zd Eb, zd ht2, zu, zv]) (zd Eb) fun _ HU => ?_
     exact ZE hG (by kernel_rfl) (nd424 _ _ (HU.sb) (Eh.pk [0, 1]))
    rintro _ rfl
    refine m_a 1 4 4 (zh y2) Ez Eh rfl (by simp [zd hx2, zd hy2, zd Eb, zd ht2, zu, zv]) (zd hy2) fun _ HV => ?_
    exact ZE hG (by kernel_rfl) (nd433 _ _ (HV.sb) (Eh.pk [0, 1]))
   refine ZT hG ?_
   have HW := ad.fx (t := 16) (congrArg Value.bool Ek)
   refine q_a [12,14,17,19] [] 9 HW fun _ Er => YS [13, 15, 18, 20] (by kernel_rfl) rfl ?_
   refine ⟨?_, ?_, ?_, ?_, trivial⟩
   ·
    rintro _ rfl
    refine m_a 0 4 4 (zh y1) Er Ei rfl (by simp [zd hx1, zd hy1, zd Ea, zd ht1, zu, zv]) (zd hy1) fun _ HX => ?_
    exact ZE hG (by kernel_rfl) (nd442 _ _ (HX.sb) (Ei.pk [0, 1]))
   ·
    rintro _ rfl
    refine m_a 1 8 4 (zh z2) Er Ei rfl (by simp [zd hx2, zd hy2, zd Eb, zd ht2, zu, zv]) (zd Eb) fun _ HY => ?_
    exact ZE hG (by kernel_rfl) (nd453 _ _ (HY.sb) (Ei.pk [0, 1]))
   ·
    rintro _ rfl
    refine m_a 1 4 4 (zh y2) Er Ei rfl (by simp [zd hx2, zd hy2, zd Eb, zd ht2, zu, zv]) (zd hy2) fun _ HZ => ?_
    exact ZE hG (by kernel_rfl) (nd464 _ _ (HZ.sb) (Ei.pk [0, 1]))
   rintro _ rfl
   refine m_a 0 8 4 (zh z1) Er Ei rfl (by simp [zd hx1, zd hy1, zd Ea, zd ht1, zu, zv]) (zd Ea) fun _ H0 => ?_
   exact ZE hG (by kernel_rfl) (nd475 _ _ (H0.sb) (Ei.pk [0, 1]))
  rintro _ _ ⟨H1, H2⟩
  refine ze <| wp_ret <| Qh (t := 4) (v := .bool ((nd (zq 1 (nv y1) (nv z2))) == (nd (zq 1 (nv y2) (nv z1))))) H1 (by kernel_rfl) (by kernel_rfl) ?_
  exact ⟨by simp only [sameN, Ek, Qd, QC, JT, YL], H2.pk []⟩
 have hb13p : ¬ ((nd (zq 1 (nv x1) (nv z2))) = (nd (zq 1 (nv x2) (nv z1)))) := ne_of_beq_false Ek
 refine r_c (fun ac wo => Env ac 29 [(4, .bool false)] ∧ Ev w [] wo []) ?_ ?_
 ·
  refine s_g0 [(2, pt Ec), (3, pt Ed), (4, .bool false)] [0,1,2,3,4,5,6,7,8,9,10,11] [(5, pt Ec), (6, .agg (zg (zh x1))), (7, .pointer (some ⟨Ed, 8, none⟩)), (8, .agg (zg (zh z2))), (9, .agg (zg (zh (nd (zq 1 (nv x1) (nv z2)))))), (10, pt Ed), (11, .agg (zg (zh x2))), (12, .pointer (some ⟨Ec, 8, none⟩)), (13, .agg (zg (zh z1))), (14, .agg (zg (zh (nd (zq 1 (nv x2) (nv z1)))))), (15, .bool ((nd (zq 1 (nv x1) (nv z2))) == (nd (zq 1 (nv x2) (nv z1))))), (16, .bool ((nd (zq 1 (nv x1) (nv z2))) == (nd (zq 1 (nv x2) (nv z1)))))] 13 [(2, pt Ec), (3, pt Ed), (4, .bool false), (16, .bool ((nd (zq 1 (nv x1) (nv z2))) == (nd (zq 1 (nv x2) (nv z1)))))] (EN.sb) (EA.trans (zS EA.heap)) ?_ fun _ _ H3 H4 => ?_
  ·
   refine s_p [] <| s_a 0 0 4 (zh x1) rfl (by simp [zd hx1, zd hy1, zd Ea, zd ht1, zu, zv]) (zd hx1) <| s_p [] <| s_a 1 8 4 (zh z2) rfl (by simp [zd hx2, zd hy2, zd Eb, zd ht2, zu, zv]) (zd Eb) <| s_f (fun _ => emul_go _ x1 z2 hx1 Eb) ?_
   refine s_p [] <| s_a 1 0 4 (zh x2) rfl (by simp [zd hx2, zd hy2, zd Eb, zd ht2, zu, zv]) (zd hx2) <| s_p [] <| s_a 0 8 4 (zh z1) rfl (by simp [zd hx1, zd hy1, zd Ea, zd ht1, zu, zv]) (zd Ea) <| s_f (fun _ => emul_go _ x2 z1 hx2 Ea) ?_
   refine s_c (fun Mx539 _ _ H5 H6 => ?_) ?_
   ·
    refine q_v (x := Xc .eql 33 (.tmp 9) (.tmp 14) (.agg (zg (zh (nd (zq 1 (nv x1) (nv z2)))))) (.agg (zg (zh (nd (zq 1 (nv x2) (nv z1))))))) (v := .bool ((nd (zq 1 (nv x1) (nv z2))) == (nd (zq 1 (nv x2) (nv z1))))) H5 (Z0 (a := (.tmp 9)) (b := (.tmp 14)) (e := 31) (m := 4) (by kernel_rfl) (by kernel_rfl) (by kernel_rfl) (by kernel_rfl) (by kernel_rfl) (zl _ _) (zl _ _) _) fun _ H7 => ?_
    exact s_e H7 H6
   refine s_p [] ?_
   exact s_n
  have H8 := H3.fx (t := 16) (congrArg Value.bool Ek)
  refine q_a [12,13,14,15,16,17,18,19,20,21,22,23,24] [] 0 H8 fun _ H9 => ?_
  exact a_e ⟨H9.sb, H4.pk []⟩
 rintro _ _ ⟨aa, ab⟩
 refine ze <| wp_ret <| Qh (t := 4) (v := .bool false) aa (by kernel_rfl) (by kernel_rfl) ?_
 exact ⟨by simp only [sameN, Ek, Qd, QC, JT, YL], ab.pk []⟩
theorem same16_go (w : World) (p q : L4) (hp : p.length = 16) (hq : q.length = 16) : Calls zB 32 #[.agg (zg (zh p)), .agg (zg (zh q))] w fun e w' => e = .returned (.bool (sameN (k1 p) (k2 p) (k3 p) (k1 q) (k2 q) (k3 q))) ∧ Ev w [] w' [] := by
  have h := same_go w (p.take 4) ((p.drop 4).take 4) ((p.drop 8).take 4) (p.drop 12) (q.take 4) ((q.drop 4).take 4) ((q.drop 8).take 4) (q.drop 12) (by simp [hp]) (by simp [hp]) (by simp [hp]) (by simp [hp]) (by simp [hq]) (by simp [hq]) (by simp [hq]) (by simp [hq])
  rw [cut16, cut16] at h
  exact h
theorem odd_of (a : Nat) : zj (za (nd a) 0 0 &&& 1) <<< zQ 7 = zQ (a % 2) <<< 7 := by
  congr 1
  apply UInt8.toNat_inj.1
  have e : za (nd a) 0 0 = zb a := rfl
  rw [e, UInt64.toNat_toUInt8, Ys, show (1 : UInt64).toNat = 1 from rfl, Nat.and_one_is_mod, ofNat_val, UInt8.toNat_ofNat']
  omega
theorem bytes_go (w : World) (x1 y1 z1 t1 : List UInt64) (hx1 : zc x1 = 4) (hy1 : zc y1 = 4) (Eh : zc z1 = 4) (ht1 : zc t1 = 4) : Calls zB 15 #[.agg (zg ((zh x1) ++ ((zh y1) ++ ((zh z1) ++ (zh t1)))))] w fun e w' => e = .returned (.agg (zg (bys (outN (zq 1 (nv x1) (ivE (nv z1))) (zq 1 (nv y1) (ivE (nv z1))))))) ∧ Ev w [] w' [] := by
 refine d_0 [(0, .agg (zg ((zh x1) ++ ((zh y1) ++ ((zh z1) ++ (zh t1))))))] 26 Tryz.func15 Tryz.ntmps15 (Heap.nil _) fun ES ET EU => wp_seq <| zk <| f_o <| m_m 37 ((zh x1) ++ ((zh y1) ++ ((zh z1) ++ (zh t1)))) ET EU fun _ _ Ee EV EW => f_o <| m_z 22 (bys (zf 32 0)) EV EW fun _ _ Ef EX Ei => f_e <| ze <| wp_seq <| zk <| d_k [1,2,5] [] 1 EX fun _ Er => f_o <| m_a 0 8 4 (zh z1) Er Ei rfl (by simp [zd hx1, zd hy1, zd Eh, zd ht1, zu, zv]) (zd Eh) fun _ Es => f_o <| c_p Es Ei (Kc _ 1 h1f hM1 z1 Eh) fun _ _ Et Eu => ?_
 refine f_o <| m_z 33 (zh (zf 4 0)) Et Eu fun _ _ Eb Ew Ex => f_o <| zZ 2 4 (zh (nd (zU 1 (nv z1) (mF 1 - 2)))) _ Ew Ex rfl (zd (zl _ _)) (zd (zi)) (zw _) rfl fun _ _ Ey Eg => f_e <| ze <| wp_seq <| zk <| d_k [1,2,3,8] [] 1 Ey fun _ Ez => f_o <| m_a 0 4 4 (zh y1) Ez Eg rfl (by simp [zd hx1, zd hy1, zd Eh, zd ht1, zu, zv]) (zd hy1) fun _ EA => f_o <| Zn 2 4 (zh (nd (zU 1 (nv z1) (mF 1 - 2)))) EA Eg rfl (zd (zl _ _)) fun _ EB => f_o <| c_p EB Eg (emul_go _ y1 (nd (zU 1 (nv z1) (mF 1 - 2))) hy1 (zl _ _)) fun _ _ EC ED => ?_
 refine f_o <| c_p EC ED (tole_go _ (nd (zq 1 (nv y1) (nv (nd (zU 1 (nv z1) (mF 1 - 2)))))) (zl _ _)) fun _ _ EE EF => f_o <| m_z 22 (bys (zf 32 0)) EE EF fun _ _ Ea EG EH => f_o <| zZ 3 32 (bys (lb 32 (nv (nd (zq 1 (nv y1) (nv (nd (zU 1 (nv z1) (mF 1 - 2))))))))) [.box Ee ((zh x1) ++ ((zh y1) ++ ((zh z1) ++ (zh t1)))) 37, .box Ef (bys (zf 32 0)) 22, .box Eb (zh (nd (zU 1 (nv z1) (mF 1 - 2)))) 33, .box Ea (bys (lb 32 (nv (nd (zq 1 (nv y1) (nv (nd (zU 1 (nv z1) (mF 1 - 2))))))))) 22] EG EH rfl (z7 (Zj _ _)) (z7 (zi)) (bys_one _) rfl fun _ _ EI Ej => ?_
 refine f_e <| ze <| wp_seq <| r_c (fun ac wo => Env ac 26 [(1, pt Ee), (2, pt Ef), (3, pt Eb), (4, pt Ea)] ∧ Ev w [] wo [.box Ee ((zh x1) ++ ((zh y1) ++ ((zh z1) ++ (zh t1)))) 37, .box Ef (bys (zf 32 0)) 22, .box Eb (zh (nd (zU 1 (nv z1) (mF 1 - 2)))) 33, .box Ea (bys (zp (lb 32 (nv (nd (zq 1 (nv y1) (nv (nd (zU 1 (nv z1) (mF 1 - 2)))))))) 31 ((za (lb 32 (nv (nd (zq 1 (nv y1) (nv (nd (zU 1 (nv z1) (mF 1 - 2)))))))) 31 0) ||| ((zj ((za (nd (zq 1 (nv x1) (nv (nd (zU 1 (nv z1) (mF 1 - 2)))))) 0 0) &&& (1 : UInt64))) <<< zQ 7)))) 22]) ?_ ?_
 ·
  refine s_g0 [(1, pt Ee), (2, pt Ef), (3, pt Eb), (4, pt Ea)] [0,1,2,3,4,5,6,7,8,9,10,11] [(13, .pointer (some ⟨Ea, 31, none⟩)), (14, bv (za (lb 32 (nv (nd (zq 1 (nv y1) (nv (nd (zU 1 (nv z1) (mF 1 - 2)))))))) 31 0)), (15, pt Ee), (16, .agg (zg (zh x1))), (17, .agg (zg (zh (nd (zU 1 (nv z1) (mF 1 - 2)))))), (18, .agg (zg (zh (nd (zq 1 (nv x1) (nv (nd (zU 1 (nv z1) (mF 1 - 2))))))))), (19, zn (za (nd (zq 1 (nv x1) (nv (nd (zU 1 (nv z1) (mF 1 - 2)))))) 0 0)), (20, zn ((za (nd (zq 1 (nv x1) (nv (nd (zU 1 (nv z1) (mF 1 - 2)))))) 0 0) &&& (1 : UInt64))), (21, bv (zj ((za (nd (zq 1 (nv x1) (nv (nd (zU 1 (nv z1) (mF 1 - 2)))))) 0 0) &&& (1 : UInt64)))), (22, bv ((zj ((za (nd (zq 1 (nv x1) (nv (nd (zU 1 (nv z1) (mF 1 - 2)))))) 0 0) &&& (1 : UInt64))) <<< zQ 7)), (23, bv ((za (lb 32 (nv (nd (zq 1 (nv y1) (nv (nd (zU 1 (nv z1) (mF 1 - 2)))))))) 31 0) ||| ((zj ((za (nd (zq 1 (nv x1) (nv (nd (zU 1 (nv z1) (mF 1 - 2)))))) 0 0) &&& (1 : UInt64))) <<< zQ 7))), (24, .pointer (some ⟨Ea, 31, none⟩))] 1 [(1, pt Ee), (2, pt Ef), (3, pt Eb), (4, pt Ea), (23, bv ((za (lb 32 (nv (nd (zq 1 (nv y1) (nv (nd (zU 1 (nv z1) (mF 1 - 2)))))))) 31 0) ||| ((zj ((za (nd (zq 1 (nv x1) (nv (nd (zU 1 (nv z1) (mF 1 - 2)))))) 0 0) &&& (1 : UInt64))) <<< zQ 7))), (24, .pointer (some ⟨Ea, 31, none⟩))] (EI.sb) (Ej.trans (zS Ej.heap)) ?_ fun _ _ EJ EK => ?_
  ·
   refine s_p [] ?_
   refine s_c (fun Mx60 _ _ EL Ek => ?_) ?_
   ·
    have EM : 31 < zc (lb 32 (nv (nd (zq 1 (nv y1) (nv (nd (zU 1 (nv z1) (mF 1 - 2)))))))) := by rw [(Zj _ _)]; omega
    refine m_v 3 31 (bv (za (lb 32 (nv (nd (zq 1 (nv y1) (nv (nd (zU 1 (nv z1) (mF 1 - 2)))))))) 31 0)) EL Ek rfl (Qr EM) fun _ EN => ?_
    exact s_e EN Ek
   refine s_p [] <| s_a 0 0 4 (zh x1) rfl (by simp [zd hx1, zd hy1, zd Eh, zd ht1, zu, zv]) (zd hx1) <| s_a 2 0 4 (zh (nd (zU 1 (nv z1) (mF 1 - 2)))) rfl (zr (zd (zl _ _))) (zd (zl _ _)) <| s_f (fun _ => emul_go _ x1 (nd (zU 1 (nv z1) (mF 1 - 2))) hx1 (zl _ _)) ?_
   have EO : 0 < zc (nd (zq 1 (nv x1) (nv (nd (zU 1 (nv z1) (mF 1 - 2)))))) := by rw [(zl _ _)]; omega
   refine s_c (fun Mx88 _ _ EP EQ => ?_) ?_
   ·
    refine q_v (x := Instr.index 33 (.agg (zg (zh (nd (zq 1 (nv x1) (nv (nd (zU 1 (nv z1) (mF 1 - 2))))))))) (.int .i64 0)) (v := zn (za (nd (zq 1 (nv x1) (nv (nd (zU 1 (nv z1) (mF 1 - 2)))))) 0 0)) EP (Go.Dbr.run_indexval (e := 31) (m := 4) (cs := zh (nd (zq 1 (nv x1) (nv (nd (zU 1 (nv z1) (mF 1 - 2))))))) (j := 0) (v := zn (za (nd (zq 1 (nv x1) (nv (nd (zU 1 (nv z1) (mF 1 - 2)))))) 0 0)) (by kernel_rfl) (by kernel_rfl) (by kernel_rfl) (by omega) (by omega) (zC EO) _) fun _ ER => ?_
    exact s_e ER EQ
   refine s_p [(7, g_i .u64 (Zp (x := za (nd (zq 1 (nv x1) (nv (nd (zU 1 (nv z1) (mF 1 - 2)))))) 0 0) (y := (1 : UInt64)) rfl rfl))] <| s_p [(8, g_i .u8 (Go.Dbr.u64_to_u8 (x := (za (nd (zq 1 (nv x1) (nv (nd (zU 1 (nv z1) (mF 1 - 2)))))) 0 0) &&& (1 : UInt64)) rfl))] <| s_p [(9, g_i .u8 (Go.Dbr.u8_shl (x := zj ((za (nd (zq 1 (nv x1) (nv (nd (zU 1 (nv z1) (mF 1 - 2)))))) 0 0) &&& (1 : UInt64))) (n := 7) rfl (by decide)))] <| s_p [(10, g_i .u8 (Go.Dbr.u8_or (x := za (lb 32 (nv (nd (zq 1 (nv y1) (nv (nd (zU 1 (nv z1) (mF 1 - 2)))))))) 31 0) (y := (zj ((za (nd (zq 1 (nv x1) (nv (nd (zU 1 (nv z1) (mF 1 - 2)))))) 0 0) &&& (1 : UInt64))) <<< zQ 7) rfl rfl))] <| s_p [] ?_
   exact s_n
  refine q_u 12 ?_
  have El : 31 < zc (lb 32 (nv (nd (zq 1 (nv y1) (nv (nd (zU 1 (nv z1) (mF 1 - 2)))))))) := by rw [(Zj _ _)]; omega
  refine m_t 3 31 (bv ((za (lb 32 (nv (nd (zq 1 (nv y1) (nv (nd (zU 1 (nv z1) (mF 1 - 2)))))))) 31 0) ||| ((zj ((za (nd (zq 1 (nv x1) (nv (nd (zU 1 (nv z1) (mF 1 - 2)))))) 0 0) &&& (1 : UInt64))) <<< zQ 7))) _ EJ EK rfl (Qr El) (bys_set _ _ _) rfl fun _ _ Em En => ?_
  exact a_e ⟨Em.sb, En.pk [0, 1, 2, 3]⟩
 rintro _ _ ⟨Eo, Ec⟩
 refine ze <| wp_seq <| zk <| f_o <| Zn 3 32 (bys (zp (lb 32 (nv (nd (zq 1 (nv y1) (nv (nd (zU 1 (nv z1) (mF 1 - 2)))))))) 31 ((za (lb 32 (nv (nd (zq 1 (nv y1) (nv (nd (zU 1 (nv z1) (mF 1 - 2)))))))) 31 0) ||| ((zj ((za (nd (zq 1 (nv x1) (nv (nd (zU 1 (nv z1) (mF 1 - 2)))))) 0 0) &&& (1 : UInt64))) <<< zQ 7)))) Eo Ec rfl (z7 (List.length_set.trans (Zj _ _))) fun _ Ep => f_o <| zZ 1 32 (bys (zp (lb 32 (nv (nd (zq 1 (nv y1) (nv (nd (zU 1 (nv z1) (mF 1 - 2)))))))) 31 ((za (lb 32 (nv (nd (zq 1 (nv y1) (nv (nd (zU 1 (nv z1) (mF 1 - 2)))))))) 31 0) ||| ((zj ((za (nd (zq 1 (nv x1) (nv (nd (zU 1 (nv z1) (mF 1 - 2)))))) 0 0) &&& (1 : UInt64))) <<< zQ 7)))) [.box Ee ((zh x1) ++ ((zh y1) ++ ((zh z1) ++ (zh t1)))) 37, .box Ef (bys (zp (lb 32 (nv (nd (zq 1 (nv y1) (nv (nd (zU 1 (nv z1) (mF 1 - 2)))))))) 31 ((za (lb 32 (nv (nd (zq 1 (nv y1) (nv (nd (zU 1 (nv z1) (mF 1 - 2)))))))) 31 0) ||| ((zj ((za (nd (zq 1 (nv x1) (nv (nd (zU 1 (nv z1) (mF 1 - 2)))))) 0 0) &&& (1 : UInt64))) <<< zQ 7)))) 22, .box Eb (zh (nd (zU 1 (nv z1) (mF 1 - 2)))) 33, .box Ea (bys (zp (lb 32 (nv (nd (zq 1 (nv y1) (nv (nd (zU 1 (nv z1) (mF 1 - 2)))))))) 31 ((za (lb 32 (nv (nd (zq 1 (nv y1) (nv (nd (zU 1 (nv z1) (mF 1 - 2)))))))) 31 0) ||| ((zj ((za (nd (zq 1 (nv x1) (nv (nd (zU 1 (nv z1) (mF 1 - 2)))))) 0 0) &&& (1 : UInt64))) <<< zQ 7)))) 22] Ep Ec rfl (z7 (List.length_set.trans (Zj _ _))) (z7 (zi)) (bys_one _) rfl fun _ _ Eq Ed => f_e <| ze <| wp_ret <| Zf (v := .agg (zg (bys (zp (lb 32 (nv (nd (zq 1 (nv y1) (nv (nd (zU 1 (nv z1) (mF 1 - 2)))))))) 31 ((za (lb 32 (nv (nd (zq 1 (nv y1) (nv (nd (zU 1 (nv z1) (mF 1 - 2)))))))) 31 0) ||| ((zj ((za (nd (zq 1 (nv x1) (nv (nd (zU 1 (nv z1) (mF 1 - 2)))))) 0 0) &&& (1 : UInt64))) <<< zQ 7)))))) (t := 2) (T := 22) (ad := ⟨Ef, 0, none⟩) Eq (by kernel_rfl) (by kernel_rfl) (zF (t := 22) (k := 1) (off := 0) (m := 32) (xs := bys (zp (lb 32 (nv (nd (zq 1 (nv y1) (nv (nd (zU 1 (nv z1) (mF 1 - 2)))))))) 31 ((za (lb 32 (nv (nd (zq 1 (nv y1) (nv (nd (zU 1 (nv z1) (mF 1 - 2)))))))) 31 0) ||| ((zj ((za (nd (zq 1 (nv x1) (nv (nd (zU 1 (nv z1) (mF 1 - 2)))))) 0 0) &&& (1 : UInt64))) <<< zQ 7)))) Ed rfl (zr (z7 (List.length_set.trans (Zj _ _)))) (z7 (List.length_set.trans (Zj _ _))) (by kernel_rfl) (by kernel_rfl)) ?_
 have e0 : zp (lb 32 (nv (nd (zq 1 (nv y1) (nv (nd (zU 1 (nv z1) (mF 1 - 2)))))))) 31 ((za (lb 32 (nv (nd (zq 1 (nv y1) (nv (nd (zU 1 (nv z1) (mF 1 - 2)))))))) 31 0) ||| ((zj ((za (nd (zq 1 (nv x1) (nv (nd (zU 1 (nv z1) (mF 1 - 2)))))) 0 0) &&& (1 : UInt64))) <<< zQ 7)) = outN (zq 1 (nv x1) (ivE (nv z1))) (zq 1 (nv y1) (ivE (nv z1))) := by
  simp only [nv_m1, nv_iv, odd_of, outN]
 exact ⟨congrArg (fun l : List UInt8 => Ending.returned (Value.agg (bys l).toArray)) e0, Ed.pk []⟩
theorem bytes16_go (w : World) (p : L4) (hp : p.length = 16) : Calls zB 15 #[.agg (zg (zh p))] w fun e w' => e = .returned (.agg (zg (bys (outN (zq 1 (k1 p) (ivE (k3 p))) (zq 1 (k2 p) (ivE (k3 p))))))) ∧ Ev w [] w' [] := by
  have h := bytes_go w (p.take 4) ((p.drop 4).take 4) ((p.drop 8).take 4) (p.drop 12) (by simp [hp]) (by simp [hp]) (by simp [hp]) (by simp [hp]) 
  rw [cut16] at h
  exact h
theorem yE_lt {b : List UInt8} (hb : b.length = 32) : yE b < zY := by
  have := lv_lt (clr b)
  rw [clr_len hb] at this
  exact this
theorem nv_y {b : List UInt8} (hb : b.length = 32) : nv (nd (yE b)) = yE b := QI (yE_lt hb)
theorem one1 : nv [1, 0, 0, 0] = 1 := rfl
theorem d_half : nd (zq 1 (nv (nd D2N)) (nv (nd (zU 1 (nv [2, 0, 0, 0]) (mF 1 - 2))))) = nd DN := by
  rw [nv_iv, nv_d2, show nv [2, 0, 0, 0] = 2 from rfl, ivE_pw]
  exact congrArg nd (by decide +kernel)
theorem tA_txt {y : Nat} (hy : nv (nd y) = y) : nd (zq 1 (nv (nd (z8 1 (nv (nd (zq 1 (nv (nd y)) (nv (nd y))))) (nv [1, 0, 0, 0])))) (nv (nd (zU 1 (nv (nd (Zs 1 (nv (nd (zq 1 (nv (nd DN)) (nv (nd (zq 1 (nv (nd y)) (nv (nd y)))))))) (nv [1, 0, 0, 0])))) (mF 1 - 2))))) = nd (tA y) := by
  rw [nv_iv, nv_a1, nv_m1, nv_s1, nv_m1, nv_dn, hy, one1, tA]
theorem nv_tA (y : Nat) : nv (nd (tA y)) = tA y := nvE (tA_lt y)
theorem rE_txt (y : Nat) : nd (YK 1 (nv (nd (tA y)))) = nd (rE y) := by rw [nv_tA, rE]
theorem rE_nv (y : Nat) : nv (nd (rE y)) = rE y := nvE (rE_lt y)
theorem rE_0 (y : Nat) : (nd (rE y) == zf 4 0) = decide (rE y = 0) := by
  by_cases h : rE y = 0
  · rw [decide_eq_true h, h]; rfl
  · rw [decide_eq_false h]
    refine beq_false_of_ne fun g => h ?_
    have := congrArg nv g
    rwa [rE_nv] at this
theorem od_dec : ∀ n : Fin 256, ((((zQ n.val >>> zQ 7).toNat : Nat) : Int) = 1) ↔ 128 ≤ n.val := by decide +kernel
theorem od_1 (b : List UInt8) : ((((za b 31 0 >>> zQ 7).toNat : Nat) : Int) = 1) ↔ odE b = true := by
  have h := od_dec ⟨(za b 31 0).toNat, UInt8.toNat_lt _⟩
  simp only [UInt8.ofNat_toNat] at h
  rw [odE, decide_eq_true_eq]
  exact h
def toL (b : List UInt8) : L4 := bif isE b then ptL (yE b) (odE b) else zf 16 0
theorem toL_len (b : List UInt8) : (toL b).length = 16 := by
  unfold toL
  cases isE b with
  | true => exact Xq _ _
  | false => rfl
theorem no_1 {b : List UInt8} (h : ¬ yE b < mF 1) : isE b = false := by rw [isE, decide_eq_false h, QC]
theorem no_2 {b : List UInt8} (h : Ye 1 (tA (yE b)) = false) : isE b = false := by rw [isE, JD, h, QC, YL]
theorem no_3 {b : List UInt8} (h : odE b = true) (h2 : nd (rE (yE b)) = zf 4 0) : isE b = false := by
  have := rE_0 (yE b)
  rw [h2] at this
  rw [isE, JD, h, ← this]
  simp
theorem is_yes {b : List UInt8} (h : yE b < mF 1) (h1 : Ye 1 (tA (yE b)) = true) (h2 : odE b = true → ¬ nd (rE (yE b)) = zf 4 0) : isE b = true := by
  rw [isE, JD, decide_eq_true h, h1, Qd, Qd]
  cases g : odE b with
  | false => rfl
  | true =>
    rw [Qd, ← rE_0, beq_false_of_ne (h2 g)]
    rfl
theorem to_no {b : List UInt8} (h : isE b = false) : zf 16 0 = toL b := by rw [toL, h]; rfl
theorem to_yes {b : List UInt8} (h : isE b = true) : ptL (yE b) (odE b) = toL b := by rw [toL, h]; rfl
theorem ret_to {a b : L4} {s t : Bool} (h1 : a = b) (h2 : s = t) : Ending.returned (.tuple #[.agg (zg (zh a)), .bool s]) = Ending.returned (.tuple #[.agg (zg (zh b)), .bool t]) := by rw [h1, h2]
theorem pt_even {b : List UInt8} (hb : b.length = 32) (h : odE b = false) : nd (rE (yE b)) ++ (nd (yE b) ++ ([1, 0, 0, 0] ++ nd (zq 1 (nv (nd (rE (yE b)))) (nv (nd (yE b)))))) = ptL (yE b) (odE b) := by
  rw [rE_nv, nv_y hb, ptL, h, xE_f, l4]
  rfl
theorem pt_odd {b : List UInt8} (hb : b.length = 32) (h : odE b = true) : nd (z8 1 0 (nv (nd (rE (yE b))))) ++ (nd (yE b) ++ ([1, 0, 0, 0] ++ nd (zq 1 (nv (nd (z8 1 0 (nv (nd (rE (yE b))))))) (nv (nd (yE b)))))) = ptL (yE b) (odE b) := by
  rw [rE_nv, nv_s1, nv_y hb, ptL, h, xE_t, l4]
  rfl
theorem root_tA (w : World) {a : List UInt64} {y : Nat} (h : a = nd (tA y)) : Calls zB 67 #[.int .i64 1, .agg (zg (zh a))] w fun e w' => e = .returned (.tuple #[.agg (zg (zh (nd (rE y)))), .bool (Ye 1 (tA y))]) ∧ Ev w [] w' [] := by
  subst h
  have h := root1_go w (nd (tA y)) (ndl _)
  rw [rE_txt, nv_tA] at h
  exact h
theorem rroot_tA (w : World) {a : List UInt64} {y : Nat} (h : a = nd (tA y)) : Calls zB 80 #[.int .i64 1, .agg (zg (zh a))] w fun e w' => e = .returned (.tuple #[.agg (zg (zh (nd (rE y)))), .bool (Ye 1 (tA y))]) ∧ Ev w [] w' [] := by
  subst h
  have h := rroot1_go w (nd (tA y)) (ndl _)
  rw [rE_txt, nv_tA] at h
  exact h
theorem told_go (w : World) (b : List UInt8) (hb : zc b = 32) : Calls zB 29 #[.agg (zg (bys b))] w fun e w' => e = .returned (.tuple #[.agg (zg (zh (toL b))), .bool (isE b)]) ∧ Ev w [] w' [] := by
 refine d_0 [(0, .agg (zg (bys b)))] 67 Tryz.func29 Tryz.ntmps29 (Heap.nil _) fun cu cv cw => wp_seq <| zk <| f_o <| m_m 22 (bys b) cv cw fun _ _ Ef cx cy => f_o <| m_z 37 ((zh (zf 4 0)) ++ ((zh (zf 4 0)) ++ ((zh (zf 4 0)) ++ (zh (zf 4 0))))) cx cy fun _ _ Ee cz HC => d_e [1,2,3] [] cz fun _ bX => ze <| wp_seq <| zk <| d_k [1,2,3,10] [] 1 bX fun _ bY => f_o ?_
 have bZ : 31 < zc b := by rw [hb]; omega
 refine m_v 0 31 (bv (za b 31 0)) bY HC rfl (Qr bZ) fun _ b0 => d_e [1,2,3,4] [(2, g_i .u8 (Go.Dbr.u8_shr (x := za b 31 0) (n := 7) rfl (by decide)))] b0 fun _ b1 => ze <| wp_seq <| zk <| d_k [1,2,3,4,13] [] 1 b1 fun _ b2 => f_o ?_
 have b3 : 31 < zc b := by rw [hb]; omega
 refine m_v 0 31 (bv (za b 31 0)) b2 HC rfl (Qr b3) fun _ b4 => d_k [1,2,3,4,15,16] [(2, g_i .u8 (Xu (x := za b 31 0) (y := (127 : UInt8)) rfl rfl))] 4 b4 fun _ b5 => f_o ?_
 have b6 : 31 < zc b := by rw [hb]; omega
 refine m_t 0 31 (bv ((za b 31 0) &&& (127 : UInt8))) _ b5 HC rfl (Qr b6) (bys_set _ _ _) rfl fun _ _ b7 bK => f_e <| ze <| wp_seq <| zk <| f_o <| Zn 0 32 (bys (zp b 31 ((za b 31 0) &&& (127 : UInt8)))) b7 bK rfl (z7 (List.length_set.trans hb)) fun _ b8 => f_o <| c_p b8 bK (fromle_go _ (zp b 31 ((za b 31 0) &&& (127 : UInt8))) (List.length_set.trans hb)) fun _ _ b9 ca => f_o <| m_z 33 (zh (zf 4 0)) b9 ca fun _ _ Ec cb cc => f_o <| zZ 2 4 (zh (nd (lv (zp b 31 ((za b 31 0) &&& (127 : UInt8)))))) [.box Ef (bys (zp b 31 ((za b 31 0) &&& (127 : UInt8)))) 22, .box Ee ((zh (zf 4 0)) ++ ((zh (zf 4 0)) ++ ((zh (zf 4 0)) ++ (zh (zf 4 0))))) 37, .box Ec (zh (nd (lv (zp b 31 ((za b 31 0) &&& (127 : UInt8)))))) 33] cb cc rfl (zd (zl _ _)) (zd (zi)) (zw _) rfl fun _ _ cd HD => f_e <| ze <| wp_seq <| wp_seq ?_
 rw [show (nd (lv (zp b 31 ((za b 31 0) &&& (127 : UInt8))))) = (nd (yE b)) from rfl] at HD
 refine zk <| f_o <| Zn 2 4 (zh (nd (yE b))) cd HD rfl (zd (zl _ _)) fun _ ce => f_o <| c_p ce HD (rightq_go _ 1 (nd (yE b)) (zl _ _)) fun _ _ cf Hy => d_e [1,2,3,4,5,21] [] cf fun _ HE => ?_
 refine ze <| Ym HE (t := !(decide (nv (nd (yE b)) < mF 1))) (by kernel_rfl) (fun El => ?_) (fun El => ?_)
 ·
  replace El : ¬ (nv (nd (yE b)) < mF 1) := by simpa using El
  refine wp_seq <| zk <| d_k [1,2,3,4,5,22] [] 1 HE fun _ cg => f_o <| zZ 1 16 [.int .u64 0, .int .u64 0, .int .u64 0, .int .u64 0, .int .u64 0, .int .u64 0, .int .u64 0, .int .u64 0, .int .u64 0, .int .u64 0, .int .u64 0, .int .u64 0, .int .u64 0, .int .u64 0, .int .u64 0, .int .u64 0] _ cg Hy rfl rfl (zG (zd (zi)) (zG (zd (zi)) (zG (zd (zi)) (zd (zi))))) (YZ (by kernel_rfl)) rfl fun _ _ ch bL => d_e [1,2,3,4,5] [] ch fun _ ci => ze <| wp_ret <| Zx <| Z9 (v := .agg #[.int .u64 0, .int .u64 0, .int .u64 0, .int .u64 0, .int .u64 0, .int .u64 0, .int .u64 0, .int .u64 0, .int .u64 0, .int .u64 0, .int .u64 0, .int .u64 0, .int .u64 0, .int .u64 0, .int .u64 0, .int .u64 0]) (x := .bool false) (t := 2) (T := 37) (ad := ⟨Ee, 0, none⟩) (u := 3) ci (by kernel_rfl) (by kernel_rfl) (zF (t := 37) (k := 1) (off := 0) (m := 16) (xs := [.int .u64 0, .int .u64 0, .int .u64 0, .int .u64 0, .int .u64 0, .int .u64 0, .int .u64 0, .int .u64 0, .int .u64 0, .int .u64 0, .int .u64 0, .int .u64 0, .int .u64 0, .int .u64 0, .int .u64 0, .int .u64 0]) bL rfl rfl rfl (by kernel_rfl) (by kernel_rfl)) (by kernel_rfl) ?_
  have ei : isE b = false := no_1 (by rw [← nv_y hb]; exact El)
  exact ⟨(show _ = Ending.returned (.tuple #[.agg (zg (zh (zf 16 0))), .bool false]) from by kernel_rfl).trans (ret_to (to_no ei) ei.symm), bL.pk []⟩
 replace El : nv (nd (yE b)) < mF 1 := by simpa using El
 refine wp_skip <| ze <| wp_seq <| zk <| f_o <| Zn 2 4 (zh (nd (yE b))) HE Hy rfl (zd (zl _ _)) fun _ cj => f_o <| Zn 2 4 (zh (nd (yE b))) cj Hy rfl (zd (zl _ _)) fun _ ck => f_o <| c_p ck Hy (emul_go _ (nd (yE b)) (nd (yE b)) (zl _ _) (zl _ _)) fun _ _ cl cm => f_o <| m_z 33 (zh (zf 4 0)) cl cm fun _ _ Eb cn co => f_o <| zZ 3 4 (zh (nd (zq 1 (nv (nd (yE b))) (nv (nd (yE b)))))) [.box Ef (bys (zp b 31 ((za b 31 0) &&& (127 : UInt8)))) 22, .box Ee ((zh (zf 4 0)) ++ ((zh (zf 4 0)) ++ ((zh (zf 4 0)) ++ (zh (zf 4 0))))) 37, .box Ec (zh (nd (yE b))) 33, .box Eb (zh (nd (zq 1 (nv (nd (yE b))) (nv (nd (yE b)))))) 33] cn co rfl (zd (zl _ _)) (zd (zi)) (zw _) rfl fun _ _ cp bM => f_e <| ze <| wp_seq ?_
 rw [show (nd (zq 1 (nv (nd (yE b))) (nv (nd (yE b))))) = (nd (zq 1 (nv (nd (yE b))) (nv (nd (yE b))))) from rfl] at bM
 refine zk <| f_o <| c_p cp bM (twiceD_go _) fun _ _ cq cr => d_k [1,2,3,4,5,6,26,27] [] 2 cq fun _ ct => f_o <| c_p ct cr (Kc _ 1 h1f hM1 ([2, 0, 0, 0] : List UInt64) (show zc ([2, 0, 0, 0] : List UInt64) = 4 from rfl)) fun _ _ bN bO => f_o <| c_p bN bO (emul_go _ (nd D2N) (nd (zU 1 (nv ([2, 0, 0, 0] : List UInt64)) (mF 1 - 2))) (zl _ _) (zl _ _)) fun _ _ bP bQ => f_o <| m_z 33 (zh (zf 4 0)) bP bQ fun _ _ Ea bR bS => f_o <| zZ 4 4 (zh (nd (zq 1 (nv (nd D2N)) (nv (nd (zU 1 (nv ([2, 0, 0, 0] : List UInt64)) (mF 1 - 2))))))) _ bR bS rfl (zd (zl _ _)) (zd (zi)) (zw _) rfl fun _ _ bT EJ => ?_
 refine f_e <| ze <| wp_seq ?_
 rw [show (nd (zq 1 (nv (nd D2N)) (nv (nd (zU 1 (nv ([2, 0, 0, 0] : List UInt64)) (mF 1 - 2)))))) = (nd DN) from d_half] at EJ
 refine r_c (fun ac wo => ∃ (Ed : Nat), Env ac 67 [(1, pt Ef), (2, pt Ee), (3, .bool false), (4, bv ((za b 31 0) >>> zQ 7)), (5, pt Ec), (6, pt Eb), (7, pt Ea), (8, pt Ed), (9, .bool (Ye 1 (tA (yE b))))] ∧ Ev w [] wo [.box Ef (bys (zp b 31 ((za b 31 0) &&& (127 : UInt8)))) 22, .box Ee ((zh (zf 4 0)) ++ ((zh (zf 4 0)) ++ ((zh (zf 4 0)) ++ (zh (zf 4 0))))) 37, .box Ec (zh (nd (yE b))) 33, .box Eb (zh (nd (zq 1 (nv (nd (yE b))) (nv (nd (yE b)))))) 33, .box Ea (zh (nd DN)) 33, .box Ed (zh (nd (rE (yE b)))) 33]) ?_ ?_
 ·
  refine h_s (fun wv => Ev w [] wv [.box Eb (zh (nd (zq 1 (nv (nd (yE b))) (nv (nd (yE b)))))) 33, .box Ea (zh (nd DN)) 33]) [] 17 ?_
  have Ei := EJ.trans (zS EJ.heap)
  refine h_name fun G hG => ?_
  have nd987 : ∀ (ac : Act) (wo : World), Env ac 67 [(1, pt Ef), (2, pt Ee), (3, .bool false), (4, bv ((za b 31 0) >>> zQ 7)), (5, pt Ec), (6, pt Eb), (7, pt Ea), (41, .tuple #[.agg (zg (zh (nd (rE (yE b))))), .bool (Ye 1 (tA (yE b)))])] → Ev w [] wo [.box Ef (bys (zp b 31 ((za b 31 0) &&& (127 : UInt8)))) 22, .box Ee ((zh (zf 4 0)) ++ ((zh (zf 4 0)) ++ ((zh (zf 4 0)) ++ (zh (zf 4 0))))) 37, .box Ec (zh (nd (yE b))) 33, .box Eb (zh (nd (zq 1 (nv (nd (yE b))) (nv (nd (yE b)))))) 33, .box Ea (zh (nd DN)) 33] → G 6 #[true, true, true, true, true, true, true, true, true, true, true, false, false, false, false, false, false] ac wo := by
   intro _ _ bU Hz
   refine Zr hG ?_
   refine q_s [11,12,13] [] 3 bU (Hz.pk [3, 4]) fun _ bV => q_t 14 ?_
   refine m_z 33 (zh (zf 4 0)) bV Hz fun _ _ HA bW HB => ⟨fun _ => HB.pk [3, 4], ?_⟩
   refine q_t 15 ?_
   refine zZ 5 4 (zh (nd (rE (yE b)))) [.box Ef (bys (zp b 31 ((za b 31 0) &&& (127 : UInt8)))) 22, .box Ee ((zh (zf 4 0)) ++ ((zh (zf 4 0)) ++ ((zh (zf 4 0)) ++ (zh (zf 4 0))))) 37, .box Ec (zh (nd (yE b))) 33, .box Eb (zh (nd (zq 1 (nv (nd (yE b))) (nv (nd (yE b)))))) 33, .box Ea (zh (nd DN)) 33, .box HA (zh (nd (rE (yE b)))) 33] bW HB rfl (zd (zl _ _)) (zd (zi)) (zw _) rfl fun _ _ HF Ep => ⟨fun _ => Ep.pk [3, 4], ?_⟩
   refine q_s [16] [] 0 HF (Ep.pk [3, 4]) fun _ HG => ?_
   exact h_e ⟨HA, HG.sb, Ep.pk [0, 1, 2, 3, 4, 5]⟩
  have nd1005 : ∀ (ac : Act) (wo : World) (EG : Nat), Env ac 67 [(1, pt Ef), (2, pt Ee), (3, .bool false), (4, bv ((za b 31 0) >>> zQ 7)), (5, pt Ec), (6, pt Eb), (7, pt Ea), (8, pt EG), (40, .agg (zg (zh (nd (zq 1 (nv (nd (z8 1 (nv (nd (zq 1 (nv (nd (yE b))) (nv (nd (yE b)))))) (nv ([1, 0, 0, 0] : List UInt64))))) (nv (nd (zU 1 (nv (nd (Zs 1 (nv (nd (zq 1 (nv (nd DN)) (nv (nd (zq 1 (nv (nd (yE b))) (nv (nd (yE b))))))))) (nv ([1, 0, 0, 0] : List UInt64))))) (mF 1 - 2)))))))))] → Ev w [] wo [.box Ef (bys (zp b 31 ((za b 31 0) &&& (127 : UInt8)))) 22, .box Ee ((zh (zf 4 0)) ++ ((zh (zf 4 0)) ++ ((zh (zf 4 0)) ++ (zh (zf 4 0))))) 37, .box Ec (zh (nd (yE b))) 33, .box Eb (zh (nd (zq 1 (nv (nd (yE b))) (nv (nd (yE b)))))) 33, .box Ea (zh (nd DN)) 33, .box EG (zh (zf 4 0)) 33] → G 6 #[true, true, true, true, true, true, true, true, true, true, false, false, false, false, true, false, false] ac wo := by
   intro _ _ EG HH HI
   refine Zr hG ?_
   refine q_t 10 ?_
   refine c_p HH HI (root_tA _ (show (nd (zq 1 (nv (nd (z8 1 (nv (nd (zq 1 (nv (nd (yE b))) (nv (nd (yE b)))))) (nv ([1, 0, 0, 0] : List UInt64))))) (nv (nd (zU 1 (nv (nd (Zs 1 (nv (nd (zq 1 (nv (nd DN)) (nv (nd (zq 1 (nv (nd (yE b))) (nv (nd (yE b))))))))) (nv ([1, 0, 0, 0] : List UInt64))))) (mF 1 - 2)))))) = nd (tA (yE b)) from tA_txt (nv_y hb))) fun _ _ HJ Eq => ⟨fun _ => Eq.pk [3, 4], ?_⟩
   refine q_s [11,12,13] [] 2 HJ (Eq.pk [3, 4]) fun _ HK => q_t 15 ?_
   refine zZ 5 4 (zh (nd (rE (yE b)))) _ HK Eq rfl (zd (zl _ _)) (zd (zi)) (zw _) rfl fun _ _ HL Er => ⟨fun _ => Er.pk [3, 4], ?_⟩
   refine q_s [16] [] 0 HL (Er.pk [3, 4]) fun _ HM => ?_
   exact h_e ⟨EG, HM.sb, Er.pk [0, 1, 2, 3, 4, 5]⟩
  have nd1025 : ∀ (ac : Act) (wo : World), Env ac 67 [(1, pt Ef), (2, pt Ee), (3, .bool false), (4, bv ((za b 31 0) >>> zQ 7)), (5, pt Ec), (6, pt Eb), (7, pt Ea), (40, .agg (zg (zh (nd (zq 1 (nv (nd (z8 1 (nv (nd (zq 1 (nv (nd (yE b))) (nv (nd (yE b)))))) (nv ([1, 0, 0, 0] : List UInt64))))) (nv (nd (zU 1 (nv (nd (Zs 1 (nv (nd (zq 1 (nv (nd DN)) (nv (nd (zq 1 (nv (nd (yE b))) (nv (nd (yE b))))))))) (nv ([1, 0, 0, 0] : List UInt64))))) (mF 1 - 2)))))))))] → Ev w [] wo [.box Ef (bys (zp b 31 ((za b 31 0) &&& (127 : UInt8)))) 22, .box Ee ((zh (zf 4 0)) ++ ((zh (zf 4 0)) ++ ((zh (zf 4 0)) ++ (zh (zf 4 0))))) 37, .box Ec (zh (nd (yE b))) 33, .box Eb (zh (nd (zq 1 (nv (nd (yE b))) (nv (nd (yE b)))))) 33, .box Ea (zh (nd DN)) 33] → G 7 #[true, true, true, true, true, true, true, true, true, true, false, false, false, false, false, false, false] ac wo := by
   intro _ _ EK EL
   refine Zr hG ?_
   refine QA [10, 14] (by kernel_rfl) rfl ?_
   refine ⟨?_, ?_, trivial⟩
   ·
    rintro _ rfl
    refine c_p EK EL (root_tA _ (show (nd (zq 1 (nv (nd (z8 1 (nv (nd (zq 1 (nv (nd (yE b))) (nv (nd (yE b)))))) (nv ([1, 0, 0, 0] : List UInt64))))) (nv (nd (zU 1 (nv (nd (Zs 1 (nv (nd (zq 1 (nv (nd DN)) (nv (nd (zq 1 (nv (nd (yE b))) (nv (nd (yE b))))))))) (nv ([1, 0, 0, 0] : List UInt64))))) (mF 1 - 2)))))) = nd (tA (yE b)) from tA_txt (nv_y hb))) fun _ _ HN EM => ⟨fun _ => EM.pk [3, 4], ?_⟩
    exact QF hG (by kernel_rfl) (nd987 _ _ (HN.sb) (EM.pk [0, 1, 2, 3, 4]))
   rintro _ rfl
   refine m_z 33 (zh (zf 4 0)) EK EL fun _ _ HO HP EN => ⟨fun _ => EN.pk [3, 4], ?_⟩
   exact QF hG (by kernel_rfl) (nd1005 _ _ HO (HP.sb) (EN.pk [0, 1, 2, 3, 4, 5]))
  have nd1042 : ∀ (ac : Act) (wo : World) (Em : Nat), Env ac 67 [(1, pt Ef), (2, pt Ee), (3, .bool false), (4, bv ((za b 31 0) >>> zQ 7)), (5, pt Ec), (6, pt Eb), (7, pt Ea), (8, pt Em), (33, .agg (zg (zh (nd (z8 1 (nv (nd (zq 1 (nv (nd (yE b))) (nv (nd (yE b)))))) (nv ([1, 0, 0, 0] : List UInt64))))))), (39, .agg (zg (zh (nd (zU 1 (nv (nd (Zs 1 (nv (nd (zq 1 (nv (nd DN)) (nv (nd (zq 1 (nv (nd (yE b))) (nv (nd (yE b))))))))) (nv ([1, 0, 0, 0] : List UInt64))))) (mF 1 - 2))))))] → Ev w [] wo [.box Ef (bys (zp b 31 ((za b 31 0) &&& (127 : UInt8)))) 22, .box Ee ((zh (zf 4 0)) ++ ((zh (zf 4 0)) ++ ((zh (zf 4 0)) ++ (zh (zf 4 0))))) 37, .box Ec (zh (nd (yE b))) 33, .box Eb (zh (nd (zq 1 (nv (nd (yE b))) (nv (nd (yE b)))))) 33, .box Ea (zh (nd DN)) 33, .box Em (zh (zf 4 0)) 33] → G 7 #[true, true, true, true, true, true, true, true, true, false, false, false, false, false, true, false, false] ac wo := by
   intro _ _ Em HQ HR
   refine Zr hG ?_
   refine q_t 9 ?_
   refine c_p HQ HR (emul_go _ (nd (z8 1 (nv (nd (zq 1 (nv (nd (yE b))) (nv (nd (yE b)))))) (nv ([1, 0, 0, 0] : List UInt64)))) (nd (zU 1 (nv (nd (Zs 1 (nv (nd (zq 1 (nv (nd DN)) (nv (nd (zq 1 (nv (nd (yE b))) (nv (nd (yE b))))))))) (nv ([1, 0, 0, 0] : List UInt64))))) (mF 1 - 2))) (zl _ _) (zl _ _)) fun _ _ HS EO => ⟨fun _ => EO.pk [3, 4], ?_⟩
   refine q_t 10 ?_
   refine c_p HS EO (root_tA _ (show (nd (zq 1 (nv (nd (z8 1 (nv (nd (zq 1 (nv (nd (yE b))) (nv (nd (yE b)))))) (nv ([1, 0, 0, 0] : List UInt64))))) (nv (nd (zU 1 (nv (nd (Zs 1 (nv (nd (zq 1 (nv (nd DN)) (nv (nd (zq 1 (nv (nd (yE b))) (nv (nd (yE b))))))))) (nv ([1, 0, 0, 0] : List UInt64))))) (mF 1 - 2)))))) = nd (tA (yE b)) from tA_txt (nv_y hb))) fun _ _ HT Es => ⟨fun _ => Es.pk [3, 4], ?_⟩
   refine q_s [11,12,13] [] 2 HT (Es.pk [3, 4]) fun _ HU => q_t 15 ?_
   refine zZ 5 4 (zh (nd (rE (yE b)))) [.box Ef (bys (zp b 31 ((za b 31 0) &&& (127 : UInt8)))) 22, .box Ee ((zh (zf 4 0)) ++ ((zh (zf 4 0)) ++ ((zh (zf 4 0)) ++ (zh (zf 4 0))))) 37, .box Ec (zh (nd (yE b))) 33, .box Eb (zh (nd (zq 1 (nv (nd (yE b))) (nv (nd (yE b)))))) 33, .box Ea (zh (nd DN)) 33, .box Em (zh (nd (rE (yE b)))) 33] HU Es rfl (zd (zl _ _)) (zd (zi)) (zw _) rfl fun _ _ HV Et => ⟨fun _ => Et.pk [3, 4], ?_⟩
   refine q_s [16] [] 0 HV (Et.pk [3, 4]) fun _ HW => ?_
   exact h_e ⟨Em, HW.sb, Et.pk [0, 1, 2, 3, 4, 5]⟩
  have nd1069 : ∀ (ac : Act) (wo : World), Env ac 67 [(1, pt Ef), (2, pt Ee), (3, .bool false), (4, bv ((za b 31 0) >>> zQ 7)), (5, pt Ec), (6, pt Eb), (7, pt Ea), (33, .agg (zg (zh (nd (z8 1 (nv (nd (zq 1 (nv (nd (yE b))) (nv (nd (yE b)))))) (nv ([1, 0, 0, 0] : List UInt64))))))), (39, .agg (zg (zh (nd (zU 1 (nv (nd (Zs 1 (nv (nd (zq 1 (nv (nd DN)) (nv (nd (zq 1 (nv (nd (yE b))) (nv (nd (yE b))))))))) (nv ([1, 0, 0, 0] : List UInt64))))) (mF 1 - 2))))))] → Ev w [] wo [.box Ef (bys (zp b 31 ((za b 31 0) &&& (127 : UInt8)))) 22, .box Ee ((zh (zf 4 0)) ++ ((zh (zf 4 0)) ++ ((zh (zf 4 0)) ++ (zh (zf 4 0))))) 37, .box Ec (zh (nd (yE b))) 33, .box Eb (zh (nd (zq 1 (nv (nd (yE b))) (nv (nd (yE b)))))) 33, .box Ea (zh (nd DN)) 33] → G 8 #[true, true, true, true, true, true, true, true, true, false, false, false, false, false, false, false, false] ac wo := by
   intro _ _ EP EQ
   refine Zr hG ?_
   refine QA [9, 14] (by kernel_rfl) rfl ?_
   refine ⟨?_, ?_, trivial⟩
   ·
    rintro _ rfl
    refine c_p EP EQ (emul_go _ (nd (z8 1 (nv (nd (zq 1 (nv (nd (yE b))) (nv (nd (yE b)))))) (nv ([1, 0, 0, 0] : List UInt64)))) (nd (zU 1 (nv (nd (Zs 1 (nv (nd (zq 1 (nv (nd DN)) (nv (nd (zq 1 (nv (nd (yE b))) (nv (nd (yE b))))))))) (nv ([1, 0, 0, 0] : List UInt64))))) (mF 1 - 2))) (zl _ _) (zl _ _)) fun _ _ HX ER => ⟨fun _ => ER.pk [3, 4], ?_⟩
    exact QF hG (by kernel_rfl) (nd1025 _ _ (HX.sb) (ER.pk [0, 1, 2, 3, 4]))
   rintro _ rfl
   refine m_z 33 (zh (zf 4 0)) EP EQ fun _ _ HY HZ ES => ⟨fun _ => ES.pk [3, 4], ?_⟩
   exact QF hG (by kernel_rfl) (nd1042 _ _ HY (HZ.sb) (ES.pk [0, 1, 2, 3, 4, 5]))
  have nd1086 : ∀ (ac : Act) (wo : World) (EH : Nat), Env ac 67 [(1, pt Ef), (2, pt Ee), (3, .bool false), (4, bv ((za b 31 0) >>> zQ 7)), (5, pt Ec), (6, pt Eb), (7, pt Ea), (8, pt EH), (33, .agg (zg (zh (nd (z8 1 (nv (nd (zq 1 (nv (nd (yE b))) (nv (nd (yE b)))))) (nv ([1, 0, 0, 0] : List UInt64))))))), (38, .agg (zg (zh (nd (Zs 1 (nv (nd (zq 1 (nv (nd DN)) (nv (nd (zq 1 (nv (nd (yE b))) (nv (nd (yE b))))))))) (nv ([1, 0, 0, 0] : List UInt64)))))))] → Ev w [] wo [.box Ef (bys (zp b 31 ((za b 31 0) &&& (127 : UInt8)))) 22, .box Ee ((zh (zf 4 0)) ++ ((zh (zf 4 0)) ++ ((zh (zf 4 0)) ++ (zh (zf 4 0))))) 37, .box Ec (zh (nd (yE b))) 33, .box Eb (zh (nd (zq 1 (nv (nd (yE b))) (nv (nd (yE b)))))) 33, .box Ea (zh (nd DN)) 33, .box EH (zh (zf 4 0)) 33] → G 8 #[true, true, true, true, true, true, true, true, false, false, false, false, false, false, true, false, false] ac wo := by
   intro _ _ EH H0 H1
   refine Zr hG ?_
   refine q_t 8 ?_
   refine c_p H0 H1 (Kc _ 1 h1f hM1 (nd (Zs 1 (nv (nd (zq 1 (nv (nd DN)) (nv (nd (zq 1 (nv (nd (yE b))) (nv (nd (yE b))))))))) (nv ([1, 0, 0, 0] : List UInt64)))) (zl _ _)) fun _ _ H2 ET => ⟨fun _ => ET.pk [3, 4], ?_⟩
   refine q_t 9 ?_
   refine c_p H2 ET (emul_go _ (nd (z8 1 (nv (nd (zq 1 (nv (nd (yE b))) (nv (nd (yE b)))))) (nv ([1, 0, 0, 0] : List UInt64)))) (nd (zU 1 (nv (nd (Zs 1 (nv (nd (zq 1 (nv (nd DN)) (nv (nd (zq 1 (nv (nd (yE b))) (nv (nd (yE b))))))))) (nv ([1, 0, 0, 0] : List UInt64))))) (mF 1 - 2))) (zl _ _) (zl _ _)) fun _ _ H3 EU => ⟨fun _ => EU.pk [3, 4], ?_⟩
   refine q_t 10 ?_
   refine c_p H3 EU (root_tA _ (show (nd (zq 1 (nv (nd (z8 1 (nv (nd (zq 1 (nv (nd (yE b))) (nv (nd (yE b)))))) (nv ([1, 0, 0, 0] : List UInt64))))) (nv (nd (zU 1 (nv (nd (Zs 1 (nv (nd (zq 1 (nv (nd DN)) (nv (nd (zq 1 (nv (nd (yE b))) (nv (nd (yE b))))))))) (nv ([1, 0, 0, 0] : List UInt64))))) (mF 1 - 2)))))) = nd (tA (yE b)) from tA_txt (nv_y hb))) fun _ _ H4 Eu => ⟨fun _ => Eu.pk [3, 4], ?_⟩
   refine q_s [11,12,13] [] 2 H4 (Eu.pk [3, 4]) fun _ H5 => q_t 15 ?_
   refine zZ 5 4 (zh (nd (rE (yE b)))) _ H5 Eu rfl (zd (zl _ _)) (zd (zi)) (zw _) rfl fun _ _ H6 Ew => ⟨fun _ => Ew.pk [3, 4], ?_⟩
   refine q_s [16] [] 0 H6 (Ew.pk [3, 4]) fun _ H7 => ?_
   exact h_e ⟨EH, H7.sb, Ew.pk [0, 1, 2, 3, 4, 5]⟩
  have nd1120 : ∀ (ac : Act) (wo : World), Env ac 67 [(1, pt Ef), (2, pt Ee), (3, .bool false), (4, bv ((za b 31 0) >>> zQ 7)), (5, pt Ec), (6, pt Eb), (7, pt Ea), (33, .agg (zg (zh (nd (z8 1 (nv (nd (zq 1 (nv (nd (yE b))) (nv (nd (yE b)))))) (nv ([1, 0, 0, 0] : List UInt64))))))), (38, .agg (zg (zh (nd (Zs 1 (nv (nd (zq 1 (nv (nd DN)) (nv (nd (zq 1 (nv (nd (yE b))) (nv (nd (yE b))))))))) (nv ([1, 0, 0, 0] : List UInt64)))))))] → Ev w [] wo [.box Ef (bys (zp b 31 ((za b 31 0) &&& (127 : UInt8)))) 22, .box Ee ((zh (zf 4 0)) ++ ((zh (zf 4 0)) ++ ((zh (zf 4 0)) ++ (zh (zf 4 0))))) 37, .box Ec (zh (nd (yE b))) 33, .box Eb (zh (nd (zq 1 (nv (nd (yE b))) (nv (nd (yE b)))))) 33, .box Ea (zh (nd DN)) 33] → G 9 #[true, true, true, true, true, true, true, true, false, false, false, false, false, false, false, false, false] ac wo := by
   intro _ _ EV EW
   refine Zr hG ?_
   refine QA [8, 14] (by kernel_rfl) rfl ?_
   refine ⟨?_, ?_, trivial⟩
   ·
    rintro _ rfl
    refine c_p EV EW (Kc _ 1 h1f hM1 (nd (Zs 1 (nv (nd (zq 1 (nv (nd DN)) (nv (nd (zq 1 (nv (nd (yE b))) (nv (nd (yE b))))))))) (nv ([1, 0, 0, 0] : List UInt64)))) (zl _ _)) fun _ _ H8 EX => ⟨fun _ => EX.pk [3, 4], ?_⟩
    exact QF hG (by kernel_rfl) (nd1069 _ _ (H8.sb) (EX.pk [0, 1, 2, 3, 4]))
   rintro _ rfl
   refine m_z 33 (zh (zf 4 0)) EV EW fun _ _ H9 aa EY => ⟨fun _ => EY.pk [3, 4], ?_⟩
   exact QF hG (by kernel_rfl) (nd1086 _ _ H9 (aa.sb) (EY.pk [0, 1, 2, 3, 4, 5]))
  have nd1137 : ∀ (ac : Act) (wo : World) (En : Nat), Env ac 67 [(1, pt Ef), (2, pt Ee), (3, .bool false), (4, bv ((za b 31 0) >>> zQ 7)), (5, pt Ec), (6, pt Eb), (7, pt Ea), (8, pt En), (33, .agg (zg (zh (nd (z8 1 (nv (nd (zq 1 (nv (nd (yE b))) (nv (nd (yE b)))))) (nv ([1, 0, 0, 0] : List UInt64))))))), (36, .agg (zg (zh (nd (zq 1 (nv (nd DN)) (nv (nd (zq 1 (nv (nd (yE b))) (nv (nd (yE b))))))))))), (37, .agg (zg (zh ([1, 0, 0, 0] : List UInt64))))] → Ev w [] wo [.box Ef (bys (zp b 31 ((za b 31 0) &&& (127 : UInt8)))) 22, .box Ee ((zh (zf 4 0)) ++ ((zh (zf 4 0)) ++ ((zh (zf 4 0)) ++ (zh (zf 4 0))))) 37, .box Ec (zh (nd (yE b))) 33, .box Eb (zh (nd (zq 1 (nv (nd (yE b))) (nv (nd (yE b)))))) 33, .box Ea (zh (nd DN)) 33, .box En (zh (zf 4 0)) 33] → G 9 #[true, true, true, true, true, true, true, false, false, false, false, false, false, false, true, false, false] ac wo := by
   intro _ _ En ab ae
   refine Zr hG ?_
   refine q_t 7 ?_
   refine c_p ab ae (esum_go _ (nd (zq 1 (nv (nd DN)) (nv (nd (zq 1 (nv (nd (yE b))) (nv (nd (yE b)))))))) ([1, 0, 0, 0] : List UInt64) (zl _ _) (show zc ([1, 0, 0, 0] : List UInt64) = 4 from rfl)) fun _ _ af EZ => ⟨fun _ => EZ.pk [3, 4], ?_⟩
   refine q_t 8 ?_
   refine c_p af EZ (Kc _ 1 h1f hM1 (nd (Zs 1 (nv (nd (zq 1 (nv (nd DN)) (nv (nd (zq 1 (nv (nd (yE b))) (nv (nd (yE b))))))))) (nv ([1, 0, 0, 0] : List UInt64)))) (zl _ _)) fun _ _ ag E0 => ⟨fun _ => E0.pk [3, 4], ?_⟩
   refine q_t 9 ?_
   refine c_p ag E0 (emul_go _ (nd (z8 1 (nv (nd (zq 1 (nv (nd (yE b))) (nv (nd (yE b)))))) (nv ([1, 0, 0, 0] : List UInt64)))) (nd (zU 1 (nv (nd (Zs 1 (nv (nd (zq 1 (nv (nd DN)) (nv (nd (zq 1 (nv (nd (yE b))) (nv (nd (yE b))))))))) (nv ([1, 0, 0, 0] : List UInt64))))) (mF 1 - 2))) (zl _ _) (zl _ _)) fun _ _ ah E1 => ⟨fun _ => E1.pk [3, 4], ?_⟩
   refine q_t 10 ?_
   refine c_p ah E1 (root_tA _ (show (nd (zq 1 (nv (nd (z8 1 (nv (nd (zq 1 (nv (nd (yE b))) (nv (nd (yE b)))))) (nv ([1, 0, 0, 0] : List UInt64))))) (nv (nd (zU 1 (nv (nd (Zs 1 (nv (nd (zq 1 (nv (nd DN)) (nv (nd (zq 1 (nv (nd (yE b))) (nv (nd (yE b))))))))) (nv ([1, 0, 0, 0] : List UInt64))))) (mF 1 - 2)))))) = nd (tA (yE b)) from tA_txt (nv_y hb))) fun _ _ ai Ex => ⟨fun _ => Ex.pk [3, 4], ?_⟩
   refine q_s [11,12,13] [] 2 ai (Ex.pk [3, 4]) fun _ aj => q_t 15 ?_
   refine zZ 5 4 (zh (nd (rE (yE b)))) [.box Ef (bys (zp b 31 ((za b 31 0) &&& (127 : UInt8)))) 22, .box Ee ((zh (zf 4 0)) ++ ((zh (zf 4 0)) ++ ((zh (zf 4 0)) ++ (zh (zf 4 0))))) 37, .box Ec (zh (nd (yE b))) 33, .box Eb (zh (nd (zq 1 (nv (nd (yE b))) (nv (nd (yE b)))))) 33, .box Ea (zh (nd DN)) 33, .box En (zh (nd (rE (yE b)))) 33] aj Ex rfl (zd (zl _ _)) (zd (zi)) (zw _) rfl fun _ _ ak Ey => ⟨fun _ => Ey.pk [3, 4], ?_⟩
   refine q_s [16] [] 0 ak (Ey.pk [3, 4]) fun _ al => ?_
   exact h_e ⟨En, al.sb, Ey.pk [0, 1, 2, 3, 4, 5]⟩
  have nd1178 : ∀ (ac : Act) (wo : World), Env ac 67 [(1, pt Ef), (2, pt Ee), (3, .bool false), (4, bv ((za b 31 0) >>> zQ 7)), (5, pt Ec), (6, pt Eb), (7, pt Ea), (33, .agg (zg (zh (nd (z8 1 (nv (nd (zq 1 (nv (nd (yE b))) (nv (nd (yE b)))))) (nv ([1, 0, 0, 0] : List UInt64))))))), (36, .agg (zg (zh (nd (zq 1 (nv (nd DN)) (nv (nd (zq 1 (nv (nd (yE b))) (nv (nd (yE b))))))))))), (37, .agg (zg (zh ([1, 0, 0, 0] : List UInt64))))] → Ev w [] wo [.box Ef (bys (zp b 31 ((za b 31 0) &&& (127 : UInt8)))) 22, .box Ee ((zh (zf 4 0)) ++ ((zh (zf 4 0)) ++ ((zh (zf 4 0)) ++ (zh (zf 4 0))))) 37, .box Ec (zh (nd (yE b))) 33, .box Eb (zh (nd (zq 1 (nv (nd (yE b))) (nv (nd (yE b)))))) 33, .box Ea (zh (nd DN)) 33] → G 10 #[true, true, true, true, true, true, true, false, false, false, false, false, false, false, false, false, false] ac wo := by
   intro _ _ E2 E3
   refine Zr hG ?_
   refine QA [7, 14] (by kernel_rfl) rfl ?_
   refine ⟨?_, ?_, trivial⟩
   ·
    rintro _ rfl
    refine c_p E2 E3 (esum_go _ (nd (zq 1 (nv (nd DN)) (nv (nd (zq 1 (nv (nd (yE b))) (nv (nd (yE b)))))))) ([1, 0, 0, 0] : List UInt64) (zl _ _) (show zc ([1, 0, 0, 0] : List UInt64) = 4 from rfl)) fun _ _ am E4 => ⟨fun _ => E4.pk [3, 4], ?_⟩
    exact QF hG (by kernel_rfl) (nd1120 _ _ (am.sb) (E4.pk [0, 1, 2, 3, 4]))
   rintro _ rfl
   refine m_z 33 (zh (zf 4 0)) E2 E3 fun _ _ an ao E5 => ⟨fun _ => E5.pk [3, 4], ?_⟩
   exact QF hG (by kernel_rfl) (nd1137 _ _ an (ao.sb) (E5.pk [0, 1, 2, 3, 4, 5]))
  have nd1195 : ∀ (ac : Act) (wo : World) (EI : Nat), Env ac 67 [(1, pt Ef), (2, pt Ee), (3, .bool false), (4, bv ((za b 31 0) >>> zQ 7)), (5, pt Ec), (6, pt Eb), (7, pt Ea), (8, pt EI), (33, .agg (zg (zh (nd (z8 1 (nv (nd (zq 1 (nv (nd (yE b))) (nv (nd (yE b)))))) (nv ([1, 0, 0, 0] : List UInt64))))))), (34, .agg (zg (zh (nd DN)))), (35, .agg (zg (zh (nd (zq 1 (nv (nd (yE b))) (nv (nd (yE b)))))))), (37, .agg (zg (zh ([1, 0, 0, 0] : List UInt64))))] → Ev w [] wo [.box Ef (bys (zp b 31 ((za b 31 0) &&& (127 : UInt8)))) 22, .box Ee ((zh (zf 4 0)) ++ ((zh (zf 4 0)) ++ ((zh (zf 4 0)) ++ (zh (zf 4 0))))) 37, .box Ec (zh (nd (yE b))) 33, .box Eb (zh (nd (zq 1 (nv (nd (yE b))) (nv (nd (yE b)))))) 33, .box Ea (zh (nd DN)) 33, .box EI (zh (zf 4 0)) 33] → G 10 #[true, true, true, true, true, false, true, false, false, false, false, false, false, false, true, false, false] ac wo := by
   intro _ _ EI ap aq
   refine Zr hG ?_
   refine q_t 5 ?_
   refine c_p ap aq (emul_go _ (nd DN) (nd (zq 1 (nv (nd (yE b))) (nv (nd (yE b))))) (zl _ _) (zl _ _)) fun _ _ ar E6 => ⟨fun _ => E6.pk [3, 4], ?_⟩
   refine q_t 7 ?_
   refine c_p ar E6 (esum_go _ (nd (zq 1 (nv (nd DN)) (nv (nd (zq 1 (nv (nd (yE b))) (nv (nd (yE b)))))))) ([1, 0, 0, 0] : List UInt64) (zl _ _) (show zc ([1, 0, 0, 0] : List UInt64) = 4 from rfl)) fun _ _ au E7 => ⟨fun _ => E7.pk [3, 4], ?_⟩
   refine q_t 8 ?_
   refine c_p au E7 (Kc _ 1 h1f hM1 (nd (Zs 1 (nv (nd (zq 1 (nv (nd DN)) (nv (nd (zq 1 (nv (nd (yE b))) (nv (nd (yE b))))))))) (nv ([1, 0, 0, 0] : List UInt64)))) (zl _ _)) fun _ _ av E8 => ⟨fun _ => E8.pk [3, 4], ?_⟩
   refine q_t 9 ?_
   refine c_p av E8 (emul_go _ (nd (z8 1 (nv (nd (zq 1 (nv (nd (yE b))) (nv (nd (yE b)))))) (nv ([1, 0, 0, 0] : List UInt64)))) (nd (zU 1 (nv (nd (Zs 1 (nv (nd (zq 1 (nv (nd DN)) (nv (nd (zq 1 (nv (nd (yE b))) (nv (nd (yE b))))))))) (nv ([1, 0, 0, 0] : List UInt64))))) (mF 1 - 2))) (zl _ _) (zl _ _)) fun _ _ aw E9 => ⟨fun _ => E9.pk [3, 4], ?_⟩
   refine q_t 10 ?_
   refine c_p aw E9 (root_tA _ (show (nd (zq 1 (nv (nd (z8 1 (nv (nd (zq 1 (nv (nd (yE b))) (nv (nd (yE b)))))) (nv ([1, 0, 0, 0] : List UInt64))))) (nv (nd (zU 1 (nv (nd (Zs 1 (nv (nd (zq 1 (nv (nd DN)) (nv (nd (zq 1 (nv (nd (yE b))) (nv (nd (yE b))))))))) (nv ([1, 0, 0, 0] : List UInt64))))) (mF 1 - 2)))))) = nd (tA (yE b)) from tA_txt (nv_y hb))) fun _ _ ax Ez => ⟨fun _ => Ez.pk [3, 4], ?_⟩
   refine q_s [11,12,13] [] 2 ax (Ez.pk [3, 4]) fun _ ay => q_t 15 ?_
   refine zZ 5 4 (zh (nd (rE (yE b)))) _ ay Ez rfl (zd (zl _ _)) (zd (zi)) (zw _) rfl fun _ _ az EA => ⟨fun _ => EA.pk [3, 4], ?_⟩
   refine q_s [16] [] 0 az (EA.pk [3, 4]) fun _ aA => ?_
   exact h_e ⟨EI, aA.sb, EA.pk [0, 1, 2, 3, 4, 5]⟩
  have nd1243 : ∀ (ac : Act) (wo : World), Env ac 67 [(1, pt Ef), (2, pt Ee), (3, .bool false), (4, bv ((za b 31 0) >>> zQ 7)), (5, pt Ec), (6, pt Eb), (7, pt Ea), (33, .agg (zg (zh (nd (z8 1 (nv (nd (zq 1 (nv (nd (yE b))) (nv (nd (yE b)))))) (nv ([1, 0, 0, 0] : List UInt64))))))), (34, .agg (zg (zh (nd DN)))), (35, .agg (zg (zh (nd (zq 1 (nv (nd (yE b))) (nv (nd (yE b)))))))), (37, .agg (zg (zh ([1, 0, 0, 0] : List UInt64))))] → Ev w [] wo [.box Ef (bys (zp b 31 ((za b 31 0) &&& (127 : UInt8)))) 22, .box Ee ((zh (zf 4 0)) ++ ((zh (zf 4 0)) ++ ((zh (zf 4 0)) ++ (zh (zf 4 0))))) 37, .box Ec (zh (nd (yE b))) 33, .box Eb (zh (nd (zq 1 (nv (nd (yE b))) (nv (nd (yE b)))))) 33, .box Ea (zh (nd DN)) 33] → G 11 #[true, true, true, true, true, false, true, false, false, false, false, false, false, false, false, false, false] ac wo := by
   intro _ _ Ha Hb
   refine Zr hG ?_
   refine QA [5, 14] (by kernel_rfl) rfl ?_
   refine ⟨?_, ?_, trivial⟩
   ·
    rintro _ rfl
    refine c_p Ha Hb (emul_go _ (nd DN) (nd (zq 1 (nv (nd (yE b))) (nv (nd (yE b))))) (zl _ _) (zl _ _)) fun _ _ aB Hc => ⟨fun _ => Hc.pk [3, 4], ?_⟩
    exact QF hG (by kernel_rfl) (nd1178 _ _ (aB.sb) (Hc.pk [0, 1, 2, 3, 4]))
   rintro _ rfl
   refine m_z 33 (zh (zf 4 0)) Ha Hb fun _ _ aC aD Hd => ⟨fun _ => Hd.pk [3, 4], ?_⟩
   exact QF hG (by kernel_rfl) (nd1195 _ _ aC (aD.sb) (Hd.pk [0, 1, 2, 3, 4, 5]))
  have nd1260 : ∀ (ac : Act) (wo : World) (Eo : Nat), Env ac 67 [(1, pt Ef), (2, pt Ee), (3, .bool false), (4, bv ((za b 31 0) >>> zQ 7)), (5, pt Ec), (6, pt Eb), (7, pt Ea), (8, pt Eo), (31, .agg (zg (zh (nd (zq 1 (nv (nd (yE b))) (nv (nd (yE b)))))))), (32, .agg (zg (zh ([1, 0, 0, 0] : List UInt64)))), (34, .agg (zg (zh (nd DN)))), (35, .agg (zg (zh (nd (zq 1 (nv (nd (yE b))) (nv (nd (yE b)))))))), (37, .agg (zg (zh ([1, 0, 0, 0] : List UInt64))))] → Ev w [] wo [.box Ef (bys (zp b 31 ((za b 31 0) &&& (127 : UInt8)))) 22, .box Ee ((zh (zf 4 0)) ++ ((zh (zf 4 0)) ++ ((zh (zf 4 0)) ++ (zh (zf 4 0))))) 37, .box Ec (zh (nd (yE b))) 33, .box Eb (zh (nd (zq 1 (nv (nd (yE b))) (nv (nd (yE b)))))) 33, .box Ea (zh (nd DN)) 33, .box Eo (zh (zf 4 0)) 33] → G 11 #[true, true, false, true, true, false, true, false, false, false, false, false, false, false, true, false, false] ac wo := by
   intro _ _ Eo aE aF
   refine Zr hG ?_
   refine q_t 2 ?_
   refine c_p aE aF (edif_go _ (nd (zq 1 (nv (nd (yE b))) (nv (nd (yE b))))) ([1, 0, 0, 0] : List UInt64) (zl _ _) (show zc ([1, 0, 0, 0] : List UInt64) = 4 from rfl)) fun _ _ aG He => ⟨fun _ => He.pk [3, 4], ?_⟩
   refine q_t 5 ?_
   refine c_p aG He (emul_go _ (nd DN) (nd (zq 1 (nv (nd (yE b))) (nv (nd (yE b))))) (zl _ _) (zl _ _)) fun _ _ aH Hf => ⟨fun _ => Hf.pk [3, 4], ?_⟩
   refine q_t 7 ?_
   refine c_p aH Hf (esum_go _ (nd (zq 1 (nv (nd DN)) (nv (nd (zq 1 (nv (nd (yE b))) (nv (nd (yE b)))))))) ([1, 0, 0, 0] : List UInt64) (zl _ _) (show zc ([1, 0, 0, 0] : List UInt64) = 4 from rfl)) fun _ _ aI Hg => ⟨fun _ => Hg.pk [3, 4], ?_⟩
   refine q_t 8 ?_
   refine c_p aI Hg (Kc _ 1 h1f hM1 (nd (Zs 1 (nv (nd (zq 1 (nv (nd DN)) (nv (nd (zq 1 (nv (nd (yE b))) (nv (nd (yE b))))))))) (nv ([1, 0, 0, 0] : List UInt64)))) (zl _ _)) fun _ _ aJ Hh => ⟨fun _ => Hh.pk [3, 4], ?_⟩
   refine q_t 9 ?_
   refine c_p aJ Hh (emul_go _ (nd (z8 1 (nv (nd (zq 1 (nv (nd (yE b))) (nv (nd (yE b)))))) (nv ([1, 0, 0, 0] : List UInt64)))) (nd (zU 1 (nv (nd (Zs 1 (nv (nd (zq 1 (nv (nd DN)) (nv (nd (zq 1 (nv (nd (yE b))) (nv (nd (yE b))))))))) (nv ([1, 0, 0, 0] : List UInt64))))) (mF 1 - 2))) (zl _ _) (zl _ _)) fun _ _ aK Hi => ⟨fun _ => Hi.pk [3, 4], ?_⟩
   refine q_t 10 ?_
   refine c_p aK Hi (root_tA _ (show (nd (zq 1 (nv (nd (z8 1 (nv (nd (zq 1 (nv (nd (yE b))) (nv (nd (yE b)))))) (nv ([1, 0, 0, 0] : List UInt64))))) (nv (nd (zU 1 (nv (nd (Zs 1 (nv (nd (zq 1 (nv (nd DN)) (nv (nd (zq 1 (nv (nd (yE b))) (nv (nd (yE b))))))))) (nv ([1, 0, 0, 0] : List UInt64))))) (mF 1 - 2)))))) = nd (tA (yE b)) from tA_txt (nv_y hb))) fun _ _ aL EB => ⟨fun _ => EB.pk [3, 4], ?_⟩
   refine q_s [11,12,13] [] 2 aL (EB.pk [3, 4]) fun _ aM => q_t 15 ?_
   refine zZ 5 4 (zh (nd (rE (yE b)))) [.box Ef (bys (zp b 31 ((za b 31 0) &&& (127 : UInt8)))) 22, .box Ee ((zh (zf 4 0)) ++ ((zh (zf 4 0)) ++ ((zh (zf 4 0)) ++ (zh (zf 4 0))))) 37, .box Ec (zh (nd (yE b))) 33, .box Eb (zh (nd (zq 1 (nv (nd (yE b))) (nv (nd (yE b)))))) 33, .box Ea (zh (nd DN)) 33, .box Eo (zh (nd (rE (yE b)))) 33] aM EB rfl (zd (zl _ _)) (zd (zi)) (zw _) rfl fun _ _ aN EC => ⟨fun _ => EC.pk [3, 4], ?_⟩
   refine q_s [16] [] 0 aN (EC.pk [3, 4]) fun _ aO => ?_
   exact h_e ⟨Eo, aO.sb, EC.pk [0, 1, 2, 3, 4, 5]⟩
  refine Zr hG ?_
  refine q_r 0 (s := Instr.loadAt 33 (pt Eb)) (v := .agg (zg (zh (nd (zq 1 (nv (nd (yE b))) (nv (nd (yE b)))))))) bT (fun w hS => zV (m := 4) (cs := zh (nd (zq 1 (nv (nd (yE b))) (nv (nd (yE b)))))) (zd (zl _ _)) (by kernel_rfl) (by kernel_rfl) (hS.heap.cells (k := 0) (off := 0) (m := 4) rfl (zr (zd (zl _ _))))) (Ei.pk [3, 4]) fun _ aP => q_s [1] [] 15 aP (Ei.pk [3, 4]) fun _ aQ => q_r 3 (s := Instr.loadAt 33 (pt Ea)) (v := .agg (zg (zh (nd DN)))) aQ (fun w hS => zV (m := 4) (cs := zh (nd DN)) (zd (zl _ _)) (by kernel_rfl) (by kernel_rfl) (hS.heap.cells (k := 1) (off := 0) (m := 4) rfl (zr (zd (zl _ _))))) (Ei.pk [3, 4]) fun _ aR => q_r 4 (s := Instr.loadAt 33 (pt Eb)) (v := .agg (zg (zh (nd (zq 1 (nv (nd (yE b))) (nv (nd (yE b)))))))) aR (fun w hS => zV (m := 4) (cs := zh (nd (zq 1 (nv (nd (yE b))) (nv (nd (yE b)))))) (zd (zl _ _)) (by kernel_rfl) (by kernel_rfl) (hS.heap.cells (k := 0) (off := 0) (m := 4) rfl (zr (zd (zl _ _))))) (Ei.pk [3, 4]) fun _ aS => q_s [6] [] 12 aS (Ei.pk [3, 4]) fun _ Hj => QA [2, 14] (by kernel_rfl) rfl ?_
  refine ⟨?_, ?_, trivial⟩
  ·
   rintro _ rfl
   refine c_p Hj Ei (edif_go _ (nd (zq 1 (nv (nd (yE b))) (nv (nd (yE b))))) ([1, 0, 0, 0] : List UInt64) (zl _ _) (show zc ([1, 0, 0, 0] : List UInt64) = 4 from rfl)) fun _ _ aT Hk => ⟨fun _ => Hk.pk [3, 4], ?_⟩
   exact QF hG (by kernel_rfl) (nd1243 _ _ (aT.sb) (Hk.pk [0, 1, 2, 3, 4]))
  rintro _ rfl
  refine m_z 33 (zh (zf 4 0)) Hj Ei fun _ _ aU aV Hl => ⟨fun _ => Hl.pk [3, 4], ?_⟩
  exact QF hG (by kernel_rfl) (nd1260 _ _ aU (aV.sb) (Hl.pk [0, 1, 2, 3, 4, 5]))
 rintro _ _ ⟨Ed, aW, Eg⟩
 refine ze <| wp_seq <| wp_seq <| zk <| d_k [1,2,3,4,5,6,7,8,46] [] 3 aW fun _ Hm => ?_
 rcases Za (!(Ye 1 (tA (yE b)))) with Ej | Ej
 ·
  have aX := Hm.fx (t := 46) (congrArg Value.bool Ej)
  have hp1345 : ¬ (Ye 1 (tA (yE b)) = true) := by simpa using Ej
  refine d_e [1,2,3,4,5,6,7,8,54] [] aX fun _ Hn => ze <| c_t Hn ?_
  refine wp_seq <| zk <| d_k [1,2,3,4,5,6,7,8,55] [] 1 Hn fun _ aY => f_o <| zZ 1 16 [.int .u64 0, .int .u64 0, .int .u64 0, .int .u64 0, .int .u64 0, .int .u64 0, .int .u64 0, .int .u64 0, .int .u64 0, .int .u64 0, .int .u64 0, .int .u64 0, .int .u64 0, .int .u64 0, .int .u64 0, .int .u64 0] _ aY Eg rfl rfl (zG (zd (zi)) (zG (zd (zi)) (zG (zd (zi)) (zd (zi))))) (YZ (by kernel_rfl)) rfl fun _ _ aZ Ho => d_e [1,2,3,4,5,6,7,8] [] aZ fun _ a0 => ze <| wp_ret <| Zx <| Z9 (v := .agg #[.int .u64 0, .int .u64 0, .int .u64 0, .int .u64 0, .int .u64 0, .int .u64 0, .int .u64 0, .int .u64 0, .int .u64 0, .int .u64 0, .int .u64 0, .int .u64 0, .int .u64 0, .int .u64 0, .int .u64 0, .int .u64 0]) (x := .bool false) (t := 2) (T := 37) (ad := ⟨Ee, 0, none⟩) (u := 3) a0 (by kernel_rfl) (by kernel_rfl) (zF (t := 37) (k := 1) (off := 0) (m := 16) (xs := [.int .u64 0, .int .u64 0, .int .u64 0, .int .u64 0, .int .u64 0, .int .u64 0, .int .u64 0, .int .u64 0, .int .u64 0, .int .u64 0, .int .u64 0, .int .u64 0, .int .u64 0, .int .u64 0, .int .u64 0, .int .u64 0]) Ho rfl rfl rfl (by kernel_rfl) (by kernel_rfl)) (by kernel_rfl) ?_
  have ei : isE b = false := no_2 (Q9.2 hp1345)
  exact ⟨(show _ = Ending.returned (.tuple #[.agg (zg (zh (zf 16 0))), .bool false]) from by kernel_rfl).trans (ret_to (to_no ei) ei.symm), Ho.pk []⟩
 have a1 := Hm.fx (t := 46) (congrArg Value.bool Ej)
 have hp1357 : Ye 1 (tA (yE b)) = true := by simpa using Ej
 refine d_k [1,2,3,4,5,6,7,8,46,49] [] 6 a1 fun _ Hp => ?_
 rcases Za (((zM ((za b 31 0) >>> zQ 7) : Nat) : Int) == (1 : Int)) with Ek | Ek
 ·
  have a2 := Hp.fx (t := 49) (congrArg Value.bool Ek)
  have hp1362 : ((zM ((za b 31 0) >>> zQ 7) : Nat) : Int) = (1 : Int) := eq_of_beq Ek
  refine f_o <| Zn 5 4 (zh (nd (rE (yE b)))) a2 Eg rfl (zd (zl _ _)) fun _ a3 => d_k [1,2,3,4,5,6,7,8,46,49,50,51] [] 8 a3 fun _ a4 => f_o <| q_v (x := Xc .eql 33 (.tmp 50) (.tmp 51) (.agg (zg (zh (nd (rE (yE b)))))) (.agg (zg (zh ([0, 0, 0, 0] : List UInt64))))) (v := .bool ((nd (rE (yE b))) == ([0, 0, 0, 0] : List UInt64))) a4 (Z0 (a := (.tmp 50)) (b := (.tmp 51)) (e := 31) (m := 4) (by kernel_rfl) (by kernel_rfl) (by kernel_rfl) (by kernel_rfl) (by kernel_rfl) (zl _ _) (show zc ([0, 0, 0, 0] : List UInt64) = 4 from rfl) _) fun _ a5 => d_e [1,2,3,4,5,6,7,8,54] [] a5 fun _ ED => ?_
  refine ze <| Ym ED (t := (nd (rE (yE b))) == ([0, 0, 0, 0] : List UInt64)) (by kernel_rfl) (fun Eh => ?_) (fun Eh => ?_)
  ·
   replace Eh : (nd (rE (yE b))) = ([0, 0, 0, 0] : List UInt64) := eq_of_beq Eh
   refine wp_seq <| zk <| d_k [1,2,3,4,5,6,7,8,55] [] 1 ED fun _ a6 => f_o <| zZ 1 16 [.int .u64 0, .int .u64 0, .int .u64 0, .int .u64 0, .int .u64 0, .int .u64 0, .int .u64 0, .int .u64 0, .int .u64 0, .int .u64 0, .int .u64 0, .int .u64 0, .int .u64 0, .int .u64 0, .int .u64 0, .int .u64 0] [.box Ef (bys (zp b 31 ((za b 31 0) &&& (127 : UInt8)))) 22, .box Ee [.int .u64 0, .int .u64 0, .int .u64 0, .int .u64 0, .int .u64 0, .int .u64 0, .int .u64 0, .int .u64 0, .int .u64 0, .int .u64 0, .int .u64 0, .int .u64 0, .int .u64 0, .int .u64 0, .int .u64 0, .int .u64 0] 37, .box Ec (zh (nd (yE b))) 33, .box Eb (zh (nd (zq 1 (nv (nd (yE b))) (nv (nd (yE b)))))) 33, .box Ea (zh (nd DN)) 33, .box Ed (zh (nd (rE (yE b)))) 33] a6 Eg rfl rfl (zG (zd (zi)) (zG (zd (zi)) (zG (zd (zi)) (zd (zi))))) (YZ (by kernel_rfl)) rfl fun _ _ a7 Hq => d_e [1,2,3,4,5,6,7,8] [] a7 fun _ a8 => ze <| wp_ret <| Zx <| Z9 (v := .agg #[.int .u64 0, .int .u64 0, .int .u64 0, .int .u64 0, .int .u64 0, .int .u64 0, .int .u64 0, .int .u64 0, .int .u64 0, .int .u64 0, .int .u64 0, .int .u64 0, .int .u64 0, .int .u64 0, .int .u64 0, .int .u64 0]) (x := .bool false) (t := 2) (T := 37) (ad := ⟨Ee, 0, none⟩) (u := 3) a8 (by kernel_rfl) (by kernel_rfl) (zF (t := 37) (k := 1) (off := 0) (m := 16) (xs := [.int .u64 0, .int .u64 0, .int .u64 0, .int .u64 0, .int .u64 0, .int .u64 0, .int .u64 0, .int .u64 0, .int .u64 0, .int .u64 0, .int .u64 0, .int .u64 0, .int .u64 0, .int .u64 0, .int .u64 0, .int .u64 0]) Hq rfl rfl rfl (by kernel_rfl) (by kernel_rfl)) (by kernel_rfl) ?_
   have ei : isE b = false := no_3 ((od_1 b).1 hp1362) Eh
   exact ⟨(show _ = Ending.returned (.tuple #[.agg (zg (zh (zf 16 0))), .bool false]) from by kernel_rfl).trans (ret_to (to_no ei) ei.symm), Hq.pk []⟩
  replace Eh : ¬ ((nd (rE (yE b))) = ([0, 0, 0, 0] : List UInt64)) := ne_of_beq_false Eh
  refine wp_skip <| ze <| wp_seq <| wp_seq <| d_r [1,2,3,4,5,6,7,8,57] [] ED fun _ EE => ?_
  refine ze <| c_e ((zM ((za b 31 0) >>> zQ 7) : Nat) : Int) (1 : Int) EE (fun Hr => ?_) (fun Hr => ?_)
  ·
   refine zk <| f_o <| Zn 5 4 (zh (nd (rE (yE b)))) EE Eg rfl (zd (zl _ _)) fun _ a9 => f_o <| c_p a9 Eg (neg_go _ 1 h1f (nd (rE (yE b))) (zl _ _)) fun _ _ ba bb => f_o <| zZ 5 4 (zh (nd (z8 1 0 (nv (nd (rE (yE b))))))) _ ba bb rfl (zd (zl _ _)) (zd (zl _ _)) (zw _) rfl fun _ _ bc Hs => ?_
   refine f_e <| ze <| wp_seq <| r_c (fun ac wo => Env ac 67 [(1, pt Ef), (2, pt Ee), (3, .bool true), (4, bv ((za b 31 0) >>> zQ 7)), (5, pt Ec), (6, pt Eb), (7, pt Ea), (8, pt Ed)] ∧ Ev w [] wo [.box Ef (bys (zp b 31 ((za b 31 0) &&& (127 : UInt8)))) 22, .box Ee ((zh (nd (z8 1 0 (nv (nd (rE (yE b))))))) ++ ((zh (nd (yE b))) ++ ((zh ([1, 0, 0, 0] : List UInt64)) ++ (zh (nd (zq 1 (nv (nd (z8 1 0 (nv (nd (rE (yE b))))))) (nv (nd (yE b))))))))) 37, .box Ec (zh (nd (yE b))) 33, .box Eb (zh (nd (zq 1 (nv (nd (yE b))) (nv (nd (yE b)))))) 33, .box Ea (zh (nd DN)) 33, .box Ed (zh (nd (z8 1 0 (nv (nd (rE (yE b))))))) 33]) ?_ ?_
   ·
    refine s_g0 [(1, pt Ef), (2, pt Ee), (3, .bool false), (4, bv ((za b 31 0) >>> zQ 7)), (5, pt Ec), (6, pt Eb), (7, pt Ea), (8, pt Ed)] [0,1,2,3,4,5,6] [(60, .agg (zg (zh (nd (z8 1 0 (nv (nd (rE (yE b))))))))), (61, .agg (zg (zh (nd (yE b))))), (62, .agg (zg (zh ([1, 0, 0, 0] : List UInt64)))), (63, .agg (zg (zh (nd (z8 1 0 (nv (nd (rE (yE b))))))))), (64, .agg (zg (zh (nd (yE b))))), (65, .agg (zg (zh (nd (zq 1 (nv (nd (z8 1 0 (nv (nd (rE (yE b))))))) (nv (nd (yE b)))))))), (66, .agg (zg ((zh (nd (z8 1 0 (nv (nd (rE (yE b))))))) ++ ((zh (nd (yE b))) ++ ((zh ([1, 0, 0, 0] : List UInt64)) ++ (zh (nd (zq 1 (nv (nd (z8 1 0 (nv (nd (rE (yE b))))))) (nv (nd (yE b)))))))))))] 2 [(1, pt Ef), (2, pt Ee), (3, .bool false), (4, bv ((za b 31 0) >>> zQ 7)), (5, pt Ec), (6, pt Eb), (7, pt Ea), (8, pt Ed), (66, .agg (zg ((zh (nd (z8 1 0 (nv (nd (rE (yE b))))))) ++ ((zh (nd (yE b))) ++ ((zh ([1, 0, 0, 0] : List UInt64)) ++ (zh (nd (zq 1 (nv (nd (z8 1 0 (nv (nd (rE (yE b))))))) (nv (nd (yE b)))))))))))] (bc.sb) (Hs.trans (zS Hs.heap)) ?_ fun _ _ bd be => ?_
    ·
     refine s_a 5 0 4 (zh (nd (z8 1 0 (nv (nd (rE (yE b))))))) rfl (zr (zd (zl _ _))) (zd (zl _ _)) <| s_a 2 0 4 (zh (nd (yE b))) rfl (zr (zd (zl _ _))) (zd (zl _ _)) <| s_p [] <| s_a 5 0 4 (zh (nd (z8 1 0 (nv (nd (rE (yE b))))))) rfl (zr (zd (zl _ _))) (zd (zl _ _)) <| s_a 2 0 4 (zh (nd (yE b))) rfl (zr (zd (zl _ _))) (zd (zl _ _)) <| s_f (fun _ => emul_go _ (nd (z8 1 0 (nv (nd (rE (yE b)))))) (nd (yE b)) (zl _ _) (zl _ _)) ?_
     refine s_p [] ?_
     exact s_n
    refine q_u 7 ?_
    refine zZ 1 16 ((zh (nd (z8 1 0 (nv (nd (rE (yE b))))))) ++ ((zh (nd (yE b))) ++ ((zh ([1, 0, 0, 0] : List UInt64)) ++ (zh (nd (zq 1 (nv (nd (z8 1 0 (nv (nd (rE (yE b))))))) (nv (nd (yE b))))))))) [.box Ef (bys (zp b 31 ((za b 31 0) &&& (127 : UInt8)))) 22, .box Ee ((zh (nd (z8 1 0 (nv (nd (rE (yE b))))))) ++ ((zh (nd (yE b))) ++ ((zh ([1, 0, 0, 0] : List UInt64)) ++ (zh (nd (zq 1 (nv (nd (z8 1 0 (nv (nd (rE (yE b))))))) (nv (nd (yE b))))))))) 37, .box Ec (zh (nd (yE b))) 33, .box Eb (zh (nd (zq 1 (nv (nd (yE b))) (nv (nd (yE b)))))) 33, .box Ea (zh (nd DN)) 33, .box Ed (zh (nd (z8 1 0 (nv (nd (rE (yE b))))))) 33] bd be rfl (zG (zd (zl _ _)) (zG (zd (zl _ _)) (zG (zd (show zc ([1, 0, 0, 0] : List UInt64) = 4 from rfl)) (zd (zl _ _))))) (zG (zd (zi)) (zG (zd (zi)) (zG (zd (zi)) (zd (zi))))) (QS (zw _) (QS (zw _) (QS (zw _) (zw _)))) rfl fun _ _ bf bg => q_a [8] [] 0 bf fun _ bh => ?_
    exact a_e ⟨bh.sb, bg.pk [0, 1, 2, 3, 4, 5]⟩
   rintro _ _ ⟨bi, Ht⟩
   refine ze <| wp_ret <| Z9 (v := .agg (zg ((zh (nd (z8 1 0 (nv (nd (rE (yE b))))))) ++ ((zh (nd (yE b))) ++ ((zh ([1, 0, 0, 0] : List UInt64)) ++ (zh (nd (zq 1 (nv (nd (z8 1 0 (nv (nd (rE (yE b))))))) (nv (nd (yE b))))))))))) (x := .bool true) (t := 2) (T := 37) (ad := ⟨Ee, 0, none⟩) (u := 3) bi (by kernel_rfl) (by kernel_rfl) (zF (t := 37) (k := 1) (off := 0) (m := 16) (xs := (zh (nd (z8 1 0 (nv (nd (rE (yE b))))))) ++ ((zh (nd (yE b))) ++ ((zh ([1, 0, 0, 0] : List UInt64)) ++ (zh (nd (zq 1 (nv (nd (z8 1 0 (nv (nd (rE (yE b))))))) (nv (nd (yE b))))))))) Ht rfl (zr (zG (zd (zl _ _)) (zG (zd (zl _ _)) (zG (zd (show zc ([1, 0, 0, 0] : List UInt64) = 4 from rfl)) (zd (zl _ _)))))) (zG (zd (zl _ _)) (zG (zd (zl _ _)) (zG (zd (show zc ([1, 0, 0, 0] : List UInt64) = 4 from rfl)) (zd (zl _ _))))) (by kernel_rfl) (by kernel_rfl)) (by kernel_rfl) ?_
   have ho := (od_1 b).1 hp1362
   have ei : isE b = true := is_yes (by rw [← nv_y hb]; exact El) hp1357 (fun _ => Eh)
   exact ⟨by rw [cat16]; exact ret_to ((pt_odd hb ho).trans (to_yes ei)) ei.symm, Ht.pk []⟩
  refine wp_skip <| ze <| wp_seq <| r_c (fun ac wo => Env ac 67 [(1, pt Ef), (2, pt Ee), (3, .bool true), (4, bv ((za b 31 0) >>> zQ 7)), (5, pt Ec), (6, pt Eb), (7, pt Ea), (8, pt Ed)] ∧ Ev w [] wo [.box Ef (bys (zp b 31 ((za b 31 0) &&& (127 : UInt8)))) 22, .box Ee ((zh (nd (rE (yE b)))) ++ ((zh (nd (yE b))) ++ ((zh ([1, 0, 0, 0] : List UInt64)) ++ (zh (nd (zq 1 (nv (nd (rE (yE b)))) (nv (nd (yE b))))))))) 37, .box Ec (zh (nd (yE b))) 33, .box Eb (zh (nd (zq 1 (nv (nd (yE b))) (nv (nd (yE b)))))) 33, .box Ea (zh (nd DN)) 33, .box Ed (zh (nd (rE (yE b)))) 33]) ?_ ?_
  ·
   refine s_g0 [(1, pt Ef), (2, pt Ee), (3, .bool false), (4, bv ((za b 31 0) >>> zQ 7)), (5, pt Ec), (6, pt Eb), (7, pt Ea), (8, pt Ed)] [0,1,2,3,4,5,6] [(60, .agg (zg (zh (nd (rE (yE b)))))), (61, .agg (zg (zh (nd (yE b))))), (62, .agg (zg (zh ([1, 0, 0, 0] : List UInt64)))), (63, .agg (zg (zh (nd (rE (yE b)))))), (64, .agg (zg (zh (nd (yE b))))), (65, .agg (zg (zh (nd (zq 1 (nv (nd (rE (yE b)))) (nv (nd (yE b)))))))), (66, .agg (zg ((zh (nd (rE (yE b)))) ++ ((zh (nd (yE b))) ++ ((zh ([1, 0, 0, 0] : List UInt64)) ++ (zh (nd (zq 1 (nv (nd (rE (yE b)))) (nv (nd (yE b)))))))))))] 2 [(1, pt Ef), (2, pt Ee), (3, .bool false), (4, bv ((za b 31 0) >>> zQ 7)), (5, pt Ec), (6, pt Eb), (7, pt Ea), (8, pt Ed), (66, .agg (zg ((zh (nd (rE (yE b)))) ++ ((zh (nd (yE b))) ++ ((zh ([1, 0, 0, 0] : List UInt64)) ++ (zh (nd (zq 1 (nv (nd (rE (yE b)))) (nv (nd (yE b)))))))))))] (EE.sb) (Eg.trans (zS Eg.heap)) ?_ fun _ _ bj bk => ?_
   ·
    refine s_a 5 0 4 (zh (nd (rE (yE b)))) rfl (zr (zd (zl _ _))) (zd (zl _ _)) <| s_a 2 0 4 (zh (nd (yE b))) rfl (zr (zd (zl _ _))) (zd (zl _ _)) <| s_p [] <| s_a 5 0 4 (zh (nd (rE (yE b)))) rfl (zr (zd (zl _ _))) (zd (zl _ _)) <| s_a 2 0 4 (zh (nd (yE b))) rfl (zr (zd (zl _ _))) (zd (zl _ _)) <| s_f (fun _ => emul_go _ (nd (rE (yE b))) (nd (yE b)) (zl _ _) (zl _ _)) ?_
    refine s_p [] ?_
    exact s_n
   refine q_u 7 ?_
   refine zZ 1 16 ((zh (nd (rE (yE b)))) ++ ((zh (nd (yE b))) ++ ((zh ([1, 0, 0, 0] : List UInt64)) ++ (zh (nd (zq 1 (nv (nd (rE (yE b)))) (nv (nd (yE b))))))))) _ bj bk rfl (zG (zd (zl _ _)) (zG (zd (zl _ _)) (zG (zd (show zc ([1, 0, 0, 0] : List UInt64) = 4 from rfl)) (zd (zl _ _))))) (zG (zd (zi)) (zG (zd (zi)) (zG (zd (zi)) (zd (zi))))) (QS (zw _) (QS (zw _) (QS (zw _) (zw _)))) rfl fun _ _ bl bm => q_a [8] [] 0 bl fun _ bn => ?_
   exact a_e ⟨bn.sb, bm.pk [0, 1, 2, 3, 4, 5]⟩
  rintro _ _ ⟨bo, bp⟩
  refine ze <| wp_ret <| Z9 (v := .agg (zg ((zh (nd (rE (yE b)))) ++ ((zh (nd (yE b))) ++ ((zh ([1, 0, 0, 0] : List UInt64)) ++ (zh (nd (zq 1 (nv (nd (rE (yE b)))) (nv (nd (yE b))))))))))) (x := .bool true) (t := 2) (T := 37) (ad := ⟨Ee, 0, none⟩) (u := 3) bo (by kernel_rfl) (by kernel_rfl) (zF (t := 37) (k := 1) (off := 0) (m := 16) (xs := (zh (nd (rE (yE b)))) ++ ((zh (nd (yE b))) ++ ((zh ([1, 0, 0, 0] : List UInt64)) ++ (zh (nd (zq 1 (nv (nd (rE (yE b)))) (nv (nd (yE b))))))))) bp rfl (zr (zG (zd (zl _ _)) (zG (zd (zl _ _)) (zG (zd (show zc ([1, 0, 0, 0] : List UInt64) = 4 from rfl)) (zd (zl _ _)))))) (zG (zd (zl _ _)) (zG (zd (zl _ _)) (zG (zd (show zc ([1, 0, 0, 0] : List UInt64) = 4 from rfl)) (zd (zl _ _))))) (by kernel_rfl) (by kernel_rfl)) (by kernel_rfl) ?_
  exact absurd hp1362 Hr
 have bq := Hp.fx (t := 49) (congrArg Value.bool Ek)
 have hp1495 : ¬ (((zM ((za b 31 0) >>> zQ 7) : Nat) : Int) = (1 : Int)) := ne_of_beq_false Ek
 refine d_e [1,2,3,4,5,6,7,8,54] [] bq fun _ Hu => ze <| c_f Hu ?_
 refine wp_skip <| ze <| wp_seq <| wp_seq <| d_r [1,2,3,4,5,6,7,8,57] [] Hu fun _ EF => ?_
 refine ze <| c_e ((zM ((za b 31 0) >>> zQ 7) : Nat) : Int) (1 : Int) EF (fun Hv => ?_) (fun Hv => ?_)
 ·
  refine zk <| f_o <| Zn 5 4 (zh (nd (rE (yE b)))) EF Eg rfl (zd (zl _ _)) fun _ br => f_o <| c_p br Eg (neg_go _ 1 h1f (nd (rE (yE b))) (zl _ _)) fun _ _ bs bt => f_o <| zZ 5 4 (zh (nd (z8 1 0 (nv (nd (rE (yE b))))))) [.box Ef (bys (zp b 31 ((za b 31 0) &&& (127 : UInt8)))) 22, .box Ee ((zh (zf 4 0)) ++ ((zh (zf 4 0)) ++ ((zh (zf 4 0)) ++ (zh (zf 4 0))))) 37, .box Ec (zh (nd (yE b))) 33, .box Eb (zh (nd (zq 1 (nv (nd (yE b))) (nv (nd (yE b)))))) 33, .box Ea (zh (nd DN)) 33, .box Ed (zh (nd (z8 1 0 (nv (nd (rE (yE b))))))) 33] bs bt rfl (zd (zl _ _)) (zd (zl _ _)) (zw _) rfl fun _ _ bu Hw => ?_
  refine f_e <| ze <| wp_seq <| r_c (fun ac wo => Env ac 67 [(1, pt Ef), (2, pt Ee), (3, .bool true), (4, bv ((za b 31 0) >>> zQ 7)), (5, pt Ec), (6, pt Eb), (7, pt Ea), (8, pt Ed)] ∧ Ev w [] wo [.box Ef (bys (zp b 31 ((za b 31 0) &&& (127 : UInt8)))) 22, .box Ee ((zh (nd (z8 1 0 (nv (nd (rE (yE b))))))) ++ ((zh (nd (yE b))) ++ ((zh ([1, 0, 0, 0] : List UInt64)) ++ (zh (nd (zq 1 (nv (nd (z8 1 0 (nv (nd (rE (yE b))))))) (nv (nd (yE b))))))))) 37, .box Ec (zh (nd (yE b))) 33, .box Eb (zh (nd (zq 1 (nv (nd (yE b))) (nv (nd (yE b)))))) 33, .box Ea (zh (nd DN)) 33, .box Ed (zh (nd (z8 1 0 (nv (nd (rE (yE b))))))) 33]) ?_ ?_
  ·
   refine s_g0 [(1, pt Ef), (2, pt Ee), (3, .bool false), (4, bv ((za b 31 0) >>> zQ 7)), (5, pt Ec), (6, pt Eb), (7, pt Ea), (8, pt Ed)] [0,1,2,3,4,5,6] [(60, .agg (zg (zh (nd (z8 1 0 (nv (nd (rE (yE b))))))))), (61, .agg (zg (zh (nd (yE b))))), (62, .agg (zg (zh ([1, 0, 0, 0] : List UInt64)))), (63, .agg (zg (zh (nd (z8 1 0 (nv (nd (rE (yE b))))))))), (64, .agg (zg (zh (nd (yE b))))), (65, .agg (zg (zh (nd (zq 1 (nv (nd (z8 1 0 (nv (nd (rE (yE b))))))) (nv (nd (yE b)))))))), (66, .agg (zg ((zh (nd (z8 1 0 (nv (nd (rE (yE b))))))) ++ ((zh (nd (yE b))) ++ ((zh ([1, 0, 0, 0] : List UInt64)) ++ (zh (nd (zq 1 (nv (nd (z8 1 0 (nv (nd (rE (yE b))))))) (nv (nd (yE b)))))))))))] 2 [(1, pt Ef), (2, pt Ee), (3, .bool false), (4, bv ((za b 31 0) >>> zQ 7)), (5, pt Ec), (6, pt Eb), (7, pt Ea), (8, pt Ed), (66, .agg (zg ((zh (nd (z8 1 0 (nv (nd (rE (yE b))))))) ++ ((zh (nd (yE b))) ++ ((zh ([1, 0, 0, 0] : List UInt64)) ++ (zh (nd (zq 1 (nv (nd (z8 1 0 (nv (nd (rE (yE b))))))) (nv (nd (yE b)))))))))))] (bu.sb) (Hw.trans (zS Hw.heap)) ?_ fun _ _ bw bx => ?_
   ·
    refine s_a 5 0 4 (zh (nd (z8 1 0 (nv (nd (rE (yE b))))))) rfl (zr (zd (zl _ _))) (zd (zl _ _)) <| s_a 2 0 4 (zh (nd (yE b))) rfl (zr (zd (zl _ _))) (zd (zl _ _)) <| s_p [] <| s_a 5 0 4 (zh (nd (z8 1 0 (nv (nd (rE (yE b))))))) rfl (zr (zd (zl _ _))) (zd (zl _ _)) <| s_a 2 0 4 (zh (nd (yE b))) rfl (zr (zd (zl _ _))) (zd (zl _ _)) <| s_f (fun _ => emul_go _ (nd (z8 1 0 (nv (nd (rE (yE b)))))) (nd (yE b)) (zl _ _) (zl _ _)) ?_
    refine s_p [] ?_
    exact s_n
   refine q_u 7 ?_
   refine zZ 1 16 ((zh (nd (z8 1 0 (nv (nd (rE (yE b))))))) ++ ((zh (nd (yE b))) ++ ((zh ([1, 0, 0, 0] : List UInt64)) ++ (zh (nd (zq 1 (nv (nd (z8 1 0 (nv (nd (rE (yE b))))))) (nv (nd (yE b))))))))) _ bw bx rfl (zG (zd (zl _ _)) (zG (zd (zl _ _)) (zG (zd (show zc ([1, 0, 0, 0] : List UInt64) = 4 from rfl)) (zd (zl _ _))))) (zG (zd (zi)) (zG (zd (zi)) (zG (zd (zi)) (zd (zi))))) (QS (zw _) (QS (zw _) (QS (zw _) (zw _)))) rfl fun _ _ bz bA => q_a [8] [] 0 bz fun _ bB => ?_
   exact a_e ⟨bB.sb, bA.pk [0, 1, 2, 3, 4, 5]⟩
  rintro _ _ ⟨bC, bD⟩
  refine ze <| wp_ret <| Z9 (v := .agg (zg ((zh (nd (z8 1 0 (nv (nd (rE (yE b))))))) ++ ((zh (nd (yE b))) ++ ((zh ([1, 0, 0, 0] : List UInt64)) ++ (zh (nd (zq 1 (nv (nd (z8 1 0 (nv (nd (rE (yE b))))))) (nv (nd (yE b))))))))))) (x := .bool true) (t := 2) (T := 37) (ad := ⟨Ee, 0, none⟩) (u := 3) bC (by kernel_rfl) (by kernel_rfl) (zF (t := 37) (k := 1) (off := 0) (m := 16) (xs := (zh (nd (z8 1 0 (nv (nd (rE (yE b))))))) ++ ((zh (nd (yE b))) ++ ((zh ([1, 0, 0, 0] : List UInt64)) ++ (zh (nd (zq 1 (nv (nd (z8 1 0 (nv (nd (rE (yE b))))))) (nv (nd (yE b))))))))) bD rfl (zr (zG (zd (zl _ _)) (zG (zd (zl _ _)) (zG (zd (show zc ([1, 0, 0, 0] : List UInt64) = 4 from rfl)) (zd (zl _ _)))))) (zG (zd (zl _ _)) (zG (zd (zl _ _)) (zG (zd (show zc ([1, 0, 0, 0] : List UInt64) = 4 from rfl)) (zd (zl _ _))))) (by kernel_rfl) (by kernel_rfl)) (by kernel_rfl) ?_
  exact absurd Hv hp1495
 refine wp_skip <| ze <| wp_seq <| r_c (fun ac wo => Env ac 67 [(1, pt Ef), (2, pt Ee), (3, .bool true), (4, bv ((za b 31 0) >>> zQ 7)), (5, pt Ec), (6, pt Eb), (7, pt Ea), (8, pt Ed)] ∧ Ev w [] wo [.box Ef (bys (zp b 31 ((za b 31 0) &&& (127 : UInt8)))) 22, .box Ee ((zh (nd (rE (yE b)))) ++ ((zh (nd (yE b))) ++ ((zh ([1, 0, 0, 0] : List UInt64)) ++ (zh (nd (zq 1 (nv (nd (rE (yE b)))) (nv (nd (yE b))))))))) 37, .box Ec (zh (nd (yE b))) 33, .box Eb (zh (nd (zq 1 (nv (nd (yE b))) (nv (nd (yE b)))))) 33, .box Ea (zh (nd DN)) 33, .box Ed (zh (nd (rE (yE b)))) 33]) ?_ ?_
 ·
  refine s_g0 [(1, pt Ef), (2, pt Ee), (3, .bool false), (4, bv ((za b 31 0) >>> zQ 7)), (5, pt Ec), (6, pt Eb), (7, pt Ea), (8, pt Ed)] [0,1,2,3,4,5,6] [(60, .agg (zg (zh (nd (rE (yE b)))))), (61, .agg (zg (zh (nd (yE b))))), (62, .agg (zg (zh ([1, 0, 0, 0] : List UInt64)))), (63, .agg (zg (zh (nd (rE (yE b)))))), (64, .agg (zg (zh (nd (yE b))))), (65, .agg (zg (zh (nd (zq 1 (nv (nd (rE (yE b)))) (nv (nd (yE b)))))))), (66, .agg (zg ((zh (nd (rE (yE b)))) ++ ((zh (nd (yE b))) ++ ((zh ([1, 0, 0, 0] : List UInt64)) ++ (zh (nd (zq 1 (nv (nd (rE (yE b)))) (nv (nd (yE b)))))))))))] 2 [(1, pt Ef), (2, pt Ee), (3, .bool false), (4, bv ((za b 31 0) >>> zQ 7)), (5, pt Ec), (6, pt Eb), (7, pt Ea), (8, pt Ed), (66, .agg (zg ((zh (nd (rE (yE b)))) ++ ((zh (nd (yE b))) ++ ((zh ([1, 0, 0, 0] : List UInt64)) ++ (zh (nd (zq 1 (nv (nd (rE (yE b)))) (nv (nd (yE b)))))))))))] (EF.sb) (Eg.trans (zS Eg.heap)) ?_ fun _ _ bE bF => ?_
  ·
   refine s_a 5 0 4 (zh (nd (rE (yE b)))) rfl (zr (zd (zl _ _))) (zd (zl _ _)) <| s_a 2 0 4 (zh (nd (yE b))) rfl (zr (zd (zl _ _))) (zd (zl _ _)) <| s_p [] <| s_a 5 0 4 (zh (nd (rE (yE b)))) rfl (zr (zd (zl _ _))) (zd (zl _ _)) <| s_a 2 0 4 (zh (nd (yE b))) rfl (zr (zd (zl _ _))) (zd (zl _ _)) <| s_f (fun _ => emul_go _ (nd (rE (yE b))) (nd (yE b)) (zl _ _) (zl _ _)) ?_
   refine s_p [] ?_
   exact s_n
  refine q_u 7 ?_
  refine zZ 1 16 ((zh (nd (rE (yE b)))) ++ ((zh (nd (yE b))) ++ ((zh ([1, 0, 0, 0] : List UInt64)) ++ (zh (nd (zq 1 (nv (nd (rE (yE b)))) (nv (nd (yE b))))))))) [.box Ef (bys (zp b 31 ((za b 31 0) &&& (127 : UInt8)))) 22, .box Ee ((zh (nd (rE (yE b)))) ++ ((zh (nd (yE b))) ++ ((zh ([1, 0, 0, 0] : List UInt64)) ++ (zh (nd (zq 1 (nv (nd (rE (yE b)))) (nv (nd (yE b))))))))) 37, .box Ec (zh (nd (yE b))) 33, .box Eb (zh (nd (zq 1 (nv (nd (yE b))) (nv (nd (yE b)))))) 33, .box Ea (zh (nd DN)) 33, .box Ed (zh (nd (rE (yE b)))) 33] bE bF rfl (zG (zd (zl _ _)) (zG (zd (zl _ _)) (zG (zd (show zc ([1, 0, 0, 0] : List UInt64) = 4 from rfl)) (zd (zl _ _))))) (zG (zd (zi)) (zG (zd (zi)) (zG (zd (zi)) (zd (zi))))) (QS (zw _) (QS (zw _) (QS (zw _) (zw _)))) rfl fun _ _ bG bH => q_a [8] [] 0 bG fun _ bI => ?_
  exact a_e ⟨bI.sb, bH.pk [0, 1, 2, 3, 4, 5]⟩
 rintro _ _ ⟨bJ, Hx⟩
 refine ze <| wp_ret <| Z9 (v := .agg (zg ((zh (nd (rE (yE b)))) ++ ((zh (nd (yE b))) ++ ((zh ([1, 0, 0, 0] : List UInt64)) ++ (zh (nd (zq 1 (nv (nd (rE (yE b)))) (nv (nd (yE b))))))))))) (x := .bool true) (t := 2) (T := 37) (ad := ⟨Ee, 0, none⟩) (u := 3) bJ (by kernel_rfl) (by kernel_rfl) (zF (t := 37) (k := 1) (off := 0) (m := 16) (xs := (zh (nd (rE (yE b)))) ++ ((zh (nd (yE b))) ++ ((zh ([1, 0, 0, 0] : List UInt64)) ++ (zh (nd (zq 1 (nv (nd (rE (yE b)))) (nv (nd (yE b))))))))) Hx rfl (zr (zG (zd (zl _ _)) (zG (zd (zl _ _)) (zG (zd (show zc ([1, 0, 0, 0] : List UInt64) = 4 from rfl)) (zd (zl _ _)))))) (zG (zd (zl _ _)) (zG (zd (zl _ _)) (zG (zd (show zc ([1, 0, 0, 0] : List UInt64) = 4 from rfl)) (zd (zl _ _))))) (by kernel_rfl) (by kernel_rfl)) (by kernel_rfl) ?_
 have ho : odE b = false := Q9.2 (fun g => hp1495 ((od_1 b).2 g))
 have ei : isE b = true := is_yes (by rw [← nv_y hb]; exact El) hp1357 (fun g => absurd ((od_1 b).2 g) hp1495)
 exact ⟨by rw [cat16]; exact ret_to ((pt_even hb ho).trans (to_yes ei)) ei.symm, Hx.pk []⟩
theorem base_toL : toL baseB = Q6 := by rw [toL, base_pt.1, base_y.1, base_y.2]; rfl
theorem base_told (w : World) : Calls zB 29 #[.agg #[.int .u8 88, .int .u8 102, .int .u8 102, .int .u8 102, .int .u8 102, .int .u8 102, .int .u8 102, .int .u8 102, .int .u8 102, .int .u8 102, .int .u8 102, .int .u8 102, .int .u8 102, .int .u8 102, .int .u8 102, .int .u8 102, .int .u8 102, .int .u8 102, .int .u8 102, .int .u8 102, .int .u8 102, .int .u8 102, .int .u8 102, .int .u8 102, .int .u8 102, .int .u8 102, .int .u8 102, .int .u8 102, .int .u8 102, .int .u8 102, .int .u8 102, .int .u8 102]] w fun e w' => e = .returned (.tuple #[.agg (zg (zh Q6)), .bool (isE baseB)]) ∧ Ev w [] w' [] := by
  have h := told_go w baseB rfl
  rw [base_toL] at h
  exact h
theorem base_go (w : World) : Calls zB 13 #[] w fun e w' => e = .returned (.agg (zg (zh Q6))) ∧ Ev w [] w' [] := by
 refine d_0 [] 9 Tryz.func13 Tryz.ntmps13 (Heap.nil _) fun En Eo Ep => wp_seq <| zk <| f_o <| m_z 37 ((zh (zf 4 0)) ++ ((zh (zf 4 0)) ++ ((zh (zf 4 0)) ++ (zh (zf 4 0))))) Eo Ep fun _ _ Em Eq Er => f_e <| ze <| wp_seq <| zk <| d_k [0,4] [] 1 Eq fun _ Es => f_o <| c_p Es Er (base_told _) fun _ _ Ec Ed => d_k [0,6,7] [] 5 Ec fun _ Ee => f_o <| m_z 37 ((zh (zf 4 0)) ++ ((zh (zf 4 0)) ++ ((zh (zf 4 0)) ++ (zh (zf 4 0))))) Ee Ed fun _ _ Ef Eg Eh => ?_
 refine f_o <| zZ 1 16 (zh Q6) _ Eg Eh rfl (zd (Xq _ _)) (zG (zd (zi)) (zG (zd (zi)) (zG (zd (zi)) (zd (zi))))) (zw _) rfl fun _ _ Ei Ea => d_e [0,1] [] Ei fun _ Ej => ze <| wp_seq <| zk <| f_o <| Zn 1 16 (zh Q6) Ej Ea rfl (zd (Xq _ _)) fun _ Ek => f_o <| zZ 0 16 (zh Q6) [.box Em (zh Q6) 37, .box Ef (zh Q6) 37] Ek Ea rfl (zd (Xq _ _)) (zG (zd (zi)) (zG (zd (zi)) (zG (zd (zi)) (zd (zi))))) (zw _) rfl fun _ _ El Eb => f_e <| ze <| wp_ret <| Zf (v := .agg (zg (zh Q6))) (t := 0) (T := 37) (ad := ⟨Em, 0, none⟩) El (by kernel_rfl) (by kernel_rfl) (zF (t := 37) (k := 0) (off := 0) (m := 16) (xs := zh Q6) Eb rfl (zr (zd (Xq _ _))) (zd (Xq _ _)) (by kernel_rfl) (by kernel_rfl)) ?_
 exact ⟨rfl, Eb.pk []⟩
theorem dinv_go (w : World) (a : List UInt64) (ha : zc a = 4) : Calls zB 46 #[.agg (zg (zh a))] w fun e w' => e = .returned (.agg (zg (zh (nd (zU 1 (nv a) (mF 1 - 2)))))) ∧ Ev w [] w' [] := by
 refine d_0 [(0, .agg (zg (zh a)))] 5 Tryz.func46 Tryz.ntmps46 (Heap.nil _) fun Eg Eh Ei => wp_seq <| zk <| f_o <| m_m 33 (zh a) Eh Ei fun _ _ En Ej Ek => f_o <| m_z 33 (zh (zf 4 0)) Ej Ek fun _ _ El Em Ea => f_e <| ze <| wp_seq <| zk <| f_o <| Zn 0 4 (zh a) Em Ea rfl (zd ha) fun _ Ec => f_o <| c_p Ec Ea (rinv_go _ 1 h1f hR1 a ha) fun _ _ Ed Ee => f_o <| zZ 1 4 (zh (nd (zU 1 (nv a) (mF 1 - 2)))) _ Ed Ee rfl (zd (zl _ _)) (zd (zi)) (zw _) rfl fun _ _ Ef Eb => ?_
 refine f_e <| ze <| wp_ret <| Zf (v := .agg (zg (zh (nd (zU 1 (nv a) (mF 1 - 2)))))) (t := 2) (T := 33) (ad := ⟨El, 0, none⟩) Ef (by kernel_rfl) (by kernel_rfl) (zF (t := 33) (k := 1) (off := 0) (m := 4) (xs := zh (nd (zU 1 (nv a) (mF 1 - 2)))) Eb rfl (zr (zd (zl _ _))) (zd (zl _ _)) (by kernel_rfl) (by kernel_rfl)) ?_
 exact ⟨rfl, Eb.pk []⟩
theorem d_txt : nd (zq 1 (nv (nd (z8 1 (nv [0, 0, 0, 0]) (nv [121665, 0, 0, 0])))) (nv (nd (zU 1 (nv [121666, 0, 0, 0]) (mF 1 - 2))))) = nd DN := by
  rw [nv_iv, nv_s1, show nv [121666, 0, 0, 0] = 121666 from rfl, ivE_pw]
  exact congrArg nd (by decide +kernel)
theorem cat12 (a b c : L4) : zh a ++ (zh b ++ zh c) = zh (a ++ (b ++ c)) := by
  unfold zh
  rw [ZO, ZO]
def wiD (y : Nat) (odd : Bool) : L4 := bif JD y odd then ptD y odd else zf 12 0
theorem wiD_len (y : Nat) (odd : Bool) : (wiD y odd).length = 12 := by
  unfold wiD
  cases JD y odd with
  | true => exact ptD_len _ _
  | false => rfl
theorem wx_2 {y : Nat} {o : Bool} (h : Ye 1 (tA y) = false) : JD y o = false := by rw [JD, h, QC]
theorem wx_3 {y : Nat} {o : Bool} (h : o = true) (h2 : nd (rE y) = zf 4 0) : JD y o = false := by
  have := rE_0 y
  rw [h2] at this
  rw [JD, h, ← this]
  simp
theorem wx_yes {y : Nat} {o : Bool} (h1 : Ye 1 (tA y) = true) (h2 : o = true → ¬ nd (rE y) = zf 4 0) : JD y o = true := by
  rw [JD, h1, Qd]
  cases g : o with
  | false => rfl
  | true =>
    rw [Qd, ← rE_0, beq_false_of_ne (h2 g)]
    rfl
theorem wi_no {y : Nat} {o : Bool} (h : JD y o = false) : zf 12 0 = wiD y o := by rw [wiD, h]; first | rw [QQ] | rw [QB]
theorem wi_yes {y : Nat} {o : Bool} (h : JD y o = true) : ptD y o = wiD y o := by rw [wiD, h]; first | rw [QQ] | rw [QB]
theorem ret_wi {a b : L4} {s t : Bool} (h1 : a = b) (h2 : s = t) : Ending.returned (.tuple #[.agg (zg (zh a)), .bool s]) = Ending.returned (.tuple #[.agg (zg (zh b)), .bool t]) := by rw [h1, h2]
theorem wt_even {y : Nat} {o : Bool} (hy : nv (nd y) = y) (h : o = false) : nd (rE y) ++ (nd y ++ [1, 0, 0, 0]) = ptD y o := by
  rw [ptD, h, xE_f, l3]
  rfl
theorem wt_odd {y : Nat} {o : Bool} (hy : nv (nd y) = y) (h : o = true) : nd (z8 1 (nv [0, 0, 0, 0]) (nv (nd (rE y)))) ++ (nd y ++ [1, 0, 0, 0]) = ptD y o := by
  rw [rE_nv, ptD, h, xE_t, l3]
  rfl
theorem dd_go (w : World) : Calls zB 16 #[] w fun e w' => e = .returned (.agg (zg (zh (nd DN)))) ∧ Ev w [] w' [] := by
 refine d_0 [] 7 Tryz.func16 Tryz.ntmps16 (Heap.nil _) fun Ej Ek El => wp_seq <| zk <| f_o <| m_z 33 (zh (zf 4 0)) Ek El fun _ _ Em En Eo => f_e <| ze <| wp_seq <| zk <| d_k [0,1,2] [] 2 En fun _ Ep => f_o <| c_p Ep Eo (dsub_go _ ([0, 0, 0, 0] : List UInt64) ([121665, 0, 0, 0] : List UInt64) (show zc ([0, 0, 0, 0] : List UInt64) = 4 from rfl) (show zc ([121665, 0, 0, 0] : List UInt64) = 4 from rfl)) fun _ _ Eb Ec => d_k [0,3,4] [] 4 Eb fun _ Ed => f_o <| c_p Ed Ec (dinv_go _ ([121666, 0, 0, 0] : List UInt64) (show zc ([121666, 0, 0, 0] : List UInt64) = 4 from rfl)) fun _ _ Ee Ef => ?_
 refine f_o <| c_p Ee Ef (dmul_go _ (nd (z8 1 (nv ([0, 0, 0, 0] : List UInt64)) (nv ([121665, 0, 0, 0] : List UInt64)))) (nd (zU 1 (nv ([121666, 0, 0, 0] : List UInt64)) (mF 1 - 2))) (zl _ _) (zl _ _)) fun _ _ Eg Eh => f_o <| zZ 0 4 (zh (nd (zq 1 (nv (nd (z8 1 (nv ([0, 0, 0, 0] : List UInt64)) (nv ([121665, 0, 0, 0] : List UInt64))))) (nv (nd (zU 1 (nv ([121666, 0, 0, 0] : List UInt64)) (mF 1 - 2))))))) _ Eg Eh rfl (zd (zl _ _)) (zd (zi)) (zw _) rfl fun _ _ Ei Ea => f_e <| ze <| wp_ret <| Zf (v := .agg (zg (zh (nd (zq 1 (nv (nd (z8 1 (nv ([0, 0, 0, 0] : List UInt64)) (nv ([121665, 0, 0, 0] : List UInt64))))) (nv (nd (zU 1 (nv ([121666, 0, 0, 0] : List UInt64)) (mF 1 - 2))))))))) (t := 0) (T := 33) (ad := ⟨Em, 0, none⟩) Ei (by kernel_rfl) (by kernel_rfl) (zF (t := 33) (k := 0) (off := 0) (m := 4) (xs := zh (nd (zq 1 (nv (nd (z8 1 (nv ([0, 0, 0, 0] : List UInt64)) (nv ([121665, 0, 0, 0] : List UInt64))))) (nv (nd (zU 1 (nv ([121666, 0, 0, 0] : List UInt64)) (mF 1 - 2))))))) Ea rfl (zr (zd (zl _ _))) (zd (zl _ _)) (by kernel_rfl) (by kernel_rfl)) ?_
 exact ⟨congrArg (fun l : List UInt64 => Ending.returned (Value.agg (zh l).toArray)) d_txt, Ea.pk []⟩
theorem dwith_go (w : World) (y : Nat) (hy : nv (nd y) = y) (o : Bool) : Calls zB 48 #[.agg (zg (zh (nd y))), .bool o, .agg (zg (zh (nd DN)))] w fun e w' => e = .returned (.tuple #[.agg (zg (zh (wiD y o))), .bool (JD y o)]) ∧ Ev w [] w' [] := by
 refine d_0 [(0, .agg (zg (zh (nd y)))), (1, .bool o), (2, .agg (zg (zh (nd DN))))] 51 Tryz.func48 Tryz.ntmps48 (Heap.nil _) fun aD aE aF => wp_seq <| zk <| f_o <| m_m 33 (zh (nd y)) aE aF fun _ _ Eh aG aH => f_o <| m_m 33 (zh (nd DN)) aG aH fun _ _ aI aJ H8 => f_o <| m_z 44 ((zh (zf 4 0)) ++ ((zh (zf 4 0)) ++ (zh (zf 4 0)))) aJ H8 fun _ _ Ea H9 EZ => d_e [1,3,5,6,7] [] H9 fun _ aa => ze <| wp_seq <| zk <| f_o <| Zn 0 4 (zh (nd y)) aa EZ rfl (zd (zl _ _)) fun _ ab => ?_
 refine f_o <| Zn 0 4 (zh (nd y)) ab EZ rfl (zd (zl _ _)) fun _ ae => f_o <| c_p ae EZ (dmul_go _ (nd y) (nd y) (zl _ _) (zl _ _)) fun _ _ af ag => f_o <| m_z 33 (zh (zf 4 0)) af ag fun _ _ Ed ah ai => f_o <| zZ 3 4 (zh (nd (zq 1 (nv (nd y)) (nv (nd y))))) _ ah ai rfl (zd (zl _ _)) (zd (zi)) (zw _) rfl fun _ _ aj E1 => f_e <| ze <| wp_seq <| zk <| f_o <| Zn 3 4 (zh (nd (zq 1 (nv (nd y)) (nv (nd y))))) aj E1 rfl (zd (zl _ _)) fun _ ak => d_k [1,3,5,6,7,8,16,17] [] 2 ak fun _ al => ?_
 refine f_o <| c_p al E1 (dsub_go _ (nd (zq 1 (nv (nd y)) (nv (nd y)))) ([1, 0, 0, 0] : List UInt64) (zl _ _) (show zc ([1, 0, 0, 0] : List UInt64) = 4 from rfl)) fun _ _ am an => f_o <| m_z 33 (zh (zf 4 0)) am an fun _ _ Eb ao ap => f_o <| zZ 4 4 (zh (nd (z8 1 (nv (nd (zq 1 (nv (nd y)) (nv (nd y))))) (nv ([1, 0, 0, 0] : List UInt64))))) [.box Eh (zh (nd y)) 33, .box aI (zh (nd DN)) 33, .box Ea ((zh (zf 4 0)) ++ ((zh (zf 4 0)) ++ (zh (zf 4 0)))) 44, .box Ed (zh (nd (zq 1 (nv (nd y)) (nv (nd y))))) 33, .box Eb (zh (nd (z8 1 (nv (nd (zq 1 (nv (nd y)) (nv (nd y))))) (nv ([1, 0, 0, 0] : List UInt64))))) 33] ao ap rfl (zd (zl _ _)) (zd (zi)) (zw _) rfl fun _ _ aq E0 => f_e <| ze <| wp_seq <| zk <| f_o <| Zn 1 4 (zh (nd DN)) aq E0 rfl (zd (zl _ _)) fun _ ar => f_o <| Zn 3 4 (zh (nd (zq 1 (nv (nd y)) (nv (nd y))))) ar E0 rfl (zd (zl _ _)) fun _ au => f_o <| c_p au E0 (dmul_go _ (nd DN) (nd (zq 1 (nv (nd y)) (nv (nd y)))) (zl _ _) (zl _ _)) fun _ _ av aw => ?_
 refine d_k [1,3,6,7,8,9,21,22] [] 4 av fun _ ax => f_o <| c_p ax aw (dadd_go _ (nd (zq 1 (nv (nd DN)) (nv (nd (zq 1 (nv (nd y)) (nv (nd y))))))) ([1, 0, 0, 0] : List UInt64) (zl _ _) (show zc ([1, 0, 0, 0] : List UInt64) = 4 from rfl)) fun _ _ ay az => f_o <| m_z 33 (zh (zf 4 0)) ay az fun _ _ Ec aA aB => f_o <| zZ 5 4 (zh (nd (Zs 1 (nv (nd (zq 1 (nv (nd DN)) (nv (nd (zq 1 (nv (nd y)) (nv (nd y)))))))) (nv ([1, 0, 0, 0] : List UInt64))))) _ aA aB rfl (zd (zl _ _)) (zd (zi)) (zw _) rfl fun _ _ aC E2 => ?_
 refine f_e <| ze <| wp_seq <| r_c (fun ac wo => ∃ (Ei : Nat), Env ac 51 [(1, .bool o), (3, pt Eh), (6, pt Ea), (7, .bool false), (8, pt Ed), (9, pt Eb), (10, pt Ec), (11, pt Ei), (12, .bool (Ye 1 (tA y)))] ∧ Ev w [] wo [.box Eh (zh (nd y)) 33, .box Ea ((zh (zf 4 0)) ++ ((zh (zf 4 0)) ++ (zh (zf 4 0)))) 44, .box Ed (zh (nd (zq 1 (nv (nd y)) (nv (nd y))))) 33, .box Eb (zh (nd (z8 1 (nv (nd (zq 1 (nv (nd y)) (nv (nd y))))) (nv ([1, 0, 0, 0] : List UInt64))))) 33, .box Ec (zh (nd (Zs 1 (nv (nd (zq 1 (nv (nd DN)) (nv (nd (zq 1 (nv (nd y)) (nv (nd y)))))))) (nv ([1, 0, 0, 0] : List UInt64))))) 33, .box Ei (zh (nd (rE y))) 33]) ?_ ?_
 ·
  refine h_s (fun wv => Ev w [] wv [.box Eb (zh (nd (z8 1 (nv (nd (zq 1 (nv (nd y)) (nv (nd y))))) (nv ([1, 0, 0, 0] : List UInt64))))) 33, .box Ec (zh (nd (Zs 1 (nv (nd (zq 1 (nv (nd DN)) (nv (nd (zq 1 (nv (nd y)) (nv (nd y)))))))) (nv ([1, 0, 0, 0] : List UInt64))))) 33]) [] 11 ?_
  have Ex := E2.trans (zS E2.heap)
  refine h_name fun G hG => ?_
  have nd427 : ∀ (ac : Act) (wo : World), Env ac 51 [(1, .bool o), (3, pt Eh), (6, pt Ea), (7, .bool false), (8, pt Ed), (9, pt Eb), (10, pt Ec), (29, .tuple #[.agg (zg (zh (nd (rE y)))), .bool (Ye 1 (tA y))])] → Ev w [] wo [.box Eh (zh (nd y)) 33, .box Ea ((zh (zf 4 0)) ++ ((zh (zf 4 0)) ++ (zh (zf 4 0)))) 44, .box Ed (zh (nd (zq 1 (nv (nd y)) (nv (nd y))))) 33, .box Eb (zh (nd (z8 1 (nv (nd (zq 1 (nv (nd y)) (nv (nd y))))) (nv ([1, 0, 0, 0] : List UInt64))))) 33, .box Ec (zh (nd (Zs 1 (nv (nd (zq 1 (nv (nd DN)) (nv (nd (zq 1 (nv (nd y)) (nv (nd y)))))))) (nv ([1, 0, 0, 0] : List UInt64))))) 33] → G 6 #[true, true, true, true, true, false, false, false, false, false, false] ac wo := by
   intro _ _ E3 Ey
   refine Zr hG ?_
   refine q_s [5,6,7] [] 3 E3 (Ey.pk [3, 4]) fun _ E4 => q_t 8 ?_
   refine m_z 33 (zh (zf 4 0)) E4 Ey fun _ _ Ez E5 EA => ⟨fun _ => EA.pk [3, 4], ?_⟩
   refine q_t 9 ?_
   refine zZ 5 4 (zh (nd (rE y))) [.box Eh (zh (nd y)) 33, .box Ea ((zh (zf 4 0)) ++ ((zh (zf 4 0)) ++ (zh (zf 4 0)))) 44, .box Ed (zh (nd (zq 1 (nv (nd y)) (nv (nd y))))) 33, .box Eb (zh (nd (z8 1 (nv (nd (zq 1 (nv (nd y)) (nv (nd y))))) (nv ([1, 0, 0, 0] : List UInt64))))) 33, .box Ec (zh (nd (Zs 1 (nv (nd (zq 1 (nv (nd DN)) (nv (nd (zq 1 (nv (nd y)) (nv (nd y)))))))) (nv ([1, 0, 0, 0] : List UInt64))))) 33, .box Ez (zh (nd (rE y))) 33] E5 EA rfl (zd (zl _ _)) (zd (zi)) (zw _) rfl fun _ _ E6 En => ⟨fun _ => En.pk [3, 4], ?_⟩
   refine q_s [10] [] 0 E6 (En.pk [3, 4]) fun _ E7 => ?_
   exact h_e ⟨Ez, E7.sb, En.pk [0, 1, 2, 3, 4, 5]⟩
  have nd445 : ∀ (ac : Act) (wo : World) (El : Nat), Env ac 51 [(1, .bool o), (3, pt Eh), (6, pt Ea), (7, .bool false), (8, pt Ed), (9, pt Eb), (10, pt Ec), (11, pt El), (28, .agg (zg (zh (nd (zq 1 (nv (nd (z8 1 (nv (nd (zq 1 (nv (nd y)) (nv (nd y))))) (nv ([1, 0, 0, 0] : List UInt64))))) (nv (nd (zU 1 (nv (nd (Zs 1 (nv (nd (zq 1 (nv (nd DN)) (nv (nd (zq 1 (nv (nd y)) (nv (nd y)))))))) (nv ([1, 0, 0, 0] : List UInt64))))) (mF 1 - 2)))))))))] → Ev w [] wo [.box Eh (zh (nd y)) 33, .box Ea ((zh (zf 4 0)) ++ ((zh (zf 4 0)) ++ (zh (zf 4 0)))) 44, .box Ed (zh (nd (zq 1 (nv (nd y)) (nv (nd y))))) 33, .box Eb (zh (nd (z8 1 (nv (nd (zq 1 (nv (nd y)) (nv (nd y))))) (nv ([1, 0, 0, 0] : List UInt64))))) 33, .box Ec (zh (nd (Zs 1 (nv (nd (zq 1 (nv (nd DN)) (nv (nd (zq 1 (nv (nd y)) (nv (nd y)))))))) (nv ([1, 0, 0, 0] : List UInt64))))) 33, .box El (zh (zf 4 0)) 33] → G 6 #[true, true, true, true, false, false, false, false, true, false, false] ac wo := by
   intro _ _ El E8 E9
   refine Zr hG ?_
   refine q_t 4 ?_
   refine c_p E8 E9 (rroot_tA _ (show (nd (zq 1 (nv (nd (z8 1 (nv (nd (zq 1 (nv (nd y)) (nv (nd y))))) (nv ([1, 0, 0, 0] : List UInt64))))) (nv (nd (zU 1 (nv (nd (Zs 1 (nv (nd (zq 1 (nv (nd DN)) (nv (nd (zq 1 (nv (nd y)) (nv (nd y)))))))) (nv ([1, 0, 0, 0] : List UInt64))))) (mF 1 - 2)))))) = nd (tA y) from tA_txt hy)) fun _ _ Ha Eo => ⟨fun _ => Eo.pk [3, 4], ?_⟩
   refine q_s [5,6,7] [] 2 Ha (Eo.pk [3, 4]) fun _ Hb => q_t 9 ?_
   refine zZ 5 4 (zh (nd (rE y))) _ Hb Eo rfl (zd (zl _ _)) (zd (zi)) (zw _) rfl fun _ _ Hc Ep => ⟨fun _ => Ep.pk [3, 4], ?_⟩
   refine q_s [10] [] 0 Hc (Ep.pk [3, 4]) fun _ Hd => ?_
   exact h_e ⟨El, Hd.sb, Ep.pk [0, 1, 2, 3, 4, 5]⟩
  have nd465 : ∀ (ac : Act) (wo : World), Env ac 51 [(1, .bool o), (3, pt Eh), (6, pt Ea), (7, .bool false), (8, pt Ed), (9, pt Eb), (10, pt Ec), (28, .agg (zg (zh (nd (zq 1 (nv (nd (z8 1 (nv (nd (zq 1 (nv (nd y)) (nv (nd y))))) (nv ([1, 0, 0, 0] : List UInt64))))) (nv (nd (zU 1 (nv (nd (Zs 1 (nv (nd (zq 1 (nv (nd DN)) (nv (nd (zq 1 (nv (nd y)) (nv (nd y)))))))) (nv ([1, 0, 0, 0] : List UInt64))))) (mF 1 - 2)))))))))] → Ev w [] wo [.box Eh (zh (nd y)) 33, .box Ea ((zh (zf 4 0)) ++ ((zh (zf 4 0)) ++ (zh (zf 4 0)))) 44, .box Ed (zh (nd (zq 1 (nv (nd y)) (nv (nd y))))) 33, .box Eb (zh (nd (z8 1 (nv (nd (zq 1 (nv (nd y)) (nv (nd y))))) (nv ([1, 0, 0, 0] : List UInt64))))) 33, .box Ec (zh (nd (Zs 1 (nv (nd (zq 1 (nv (nd DN)) (nv (nd (zq 1 (nv (nd y)) (nv (nd y)))))))) (nv ([1, 0, 0, 0] : List UInt64))))) 33] → G 7 #[true, true, true, true, false, false, false, false, false, false, false] ac wo := by
   intro _ _ EB EC
   refine Zr hG ?_
   refine QA [4, 8] (by kernel_rfl) rfl ?_
   refine ⟨?_, ?_, trivial⟩
   ·
    rintro _ rfl
    refine c_p EB EC (rroot_tA _ (show (nd (zq 1 (nv (nd (z8 1 (nv (nd (zq 1 (nv (nd y)) (nv (nd y))))) (nv ([1, 0, 0, 0] : List UInt64))))) (nv (nd (zU 1 (nv (nd (Zs 1 (nv (nd (zq 1 (nv (nd DN)) (nv (nd (zq 1 (nv (nd y)) (nv (nd y)))))))) (nv ([1, 0, 0, 0] : List UInt64))))) (mF 1 - 2)))))) = nd (tA y) from tA_txt hy)) fun _ _ He ED => ⟨fun _ => ED.pk [3, 4], ?_⟩
    exact QF hG (by kernel_rfl) (nd427 _ _ (He.sb) (ED.pk [0, 1, 2, 3, 4]))
   rintro _ rfl
   refine m_z 33 (zh (zf 4 0)) EB EC fun _ _ Hf Hg EE => ⟨fun _ => EE.pk [3, 4], ?_⟩
   exact QF hG (by kernel_rfl) (nd445 _ _ Hf (Hg.sb) (EE.pk [0, 1, 2, 3, 4, 5]))
  have nd482 : ∀ (ac : Act) (wo : World) (Ej : Nat), Env ac 51 [(1, .bool o), (3, pt Eh), (6, pt Ea), (7, .bool false), (8, pt Ed), (9, pt Eb), (10, pt Ec), (11, pt Ej), (25, .agg (zg (zh (nd (z8 1 (nv (nd (zq 1 (nv (nd y)) (nv (nd y))))) (nv ([1, 0, 0, 0] : List UInt64))))))), (27, .agg (zg (zh (nd (zU 1 (nv (nd (Zs 1 (nv (nd (zq 1 (nv (nd DN)) (nv (nd (zq 1 (nv (nd y)) (nv (nd y)))))))) (nv ([1, 0, 0, 0] : List UInt64))))) (mF 1 - 2))))))] → Ev w [] wo [.box Eh (zh (nd y)) 33, .box Ea ((zh (zf 4 0)) ++ ((zh (zf 4 0)) ++ (zh (zf 4 0)))) 44, .box Ed (zh (nd (zq 1 (nv (nd y)) (nv (nd y))))) 33, .box Eb (zh (nd (z8 1 (nv (nd (zq 1 (nv (nd y)) (nv (nd y))))) (nv ([1, 0, 0, 0] : List UInt64))))) 33, .box Ec (zh (nd (Zs 1 (nv (nd (zq 1 (nv (nd DN)) (nv (nd (zq 1 (nv (nd y)) (nv (nd y)))))))) (nv ([1, 0, 0, 0] : List UInt64))))) 33, .box Ej (zh (zf 4 0)) 33] → G 7 #[true, true, true, false, false, false, false, false, true, false, false] ac wo := by
   intro _ _ Ej Hh Hi
   refine Zr hG ?_
   refine q_t 3 ?_
   refine c_p Hh Hi (dmul_go _ (nd (z8 1 (nv (nd (zq 1 (nv (nd y)) (nv (nd y))))) (nv ([1, 0, 0, 0] : List UInt64)))) (nd (zU 1 (nv (nd (Zs 1 (nv (nd (zq 1 (nv (nd DN)) (nv (nd (zq 1 (nv (nd y)) (nv (nd y)))))))) (nv ([1, 0, 0, 0] : List UInt64))))) (mF 1 - 2))) (zl _ _) (zl _ _)) fun _ _ Hj EF => ⟨fun _ => EF.pk [3, 4], ?_⟩
   refine q_t 4 ?_
   refine c_p Hj EF (rroot_tA _ (show (nd (zq 1 (nv (nd (z8 1 (nv (nd (zq 1 (nv (nd y)) (nv (nd y))))) (nv ([1, 0, 0, 0] : List UInt64))))) (nv (nd (zU 1 (nv (nd (Zs 1 (nv (nd (zq 1 (nv (nd DN)) (nv (nd (zq 1 (nv (nd y)) (nv (nd y)))))))) (nv ([1, 0, 0, 0] : List UInt64))))) (mF 1 - 2)))))) = nd (tA y) from tA_txt hy)) fun _ _ Hk Eq => ⟨fun _ => Eq.pk [3, 4], ?_⟩
   refine q_s [5,6,7] [] 2 Hk (Eq.pk [3, 4]) fun _ Hl => q_t 9 ?_
   refine zZ 5 4 (zh (nd (rE y))) [.box Eh (zh (nd y)) 33, .box Ea ((zh (zf 4 0)) ++ ((zh (zf 4 0)) ++ (zh (zf 4 0)))) 44, .box Ed (zh (nd (zq 1 (nv (nd y)) (nv (nd y))))) 33, .box Eb (zh (nd (z8 1 (nv (nd (zq 1 (nv (nd y)) (nv (nd y))))) (nv ([1, 0, 0, 0] : List UInt64))))) 33, .box Ec (zh (nd (Zs 1 (nv (nd (zq 1 (nv (nd DN)) (nv (nd (zq 1 (nv (nd y)) (nv (nd y)))))))) (nv ([1, 0, 0, 0] : List UInt64))))) 33, .box Ej (zh (nd (rE y))) 33] Hl Eq rfl (zd (zl _ _)) (zd (zi)) (zw _) rfl fun _ _ Hm Er => ⟨fun _ => Er.pk [3, 4], ?_⟩
   refine q_s [10] [] 0 Hm (Er.pk [3, 4]) fun _ Hn => ?_
   exact h_e ⟨Ej, Hn.sb, Er.pk [0, 1, 2, 3, 4, 5]⟩
  have nd509 : ∀ (ac : Act) (wo : World), Env ac 51 [(1, .bool o), (3, pt Eh), (6, pt Ea), (7, .bool false), (8, pt Ed), (9, pt Eb), (10, pt Ec), (25, .agg (zg (zh (nd (z8 1 (nv (nd (zq 1 (nv (nd y)) (nv (nd y))))) (nv ([1, 0, 0, 0] : List UInt64))))))), (27, .agg (zg (zh (nd (zU 1 (nv (nd (Zs 1 (nv (nd (zq 1 (nv (nd DN)) (nv (nd (zq 1 (nv (nd y)) (nv (nd y)))))))) (nv ([1, 0, 0, 0] : List UInt64))))) (mF 1 - 2))))))] → Ev w [] wo [.box Eh (zh (nd y)) 33, .box Ea ((zh (zf 4 0)) ++ ((zh (zf 4 0)) ++ (zh (zf 4 0)))) 44, .box Ed (zh (nd (zq 1 (nv (nd y)) (nv (nd y))))) 33, .box Eb (zh (nd (z8 1 (nv (nd (zq 1 (nv (nd y)) (nv (nd y))))) (nv ([1, 0, 0, 0] : List UInt64))))) 33, .box Ec (zh (nd (Zs 1 (nv (nd (zq 1 (nv (nd DN)) (nv (nd (zq 1 (nv (nd y)) (nv (nd y)))))))) (nv ([1, 0, 0, 0] : List UInt64))))) 33] → G 8 #[true, true, true, false, false, false, false, false, false, false, false] ac wo := by
   intro _ _ EG EH
   refine Zr hG ?_
   refine QA [3, 8] (by kernel_rfl) rfl ?_
   refine ⟨?_, ?_, trivial⟩
   ·
    rintro _ rfl
    refine c_p EG EH (dmul_go _ (nd (z8 1 (nv (nd (zq 1 (nv (nd y)) (nv (nd y))))) (nv ([1, 0, 0, 0] : List UInt64)))) (nd (zU 1 (nv (nd (Zs 1 (nv (nd (zq 1 (nv (nd DN)) (nv (nd (zq 1 (nv (nd y)) (nv (nd y)))))))) (nv ([1, 0, 0, 0] : List UInt64))))) (mF 1 - 2))) (zl _ _) (zl _ _)) fun _ _ Ho EI => ⟨fun _ => EI.pk [3, 4], ?_⟩
    exact QF hG (by kernel_rfl) (nd465 _ _ (Ho.sb) (EI.pk [0, 1, 2, 3, 4]))
   rintro _ rfl
   refine m_z 33 (zh (zf 4 0)) EG EH fun _ _ Hp Hq EJ => ⟨fun _ => EJ.pk [3, 4], ?_⟩
   exact QF hG (by kernel_rfl) (nd482 _ _ Hp (Hq.sb) (EJ.pk [0, 1, 2, 3, 4, 5]))
  have nd526 : ∀ (ac : Act) (wo : World) (Em : Nat), Env ac 51 [(1, .bool o), (3, pt Eh), (6, pt Ea), (7, .bool false), (8, pt Ed), (9, pt Eb), (10, pt Ec), (11, pt Em), (25, .agg (zg (zh (nd (z8 1 (nv (nd (zq 1 (nv (nd y)) (nv (nd y))))) (nv ([1, 0, 0, 0] : List UInt64))))))), (26, .agg (zg (zh (nd (Zs 1 (nv (nd (zq 1 (nv (nd DN)) (nv (nd (zq 1 (nv (nd y)) (nv (nd y)))))))) (nv ([1, 0, 0, 0] : List UInt64)))))))] → Ev w [] wo [.box Eh (zh (nd y)) 33, .box Ea ((zh (zf 4 0)) ++ ((zh (zf 4 0)) ++ (zh (zf 4 0)))) 44, .box Ed (zh (nd (zq 1 (nv (nd y)) (nv (nd y))))) 33, .box Eb (zh (nd (z8 1 (nv (nd (zq 1 (nv (nd y)) (nv (nd y))))) (nv ([1, 0, 0, 0] : List UInt64))))) 33, .box Ec (zh (nd (Zs 1 (nv (nd (zq 1 (nv (nd DN)) (nv (nd (zq 1 (nv (nd y)) (nv (nd y)))))))) (nv ([1, 0, 0, 0] : List UInt64))))) 33, .box Em (zh (zf 4 0)) 33] → G 8 #[true, true, false, false, false, false, false, false, true, false, false] ac wo := by
   intro _ _ Em Hr Hs
   refine Zr hG ?_
   refine q_t 2 ?_
   refine c_p Hr Hs (dinv_go _ (nd (Zs 1 (nv (nd (zq 1 (nv (nd DN)) (nv (nd (zq 1 (nv (nd y)) (nv (nd y)))))))) (nv ([1, 0, 0, 0] : List UInt64)))) (zl _ _)) fun _ _ Ht EK => ⟨fun _ => EK.pk [3, 4], ?_⟩
   refine q_t 3 ?_
   refine c_p Ht EK (dmul_go _ (nd (z8 1 (nv (nd (zq 1 (nv (nd y)) (nv (nd y))))) (nv ([1, 0, 0, 0] : List UInt64)))) (nd (zU 1 (nv (nd (Zs 1 (nv (nd (zq 1 (nv (nd DN)) (nv (nd (zq 1 (nv (nd y)) (nv (nd y)))))))) (nv ([1, 0, 0, 0] : List UInt64))))) (mF 1 - 2))) (zl _ _) (zl _ _)) fun _ _ Hu EL => ⟨fun _ => EL.pk [3, 4], ?_⟩
   refine q_t 4 ?_
   refine c_p Hu EL (rroot_tA _ (show (nd (zq 1 (nv (nd (z8 1 (nv (nd (zq 1 (nv (nd y)) (nv (nd y))))) (nv ([1, 0, 0, 0] : List UInt64))))) (nv (nd (zU 1 (nv (nd (Zs 1 (nv (nd (zq 1 (nv (nd DN)) (nv (nd (zq 1 (nv (nd y)) (nv (nd y)))))))) (nv ([1, 0, 0, 0] : List UInt64))))) (mF 1 - 2)))))) = nd (tA y) from tA_txt hy)) fun _ _ Hv Es => ⟨fun _ => Es.pk [3, 4], ?_⟩
   refine q_s [5,6,7] [] 2 Hv (Es.pk [3, 4]) fun _ Hw => q_t 9 ?_
   refine zZ 5 4 (zh (nd (rE y))) _ Hw Es rfl (zd (zl _ _)) (zd (zi)) (zw _) rfl fun _ _ Hx Et => ⟨fun _ => Et.pk [3, 4], ?_⟩
   refine q_s [10] [] 0 Hx (Et.pk [3, 4]) fun _ Hy => ?_
   exact h_e ⟨Em, Hy.sb, Et.pk [0, 1, 2, 3, 4, 5]⟩
  refine Zr hG ?_
  refine q_r 0 (s := Instr.loadAt 33 (pt Eb)) (v := .agg (zg (zh (nd (z8 1 (nv (nd (zq 1 (nv (nd y)) (nv (nd y))))) (nv ([1, 0, 0, 0] : List UInt64))))))) aC (fun w hS => zV (m := 4) (cs := zh (nd (z8 1 (nv (nd (zq 1 (nv (nd y)) (nv (nd y))))) (nv ([1, 0, 0, 0] : List UInt64))))) (zd (zl _ _)) (by kernel_rfl) (by kernel_rfl) (hS.heap.cells (k := 0) (off := 0) (m := 4) rfl (zr (zd (zl _ _))))) (Ex.pk [4, 5]) fun _ Hz => q_r 1 (s := Instr.loadAt 33 (pt Ec)) (v := .agg (zg (zh (nd (Zs 1 (nv (nd (zq 1 (nv (nd DN)) (nv (nd (zq 1 (nv (nd y)) (nv (nd y)))))))) (nv ([1, 0, 0, 0] : List UInt64))))))) Hz (fun w hS => zV (m := 4) (cs := zh (nd (Zs 1 (nv (nd (zq 1 (nv (nd DN)) (nv (nd (zq 1 (nv (nd y)) (nv (nd y)))))))) (nv ([1, 0, 0, 0] : List UInt64))))) (zd (zl _ _)) (by kernel_rfl) (by kernel_rfl) (hS.heap.cells (k := 1) (off := 0) (m := 4) rfl (zr (zd (zl _ _))))) (Ex.pk [4, 5]) fun _ EM => QA [2, 8] (by kernel_rfl) rfl ?_
  refine ⟨?_, ?_, trivial⟩
  ·
   rintro _ rfl
   refine c_p EM Ex (dinv_go _ (nd (Zs 1 (nv (nd (zq 1 (nv (nd DN)) (nv (nd (zq 1 (nv (nd y)) (nv (nd y)))))))) (nv ([1, 0, 0, 0] : List UInt64)))) (zl _ _)) fun _ _ HA EN => ⟨fun _ => EN.pk [4, 5], ?_⟩
   exact QF hG (by kernel_rfl) (nd509 _ _ (HA.sb) (EN.pk [0, 2, 3, 4, 5]))
  rintro _ rfl
  refine m_z 33 (zh (zf 4 0)) EM Ex fun _ _ HB HC EO => ⟨fun _ => EO.pk [4, 5], ?_⟩
  exact QF hG (by kernel_rfl) (nd526 _ _ HB (HC.sb) (EO.pk [0, 2, 3, 4, 5, 6]))
 rintro _ _ ⟨Ei, HD, Ee⟩
 refine ze <| wp_seq <| wp_seq <| zk <| d_k [1,3,6,7,8,9,10,11,34] [] 3 HD fun _ EP => ?_
 rcases Za (!(Ye 1 (tA y))) with Ek | Ek
 ·
  have HE := EP.fx (t := 34) (congrArg Value.bool Ek)
  have hp584 : ¬ (Ye 1 (tA y) = true) := by simpa using Ek
  refine d_e [1,3,6,7,8,9,10,11,41] [] HE fun _ EQ => ze <| c_t EQ ?_
  refine wp_seq <| zk <| d_k [1,3,6,7,8,9,10,11,42] [] 1 EQ fun _ HF => f_o <| zZ 1 12 [.int .u64 0, .int .u64 0, .int .u64 0, .int .u64 0, .int .u64 0, .int .u64 0, .int .u64 0, .int .u64 0, .int .u64 0, .int .u64 0, .int .u64 0, .int .u64 0] [.box Eh (zh (nd y)) 33, .box Ea [.int .u64 0, .int .u64 0, .int .u64 0, .int .u64 0, .int .u64 0, .int .u64 0, .int .u64 0, .int .u64 0, .int .u64 0, .int .u64 0, .int .u64 0, .int .u64 0] 44, .box Ed (zh (nd (zq 1 (nv (nd y)) (nv (nd y))))) 33, .box Eb (zh (nd (z8 1 (nv (nd (zq 1 (nv (nd y)) (nv (nd y))))) (nv ([1, 0, 0, 0] : List UInt64))))) 33, .box Ec (zh (nd (Zs 1 (nv (nd (zq 1 (nv (nd DN)) (nv (nd (zq 1 (nv (nd y)) (nv (nd y)))))))) (nv ([1, 0, 0, 0] : List UInt64))))) 33, .box Ei (zh (nd (rE y))) 33] HF Ee rfl rfl (zG (zd (zi)) (zG (zd (zi)) (zd (zi)))) (YZ (by kernel_rfl)) rfl fun _ _ HG ER => d_e [1,3,6,7,8,9,10,11] [] HG fun _ HH => ze <| wp_ret <| Zx <| Z9 (v := .agg #[.int .u64 0, .int .u64 0, .int .u64 0, .int .u64 0, .int .u64 0, .int .u64 0, .int .u64 0, .int .u64 0, .int .u64 0, .int .u64 0, .int .u64 0, .int .u64 0]) (x := .bool false) (t := 6) (T := 44) (ad := ⟨Ea, 0, none⟩) (u := 7) HH (by kernel_rfl) (by kernel_rfl) (zF (t := 44) (k := 1) (off := 0) (m := 12) (xs := [.int .u64 0, .int .u64 0, .int .u64 0, .int .u64 0, .int .u64 0, .int .u64 0, .int .u64 0, .int .u64 0, .int .u64 0, .int .u64 0, .int .u64 0, .int .u64 0]) ER rfl rfl rfl (by kernel_rfl) (by kernel_rfl)) (by kernel_rfl) ?_
  have ei : JD y o = false := wx_2 (Q9.2 hp584)
  exact ⟨(show _ = Ending.returned (.tuple #[.agg (zg (zh (zf 12 0))), .bool false]) from by kernel_rfl).trans (ret_wi (wi_no ei) ei.symm), ER.pk []⟩
 have HI := EP.fx (t := 34) (congrArg Value.bool Ek)
 have hp596 : Ye 1 (tA y) = true := by simpa using Ek
 refine d_k [1,3,6,7,8,9,10,11,34,36] [] 5 HI fun _ ES => ?_
 rcases Za (o) with Ef | Ef
 ·
  have HJ := ES.fx (t := 1) (congrArg Value.bool Ef)
  have HK := HJ.fx (t := 36) (congrArg Value.bool Ef)
  have hp602 : o = true := Ef
  refine f_o <| Zn 5 4 (zh (nd (rE y))) HK Ee rfl (zd (zl _ _)) fun _ HL => d_k [1,3,6,7,8,9,10,11,34,36,37,38] [] 7 HL fun _ HM => f_o <| q_v (x := Xc .eql 33 (.tmp 37) (.tmp 38) (.agg (zg (zh (nd (rE y))))) (.agg (zg (zh ([0, 0, 0, 0] : List UInt64))))) (v := .bool ((nd (rE y)) == ([0, 0, 0, 0] : List UInt64))) HM (Z0 (a := (.tmp 37)) (b := (.tmp 38)) (e := 31) (m := 4) (by kernel_rfl) (by kernel_rfl) (by kernel_rfl) (by kernel_rfl) (by kernel_rfl) (zl _ _) (show zc ([0, 0, 0, 0] : List UInt64) = 4 from rfl) _) fun _ HN => d_e [1,3,6,7,8,9,10,11,41] [] HN fun _ Eu => ?_
  refine ze <| Ym Eu (t := (nd (rE y)) == ([0, 0, 0, 0] : List UInt64)) (by kernel_rfl) (fun Eg => ?_) (fun Eg => ?_)
  ·
   replace Eg : (nd (rE y)) = ([0, 0, 0, 0] : List UInt64) := eq_of_beq Eg
   refine wp_seq <| zk <| d_k [1,3,6,7,8,9,10,11,42] [] 1 Eu fun _ HO => f_o <| zZ 1 12 [.int .u64 0, .int .u64 0, .int .u64 0, .int .u64 0, .int .u64 0, .int .u64 0, .int .u64 0, .int .u64 0, .int .u64 0, .int .u64 0, .int .u64 0, .int .u64 0] _ HO Ee rfl rfl (zG (zd (zi)) (zG (zd (zi)) (zd (zi)))) (YZ (by kernel_rfl)) rfl fun _ _ HP ET => d_e [1,3,6,7,8,9,10,11] [] HP fun _ HQ => ze <| wp_ret <| Zx <| Z9 (v := .agg #[.int .u64 0, .int .u64 0, .int .u64 0, .int .u64 0, .int .u64 0, .int .u64 0, .int .u64 0, .int .u64 0, .int .u64 0, .int .u64 0, .int .u64 0, .int .u64 0]) (x := .bool false) (t := 6) (T := 44) (ad := ⟨Ea, 0, none⟩) (u := 7) HQ (by kernel_rfl) (by kernel_rfl) (zF (t := 44) (k := 1) (off := 0) (m := 12) (xs := [.int .u64 0, .int .u64 0, .int .u64 0, .int .u64 0, .int .u64 0, .int .u64 0, .int .u64 0, .int .u64 0, .int .u64 0, .int .u64 0, .int .u64 0, .int .u64 0]) ET rfl rfl rfl (by kernel_rfl) (by kernel_rfl)) (by kernel_rfl) ?_
   have ei : JD y o = false := wx_3 (by simpa using hp602) Eg
   exact ⟨(show _ = Ending.returned (.tuple #[.agg (zg (zh (zf 12 0))), .bool false]) from by kernel_rfl).trans (ret_wi (wi_no ei) ei.symm), ET.pk []⟩
  replace Eg : ¬ ((nd (rE y)) = ([0, 0, 0, 0] : List UInt64)) := ne_of_beq_false Eg
  refine wp_skip <| ze <| wp_seq <| d_s [1,3,6,7,8,9,10,11,43] [] Eu fun _ EU => c_t EU ?_
  refine zk <| d_k [1,3,6,7,8,9,10,11,44] [] 1 EU fun _ HR => f_o <| Zn 5 4 (zh (nd (rE y))) HR Ee rfl (zd (zl _ _)) fun _ HS => f_o <| c_p HS Ee (dsub_go _ ([0, 0, 0, 0] : List UInt64) (nd (rE y)) (show zc ([0, 0, 0, 0] : List UInt64) = 4 from rfl) (zl _ _)) fun _ _ HT HU => f_o <| zZ 5 4 (zh (nd (z8 1 (nv ([0, 0, 0, 0] : List UInt64)) (nv (nd (rE y)))))) [.box Eh (zh (nd y)) 33, .box Ea ((zh (zf 4 0)) ++ ((zh (zf 4 0)) ++ (zh (zf 4 0)))) 44, .box Ed (zh (nd (zq 1 (nv (nd y)) (nv (nd y))))) 33, .box Eb (zh (nd (z8 1 (nv (nd (zq 1 (nv (nd y)) (nv (nd y))))) (nv ([1, 0, 0, 0] : List UInt64))))) 33, .box Ec (zh (nd (Zs 1 (nv (nd (zq 1 (nv (nd DN)) (nv (nd (zq 1 (nv (nd y)) (nv (nd y)))))))) (nv ([1, 0, 0, 0] : List UInt64))))) 33, .box Ei (zh (nd (z8 1 (nv ([0, 0, 0, 0] : List UInt64)) (nv (nd (rE y)))))) 33] HT HU rfl (zd (zl _ _)) (zd (zl _ _)) (zw _) rfl fun _ _ HV Ew => f_e <| ze <| wp_seq <| zk <| f_o <| Zn 5 4 (zh (nd (z8 1 (nv ([0, 0, 0, 0] : List UInt64)) (nv (nd (rE y)))))) HV Ew rfl (zd (zl _ _)) fun _ HW => f_o <| Zn 0 4 (zh (nd y)) HW Ew rfl (zd (zl _ _)) fun _ HX => ?_
  refine d_k [1,3,6,7,8,9,10,11,50] [] 4 HX fun _ HY => f_o <| zZ 1 12 ((zh (nd (z8 1 (nv ([0, 0, 0, 0] : List UInt64)) (nv (nd (rE y)))))) ++ ((zh (nd y)) ++ (zh ([1, 0, 0, 0] : List UInt64)))) _ HY Ew rfl (zG (zd (zl _ _)) (zG (zd (zl _ _)) (zd (show zc ([1, 0, 0, 0] : List UInt64) = 4 from rfl)))) (zG (zd (zi)) (zG (zd (zi)) (zd (zi)))) (QS (zw _) (QS (zw _) (zw _))) rfl fun _ _ HZ EV => d_e [1,3,6,7,8,9,10,11] [] HZ fun _ H0 => ze <| wp_ret <| Z9 (v := .agg (zg ((zh (nd (z8 1 (nv ([0, 0, 0, 0] : List UInt64)) (nv (nd (rE y)))))) ++ ((zh (nd y)) ++ (zh ([1, 0, 0, 0] : List UInt64)))))) (x := .bool true) (t := 6) (T := 44) (ad := ⟨Ea, 0, none⟩) (u := 7) H0 (by kernel_rfl) (by kernel_rfl) (zF (t := 44) (k := 1) (off := 0) (m := 12) (xs := (zh (nd (z8 1 (nv ([0, 0, 0, 0] : List UInt64)) (nv (nd (rE y)))))) ++ ((zh (nd y)) ++ (zh ([1, 0, 0, 0] : List UInt64)))) EV rfl (zr (zG (zd (zl _ _)) (zG (zd (zl _ _)) (zd (show zc ([1, 0, 0, 0] : List UInt64) = 4 from rfl))))) (zG (zd (zl _ _)) (zG (zd (zl _ _)) (zd (show zc ([1, 0, 0, 0] : List UInt64) = 4 from rfl)))) (by kernel_rfl) (by kernel_rfl)) (by kernel_rfl) ?_
  have ho : o = true := by simpa using hp602
  have ei : JD y o = true := wx_yes hp596 (fun _ => Eg)
  exact ⟨by rw [cat12]; exact ret_wi ((wt_odd hy ho).trans (wi_yes ei)) ei.symm, EV.pk []⟩
 have H1 := ES.fx (t := 1) (congrArg Value.bool Ef)
 have H2 := H1.fx (t := 36) (congrArg Value.bool Ef)
 have hp651 : ¬ (o = true) := Q9.1 Ef
 refine d_e [1,3,6,7,8,9,10,11,41] [] H2 fun _ EW => ze <| c_f EW ?_
 refine wp_skip <| ze <| wp_seq <| d_s [1,3,6,7,8,9,10,11,43] [] EW fun _ EX => c_f EX ?_
 refine wp_skip <| ze <| wp_seq <| zk <| f_o <| Zn 5 4 (zh (nd (rE y))) EX Ee rfl (zd (zl _ _)) fun _ H3 => f_o <| Zn 0 4 (zh (nd y)) H3 Ee rfl (zd (zl _ _)) fun _ H4 => d_k [1,3,6,7,8,9,10,11,50] [] 4 H4 fun _ H5 => f_o <| zZ 1 12 ((zh (nd (rE y))) ++ ((zh (nd y)) ++ (zh ([1, 0, 0, 0] : List UInt64)))) [.box Eh (zh (nd y)) 33, .box Ea ((zh (nd (rE y))) ++ ((zh (nd y)) ++ (zh ([1, 0, 0, 0] : List UInt64)))) 44, .box Ed (zh (nd (zq 1 (nv (nd y)) (nv (nd y))))) 33, .box Eb (zh (nd (z8 1 (nv (nd (zq 1 (nv (nd y)) (nv (nd y))))) (nv ([1, 0, 0, 0] : List UInt64))))) 33, .box Ec (zh (nd (Zs 1 (nv (nd (zq 1 (nv (nd DN)) (nv (nd (zq 1 (nv (nd y)) (nv (nd y)))))))) (nv ([1, 0, 0, 0] : List UInt64))))) 33, .box Ei (zh (nd (rE y))) 33] H5 Ee rfl (zG (zd (zl _ _)) (zG (zd (zl _ _)) (zd (show zc ([1, 0, 0, 0] : List UInt64) = 4 from rfl)))) (zG (zd (zi)) (zG (zd (zi)) (zd (zi)))) (QS (zw _) (QS (zw _) (zw _))) rfl fun _ _ H6 EY => d_e [1,3,6,7,8,9,10,11] [] H6 fun _ H7 => ze <| wp_ret <| Z9 (v := .agg (zg ((zh (nd (rE y))) ++ ((zh (nd y)) ++ (zh ([1, 0, 0, 0] : List UInt64)))))) (x := .bool true) (t := 6) (T := 44) (ad := ⟨Ea, 0, none⟩) (u := 7) H7 (by kernel_rfl) (by kernel_rfl) (zF (t := 44) (k := 1) (off := 0) (m := 12) (xs := (zh (nd (rE y))) ++ ((zh (nd y)) ++ (zh ([1, 0, 0, 0] : List UInt64)))) EY rfl (zr (zG (zd (zl _ _)) (zG (zd (zl _ _)) (zd (show zc ([1, 0, 0, 0] : List UInt64) = 4 from rfl))))) (zG (zd (zl _ _)) (zG (zd (zl _ _)) (zd (show zc ([1, 0, 0, 0] : List UInt64) = 4 from rfl)))) (by kernel_rfl) (by kernel_rfl)) (by kernel_rfl) ?_
 have ho : o = false := by simpa using hp651
 have ei : JD y o = true := wx_yes hp596 (fun g => absurd (g.symm.trans ho) (by decide))
 exact ⟨by rw [cat12]; exact ret_wi ((wt_even hy ho).trans (wi_yes ei)) ei.symm, EY.pk []⟩
theorem od_2 (b : List UInt8) : decide (((zM (za b 31 0) : Nat) : Int) ≥ (128 : Int)) = odE b := by
  rw [odE]
  exact decide_eq_decide.2 (by omega)
def toD (b : List UInt8) : L4 := bif decide (yE b < mF 1) then wiD (yE b) (odE b) else zf 12 0
theorem toD_len (b : List UInt8) : (toD b).length = 12 := by
  unfold toD
  generalize decide (yE b < mF 1) = t
  cases t with
  | true => rw [QB]; exact wiD_len (yE b) (odE b)
  | false => rw [QQ]; exact zi
theorem toD_pt {b : List UInt8} (h : isE b = true) : toD b = ptD (yE b) (odE b) := by
  have h1 := is_x h
  have h2 : yE b < mF 1 := is_y h
  rw [toD, decide_eq_true h2, QB, wiD, h1, QB]
theorem dto_no {b : List UInt8} (h : ¬ yE b < mF 1) : zf 12 0 = toD b := by rw [toD, decide_eq_false h, QQ]
theorem dto_yes {b : List UInt8} (h : yE b < mF 1) : wiD (yE b) (odE b) = toD b ∧ JD (yE b) (odE b) = isE b := by
  rw [toD, isE, decide_eq_true h, QB, Qd]
  exact ⟨rfl, rfl⟩
theorem rless1_go (w : World) (a : List UInt64) (ha : zc a = 4) : Calls zB 36 #[.agg (zg (zh a)), .agg (zg (zh (nd (mF 1))))] w fun e w' => e = .returned (.bool (decide (nv a < mF 1))) ∧ Ev w [] w' [] := by
  have h := rless_go w a (nd (mF 1)) ha (zl _ _)
  rw [nv_mF] at h
  exact h
theorem dtold_go (w : World) (b : List UInt8) (hb : zc b = 32) : Calls zB 34 #[.agg (zg (bys b)), .agg (zg (zh (nd DN)))] w fun e w' => e = .returned (.tuple #[.agg (zg (zh (toD b))), .bool (isE b)]) ∧ Ev w [] w' [] := by
 refine d_0 [(0, .agg (zg (bys b))), (1, .agg (zg (zh (nd DN))))] 28 Tryz.func34 Tryz.ntmps34 (Heap.nil _) fun ET EU EV => wp_seq <| zk <| f_o <| m_m 22 (bys b) EU EV fun _ _ Ei EW EX => f_o <| m_m 33 (zh (nd DN)) EW EX fun _ _ Ej EY Es => f_o <| m_z 44 ((zh (zf 4 0)) ++ ((zh (zf 4 0)) ++ (zh (zf 4 0)))) EY Es fun _ _ Eb Et Ef => d_e [2,3,4,5] [] Et fun _ Eu => ze <| wp_seq <| zk <| d_k [2,3,4,5,8] [] 1 Eu fun _ Ew => ?_
 refine f_o ?_
 have Ex : 31 < zc b := by rw [hb]; omega
 refine m_v 0 31 (bv (za b 31 0)) Ew Ef rfl (Qr Ex) fun _ Ey => d_e [2,3,4,5,6] [(2, g_b (show (decide (((zM (za b 31 0) : Nat) : Int) ≥ (128 : Int))) = odE b from od_2 b))] Ey fun _ Ez => ze <| wp_seq <| zk <| d_k [2,3,4,5,6,11] [] 1 Ez fun _ EA => f_o ?_
 have EB : 31 < zc b := by rw [hb]; omega
 refine m_v 0 31 (bv (za b 31 0)) EA Ef rfl (Qr EB) fun _ EC => d_k [2,3,4,5,6,13,14] [(2, g_i .u8 (Xu (x := za b 31 0) (y := (127 : UInt8)) rfl rfl))] 4 EC fun _ ED => f_o ?_
 have EE : 31 < zc b := by rw [hb]; omega
 refine m_t 0 31 (bv ((za b 31 0) &&& (127 : UInt8))) _ ED Ef rfl (Qr EE) (bys_set _ _ _) rfl fun _ _ EF Ek => f_e <| ze <| wp_seq <| zk <| f_o <| Zn 0 32 (bys (zp b 31 ((za b 31 0) &&& (127 : UInt8)))) EF Ek rfl (z7 (List.length_set.trans hb)) fun _ EG => f_o <| c_p EG Ek (rfromle_go _ (zp b 31 ((za b 31 0) &&& (127 : UInt8))) (List.length_set.trans hb)) fun _ _ EH EI => f_o <| m_z 33 (zh (zf 4 0)) EH EI fun _ _ Ec EJ EK => f_o <| zZ 3 4 (zh (nd (lv (zp b 31 ((za b 31 0) &&& (127 : UInt8)))))) [.box Ei (bys (zp b 31 ((za b 31 0) &&& (127 : UInt8)))) 22, .box Ej (zh (nd DN)) 33, .box Eb ((zh (zf 4 0)) ++ ((zh (zf 4 0)) ++ (zh (zf 4 0)))) 44, .box Ec (zh (nd (lv (zp b 31 ((za b 31 0) &&& (127 : UInt8)))))) 33] EJ EK rfl (zd (zl _ _)) (zd (zi)) (zw _) rfl fun _ _ EL Eg => f_e <| ze <| wp_seq <| wp_seq ?_
 rw [show (nd (lv (zp b 31 ((za b 31 0) &&& (127 : UInt8))))) = (nd (yE b)) from rfl] at Eg
 refine r_c (fun ac wo => Env ac 28 [(2, pt Ei), (3, pt Ej), (4, pt Eb), (5, .bool false), (6, .bool (odE b)), (7, pt Ec), (20, .bool (!(decide (nv (nd (yE b)) < mF 1))))] ∧ Ev w [] wo [.box Ei (bys (zp b 31 ((za b 31 0) &&& (127 : UInt8)))) 22, .box Ej (zh (nd DN)) 33, .box Eb ((zh (zf 4 0)) ++ ((zh (zf 4 0)) ++ (zh (zf 4 0)))) 44, .box Ec (zh (nd (yE b))) 33]) ?_ ?_
 ·
  refine s_g0 [(2, pt Ei), (3, pt Ej), (4, pt Eb), (5, .bool false), (6, .bool (odE b)), (7, pt Ec)] [0,1,2,3] [(17, .agg (zg (zh (nd (yE b))))), (18, .agg (zg (zh (nd (mF 1))))), (19, .bool (decide (nv (nd (yE b)) < mF 1))), (20, .bool (!(decide (nv (nd (yE b)) < mF 1))))] 0 [(2, pt Ei), (3, pt Ej), (4, pt Eb), (5, .bool false), (6, .bool (odE b)), (7, pt Ec), (20, .bool (!(decide (nv (nd (yE b)) < mF 1))))] (EL.sb) (Eg.trans (zS Eg.heap)) ?_ fun _ _ EM EN => ?_
  ·
   refine s_a 3 0 4 (zh (nd (yE b))) rfl (zr (zd (zl _ _))) (zd (zl _ _)) <| s_f (fun _ => rmodulus_go _ 1) ?_
   refine s_f (fun _ => rless1_go _ (nd (yE b)) (zl _ _)) ?_
   refine s_p [] ?_
   exact s_n
  exact a_e ⟨EM.sb, EN.pk [0, 1, 2, 3]⟩
 rintro _ _ ⟨Eh, Ed⟩
 refine ze <| Ym Eh (t := !(decide (nv (nd (yE b)) < mF 1))) (by kernel_rfl) (fun Ea => ?_) (fun Ea => ?_)
 ·
  replace Ea : ¬ (nv (nd (yE b)) < mF 1) := by simpa using Ea
  refine wp_seq <| zk <| d_k [2,3,4,5,6,7,21] [] 1 Eh fun _ EO => f_o <| zZ 2 12 [.int .u64 0, .int .u64 0, .int .u64 0, .int .u64 0, .int .u64 0, .int .u64 0, .int .u64 0, .int .u64 0, .int .u64 0, .int .u64 0, .int .u64 0, .int .u64 0] _ EO Ed rfl rfl (zG (zd (zi)) (zG (zd (zi)) (zd (zi)))) (YZ (by kernel_rfl)) rfl fun _ _ EP El => d_e [2,3,4,5,6,7] [] EP fun _ EQ => ze <| wp_ret <| Zx <| Z9 (v := .agg #[.int .u64 0, .int .u64 0, .int .u64 0, .int .u64 0, .int .u64 0, .int .u64 0, .int .u64 0, .int .u64 0, .int .u64 0, .int .u64 0, .int .u64 0, .int .u64 0]) (x := .bool false) (t := 4) (T := 44) (ad := ⟨Eb, 0, none⟩) (u := 5) EQ (by kernel_rfl) (by kernel_rfl) (zF (t := 44) (k := 2) (off := 0) (m := 12) (xs := [.int .u64 0, .int .u64 0, .int .u64 0, .int .u64 0, .int .u64 0, .int .u64 0, .int .u64 0, .int .u64 0, .int .u64 0, .int .u64 0, .int .u64 0, .int .u64 0]) El rfl rfl rfl (by kernel_rfl) (by kernel_rfl)) (by kernel_rfl) ?_
  have hn : ¬ yE b < mF 1 := (by rw [← nv_y hb]; first | exact Ea | simpa using Ea)
  exact ⟨(show _ = Ending.returned (.tuple #[.agg (zg (zh (zf 12 0))), .bool false]) from by kernel_rfl).trans (ret_wi (dto_no hn) (no_1 hn).symm), El.pk []⟩
 replace Ea : nv (nd (yE b)) < mF 1 := by simpa using Ea
 refine wp_skip <| ze <| wp_seq <| zk <| f_o <| Zn 3 4 (zh (nd (yE b))) Eh Ed rfl (zd (zl _ _)) fun _ ER => d_k [2,3,4,5,7,22,23] [] 2 ER fun _ ES => f_o <| Zn 1 4 (zh (nd DN)) ES Ed rfl (zd (zl _ _)) fun _ Em => f_o <| c_p Em Ed (dwith_go _ (yE b) (nv_y hb) (odE b)) fun _ _ En Eo => d_k [2,4,5,7,26,27] [] 6 En fun _ Ep => f_o <| zZ 2 12 (zh (wiD (yE b) (odE b))) [.box Ei (bys (zp b 31 ((za b 31 0) &&& (127 : UInt8)))) 22, .box Ej (zh (nd DN)) 33, .box Eb (zh (wiD (yE b) (odE b))) 44, .box Ec (zh (nd (yE b))) 33] Ep Eo rfl (zd (wiD_len _ _)) (zG (zd (zi)) (zG (zd (zi)) (zd (zi)))) (zw _) rfl fun _ _ Eq Ee => ?_
 refine d_e [2,4,5,7] [] Eq fun _ Er => ze <| wp_ret <| Z9 (v := .agg (zg (zh (wiD (yE b) (odE b))))) (x := .bool (JD (yE b) (odE b))) (t := 4) (T := 44) (ad := ⟨Eb, 0, none⟩) (u := 5) Er (by kernel_rfl) (by kernel_rfl) (zF (t := 44) (k := 2) (off := 0) (m := 12) (xs := zh (wiD (yE b) (odE b))) Ee rfl (zr (zd (wiD_len _ _))) (zd (wiD_len _ _)) (by kernel_rfl) (by kernel_rfl)) (by kernel_rfl) ?_
 have hy1 : yE b < mF 1 := (by rw [← nv_y hb]; first | exact Ea | simpa using Ea)
 exact ⟨ret_wi (dto_yes hy1).1 (dto_yes hy1).2, Ee.pk []⟩
end Go.Proofs.YtlnogkmnklfjlaaGreatDoor
namespace Go.Proofs.YtlnogkmnklfjlaaGreatDoor.Sh
open Go.Dbr
abbrev pt (b : Nat) : Value := .pointer (some (Addr.mk b 0 none))
abbrev ni (n : Nat) : Value := .int .i64 (n : Int)
def rotr32 (x : UInt32) (n : Nat) : UInt32 := (x >>> XJ n) ||| (x <<< XJ (32 - n))
def rotr64 (x : UInt64) (n : Nat) : UInt64 := (x >>> zb n) ||| (x <<< zb (64 - n))
theorem turned64_go (w : World) (x : UInt64) (n : Nat) (h0 : 0 < n) (hn : n < 64) : Calls zB 116 #[zn x, ni n, .int .i64 64] w fun e w' => e = .returned (zn (rotr64 x n)) ∧ Ev w [] w' [] := by
 refine d_0 [(0, zn x), (1, ni n), (2, .int .i64 64)] 16 Tryz.func116 Tryz.ntmps116 (Heap.nil _) fun Ei Ej Eh => d_s [0,1,2,6] [] Ej fun _ Ek => ?_
 refine wp_seq <| r_c (fun ac wo => Env ac 16 [(6, zn ((x >>> zb n) ||| (x <<< zb (64 - n))))] ∧ Ev w [] wo []) ?_ ?_
 ·
  refine draw_any (by kernel_rfl) 10 (by kernel_rfl) ?_
  have El := Eh.trans (zS Eh.heap)
  refine q_a [0,1] [] 8 Ek fun _ Ea => q_g 2 Ea (fun _ => Q0 x .i64 n (by omega) _) fun _ Eb => q_a [3,4,5,6] [(6, g_n (w_r (e := (64 : Int) - ((n : Nat) : Int)) (x := ((64 - n : Nat) : Int)) (by omega)))] 3 Eb fun _ Ec => q_g 7 Ec (fun _ => Go.Dbr.run_shl_u64 x .i64 (64 - n) (by omega) _) fun _ Ed => q_a [8,9] [(8, g_i .u64 (Go.Dbr.u64_or (x := x >>> zb n) (y := x <<< zb (64 - n)) rfl rfl))] 0 Ed fun _ Ee => ?_
  exact a_e ⟨Ee.sb, El.pk []⟩
 rintro _ _ ⟨Ef, Eg⟩
 refine ze <| wp_ret <| Qh (t := 6) (v := zn ((x >>> zb n) ||| (x <<< zb (64 - n)))) Ef (by kernel_rfl) (by kernel_rfl) ?_
 exact ⟨rfl, Eg.pk []⟩
def mix32 (x : UInt32) (i j k : Nat) (shift : Bool) : UInt32 := bif shift then (rotr32 x i ^^^ rotr32 x j) ^^^ (x >>> XJ k) else (rotr32 x i ^^^ rotr32 x j) ^^^ rotr32 x k
def mix64 (x : UInt64) (i j k : Nat) (shift : Bool) : UInt64 := bif shift then (rotr64 x i ^^^ rotr64 x j) ^^^ (x >>> zb k) else (rotr64 x i ^^^ rotr64 x j) ^^^ rotr64 x k
theorem mixed64_true (w : World) (x : UInt64) (i j k : Nat) (hi : 0 < i ∧ i < 64) (hj : 0 < j ∧ j < 64) (hk : 0 < k ∧ k < 64) : Calls zB 114 #[zn x, .int .i64 64, .agg #[ni i, ni j, ni k], .bool true] w fun e w' => e = .returned (zn (mix64 x i j k true)) ∧ Ev w [] w' [] := by
 refine d_0 [(0, zn x), (1, .int .i64 64), (2, .agg #[ni i, ni j, ni k]), (3, .bool true)] 35 Tryz.func114 Tryz.ntmps114 (Heap.nil _) fun Eu Ew Ex => wp_seq <| zk <| f_o <| m_m 122 [ni i, ni j, ni k] Ew Ex fun _ _ Eq Ey Et => d_e [0,1,3,6,8] [] Ey fun _ Ez => ?_
 refine ze <| wp_seq <| r_c (fun ac wo => Env ac 35 [(0, zn x), (1, .int .i64 64), (3, .bool true), (6, pt Eq), (8, .int .u64 0), (9, zn ((rotr64 x i) ^^^ (rotr64 x j)))] ∧ Ev w [] wo [.box Eq [ni i, ni j, ni k] 122]) ?_ ?_
 ·
  refine h_s (fun wv => Ev w [] wv [.box Eq [ni i, ni j, ni k] 122]) [] 12 ?_
  have Ee := Et.trans (zS Et.heap)
  refine q_s [0,1] [] 10 Ez (Ee.pk [0]) fun _ Er => q_l 0 2 Er (Ee.pk [0]) fun _ Es => q_s [3,5,6] [] 6 Es (Ee.pk [0]) fun _ Ef => q_l 0 7 Ef (Ee.pk [0]) fun _ Eg => q_s [8] [] 4 Eg (Ee.pk [0]) fun _ Eh => q_t 4 ?_
  refine c_p Eh Ee (turned64_go _ x i (by omega) (by omega)) fun _ _ Ei Eb => ⟨fun _ => Eb.pk [0], ?_⟩
  refine q_t 9 ?_
  refine c_p Ei Eb (turned64_go _ x j (by omega) (by omega)) fun _ _ Ej Ea => ⟨fun _ => Ea.pk [0], ?_⟩
  refine q_s [10,11] [(10, g_i .u64 (ZK (x := rotr64 x i) (y := rotr64 x j) rfl rfl))] 0 Ej (Ea.pk [0]) fun _ Ek => ?_
  exact h_e ⟨Ek.sb, Ea.pk [0]⟩
 rintro _ _ ⟨El, Ec⟩
 refine ze <| wp_seq <| d_s [0,1,6,8,9,21] [] El fun _ Ed => c_t Ed ?_
 refine wp_seq <| zk <| d_k [0,1,6,8,9,22,23,24] [] 3 Ed fun _ Em => f_o <| m_l 0 Em Ec fun _ En => f_o <| q_v En (Q0 x .i64 k (by omega) _) fun _ Eo => d_e [0,1,6,8,9] [(5, g_i .u64 (ZK (x := (rotr64 x i) ^^^ (rotr64 x j)) (y := x >>> zb k) rfl rfl))] Eo fun _ Ep => ze <| wp_ret <| Zx <| Qh (t := 8) (v := zn (((rotr64 x i) ^^^ (rotr64 x j)) ^^^ (x >>> zb k))) Ep (by kernel_rfl) (by kernel_rfl) ?_
 exact ⟨rfl, Ec.pk []⟩
theorem mixed64_false (w : World) (x : UInt64) (i j k : Nat) (hi : 0 < i ∧ i < 64) (hj : 0 < j ∧ j < 64) (hk : 0 < k ∧ k < 64) : Calls zB 114 #[zn x, .int .i64 64, .agg #[ni i, ni j, ni k], .bool false] w fun e w' => e = .returned (zn (mix64 x i j k false)) ∧ Ev w [] w' [] := by
 refine d_0 [(0, zn x), (1, .int .i64 64), (2, .agg #[ni i, ni j, ni k]), (3, .bool false)] 35 Tryz.func114 Tryz.ntmps114 (Heap.nil _) fun Ex Ey Ez => wp_seq <| zk <| f_o <| m_m 122 [ni i, ni j, ni k] Ey Ez fun _ _ Es EA Ew => d_e [0,1,3,6,8] [] EA fun _ EB => ?_
 refine ze <| wp_seq <| r_c (fun ac wo => Env ac 35 [(0, zn x), (1, .int .i64 64), (3, .bool false), (6, pt Es), (8, .int .u64 0), (9, zn ((rotr64 x i) ^^^ (rotr64 x j)))] ∧ Ev w [] wo [.box Es [ni i, ni j, ni k] 122]) ?_ ?_
 ·
  refine h_s (fun wv => Ev w [] wv [.box Es [ni i, ni j, ni k] 122]) [] 12 ?_
  have Ee := Ew.trans (zS Ew.heap)
  refine q_s [0,1] [] 10 EB (Ee.pk [0]) fun _ Et => q_l 0 2 Et (Ee.pk [0]) fun _ Eu => q_s [3,5,6] [] 6 Eu (Ee.pk [0]) fun _ Ef => q_l 0 7 Ef (Ee.pk [0]) fun _ Eg => q_s [8] [] 4 Eg (Ee.pk [0]) fun _ Eh => q_t 4 ?_
  refine c_p Eh Ee (turned64_go _ x i (by omega) (by omega)) fun _ _ Ei Eb => ⟨fun _ => Eb.pk [0], ?_⟩
  refine q_t 9 ?_
  refine c_p Ei Eb (turned64_go _ x j (by omega) (by omega)) fun _ _ Ej Ea => ⟨fun _ => Ea.pk [0], ?_⟩
  refine q_s [10,11] [(10, g_i .u64 (ZK (x := rotr64 x i) (y := rotr64 x j) rfl rfl))] 0 Ej (Ea.pk [0]) fun _ Ek => ?_
  exact h_e ⟨Ek.sb, Ea.pk [0]⟩
 rintro _ _ ⟨El, Ec⟩
 refine ze <| wp_seq <| d_s [0,1,6,8,9,21] [] El fun _ Ed => c_f Ed ?_
 refine wp_skip <| ze <| wp_seq <| zk <| d_k [0,1,6,8,9,28,29,30] [] 3 Ed fun _ Em => f_o <| m_l 0 Em Ec fun _ En => d_k [0,1,6,8,9,28,29,31,32] [] 5 En fun _ Eo => f_o <| c_p Eo Ec (turned64_go _ x k (by omega) (by omega)) fun _ _ Ep Eq => d_e [0,1,6,8,9] [(6, g_i .u64 (ZK (x := (rotr64 x i) ^^^ (rotr64 x j)) (y := rotr64 x k) rfl rfl))] Ep fun _ Er => ze <| wp_ret <| Qh (t := 8) (v := zn (((rotr64 x i) ^^^ (rotr64 x j)) ^^^ (rotr64 x k))) Er (by kernel_rfl) (by kernel_rfl) ?_
 exact ⟨rfl, Eq.pk []⟩
end Go.Proofs.YtlnogkmnklfjlaaGreatDoor.Sh
