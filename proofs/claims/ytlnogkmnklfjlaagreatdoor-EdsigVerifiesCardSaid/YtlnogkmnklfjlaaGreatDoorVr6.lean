import Derived.Test.YtlnogkmnklfjlaaGreatDoorVr4
import Derived.Test.YtlnogkmnklfjlaaGreatDoorVr5
import Derived.Test.YtlnogkmnklfjlaaGreatDoorVr1
import Derived.Test.YtlnogkmnklfjlaaGreatDoorRows
import Derived.Deep.DeepHandedRow
import Derived.Lib.LaidTab
import Derived.Stop.LaidErr
open List renaming getD → za, length → zc, replicate → zf, toArray → zg, length_replicate → zi, take → zm, drop → zo, set → zp, length_take → zs, drop_append → zu, take_append → zv, length_drop → zy, forall_mem_cons → zE, length_append → zH, take_of_length_le → zJ, getD_eq_getElem?_getD → zN, getElem?_eq_getElem → zR, length_cons → z3, getElem?_eq_some_iff → Zm, flatMap_cons → Zz, not_mem_nil → ZF, append_nil → ZH, length_nil → ZM, map_append → ZO, getElem?_take → ZQ, flatMap_nil → Z3, flatMap → Z7, getElem?_eq_none → Qe, length_set → Qk, take_append_drop → QJ, append_assoc → QK, getElem?_drop → QL, ext_getElem? → Yp, replicate_succ → Ji, flatMap_append → Xb, getElem?_set → Xn, set_append_right → XN, set_cons_zero → Kg
open UInt64 renaming ofNat → zb, toUInt8 → zj, toNat → zA, eq_of_toBitVec_eq → Xw, toBitVec_xor → X3, toBitVec_and → X4
open Go.Dbr renaming u64s_lenh → zd, then_normal → ze, u64s → zh, region_from → zk, uv64 → zn, load_whole → zr, run_indexarr → zt, u64s_one → zw, block_normal → zx, u64s_getD → zC, then_exit → zD, len_app → zG, u64_shr → zI, loop_once → zK, u64_add → zO, block_exit → zP, m_gw → zZ, u64_to_u8 → z4, bys_lenh → z7, d_cell1 → Zf, bys_append → Zg, run_load1 → Zi, op_append → Zl, m_aw → Zn, u64_and → Zp, h_from → Zr, then_ret → Zx, bys_one → ZC, any_to → ZE, bys_len → ZI, u64_xor → ZK, u64_or → ZL, any_from → ZT, op_slicearr → ZY, op_lit → ZZ, u64s_eqop → Z0, u64s_set → Z4, loop_m → Z5, d_ret1 → Qh, run_indexsl → Ql, bys_getD → Qr, i64_rem_nat → Qz, h_ways → QA, bys_inbox → QD, h_to → QF, loop_enter → QY, run_shr_u64 → Q0, any_two → YH, any_ways → YS, eqOp → Xc, draw_any → Xg
open Go.Proofs.YtlnogkmnklfjlaaGreatDoor renaming nds_len → zl, mulM → zq, powM → zU, subM → z8, puE_len → Zb, lb_len → Zj, s3_len → Zq, addM → Zs, dmul_go → Qo, baseD → Yk, sameN → Jf, ptD_len → JS, plD_len → Xe, toD_len → Xs, hS_len → Xv, verB → X0, dadd_go → Kl
open Go.Proofs.Tryz renaming prog → zB
open Go.Dbr.Ev renaming cellAgg → zF, drew → zS
open UInt8 renaming toNat → zM, toUInt64 → Ze
open Go.Proofs.YtlnogkmnklfjlaaGreatDoor.Sh renaming rotr64 → zT, init64 → YR, wB64_len → Jp, padB → Jy, add64 → XW
open Bool renaming eq_false_or_eq_true → Za, true_and → Qd, false_and → QC, and_false → YL, and_true → JT
open Go.Dbr.Reads renaming src → Zk
open Nat renaming mul_one → ZG, mod_lt → ZU, le_refl → ZX, zero_add → QU, sub_self → YB
open Int renaming tmod → Jk
open BitVec renaming eq_of_getLsbD_eq → XA, getLsbD_xor → Ke, getLsbD_and → Kf
set_option maxRecDepth 100000
set_option maxHeartbeats 2000000
set_option linter.unusedVariables false
set_option linter.unusedSimpArgs false
namespace Go.Proofs.YtlnogkmnklfjlaaGreatDoor
open Go.Dbr
theorem cut12 (p : L4) : zh (p.take 4) ++ (zh ((p.drop 4).take 4) ++ zh (p.drop 8)) = zh p := by
  unfold zh
  rw [← ZO, ← ZO]
  congr 1
  have h : p.drop 8 = (p.drop 4).drop 4 := by rw [List.drop_drop]
  rw [h, QJ, QJ]
theorem ret3 {x y z x' y' z' : List UInt64} (h1 : x = x') (h2 : y = y') (h3 : z = z') : Ending.returned (.agg (zg ((zh x) ++ ((zh y) ++ (zh z))))) = Ending.returned (.agg (zg ((zh x') ++ ((zh y') ++ (zh z'))))) := by rw [h1, h2, h3]
theorem plus_go3 (w : World) (x1 y1 z1 x2 y2 z2 : List UInt64) (hx1 : zc x1 = 4) (hy1 : zc y1 = 4) (Eu : zc z1 = 4) (hx2 : zc x2 = 4) (hy2 : zc y2 = 4) (Ew : zc z2 = 4) : Calls zB 39 #[.agg (zg ((zh x1) ++ ((zh y1) ++ (zh z1)))), .agg (zg ((zh x2) ++ ((zh y2) ++ (zh z2)))), .agg (zg (zh (nd DN)))] w fun e w' => e = .returned (.agg (zg ((zh (nd (zq 1 (qA (nv z1) (nv z2)) (zq 1 (qG (nv x1) (nv y1) (nv z1) (nv x2) (nv y2) (nv z2)) (qX (nv x1) (nv y1) (nv x2) (nv y2)))))) ++ ((zh (nd (zq 1 (qA (nv z1) (nv z2)) (zq 1 (qH (nv x1) (nv y1) (nv z1) (nv x2) (nv y2) (nv z2)) (Zs 1 (zq 1 (nv y1) (nv y2)) (zq 1 (nv x1) (nv x2))))))) ++ (zh (nd (zq 1 (qG (nv x1) (nv y1) (nv z1) (nv x2) (nv y2) (nv z2)) (qH (nv x1) (nv y1) (nv z1) (nv x2) (nv y2) (nv z2))))))))) ∧ Ev w [] w' [] := by
 refine d_0 [(0, .agg (zg ((zh x1) ++ ((zh y1) ++ (zh z1))))), (1, .agg (zg ((zh x2) ++ ((zh y2) ++ (zh z2))))), (2, .agg (zg (zh (nd DN))))] 75 Tryz.func39 Tryz.ntmps39 (Heap.nil _) fun HE HF HG => wp_seq <| zk <| f_o <| m_m 44 ((zh x1) ++ ((zh y1) ++ (zh z1))) HF HG fun _ _ Ej HH HI => f_o <| m_m 44 ((zh x2) ++ ((zh y2) ++ (zh z2))) HH HI fun _ _ Ek HJ E7 => f_o <| m_m 33 (zh (nd DN)) HJ E7 fun _ _ Ex E8 E9 => f_o <| m_z 44 ((zh (zf 4 0)) ++ ((zh (zf 4 0)) ++ (zh (zf 4 0)))) E8 E9 fun _ _ Ec Ha Ey => f_e <| ze <| wp_seq <| zk <| d_k [3,4,5,6,15] [] 1 Ha fun _ Hb => ?_
 refine f_o <| m_a 0 8 4 (zh z1) Hb Ey rfl (by simp [zd hx1, zd hy1, zd Eu, zu, zv, zJ]) (zd Eu) fun _ Hc => d_k [3,4,5,6,16,17] [] 3 Hc fun _ Hd => f_o <| m_a 1 8 4 (zh z2) Hd Ey rfl (by simp [zd hx2, zd hy2, zd Ew, zu, zv, zJ]) (zd Ew) fun _ He => f_o <| c_p He Ey (Qo _ z1 z2 Eu Ew) fun _ _ Hf Hg => f_o <| m_z 33 (zh (zf 4 0)) Hf Hg fun _ _ Ed Hh Hi => f_o <| zZ 4 4 (zh (nd (zq 1 (nv z1) (nv z2)))) _ Hh Hi rfl (zd (zl _ _)) (zd (zi)) (zw _) rfl fun _ _ Hj Eq => ?_
 refine f_e ?_
 obtain ⟨qa, h_qa⟩ : ∃ q : List UInt64, q = nd (zq 1 (nv z1) (nv z2)) := ⟨_, rfl⟩
 rw [← h_qa] at Eq
 have n_qa : zc qa = 4 := by rw [h_qa]; exact zl _ _
 refine ze <| wp_seq <| zk <| f_o <| Zn 4 4 (zh qa) Hj Eq rfl (zd n_qa) fun _ Hk => f_o <| Zn 4 4 (zh qa) Hk Eq rfl (zd n_qa) fun _ Hl => f_o <| c_p Hl Eq (Qo _ qa qa n_qa n_qa) fun _ _ Hm Hn => f_o <| m_z 33 (zh (zf 4 0)) Hm Hn fun _ _ Ee Ho Hp => f_o <| zZ 5 4 (zh (nd (zq 1 (nv qa) (nv qa)))) [.box Ej ((zh x1) ++ ((zh y1) ++ (zh z1))) 44, .box Ek ((zh x2) ++ ((zh y2) ++ (zh z2))) 44, .box Ex (zh (nd DN)) 33, .box Ec ((zh (zf 4 0)) ++ ((zh (zf 4 0)) ++ (zh (zf 4 0)))) 44, .box Ed (zh qa) 33, .box Ee (zh (nd (zq 1 (nv qa) (nv qa)))) 33] Ho Hp rfl (zd (zl _ _)) (zd (zi)) (zw _) rfl fun _ _ Hq Er => f_e ?_
 obtain ⟨qb, h_qb⟩ : ∃ q : List UInt64, q = nd (zq 1 (nv qa) (nv qa)) := ⟨_, rfl⟩
 rw [← h_qb] at Er
 have n_qb : zc qb = 4 := by rw [h_qb]; exact zl _ _
 refine ze <| wp_seq <| zk <| d_k [3,4,5,6,7,8,23] [] 1 Hq fun _ Hr => f_o <| m_a 0 0 4 (zh x1) Hr Er rfl (by simp [zd hx1, zd hy1, zd Eu, zu, zv]) (zd hx1) fun _ Hs => d_k [3,4,5,6,7,8,24,25] [] 3 Hs fun _ Ht => f_o <| m_a 1 0 4 (zh x2) Ht Er rfl (by simp [zd hx2, zd hy2, zd Ew, zu, zv]) (zd hx2) fun _ Hu => f_o <| c_p Hu Er (Qo _ x1 x2 hx1 hx2) fun _ _ Hv Hw => f_o <| m_z 33 (zh (zf 4 0)) Hv Hw fun _ _ Eh Hx Hy => ?_
 refine f_o <| zZ 6 4 (zh (nd (zq 1 (nv x1) (nv x2)))) _ Hx Hy rfl (zd (zl _ _)) (zd (zi)) (zw _) rfl fun _ _ Hz Es => f_e ?_
 obtain ⟨qc, h_qc⟩ : ∃ q : List UInt64, q = nd (zq 1 (nv x1) (nv x2)) := ⟨_, rfl⟩
 rw [← h_qc] at Es
 have n_qc : zc qc = 4 := by rw [h_qc]; exact zl _ _
 refine ze <| wp_seq <| zk <| d_k [3,4,5,6,7,8,9,28] [] 1 Hz fun _ HA => f_o <| m_a 0 4 4 (zh y1) HA Es rfl (by simp [zd hx1, zd hy1, zd Eu, zu, zv]) (zd hy1) fun _ HB => d_k [3,4,5,6,7,8,9,29,30] [] 3 HB fun _ HC => f_o <| m_a 1 4 4 (zh y2) HC Es rfl (by simp [zd hx2, zd hy2, zd Ew, zu, zv]) (zd hy2) fun _ HD => f_o <| c_p HD Es (Qo _ y1 y2 hy1 hy2) fun _ _ Ez EA => f_o <| m_z 33 (zh (zf 4 0)) Ez EA fun _ _ Ea EB EC => ?_
 refine f_o <| zZ 7 4 (zh (nd (zq 1 (nv y1) (nv y2)))) [.box Ej ((zh x1) ++ ((zh y1) ++ (zh z1))) 44, .box Ek ((zh x2) ++ ((zh y2) ++ (zh z2))) 44, .box Ex (zh (nd DN)) 33, .box Ec ((zh (zf 4 0)) ++ ((zh (zf 4 0)) ++ (zh (zf 4 0)))) 44, .box Ed (zh qa) 33, .box Ee (zh qb) 33, .box Eh (zh qc) 33, .box Ea (zh (nd (zq 1 (nv y1) (nv y2)))) 33] EB EC rfl (zd (zl _ _)) (zd (zi)) (zw _) rfl fun _ _ ED En => f_e ?_
 obtain ⟨qe, h_qe⟩ : ∃ q : List UInt64, q = nd (zq 1 (nv y1) (nv y2)) := ⟨_, rfl⟩
 rw [← h_qe] at En
 have n_qe : zc qe = 4 := by rw [h_qe]; exact zl _ _
 refine ze <| wp_seq <| r_c (fun ac wo => ∃ (Eb : Nat), Env ac 75 [(3, pt Ej), (4, pt Ek), (6, pt Ec), (7, pt Ed), (8, pt Ee), (9, pt Eh), (10, pt Ea), (11, pt Eb)] ∧ Ev w [] wo [.box Ej ((zh x1) ++ ((zh y1) ++ (zh z1))) 44, .box Ek ((zh x2) ++ ((zh y2) ++ (zh z2))) 44, .box Ec ((zh (zf 4 0)) ++ ((zh (zf 4 0)) ++ (zh (zf 4 0)))) 44, .box Ed (zh qa) 33, .box Ee (zh qb) 33, .box Eh (zh qc) 33, .box Ea (zh qe) 33, .box Eb (zh (nd (zq 1 (nv (nd DN)) (nv (nd (zq 1 (nv qc) (nv qe))))))) 33]) ?_ ?_
 ·
  refine s_g1 [(3, pt Ej), (4, pt Ek), (5, pt Ex), (6, pt Ec), (7, pt Ed), (8, pt Ee), (9, pt Eh), (10, pt Ea)] [0,1,2,3,4] [(33, .agg (zg (zh (nd DN)))), (34, .agg (zg (zh qc))), (35, .agg (zg (zh qe))), (36, .agg (zg (zh (nd (zq 1 (nv qc) (nv qe)))))), (37, .agg (zg (zh (nd (zq 1 (nv (nd DN)) (nv (nd (zq 1 (nv qc) (nv qe)))))))))] 1 [(3, pt Ej), (4, pt Ek), (6, pt Ec), (7, pt Ed), (8, pt Ee), (9, pt Eh), (10, pt Ea), (37, .agg (zg (zh (nd (zq 1 (nv (nd DN)) (nv (nd (zq 1 (nv qc) (nv qe)))))))))] 5 (zh (zf 4 0)) (ED.sb) (En.trans (zS En.heap)) ?_ fun _ _ Eb EE EF => ?_
  ·
   refine s_a 2 0 4 (zh (nd DN)) rfl (zr (zd (zl _ _))) (zd (zl _ _)) <| s_a 6 0 4 (zh qc) rfl (zr (zd n_qc)) (zd n_qc) <| s_a 7 0 4 (zh qe) rfl (zr (zd n_qe)) (zd n_qe) <| s_f (fun _ => Qo _ qc qe n_qc n_qe) ?_
   refine s_f (fun _ => Qo _ (nd DN) (nd (zq 1 (nv qc) (nv qe))) (zl _ _) (zl _ _)) ?_
   exact s_n
  refine q_u 6 ?_
  refine zZ 8 4 (zh (nd (zq 1 (nv (nd DN)) (nv (nd (zq 1 (nv qc) (nv qe))))))) _ EE EF rfl (zd (zl _ _)) (zd (zi)) (zw _) rfl fun _ _ EG EH => ?_
  exact a_e ⟨Eb, EG.sb, EH.pk [0, 1, 3, 4, 5, 6, 7, 8]⟩
 rintro _ _ ⟨Eb, EI, El⟩
 obtain ⟨qf, h_qf⟩ : ∃ q : List UInt64, q = nd (zq 1 (nv (nd DN)) (nv (nd (zq 1 (nv qc) (nv qe))))) := ⟨_, rfl⟩
 rw [← h_qf] at El
 have n_qf : zc qf = 4 := by rw [h_qf]; exact zl _ _
 refine ze <| wp_seq <| zk <| f_o <| Zn 4 4 (zh qb) EI El rfl (zd n_qb) fun _ EJ => f_o <| Zn 7 4 (zh qf) EJ El rfl (zd n_qf) fun _ EK => f_o <| c_p EK El (dsub_go _ qb qf n_qb n_qf) fun _ _ EL EM => f_o <| m_z 33 (zh (zf 4 0)) EL EM fun _ _ Ef EN EO => f_o <| zZ 8 4 (zh (nd (z8 1 (nv qb) (nv qf)))) [.box Ej ((zh x1) ++ ((zh y1) ++ (zh z1))) 44, .box Ek ((zh x2) ++ ((zh y2) ++ (zh z2))) 44, .box Ec ((zh (zf 4 0)) ++ ((zh (zf 4 0)) ++ (zh (zf 4 0)))) 44, .box Ed (zh qa) 33, .box Ee (zh qb) 33, .box Eh (zh qc) 33, .box Ea (zh qe) 33, .box Eb (zh qf) 33, .box Ef (zh (nd (z8 1 (nv qb) (nv qf)))) 33] EN EO rfl (zd (zl _ _)) (zd (zi)) (zw _) rfl fun _ _ EP Em => f_e ?_
 obtain ⟨qg, h_qg⟩ : ∃ q : List UInt64, q = nd (z8 1 (nv qb) (nv qf)) := ⟨_, rfl⟩
 rw [← h_qg] at Em
 have n_qg : zc qg = 4 := by rw [h_qg]; exact zl _ _
 refine ze <| wp_seq <| zk <| f_o <| Zn 4 4 (zh qb) EP Em rfl (zd n_qb) fun _ EQ => f_o <| Zn 7 4 (zh qf) EQ Em rfl (zd n_qf) fun _ ER => f_o <| c_p ER Em (Kl _ qb qf n_qb n_qf) fun _ _ ES ET => f_o <| m_z 33 (zh (zf 4 0)) ES ET fun _ _ Ei EU EV => f_o <| zZ 9 4 (zh (nd (Zs 1 (nv qb) (nv qf)))) _ EU EV rfl (zd (zl _ _)) (zd (zi)) (zw _) rfl fun _ _ EW Eo => f_e ?_
 obtain ⟨qh, h_qh⟩ : ∃ q : List UInt64, q = nd (Zs 1 (nv qb) (nv qf)) := ⟨_, rfl⟩
 rw [← h_qh] at Eo
 have n_qh : zc qh = 4 := by rw [h_qh]; exact zl _ _
 refine ze <| wp_seq <| r_c (fun ac wo => ∃ (Eg : Nat), Env ac 75 [(3, pt Ej), (4, pt Ek), (6, pt Ec), (7, pt Ed), (8, pt Ee), (9, pt Eh), (10, pt Ea), (11, pt Eb), (12, pt Ef), (13, pt Ei), (14, pt Eg)] ∧ Ev w [] wo [.box Ej ((zh x1) ++ ((zh y1) ++ (zh z1))) 44, .box Ek ((zh x2) ++ ((zh y2) ++ (zh z2))) 44, .box Ec ((zh (zf 4 0)) ++ ((zh (zf 4 0)) ++ (zh (zf 4 0)))) 44, .box Ed (zh qa) 33, .box Ee (zh qb) 33, .box Eh (zh qc) 33, .box Ea (zh qe) 33, .box Eb (zh qf) 33, .box Ef (zh qg) 33, .box Ei (zh qh) 33, .box Eg (zh (nd (z8 1 (nv (nd (z8 1 (nv (nd (zq 1 (nv (nd (Zs 1 (nv x1) (nv y1)))) (nv (nd (Zs 1 (nv x2) (nv y2))))))) (nv qc)))) (nv qe)))) 33]) ?_ ?_
 ·
  refine s_g1 [(3, pt Ej), (4, pt Ek), (6, pt Ec), (7, pt Ed), (8, pt Ee), (9, pt Eh), (10, pt Ea), (11, pt Eb), (12, pt Ef), (13, pt Ei)] [0,1,2,3,4,5,6,7,8,9,10,11,12,13,14] [(44, pt Ej), (45, .agg (zg (zh x1))), (46, .pointer (some ⟨Ej, 4, none⟩)), (47, .agg (zg (zh y1))), (48, .agg (zg (zh (nd (Zs 1 (nv x1) (nv y1)))))), (49, pt Ek), (50, .agg (zg (zh x2))), (51, .pointer (some ⟨Ek, 4, none⟩)), (52, .agg (zg (zh y2))), (53, .agg (zg (zh (nd (Zs 1 (nv x2) (nv y2)))))), (54, .agg (zg (zh (nd (zq 1 (nv (nd (Zs 1 (nv x1) (nv y1)))) (nv (nd (Zs 1 (nv x2) (nv y2))))))))), (55, .agg (zg (zh qc))), (56, .agg (zg (zh (nd (z8 1 (nv (nd (zq 1 (nv (nd (Zs 1 (nv x1) (nv y1)))) (nv (nd (Zs 1 (nv x2) (nv y2))))))) (nv qc)))))), (57, .agg (zg (zh qe))), (58, .agg (zg (zh (nd (z8 1 (nv (nd (z8 1 (nv (nd (zq 1 (nv (nd (Zs 1 (nv x1) (nv y1)))) (nv (nd (Zs 1 (nv x2) (nv y2))))))) (nv qc)))) (nv qe))))))] 1 [(3, pt Ej), (4, pt Ek), (6, pt Ec), (7, pt Ed), (8, pt Ee), (9, pt Eh), (10, pt Ea), (11, pt Eb), (12, pt Ef), (13, pt Ei), (58, .agg (zg (zh (nd (z8 1 (nv (nd (z8 1 (nv (nd (zq 1 (nv (nd (Zs 1 (nv x1) (nv y1)))) (nv (nd (Zs 1 (nv x2) (nv y2))))))) (nv qc)))) (nv qe))))))] 15 (zh (zf 4 0)) (EW.sb) (Eo.trans (zS Eo.heap)) ?_ fun _ _ Eg EX EY => ?_
  ·
   refine s_p [] <| s_a 0 0 4 (zh x1) rfl (by simp [zd hx1, zd hy1, zd Eu, zu, zv]) (zd hx1) <| s_p [] <| s_a 0 4 4 (zh y1) rfl (by simp [zd hx1, zd hy1, zd Eu, zu, zv]) (zd hy1) <| s_f (fun _ => Kl _ x1 y1 hx1 hy1) ?_
   refine s_p [] <| s_a 1 0 4 (zh x2) rfl (by simp [zd hx2, zd hy2, zd Ew, zu, zv]) (zd hx2) <| s_p [] <| s_a 1 4 4 (zh y2) rfl (by simp [zd hx2, zd hy2, zd Ew, zu, zv]) (zd hy2) <| s_f (fun _ => Kl _ x2 y2 hx2 hy2) ?_
   refine s_f (fun _ => Qo _ (nd (Zs 1 (nv x1) (nv y1))) (nd (Zs 1 (nv x2) (nv y2))) (zl _ _) (zl _ _)) ?_
   refine s_a 5 0 4 (zh qc) rfl (zr (zd n_qc)) (zd n_qc) <| s_f (fun _ => dsub_go _ (nd (zq 1 (nv (nd (Zs 1 (nv x1) (nv y1)))) (nv (nd (Zs 1 (nv x2) (nv y2)))))) qc (zl _ _) n_qc) ?_
   refine s_a 6 0 4 (zh qe) rfl (zr (zd n_qe)) (zd n_qe) <| s_f (fun _ => dsub_go _ (nd (z8 1 (nv (nd (zq 1 (nv (nd (Zs 1 (nv x1) (nv y1)))) (nv (nd (Zs 1 (nv x2) (nv y2))))))) (nv qc))) qe (zl _ _) n_qe) ?_
   exact s_n
  refine q_u 16 ?_
  refine zZ 10 4 (zh (nd (z8 1 (nv (nd (z8 1 (nv (nd (zq 1 (nv (nd (Zs 1 (nv x1) (nv y1)))) (nv (nd (Zs 1 (nv x2) (nv y2))))))) (nv qc)))) (nv qe)))) [.box Ej ((zh x1) ++ ((zh y1) ++ (zh z1))) 44, .box Ek ((zh x2) ++ ((zh y2) ++ (zh z2))) 44, .box Ec ((zh (zf 4 0)) ++ ((zh (zf 4 0)) ++ (zh (zf 4 0)))) 44, .box Ed (zh qa) 33, .box Ee (zh qb) 33, .box Eh (zh qc) 33, .box Ea (zh qe) 33, .box Eb (zh qf) 33, .box Ef (zh qg) 33, .box Ei (zh qh) 33, .box Eg (zh (nd (z8 1 (nv (nd (z8 1 (nv (nd (zq 1 (nv (nd (Zs 1 (nv x1) (nv y1)))) (nv (nd (Zs 1 (nv x2) (nv y2))))))) (nv qc)))) (nv qe)))) 33] EX EY rfl (zd (zl _ _)) (zd (zi)) (zw _) rfl fun _ _ EZ E0 => ?_
  exact a_e ⟨Eg, EZ.sb, E0.pk [0, 1, 2, 3, 4, 5, 6, 7, 8, 9, 10]⟩
 rintro _ _ ⟨Eg, E1, Ep⟩
 obtain ⟨qx, h_qx⟩ : ∃ q : List UInt64, q = nd (z8 1 (nv (nd (z8 1 (nv (nd (zq 1 (nv (nd (Zs 1 (nv x1) (nv y1)))) (nv (nd (Zs 1 (nv x2) (nv y2))))))) (nv qc)))) (nv qe)) := ⟨_, rfl⟩
 rw [← h_qx] at Ep
 have n_qx : zc qx = 4 := by rw [h_qx]; exact zl _ _
 refine ze <| wp_seq <| r_c (fun ac wo => Env ac 75 [(3, pt Ej), (4, pt Ek), (6, pt Ec), (7, pt Ed), (8, pt Ee), (9, pt Eh), (10, pt Ea), (11, pt Eb), (12, pt Ef), (13, pt Ei), (14, pt Eg)] ∧ Ev w [] wo [.box Ej ((zh x1) ++ ((zh y1) ++ (zh z1))) 44, .box Ek ((zh x2) ++ ((zh y2) ++ (zh z2))) 44, .box Ec ((zh (nd (zq 1 (nv qa) (nv (nd (zq 1 (nv qg) (nv qx))))))) ++ ((zh (nd (zq 1 (nv qa) (nv (nd (zq 1 (nv qh) (nv (nd (Zs 1 (nv qe) (nv qc)))))))))) ++ (zh (nd (zq 1 (nv qg) (nv qh)))))) 44, .box Ed (zh qa) 33, .box Ee (zh qb) 33, .box Eh (zh qc) 33, .box Ea (zh qe) 33, .box Eb (zh qf) 33, .box Ef (zh qg) 33, .box Ei (zh qh) 33, .box Eg (zh qx) 33]) ?_ ?_
 ·
  refine s_g0 [(3, pt Ej), (4, pt Ek), (6, pt Ec), (7, pt Ed), (8, pt Ee), (9, pt Eh), (10, pt Ea), (11, pt Eb), (12, pt Ef), (13, pt Ei), (14, pt Eg)] [0,1,2,3,4,5,6,7,8,9,10,11,12,13,14,15] [(59, .agg (zg (zh qa))), (60, .agg (zg (zh qg))), (61, .agg (zg (zh qx))), (62, .agg (zg (zh (nd (zq 1 (nv qg) (nv qx)))))), (63, .agg (zg (zh (nd (zq 1 (nv qa) (nv (nd (zq 1 (nv qg) (nv qx))))))))), (64, .agg (zg (zh qa))), (65, .agg (zg (zh qh))), (66, .agg (zg (zh qe))), (67, .agg (zg (zh qc))), (68, .agg (zg (zh (nd (Zs 1 (nv qe) (nv qc)))))), (69, .agg (zg (zh (nd (zq 1 (nv qh) (nv (nd (Zs 1 (nv qe) (nv qc))))))))), (70, .agg (zg (zh (nd (zq 1 (nv qa) (nv (nd (zq 1 (nv qh) (nv (nd (Zs 1 (nv qe) (nv qc)))))))))))), (71, .agg (zg (zh qg))), (72, .agg (zg (zh qh))), (73, .agg (zg (zh (nd (zq 1 (nv qg) (nv qh)))))), (74, .agg (zg ((zh (nd (zq 1 (nv qa) (nv (nd (zq 1 (nv qg) (nv qx))))))) ++ ((zh (nd (zq 1 (nv qa) (nv (nd (zq 1 (nv qh) (nv (nd (Zs 1 (nv qe) (nv qc)))))))))) ++ (zh (nd (zq 1 (nv qg) (nv qh))))))))] 1 [(3, pt Ej), (4, pt Ek), (6, pt Ec), (7, pt Ed), (8, pt Ee), (9, pt Eh), (10, pt Ea), (11, pt Eb), (12, pt Ef), (13, pt Ei), (14, pt Eg), (74, .agg (zg ((zh (nd (zq 1 (nv qa) (nv (nd (zq 1 (nv qg) (nv qx))))))) ++ ((zh (nd (zq 1 (nv qa) (nv (nd (zq 1 (nv qh) (nv (nd (Zs 1 (nv qe) (nv qc)))))))))) ++ (zh (nd (zq 1 (nv qg) (nv qh))))))))] (E1.sb) (Ep.trans (zS Ep.heap)) ?_ fun _ _ E2 E3 => ?_
  ·
   refine s_a 3 0 4 (zh qa) rfl (zr (zd n_qa)) (zd n_qa) <| s_a 8 0 4 (zh qg) rfl (zr (zd n_qg)) (zd n_qg) <| s_a 10 0 4 (zh qx) rfl (zr (zd n_qx)) (zd n_qx) <| s_f (fun _ => Qo _ qg qx n_qg n_qx) ?_
   refine s_f (fun _ => Qo _ qa (nd (zq 1 (nv qg) (nv qx))) n_qa (zl _ _)) ?_
   refine s_a 3 0 4 (zh qa) rfl (zr (zd n_qa)) (zd n_qa) <| s_a 9 0 4 (zh qh) rfl (zr (zd n_qh)) (zd n_qh) <| s_a 6 0 4 (zh qe) rfl (zr (zd n_qe)) (zd n_qe) <| s_a 5 0 4 (zh qc) rfl (zr (zd n_qc)) (zd n_qc) <| s_f (fun _ => Kl _ qe qc n_qe n_qc) ?_
   refine s_f (fun _ => Qo _ qh (nd (Zs 1 (nv qe) (nv qc))) n_qh (zl _ _)) ?_
   refine s_f (fun _ => Qo _ qa (nd (zq 1 (nv qh) (nv (nd (Zs 1 (nv qe) (nv qc)))))) n_qa (zl _ _)) ?_
   refine s_a 8 0 4 (zh qg) rfl (zr (zd n_qg)) (zd n_qg) <| s_a 9 0 4 (zh qh) rfl (zr (zd n_qh)) (zd n_qh) <| s_f (fun _ => Qo _ qg qh n_qg n_qh) ?_
   refine s_p [] ?_
   exact s_n
  refine q_u 16 ?_
  refine zZ 2 12 ((zh (nd (zq 1 (nv qa) (nv (nd (zq 1 (nv qg) (nv qx))))))) ++ ((zh (nd (zq 1 (nv qa) (nv (nd (zq 1 (nv qh) (nv (nd (Zs 1 (nv qe) (nv qc)))))))))) ++ (zh (nd (zq 1 (nv qg) (nv qh)))))) _ E2 E3 rfl (zG (zd (zl _ _)) (zG (zd (zl _ _)) (zd (zl _ _)))) (zG (zd (zi)) (zG (zd (zi)) (zd (zi)))) (one_app (zw _) (one_app (zw _) (zw _))) rfl fun _ _ E4 E5 => ?_
  exact a_e ⟨E4.sb, E5.pk [0, 1, 2, 3, 4, 5, 6, 7, 8, 9, 10]⟩
 rintro _ _ ⟨E6, Et⟩
 refine ze <| wp_ret <| Zf (v := .agg (zg ((zh (nd (zq 1 (nv qa) (nv (nd (zq 1 (nv qg) (nv qx))))))) ++ ((zh (nd (zq 1 (nv qa) (nv (nd (zq 1 (nv qh) (nv (nd (Zs 1 (nv qe) (nv qc)))))))))) ++ (zh (nd (zq 1 (nv qg) (nv qh)))))))) (t := 6) (T := 44) (ad := ⟨Ec, 0, none⟩) E6 (by kernel_rfl) (by kernel_rfl) (zF (t := 44) (k := 2) (off := 0) (m := 12) (xs := (zh (nd (zq 1 (nv qa) (nv (nd (zq 1 (nv qg) (nv qx))))))) ++ ((zh (nd (zq 1 (nv qa) (nv (nd (zq 1 (nv qh) (nv (nd (Zs 1 (nv qe) (nv qc)))))))))) ++ (zh (nd (zq 1 (nv qg) (nv qh)))))) Et rfl (zr (zG (zd (zl _ _)) (zG (zd (zl _ _)) (zd (zl _ _))))) (zG (zd (zl _ _)) (zG (zd (zl _ _)) (zd (zl _ _)))) (by kernel_rfl) (by kernel_rfl)) ?_
 have e0 : nd (zq 1 (nv qa) (nv (nd (zq 1 (nv qg) (nv qx))))) = nd (zq 1 (qA (nv z1) (nv z2)) (zq 1 (qG (nv x1) (nv y1) (nv z1) (nv x2) (nv y2) (nv z2)) (qX (nv x1) (nv y1) (nv x2) (nv y2)))) := by
  subst h_qx h_qh h_qg h_qf h_qe h_qc h_qb h_qa
  simp only [nv_m1, nv_a1, nv_s1, nv_dn, qA, qG, qH, qF, qX]
 have e1 : nd (zq 1 (nv qa) (nv (nd (zq 1 (nv qh) (nv (nd (Zs 1 (nv qe) (nv qc)))))))) = nd (zq 1 (qA (nv z1) (nv z2)) (zq 1 (qH (nv x1) (nv y1) (nv z1) (nv x2) (nv y2) (nv z2)) (Zs 1 (zq 1 (nv y1) (nv y2)) (zq 1 (nv x1) (nv x2))))) := by
  subst h_qx h_qh h_qg h_qf h_qe h_qc h_qb h_qa
  simp only [nv_m1, nv_a1, nv_s1, nv_dn, qA, qG, qH, qF, qX]
 have e2 : nd (zq 1 (nv qg) (nv qh)) = nd (zq 1 (qG (nv x1) (nv y1) (nv z1) (nv x2) (nv y2) (nv z2)) (qH (nv x1) (nv y1) (nv z1) (nv x2) (nv y2) (nv z2))) := by
  subst h_qx h_qh h_qg h_qf h_qe h_qc h_qb h_qa
  simp only [nv_m1, nv_a1, nv_s1, nv_dn, qA, qG, qH, qF, qX]
 exact ⟨ret3 e0 e1 e2, Et.pk []⟩
theorem plus12_go (w : World) (p q : L4) (hp : p.length = 12) (hq : q.length = 12) : Calls zB 39 #[.agg (zg (zh p)), .agg (zg (zh q)), .agg (zg (zh (nd DN)))] w fun e w' => e = .returned (.agg (zg (zh (plD p q)))) ∧ Ev w [] w' [] := by
  have h := plus_go3 w (p.take 4) ((p.drop 4).take 4) (p.drop 8) (q.take 4) ((q.drop 4).take 4) (q.drop 8) (by simp [hp]) (by simp [hp]) (by simp [hp]) (by simp [hq]) (by simp [hq]) (by simp [hq])
  rw [cut12, cut12, cat12] at h
  exact h
theorem ibeq (n : Nat) : (((n : Nat) : Int) == (1 : Int)) = (n == 1) := by
  rw [Bool.eq_iff_iff]
  simp only [beq_iff_eq]
  omega
theorem mn_yes {p k o : L4} {j : Nat} (he : o = mnF p (nv k) j) (hb : (nv k / 2 ^ (255 - j) % 2 == 1) = true) : plD (plD o o) p = mnF p (nv k) (j + 1) := by rw [he, mnF, hb, Bool.cond_true]
theorem mn_no {p k o : L4} {j : Nat} (he : o = mnF p (nv k) j) (hb : (nv k / 2 ^ (255 - j) % 2 == 1) = false) : plD o o = mnF p (nv k) (j + 1) := by rw [he, mnF, hb, Bool.cond_false]
theorem many12_go (w : World) (p k : List UInt64) (hp : zc p = 12) (hk : zc k = 4) : Calls zB 19 #[.agg (zg (zh k)), .agg (zg (zh p)), .agg (zg (zh (nd DN)))] w fun e w' => e = .returned (.agg (zg (zh (mnF p (nv k) 256)))) ∧ Ev w [] w' [] := by
 refine d_0 [(0, .agg (zg (zh k))), (1, .agg (zg (zh p))), (2, .agg (zg (zh (nd DN))))] 34 Tryz.func19 Tryz.ntmps19 (Heap.nil _) fun EX EY EZ => wp_seq <| zk <| f_o <| m_m 33 (zh k) EY EZ fun _ _ Ej E0 E1 => f_o <| m_m 44 (zh p) E0 E1 fun _ _ El E2 Em => f_o <| m_m 33 (zh (nd DN)) E2 Em fun _ _ Ee En Eo => f_o <| m_z 44 (zh (zf 12 0)) En Eo fun _ _ Ed Ep Eq => f_e <| ze <| wp_seq <| zk <| d_k [3,4,5,6,11] [] 3 Ep fun _ Er => ?_
 refine f_o <| m_z 44 (zh (zf 12 0)) Er Eq fun _ _ Ef Es Et => f_o <| zZ 4 12 (zh zero12) _ Es Et rfl (zd (l3_len _ _ _)) (zd (zi)) (zw _) rfl fun _ _ Eu Ew => f_e <| ze <| wp_seq <| wp_seq <| d_r [3,4,5,6,7,8] [] Eu fun _ Ex => ?_
 refine ze <| wp_block <| Z5 (fun Ey ac wo => ∃ (j : Nat) (o : List UInt64), Ey = (256 - j : Nat) ∧ Env ac 34 [(3, pt Ej), (4, pt El), (5, pt Ee), (6, pt Ed), (7, pt Ef), (8, .int .i64 ((255 : Int) - ((j : Nat) : Int)))] ∧ Ev w [] wo [.box Ef (zh o) 44, .box Ej (zh k) 33, .box El (zh p) 44, .box Ee (zh (nd DN)) 33, .box Ed (zh (zf 12 0)) 44] ∧ (j ≤ 256) ∧ (zc o = 12) ∧ (o = mnF p (nv k) j)) ⟨_, 0, zero12, rfl, Ex.sb, Ew.pk [4, 0, 1, 2, 3], (by omega), (l3_len _ _ _), rfl⟩ ?_
 rintro E3 _ _ ⟨j, o, rfl, Ez, Eb, hj, ho, he⟩
 refine wp_seq <| wp_seq <| d_r [3,4,5,6,7,8,13] [] Ez fun _ Eh => ?_
 refine ze <| c_d ((255 : Int) - ((j : Nat) : Int) ≥ (0 : Int)) Eh (fun EA => ?_) (fun EA => ?_)
 ·
  refine wp_skip <| ze <| wp_seq <| wp_block <| wp_seq ?_
  have hj256 : j < 256 := by omega
  refine zk <| f_o <| Zn 0 12 (zh o) Eh Eb rfl (zd ho) fun _ EB => f_o <| Zn 0 12 (zh o) EB Eb rfl (zd ho) fun _ EC => f_o <| Zn 3 4 (zh (nd DN)) EC Eb rfl (zd (zl _ _)) fun _ ED => f_o <| c_p ED Eb (plus12_go _ o o ho ho) fun _ _ EE EF => f_o <| zZ 0 12 (zh (plD o o)) [.box Ef (zh (plD o o)) 44, .box Ej (zh k) 33, .box El (zh p) 44, .box Ee (zh (nd DN)) 33, .box Ed (zh (zf 12 0)) 44] EE EF rfl (zd (Xe _ _)) (zd ho) (zw _) rfl fun _ _ EG Ec => f_e <| ze <| wp_seq <| zk <| d_k [3,4,5,6,7,8,21] [(0, g_i .i64 (show (255 : Int) - ((j : Nat) : Int) = ((255 - j : Nat) : Int) from by omega)), (1, g_i .i64 (show IntKind.wrap .i64 (Int.tdiv ((255 - j : Nat) : Int) (64 : Int)) = (((255 - j) / 64 : Nat) : Int) from Go.Dbr.i64_quo_nat (a := ((255 - j : Nat) : Int)) (n := 255 - j) (m := 64) rfl (by omega)))] 2 EG fun _ EH => ?_
  refine f_o <| q_v (x := Instr.indexAt 33 (pt Ej) (ni ((255 - j) / 64))) (v := .pointer (some ⟨Ej, (255 - j) / 64, none⟩)) EH (zt (e := 31) (sz := 1) (m := 4) (j := (255 - j) / 64) (o := (255 - j) / 64) (by kernel_rfl) (by kernel_rfl) (by omega) (by omega) (by omega) _) fun _ EI => f_o ?_
  have EJ : (255 - j) / 64 < zc k := by rw [hk]; omega
  refine m_v 1 ((255 - j) / 64) (zn (za k ((255 - j) / 64) 0)) EI Ec rfl (zC EJ) fun _ EK => d_k [3,4,5,6,7,8,23,25] [(4, g_i .i64 (show (255 : Int) - ((j : Nat) : Int) = ((255 - j : Nat) : Int) from by omega)), (5, g_i .i64 (show Jk ((255 - j : Nat) : Int) (64 : Int) = (((255 - j) % 64 : Nat) : Int) from Qz (a := ((255 - j : Nat) : Int)) (n := 255 - j) (m := 64) rfl (by omega)))] 6 EK fun _ EL => f_o <| q_v EL (Q0 (za k ((255 - j) / 64) 0) .i64 ((255 - j) % 64) (by omega) _) fun _ EM => d_e [3,4,5,6,7,8,28] [(7, g_i .u64 (Zp (x := (za k ((255 - j) / 64) 0) >>> zb ((255 - j) % 64)) (y := (1 : UInt64)) rfl rfl)), (8, g_b (show (((zA (((za k ((255 - j) / 64) 0) >>> zb ((255 - j) % 64)) &&& (1 : UInt64)) : Nat) : Int) == (1 : Int)) = (nv k / 2 ^ (255 - j) % 2 == 1) from by rw [bit_at]; exact ibeq _))] EM fun _ Ei => ?_
  refine ze <| cond_at Ei (t := nv k / 2 ^ (255 - j) % 2 == 1) (by kernel_rfl) (fun Ea => ?_) (fun Ea => ?_)
  ·
   replace Ea : (nv k / 2 ^ (255 - j) % 2 == 1) = true := by simpa using Ea
   refine zk <| f_o <| Zn 0 12 (zh (plD o o)) Ei Ec rfl (zd (Xe _ _)) fun _ EN => f_o <| Zn 2 12 (zh p) EN Ec rfl (zd hp) fun _ EO => f_o <| Zn 3 4 (zh (nd DN)) EO Ec rfl (zd (zl _ _)) fun _ EP => f_o <| c_p EP Ec (plus12_go _ (plD o o) p (Xe _ _) hp) fun _ _ EQ ER => f_o <| zZ 0 12 (zh (plD (plD o o) p)) _ EQ ER rfl (zd (Xe _ _)) (zd (Xe _ _)) (zw _) rfl fun _ _ ES ET => f_e <| zx <| ze <| d_r [3,4,5,6,7,8] [(1, g_n (w_r (e := ((255 : Int) - ((j : Nat) : Int)) - (1 : Int)) (x := (255 : Int) - ((j + 1 : Nat) : Int)) (by omega)))] ES fun _ EU => ?_
   refine ze <| ⟨_, ⟨j + 1, (plD (plD o o) p), rfl, EU.sb, ET.pk [0, 1, 2, 3, 4], (by omega), (Xe _ _), (mn_yes he (by simpa using Ea))⟩, ?_⟩
   omega
  replace Ea : ¬ ((nv k / 2 ^ (255 - j) % 2 == 1) = true) := by simpa using Ea
  refine wp_skip <| zx <| ze <| d_r [3,4,5,6,7,8] [(1, g_n (w_r (e := ((255 : Int) - ((j : Nat) : Int)) - (1 : Int)) (x := (255 : Int) - ((j + 1 : Nat) : Int)) (by omega)))] Ei fun _ EV => ze <| ⟨_, ⟨j + 1, (plD o o), rfl, EV.sb, Ec.pk [0, 1, 2, 3, 4], (by omega), (Xe _ _), (mn_no he (by simpa using Ea))⟩, ?_⟩
  omega
 refine wp_exit <| zD <| zD <| zP <| ze <| wp_seq <| zk <| f_o <| Zn 0 12 (zh o) Eh Eb rfl (zd ho) fun _ EW => f_o <| zZ 4 12 (zh o) [.box Ef (zh o) 44, .box Ej (zh k) 33, .box El (zh p) 44, .box Ee (zh (nd DN)) 33, .box Ed (zh o) 44] EW Eb rfl (zd ho) (zd (zi)) (zw _) rfl fun _ _ Ek Eg => f_e <| ze <| wp_ret <| Zf (v := .agg (zg (zh o))) (t := 6) (T := 44) (ad := ⟨Ed, 0, none⟩) Ek (by kernel_rfl) (by kernel_rfl) (zF (t := 44) (k := 4) (off := 0) (m := 12) (xs := zh o) Eg rfl (zr (zd ho)) (zd ho) (by kernel_rfl) (by kernel_rfl)) ?_
 have hj4 : j = 256 := by omega
 exact ⟨by rw [he, hj4], Eg.pk []⟩
theorem alike_go (w : World) (x1 y1 z1 x2 y2 z2 : List UInt64) (hx1 : zc x1 = 4) (hy1 : zc y1 = 4) (Ea : zc z1 = 4) (hx2 : zc x2 = 4) (hy2 : zc y2 = 4) (Eb : zc z2 = 4) : Calls zB 38 #[.agg (zg ((zh x1) ++ ((zh y1) ++ (zh z1)))), .agg (zg ((zh x2) ++ ((zh y2) ++ (zh z2))))] w fun e w' => e = .returned (.bool (Jf (nv x1) (nv y1) (nv z1) (nv x2) (nv y2) (nv z2))) ∧ Ev w [] w' [] := by
 refine d_0 [(0, .agg (zg ((zh x1) ++ ((zh y1) ++ (zh z1))))), (1, .agg (zg ((zh x2) ++ ((zh y2) ++ (zh z2)))))] 29 Tryz.func38 Tryz.ntmps38 (Heap.nil _) fun ah ai aj => wp_seq <| zk <| f_o <| m_m 44 ((zh x1) ++ ((zh y1) ++ (zh z1))) ai aj fun _ _ Ec ak al => f_o <| m_m 44 ((zh x2) ++ ((zh y2) ++ (zh z2))) ak al fun _ _ Ed am EA => d_e [2,3,4] [] am fun _ EN => ze <| wp_seq ?_
 rcases Za ((nd (zq 1 (nv x1) (nv z2))) == (nd (zq 1 (nv x2) (nv z1)))) with Ek | Ek
 ·
  have hb13p : (nd (zq 1 (nv x1) (nv z2))) = (nd (zq 1 (nv x2) (nv z1))) := eq_of_beq Ek
  refine r_c (fun ac wo => Env ac 29 [(4, .bool ((nd (zq 1 (nv y1) (nv z2))) == (nd (zq 1 (nv y2) (nv z1)))))] ∧ Ev w [] wo []) ?_ ?_
  ·
   refine s_g0 [(2, pt Ec), (3, pt Ed), (4, .bool false)] [0,1,2,3,4,5,6,7,8,9,10,11] [(5, pt Ec), (6, .agg (zg (zh x1))), (7, .pointer (some ⟨Ed, 8, none⟩)), (8, .agg (zg (zh z2))), (9, .agg (zg (zh (nd (zq 1 (nv x1) (nv z2)))))), (10, pt Ed), (11, .agg (zg (zh x2))), (12, .pointer (some ⟨Ec, 8, none⟩)), (13, .agg (zg (zh z1))), (14, .agg (zg (zh (nd (zq 1 (nv x2) (nv z1)))))), (15, .bool ((nd (zq 1 (nv x1) (nv z2))) == (nd (zq 1 (nv x2) (nv z1))))), (16, .bool ((nd (zq 1 (nv x1) (nv z2))) == (nd (zq 1 (nv x2) (nv z1)))))] 13 [(2, pt Ec), (3, pt Ed), (4, .bool false), (16, .bool ((nd (zq 1 (nv x1) (nv z2))) == (nd (zq 1 (nv x2) (nv z1)))))] (EN.sb) (EA.trans (zS EA.heap)) ?_ fun _ _ ad Ei => ?_
   ·
    refine s_p [] <| s_a 0 0 4 (zh x1) rfl (by simp [zd hx1, zd hy1, zd Ea, zu, zv]) (zd hx1) <| s_p [] <| s_a 1 8 4 (zh z2) rfl (by simp [zd hx2, zd hy2, zd Eb, zu, zv, zJ]) (zd Eb) <| s_f (fun _ => Qo _ x1 z2 hx1 Eb) ?_
    refine s_p [] <| s_a 1 0 4 (zh x2) rfl (by simp [zd hx2, zd hy2, zd Eb, zu, zv]) (zd hx2) <| s_p [] <| s_a 0 8 4 (zh z1) rfl (by simp [zd hx1, zd hy1, zd Ea, zu, zv, zJ]) (zd Ea) <| s_f (fun _ => Qo _ x2 z1 hx2 Ea) ?_
    refine s_c (fun Mx52 _ _ ae af => ?_) ?_
    ·
     refine q_v (x := Xc .eql 33 (.tmp 9) (.tmp 14) (.agg (zg (zh (nd (zq 1 (nv x1) (nv z2)))))) (.agg (zg (zh (nd (zq 1 (nv x2) (nv z1))))))) (v := .bool ((nd (zq 1 (nv x1) (nv z2))) == (nd (zq 1 (nv x2) (nv z1))))) ae (Z0 (a := (.tmp 9)) (b := (.tmp 14)) (e := 31) (m := 4) (by kernel_rfl) (by kernel_rfl) (by kernel_rfl) (by kernel_rfl) (by kernel_rfl) (zl _ _) (zl _ _) _) fun _ ag => ?_
     exact s_e ag af
    refine s_p [] ?_
    exact s_n
   refine any_name fun G hG => ?_
   have nd235 : ∀ (ac : Act) (wo : World), Env ac 29 [(4, .bool false), (16, .bool true), (21, .agg (zg (zh (nd (zq 1 (nv y1) (nv z2)))))), (23, .agg (zg (zh y2))), (24, .pointer (some ⟨Ec, 8, none⟩))] → Ev w [] wo [.box Ec ((zh x1) ++ ((zh y1) ++ (zh z1))) 44] → G 5 #[true, true, true, true, true, true, true, true, true, true, true, true, true, true, true, true, true, true, true, true, false, false, false, false, false] ac wo := by
    intro _ _ EO EB
    refine ZT hG ?_
    refine q_u 20 ?_
    refine m_a 0 8 4 (zh z1) EO EB rfl (by simp [zd hx1, zd hy1, zd Ea, zu, zv, zJ]) (zd Ea) fun _ EP => q_u 21 ?_
    refine c_p EP EB (Qo _ y2 z1 hy2 Ea) fun _ _ EQ ER => q_g 22 (s := Xc .eql 33 (.tmp 21) (.tmp 26) (.agg (zg (zh (nd (zq 1 (nv y1) (nv z2)))))) (.agg (zg (zh (nd (zq 1 (nv y2) (nv z1))))))) (v := .bool ((nd (zq 1 (nv y1) (nv z2))) == (nd (zq 1 (nv y2) (nv z1))))) EQ (fun _ => Z0 (a := (.tmp 21)) (b := (.tmp 26)) (e := 31) (m := 4) (by kernel_rfl) (by kernel_rfl) (by kernel_rfl) (by kernel_rfl) (by kernel_rfl) (zl _ _) (zl _ _) _) fun _ ES => q_a [23,24] [] 0 ES fun _ ET => ?_
    exact a_e ⟨ET.sb, ER.pk []⟩
   have nd253 : ∀ (ac : Act) (wo : World), Env ac 29 [(4, .bool false), (16, .bool true), (21, .agg (zg (zh (nd (zq 1 (nv y1) (nv z2)))))), (22, .pointer (some ⟨Ed, 4, none⟩)), (25, .agg (zg (zh z1)))] → Ev w [] wo [.box Ed ((zh x2) ++ ((zh y2) ++ (zh z2))) 44] → G 5 #[true, true, true, true, true, true, true, true, true, true, true, true, true, true, true, true, true, true, false, true, true, false, false, false, false] ac wo := by
    intro _ _ EU EC
    refine ZT hG ?_
    refine q_u 18 ?_
    refine m_a 0 4 4 (zh y2) EU EC rfl (by simp [zd hx2, zd hy2, zd Eb, zu, zv]) (zd hy2) fun _ EV => q_u 21 ?_
    refine c_p EV EC (Qo _ y2 z1 hy2 Ea) fun _ _ EW EX => q_g 22 (s := Xc .eql 33 (.tmp 21) (.tmp 26) (.agg (zg (zh (nd (zq 1 (nv y1) (nv z2)))))) (.agg (zg (zh (nd (zq 1 (nv y2) (nv z1))))))) (v := .bool ((nd (zq 1 (nv y1) (nv z2))) == (nd (zq 1 (nv y2) (nv z1))))) EW (fun _ => Z0 (a := (.tmp 21)) (b := (.tmp 26)) (e := 31) (m := 4) (by kernel_rfl) (by kernel_rfl) (by kernel_rfl) (by kernel_rfl) (by kernel_rfl) (zl _ _) (zl _ _) _) fun _ EY => q_a [23,24] [] 0 EY fun _ EZ => ?_
    exact a_e ⟨EZ.sb, EX.pk []⟩
   have nd271 : ∀ (ac : Act) (wo : World), Env ac 29 [(4, .bool false), (16, .bool true), (18, .agg (zg (zh y1))), (20, .agg (zg (zh z2))), (23, .agg (zg (zh y2))), (25, .agg (zg (zh z1)))] → Ev w [] wo [] → G 5 #[true, true, true, true, true, true, true, true, true, true, true, true, true, true, true, true, false, true, true, true, true, false, false, false, false] ac wo := by
    intro _ _ E0 E1
    refine ZT hG ?_
    refine q_u 16 ?_
    refine c_p E0 E1 (Qo _ y1 z2 hy1 Eb) fun _ _ E2 E3 => q_u 21 ?_
    refine c_p E2 E3 (Qo _ y2 z1 hy2 Ea) fun _ _ E4 E5 => q_g 22 (s := Xc .eql 33 (.tmp 21) (.tmp 26) (.agg (zg (zh (nd (zq 1 (nv y1) (nv z2)))))) (.agg (zg (zh (nd (zq 1 (nv y2) (nv z1))))))) (v := .bool ((nd (zq 1 (nv y1) (nv z2))) == (nd (zq 1 (nv y2) (nv z1))))) E4 (fun _ => Z0 (a := (.tmp 21)) (b := (.tmp 26)) (e := 31) (m := 4) (by kernel_rfl) (by kernel_rfl) (by kernel_rfl) (by kernel_rfl) (by kernel_rfl) (zl _ _) (zl _ _) _) fun _ E6 => q_a [23,24] [] 0 E6 fun _ E7 => ?_
    exact a_e ⟨E7.sb, E5.pk []⟩
   have nd294 : ∀ (ac : Act) (wo : World), Env ac 29 [(4, .bool false), (16, .bool true), (21, .agg (zg (zh (nd (zq 1 (nv y1) (nv z2)))))), (22, .pointer (some ⟨Ed, 4, none⟩)), (24, .pointer (some ⟨Ec, 8, none⟩))] → Ev w [] wo [.box Ec ((zh x1) ++ ((zh y1) ++ (zh z1))) 44, .box Ed ((zh x2) ++ ((zh y2) ++ (zh z2))) 44] → G 6 #[true, true, true, true, true, true, true, true, true, true, true, true, true, true, true, true, true, true, false, true, false, false, false, false, false] ac wo := by
    intro _ _ ED El
    refine ZT hG ?_
    refine YH 18 20 (by kernel_rfl) ?_ ?_
    ·
     rintro _ rfl
     refine m_a 1 4 4 (zh y2) ED El rfl (by simp [zd hx2, zd hy2, zd Eb, zu, zv]) (zd hy2) fun _ E8 => ?_
     exact ZE hG (by kernel_rfl) (nd235 _ _ (E8.sb) (El.pk [0]))
    rintro _ rfl
    refine m_a 0 8 4 (zh z1) ED El rfl (by simp [zd hx1, zd hy1, zd Ea, zu, zv, zJ]) (zd Ea) fun _ E9 => ?_
    exact ZE hG (by kernel_rfl) (nd253 _ _ (E9.sb) (El.pk [1]))
   have nd303 : ∀ (ac : Act) (wo : World), Env ac 29 [(4, .bool false), (16, .bool true), (18, .agg (zg (zh y1))), (20, .agg (zg (zh z2))), (23, .agg (zg (zh y2))), (24, .pointer (some ⟨Ec, 8, none⟩))] → Ev w [] wo [.box Ec ((zh x1) ++ ((zh y1) ++ (zh z1))) 44] → G 6 #[true, true, true, true, true, true, true, true, true, true, true, true, true, true, true, true, false, true, true, true, false, false, false, false, false] ac wo := by
    intro _ _ EE Es
    refine ZT hG ?_
    refine YH 16 20 (by kernel_rfl) ?_ ?_
    ·
     rintro _ rfl
     refine c_p EE Es (Qo _ y1 z2 hy1 Eb) fun _ _ Ha Hb => ?_
     exact ZE hG (by kernel_rfl) (nd235 _ _ (Ha.sb) (Hb.pk [0]))
    rintro _ rfl
    refine m_a 0 8 4 (zh z1) EE Es rfl (by simp [zd hx1, zd hy1, zd Ea, zu, zv, zJ]) (zd Ea) fun _ Hc => ?_
    exact ZE hG (by kernel_rfl) (nd271 _ _ (Hc.sb) (Es.pk []))
   have nd317 : ∀ (ac : Act) (wo : World), Env ac 29 [(4, .bool false), (16, .bool true), (18, .agg (zg (zh y1))), (20, .agg (zg (zh z2))), (22, .pointer (some ⟨Ed, 4, none⟩)), (25, .agg (zg (zh z1)))] → Ev w [] wo [.box Ed ((zh x2) ++ ((zh y2) ++ (zh z2))) 44] → G 6 #[true, true, true, true, true, true, true, true, true, true, true, true, true, true, true, true, false, true, false, true, true, false, false, false, false] ac wo := by
    intro _ _ EF Et
    refine ZT hG ?_
    refine YH 16 18 (by kernel_rfl) ?_ ?_
    ·
     rintro _ rfl
     refine c_p EF Et (Qo _ y1 z2 hy1 Eb) fun _ _ Hd He => ?_
     exact ZE hG (by kernel_rfl) (nd253 _ _ (Hd.sb) (He.pk [0]))
    rintro _ rfl
    refine m_a 0 4 4 (zh y2) EF Et rfl (by simp [zd hx2, zd hy2, zd Eb, zu, zv]) (zd hy2) fun _ Hf => ?_
    exact ZE hG (by kernel_rfl) (nd271 _ _ (Hf.sb) (Et.pk []))
   have nd331 : ∀ (ac : Act) (wo : World), Env ac 29 [(4, .bool false), (16, .bool true), (18, .agg (zg (zh y1))), (19, .pointer (some ⟨Ed, 8, none⟩)), (23, .agg (zg (zh y2))), (25, .agg (zg (zh z1)))] → Ev w [] wo [.box Ed ((zh x2) ++ ((zh y2) ++ (zh z2))) 44] → G 6 #[true, true, true, true, true, true, true, true, true, true, true, true, true, true, true, false, false, true, true, true, true, false, false, false, false] ac wo := by
    intro _ _ Hg EG
    refine ZT hG ?_
    refine q_u 15 ?_
    refine m_a 0 8 4 (zh z2) Hg EG rfl (by simp [zd hx2, zd hy2, zd Eb, zu, zv, zJ]) (zd Eb) fun _ Hh => q_u 16 ?_
    refine c_p Hh EG (Qo _ y1 z2 hy1 Eb) fun _ _ Hi Hj => q_u 21 ?_
    refine c_p Hi Hj (Qo _ y2 z1 hy2 Ea) fun _ _ Hk Hl => q_g 22 (s := Xc .eql 33 (.tmp 21) (.tmp 26) (.agg (zg (zh (nd (zq 1 (nv y1) (nv z2)))))) (.agg (zg (zh (nd (zq 1 (nv y2) (nv z1))))))) (v := .bool ((nd (zq 1 (nv y1) (nv z2))) == (nd (zq 1 (nv y2) (nv z1))))) Hk (fun _ => Z0 (a := (.tmp 21)) (b := (.tmp 26)) (e := 31) (m := 4) (by kernel_rfl) (by kernel_rfl) (by kernel_rfl) (by kernel_rfl) (by kernel_rfl) (zl _ _) (zl _ _) _) fun _ Hm => q_a [23,24] [] 0 Hm fun _ Hn => ?_
    exact a_e ⟨Hn.sb, Hl.pk []⟩
   have nd356 : ∀ (ac : Act) (wo : World), Env ac 29 [(4, .bool false), (16, .bool true), (17, .pointer (some ⟨Ec, 4, none⟩)), (20, .agg (zg (zh z2))), (23, .agg (zg (zh y2))), (25, .agg (zg (zh z1)))] → Ev w [] wo [.box Ec ((zh x1) ++ ((zh y1) ++ (zh z1))) 44] → G 6 #[true, true, true, true, true, true, true, true, true, true, true, true, true, false, true, true, false, true, true, true, true, false, false, false, false] ac wo := by
    intro _ _ Ho EH
    refine ZT hG ?_
    refine q_u 13 ?_
    refine m_a 0 4 4 (zh y1) Ho EH rfl (by simp [zd hx1, zd hy1, zd Ea, zu, zv]) (zd hy1) fun _ Hp => q_u 16 ?_
    refine c_p Hp EH (Qo _ y1 z2 hy1 Eb) fun _ _ Hq Hr => q_u 21 ?_
    refine c_p Hq Hr (Qo _ y2 z1 hy2 Ea) fun _ _ Hs Ht => q_g 22 (s := Xc .eql 33 (.tmp 21) (.tmp 26) (.agg (zg (zh (nd (zq 1 (nv y1) (nv z2)))))) (.agg (zg (zh (nd (zq 1 (nv y2) (nv z1))))))) (v := .bool ((nd (zq 1 (nv y1) (nv z2))) == (nd (zq 1 (nv y2) (nv z1))))) Hs (fun _ => Z0 (a := (.tmp 21)) (b := (.tmp 26)) (e := 31) (m := 4) (by kernel_rfl) (by kernel_rfl) (by kernel_rfl) (by kernel_rfl) (by kernel_rfl) (zl _ _) (zl _ _) _) fun _ Hu => q_a [23,24] [] 0 Hu fun _ Hv => ?_
    exact a_e ⟨Hv.sb, Ht.pk []⟩
   have nd381 : ∀ (ac : Act) (wo : World), Env ac 29 [(4, .bool false), (16, .bool true), (18, .agg (zg (zh y1))), (20, .agg (zg (zh z2))), (22, .pointer (some ⟨Ed, 4, none⟩)), (24, .pointer (some ⟨Ec, 8, none⟩))] → Ev w [] wo [.box Ec ((zh x1) ++ ((zh y1) ++ (zh z1))) 44, .box Ed ((zh x2) ++ ((zh y2) ++ (zh z2))) 44] → G 7 #[true, true, true, true, true, true, true, true, true, true, true, true, true, true, true, true, false, true, false, true, false, false, false, false, false] ac wo := by
    intro _ _ Eu Ej
    refine ZT hG ?_
    refine YS [16, 18, 20] (by kernel_rfl) rfl ?_
    refine ⟨?_, ?_, ?_, trivial⟩
    ·
     rintro _ rfl
     refine c_p Eu Ej (Qo _ y1 z2 hy1 Eb) fun _ _ Hw Hx => ?_
     exact ZE hG (by kernel_rfl) (nd294 _ _ (Hw.sb) (Hx.pk [0, 1]))
    ·
     rintro _ rfl
     refine m_a 1 4 4 (zh y2) Eu Ej rfl (by simp [zd hx2, zd hy2, zd Eb, zu, zv]) (zd hy2) fun _ Hy => ?_
     exact ZE hG (by kernel_rfl) (nd303 _ _ (Hy.sb) (Ej.pk [0]))
    rintro _ rfl
    refine m_a 0 8 4 (zh z1) Eu Ej rfl (by simp [zd hx1, zd hy1, zd Ea, zu, zv, zJ]) (zd Ea) fun _ Hz => ?_
    exact ZE hG (by kernel_rfl) (nd317 _ _ (Hz.sb) (Ej.pk [1]))
   have nd397 : ∀ (ac : Act) (wo : World), Env ac 29 [(4, .bool false), (16, .bool true), (18, .agg (zg (zh y1))), (19, .pointer (some ⟨Ed, 8, none⟩)), (23, .agg (zg (zh y2))), (24, .pointer (some ⟨Ec, 8, none⟩))] → Ev w [] wo [.box Ec ((zh x1) ++ ((zh y1) ++ (zh z1))) 44, .box Ed ((zh x2) ++ ((zh y2) ++ (zh z2))) 44] → G 7 #[true, true, true, true, true, true, true, true, true, true, true, true, true, true, true, false, false, true, true, true, false, false, false, false, false] ac wo := by
    intro _ _ EI Em
    refine ZT hG ?_
    refine YH 15 20 (by kernel_rfl) ?_ ?_
    ·
     rintro _ rfl
     refine m_a 1 8 4 (zh z2) EI Em rfl (by simp [zd hx2, zd hy2, zd Eb, zu, zv, zJ]) (zd Eb) fun _ HA => ?_
     exact ZE hG (by kernel_rfl) (nd303 _ _ (HA.sb) (Em.pk [0]))
    rintro _ rfl
    refine m_a 0 8 4 (zh z1) EI Em rfl (by simp [zd hx1, zd hy1, zd Ea, zu, zv, zJ]) (zd Ea) fun _ HB => ?_
    exact ZE hG (by kernel_rfl) (nd331 _ _ (HB.sb) (Em.pk [1]))
   have nd406 : ∀ (ac : Act) (wo : World), Env ac 29 [(4, .bool false), (16, .bool true), (18, .agg (zg (zh y1))), (19, .pointer (some ⟨Ed, 8, none⟩)), (22, .pointer (some ⟨Ed, 4, none⟩)), (25, .agg (zg (zh z1)))] → Ev w [] wo [.box Ed ((zh x2) ++ ((zh y2) ++ (zh z2))) 44] → G 7 #[true, true, true, true, true, true, true, true, true, true, true, true, true, true, true, false, false, true, false, true, true, false, false, false, false] ac wo := by
    intro _ _ EJ En
    refine ZT hG ?_
    refine YH 15 18 (by kernel_rfl) ?_ ?_
    ·
     rintro _ rfl
     refine m_a 0 8 4 (zh z2) EJ En rfl (by simp [zd hx2, zd hy2, zd Eb, zu, zv, zJ]) (zd Eb) fun _ HC => ?_
     exact ZE hG (by kernel_rfl) (nd317 _ _ (HC.sb) (En.pk [0]))
    rintro _ rfl
    refine m_a 0 4 4 (zh y2) EJ En rfl (by simp [zd hx2, zd hy2, zd Eb, zu, zv]) (zd hy2) fun _ HD => ?_
    exact ZE hG (by kernel_rfl) (nd331 _ _ (HD.sb) (En.pk [0]))
   have nd415 : ∀ (ac : Act) (wo : World), Env ac 29 [(4, .bool false), (16, .bool true), (17, .pointer (some ⟨Ec, 4, none⟩)), (20, .agg (zg (zh z2))), (23, .agg (zg (zh y2))), (24, .pointer (some ⟨Ec, 8, none⟩))] → Ev w [] wo [.box Ec ((zh x1) ++ ((zh y1) ++ (zh z1))) 44] → G 7 #[true, true, true, true, true, true, true, true, true, true, true, true, true, false, true, true, false, true, true, true, false, false, false, false, false] ac wo := by
    intro _ _ EK Eo
    refine ZT hG ?_
    refine YH 13 20 (by kernel_rfl) ?_ ?_
    ·
     rintro _ rfl
     refine m_a 0 4 4 (zh y1) EK Eo rfl (by simp [zd hx1, zd hy1, zd Ea, zu, zv]) (zd hy1) fun _ HE => ?_
     exact ZE hG (by kernel_rfl) (nd303 _ _ (HE.sb) (Eo.pk [0]))
    rintro _ rfl
    refine m_a 0 8 4 (zh z1) EK Eo rfl (by simp [zd hx1, zd hy1, zd Ea, zu, zv, zJ]) (zd Ea) fun _ HF => ?_
    exact ZE hG (by kernel_rfl) (nd356 _ _ (HF.sb) (Eo.pk [0]))
   have nd424 : ∀ (ac : Act) (wo : World), Env ac 29 [(4, .bool false), (16, .bool true), (17, .pointer (some ⟨Ec, 4, none⟩)), (20, .agg (zg (zh z2))), (22, .pointer (some ⟨Ed, 4, none⟩)), (25, .agg (zg (zh z1)))] → Ev w [] wo [.box Ec ((zh x1) ++ ((zh y1) ++ (zh z1))) 44, .box Ed ((zh x2) ++ ((zh y2) ++ (zh z2))) 44] → G 7 #[true, true, true, true, true, true, true, true, true, true, true, true, true, false, true, true, false, true, false, true, true, false, false, false, false] ac wo := by
    intro _ _ EL Ep
    refine ZT hG ?_
    refine YH 13 18 (by kernel_rfl) ?_ ?_
    ·
     rintro _ rfl
     refine m_a 0 4 4 (zh y1) EL Ep rfl (by simp [zd hx1, zd hy1, zd Ea, zu, zv]) (zd hy1) fun _ HG => ?_
     exact ZE hG (by kernel_rfl) (nd317 _ _ (HG.sb) (Ep.pk [1]))
    rintro _ rfl
    refine m_a 1 4 4 (zh y2) EL Ep rfl (by simp [zd hx2, zd hy2, zd Eb, zu, zv]) (zd hy2) fun _ HH => ?_
    exact ZE hG (by kernel_rfl) (nd356 _ _ (HH.sb) (Ep.pk [0]))
   have nd433 : ∀ (ac : Act) (wo : World), Env ac 29 [(4, .bool false), (16, .bool true), (17, .pointer (some ⟨Ec, 4, none⟩)), (19, .pointer (some ⟨Ed, 8, none⟩)), (23, .agg (zg (zh y2))), (25, .agg (zg (zh z1)))] → Ev w [] wo [.box Ec ((zh x1) ++ ((zh y1) ++ (zh z1))) 44, .box Ed ((zh x2) ++ ((zh y2) ++ (zh z2))) 44] → G 7 #[true, true, true, true, true, true, true, true, true, true, true, true, true, false, true, false, false, true, true, true, true, false, false, false, false] ac wo := by
    intro _ _ EM Eq
    refine ZT hG ?_
    refine YH 13 15 (by kernel_rfl) ?_ ?_
    ·
     rintro _ rfl
     refine m_a 0 4 4 (zh y1) EM Eq rfl (by simp [zd hx1, zd hy1, zd Ea, zu, zv]) (zd hy1) fun _ HI => ?_
     exact ZE hG (by kernel_rfl) (nd331 _ _ (HI.sb) (Eq.pk [1]))
    rintro _ rfl
    refine m_a 1 8 4 (zh z2) EM Eq rfl (by simp [zd hx2, zd hy2, zd Eb, zu, zv, zJ]) (zd Eb) fun _ HJ => ?_
    exact ZE hG (by kernel_rfl) (nd356 _ _ (HJ.sb) (Eq.pk [0]))
   have nd442 : ∀ (ac : Act) (wo : World), Env ac 29 [(4, .bool false), (16, .bool true), (18, .agg (zg (zh y1))), (19, .pointer (some ⟨Ed, 8, none⟩)), (22, .pointer (some ⟨Ed, 4, none⟩)), (24, .pointer (some ⟨Ec, 8, none⟩))] → Ev w [] wo [.box Ec ((zh x1) ++ ((zh y1) ++ (zh z1))) 44, .box Ed ((zh x2) ++ ((zh y2) ++ (zh z2))) 44] → G 8 #[true, true, true, true, true, true, true, true, true, true, true, true, true, true, true, false, false, true, false, true, false, false, false, false, false] ac wo := by
    intro _ _ Ew Ee
    refine ZT hG ?_
    refine YS [15, 18, 20] (by kernel_rfl) rfl ?_
    refine ⟨?_, ?_, ?_, trivial⟩
    ·
     rintro _ rfl
     refine m_a 1 8 4 (zh z2) Ew Ee rfl (by simp [zd hx2, zd hy2, zd Eb, zu, zv, zJ]) (zd Eb) fun _ HK => ?_
     exact ZE hG (by kernel_rfl) (nd381 _ _ (HK.sb) (Ee.pk [0, 1]))
    ·
     rintro _ rfl
     refine m_a 1 4 4 (zh y2) Ew Ee rfl (by simp [zd hx2, zd hy2, zd Eb, zu, zv]) (zd hy2) fun _ HL => ?_
     exact ZE hG (by kernel_rfl) (nd397 _ _ (HL.sb) (Ee.pk [0, 1]))
    rintro _ rfl
    refine m_a 0 8 4 (zh z1) Ew Ee rfl (by simp [zd hx1, zd hy1, zd Ea, zu, zv, zJ]) (zd Ea) fun _ HM => ?_
    exact ZE hG (by kernel_rfl) (nd406 _ _ (HM.sb) (Ee.pk [1]))
   have nd453 : ∀ (ac : Act) (wo : World), Env ac 29 [(4, .bool false), (16, .bool true), (17, .pointer (some ⟨Ec, 4, none⟩)), (20, .agg (zg (zh z2))), (22, .pointer (some ⟨Ed, 4, none⟩)), (24, .pointer (some ⟨Ec, 8, none⟩))] → Ev w [] wo [.box Ec ((zh x1) ++ ((zh y1) ++ (zh z1))) 44, .box Ed ((zh x2) ++ ((zh y2) ++ (zh z2))) 44] → G 8 #[true, true, true, true, true, true, true, true, true, true, true, true, true, false, true, true, false, true, false, true, false, false, false, false, false] ac wo := by
    intro _ _ Ex Ef
    refine ZT hG ?_
    refine YS [13, 18, 20] (by kernel_rfl) rfl ?_
    refine ⟨?_, ?_, ?_, trivial⟩
    ·
     rintro _ rfl
     refine m_a 0 4 4 (zh y1) Ex Ef rfl (by simp [zd hx1, zd hy1, zd Ea, zu, zv]) (zd hy1) fun _ HN => ?_
     exact ZE hG (by kernel_rfl) (nd381 _ _ (HN.sb) (Ef.pk [0, 1]))
    ·
     rintro _ rfl
     refine m_a 1 4 4 (zh y2) Ex Ef rfl (by simp [zd hx2, zd hy2, zd Eb, zu, zv]) (zd hy2) fun _ HO => ?_
     exact ZE hG (by kernel_rfl) (nd415 _ _ (HO.sb) (Ef.pk [0]))
    rintro _ rfl
    refine m_a 0 8 4 (zh z1) Ex Ef rfl (by simp [zd hx1, zd hy1, zd Ea, zu, zv, zJ]) (zd Ea) fun _ HP => ?_
    exact ZE hG (by kernel_rfl) (nd424 _ _ (HP.sb) (Ef.pk [0, 1]))
   have nd464 : ∀ (ac : Act) (wo : World), Env ac 29 [(4, .bool false), (16, .bool true), (17, .pointer (some ⟨Ec, 4, none⟩)), (19, .pointer (some ⟨Ed, 8, none⟩)), (23, .agg (zg (zh y2))), (24, .pointer (some ⟨Ec, 8, none⟩))] → Ev w [] wo [.box Ec ((zh x1) ++ ((zh y1) ++ (zh z1))) 44, .box Ed ((zh x2) ++ ((zh y2) ++ (zh z2))) 44] → G 8 #[true, true, true, true, true, true, true, true, true, true, true, true, true, false, true, false, false, true, true, true, false, false, false, false, false] ac wo := by
    intro _ _ Ey Eg
    refine ZT hG ?_
    refine YS [13, 15, 20] (by kernel_rfl) rfl ?_
    refine ⟨?_, ?_, ?_, trivial⟩
    ·
     rintro _ rfl
     refine m_a 0 4 4 (zh y1) Ey Eg rfl (by simp [zd hx1, zd hy1, zd Ea, zu, zv]) (zd hy1) fun _ HQ => ?_
     exact ZE hG (by kernel_rfl) (nd397 _ _ (HQ.sb) (Eg.pk [0, 1]))
    ·
     rintro _ rfl
     refine m_a 1 8 4 (zh z2) Ey Eg rfl (by simp [zd hx2, zd hy2, zd Eb, zu, zv, zJ]) (zd Eb) fun _ HR => ?_
     exact ZE hG (by kernel_rfl) (nd415 _ _ (HR.sb) (Eg.pk [0]))
    rintro _ rfl
    refine m_a 0 8 4 (zh z1) Ey Eg rfl (by simp [zd hx1, zd hy1, zd Ea, zu, zv, zJ]) (zd Ea) fun _ HS => ?_
    exact ZE hG (by kernel_rfl) (nd433 _ _ (HS.sb) (Eg.pk [0, 1]))
   have nd475 : ∀ (ac : Act) (wo : World), Env ac 29 [(4, .bool false), (16, .bool true), (17, .pointer (some ⟨Ec, 4, none⟩)), (19, .pointer (some ⟨Ed, 8, none⟩)), (22, .pointer (some ⟨Ed, 4, none⟩)), (25, .agg (zg (zh z1)))] → Ev w [] wo [.box Ec ((zh x1) ++ ((zh y1) ++ (zh z1))) 44, .box Ed ((zh x2) ++ ((zh y2) ++ (zh z2))) 44] → G 8 #[true, true, true, true, true, true, true, true, true, true, true, true, true, false, true, false, false, true, false, true, true, false, false, false, false] ac wo := by
    intro _ _ Ez Eh
    refine ZT hG ?_
    refine YS [13, 15, 18] (by kernel_rfl) rfl ?_
    refine ⟨?_, ?_, ?_, trivial⟩
    ·
     rintro _ rfl
     refine m_a 0 4 4 (zh y1) Ez Eh rfl (by simp [zd hx1, zd hy1, zd Ea, zu, zv]) (zd hy1) fun _ HT => ?_
     exact ZE hG (by kernel_rfl) (nd406 _ _ (HT.sb) (Eh.pk [1]))
    ·
     rintro _ rfl
     refine m_a 1 8 4 (zh z2) Ez Eh rfl (by simp [zd hx2, zd hy2, zd Eb, zu, zv, zJ]) (zd Eb) fun _ HU => ?_
     exact ZE hG (by kernel_rfl) (nd424 _ _ (HU.sb) (Eh.pk [0, 1]))
    rintro _ rfl
    refine m_a 1 4 4 (zh y2) Ez Eh rfl (by simp [zd hx2, zd hy2, zd Eb, zu, zv]) (zd hy2) fun _ HV => ?_
    exact ZE hG (by kernel_rfl) (nd433 _ _ (HV.sb) (Eh.pk [0, 1]))
   refine ZT hG ?_
   have HW := ad.fx (t := 16) (congrArg Value.bool Ek)
   refine q_a [12,14,17,19] [] 9 HW fun _ Er => YS [13, 15, 18, 20] (by kernel_rfl) rfl ?_
   refine ⟨?_, ?_, ?_, ?_, trivial⟩
   ·
    rintro _ rfl
    refine m_a 0 4 4 (zh y1) Er Ei rfl (by simp [zd hx1, zd hy1, zd Ea, zu, zv]) (zd hy1) fun _ HX => ?_
    exact ZE hG (by kernel_rfl) (nd442 _ _ (HX.sb) (Ei.pk [0, 1]))
   ·
    rintro _ rfl
    refine m_a 1 8 4 (zh z2) Er Ei rfl (by simp [zd hx2, zd hy2, zd Eb, zu, zv, zJ]) (zd Eb) fun _ HY => ?_
    exact ZE hG (by kernel_rfl) (nd453 _ _ (HY.sb) (Ei.pk [0, 1]))
   ·
    rintro _ rfl
    refine m_a 1 4 4 (zh y2) Er Ei rfl (by simp [zd hx2, zd hy2, zd Eb, zu, zv]) (zd hy2) fun _ HZ => ?_
    exact ZE hG (by kernel_rfl) (nd464 _ _ (HZ.sb) (Ei.pk [0, 1]))
   rintro _ rfl
   refine m_a 0 8 4 (zh z1) Er Ei rfl (by simp [zd hx1, zd hy1, zd Ea, zu, zv, zJ]) (zd Ea) fun _ H0 => ?_
   exact ZE hG (by kernel_rfl) (nd475 _ _ (H0.sb) (Ei.pk [0, 1]))
  rintro _ _ ⟨H1, H2⟩
  refine ze <| wp_ret <| Qh (t := 4) (v := .bool ((nd (zq 1 (nv y1) (nv z2))) == (nd (zq 1 (nv y2) (nv z1))))) H1 (by kernel_rfl) (by kernel_rfl) ?_
  exact ⟨by simp only [Jf, Ek, Qd, QC, JT, YL], H2.pk []⟩
 have hb13p : ¬ ((nd (zq 1 (nv x1) (nv z2))) = (nd (zq 1 (nv x2) (nv z1)))) := ne_of_beq_false Ek
 refine r_c (fun ac wo => Env ac 29 [(4, .bool false)] ∧ Ev w [] wo []) ?_ ?_
 ·
  refine s_g0 [(2, pt Ec), (3, pt Ed), (4, .bool false)] [0,1,2,3,4,5,6,7,8,9,10,11] [(5, pt Ec), (6, .agg (zg (zh x1))), (7, .pointer (some ⟨Ed, 8, none⟩)), (8, .agg (zg (zh z2))), (9, .agg (zg (zh (nd (zq 1 (nv x1) (nv z2)))))), (10, pt Ed), (11, .agg (zg (zh x2))), (12, .pointer (some ⟨Ec, 8, none⟩)), (13, .agg (zg (zh z1))), (14, .agg (zg (zh (nd (zq 1 (nv x2) (nv z1)))))), (15, .bool ((nd (zq 1 (nv x1) (nv z2))) == (nd (zq 1 (nv x2) (nv z1))))), (16, .bool ((nd (zq 1 (nv x1) (nv z2))) == (nd (zq 1 (nv x2) (nv z1)))))] 13 [(2, pt Ec), (3, pt Ed), (4, .bool false), (16, .bool ((nd (zq 1 (nv x1) (nv z2))) == (nd (zq 1 (nv x2) (nv z1)))))] (EN.sb) (EA.trans (zS EA.heap)) ?_ fun _ _ H3 H4 => ?_
  ·
   refine s_p [] <| s_a 0 0 4 (zh x1) rfl (by simp [zd hx1, zd hy1, zd Ea, zu, zv]) (zd hx1) <| s_p [] <| s_a 1 8 4 (zh z2) rfl (by simp [zd hx2, zd hy2, zd Eb, zu, zv, zJ]) (zd Eb) <| s_f (fun _ => Qo _ x1 z2 hx1 Eb) ?_
   refine s_p [] <| s_a 1 0 4 (zh x2) rfl (by simp [zd hx2, zd hy2, zd Eb, zu, zv]) (zd hx2) <| s_p [] <| s_a 0 8 4 (zh z1) rfl (by simp [zd hx1, zd hy1, zd Ea, zu, zv, zJ]) (zd Ea) <| s_f (fun _ => Qo _ x2 z1 hx2 Ea) ?_
   refine s_c (fun Mx539 _ _ H5 H6 => ?_) ?_
   ·
    refine q_v (x := Xc .eql 33 (.tmp 9) (.tmp 14) (.agg (zg (zh (nd (zq 1 (nv x1) (nv z2)))))) (.agg (zg (zh (nd (zq 1 (nv x2) (nv z1))))))) (v := .bool ((nd (zq 1 (nv x1) (nv z2))) == (nd (zq 1 (nv x2) (nv z1))))) H5 (Z0 (a := (.tmp 9)) (b := (.tmp 14)) (e := 31) (m := 4) (by kernel_rfl) (by kernel_rfl) (by kernel_rfl) (by kernel_rfl) (by kernel_rfl) (zl _ _) (zl _ _) _) fun _ H7 => ?_
    exact s_e H7 H6
   refine s_p [] ?_
   exact s_n
  have H8 := H3.fx (t := 16) (congrArg Value.bool Ek)
  refine q_a [12,13,14,15,16,17,18,19,20,21,22,23,24] [] 0 H8 fun _ H9 => ?_
  exact a_e ⟨H9.sb, H4.pk []⟩
 rintro _ _ ⟨aa, ab⟩
 refine ze <| wp_ret <| Qh (t := 4) (v := .bool false) aa (by kernel_rfl) (by kernel_rfl) ?_
 exact ⟨by simp only [Jf, Ek, Qd, QC, JT, YL], ab.pk []⟩
theorem alike12_go (w : World) (p q : L4) (hp : p.length = 12) (hq : q.length = 12) : Calls zB 38 #[.agg (zg (zh p)), .agg (zg (zh q))] w fun e w' => e = .returned (.bool (Jf (k1 p) (k2 p) (j3 p) (k1 q) (k2 q) (j3 q))) ∧ Ev w [] w' [] := by
  have h := alike_go w (p.take 4) ((p.drop 4).take 4) (p.drop 8) (q.take 4) ((q.drop 4).take 4) (q.drop 8) (by simp [hp]) (by simp [hp]) (by simp [hp]) (by simp [hq]) (by simp [hq]) (by simp [hq])
  rw [cut12, cut12] at h
  exact h
theorem by_txt : nd (zq 1 (nv [4, 0, 0, 0]) (nv (nd (zU 1 (nv [5, 0, 0, 0]) (mF 1 - 2))))) = nd BY_ := by
  rw [nv_iv, show nv [5, 0, 0, 0] = 5 from rfl, ivE_pw]
  exact congrArg nd (by decide +kernel)
theorem base_xok : xOkE BY_ false = true := by
  have h := is_x base_pt.1
  rwa [base_y.1, base_y.2] at h
theorem dwithB_go (w : World) {l : List UInt64} (hl : l = nd BY_) : Calls zB 48 #[.agg (zg (zh l)), .bool false, .agg (zg (zh (nd DN)))] w fun e w' => e = .returned (.tuple #[.agg (zg (zh Yk)), .bool true]) ∧ Ev w [] w' [] := by
  subst hl
  have h := dwith_go w BY_ (nvE (by decide)) false
  rw [← wi_yes base_xok, base_xok] at h
  exact h
theorem dbase_go (w : World) : Calls zB 20 #[.agg (zg (zh (nd DN)))] w fun e w' => e = .returned (.agg (zg (zh Yk))) ∧ Ev w [] w' [] := by
 refine d_0 [(0, .agg (zg (zh (nd DN))))] 15 Tryz.func20 Tryz.ntmps20 (Heap.nil _) fun Hm Hn Ho => wp_seq <| zk <| f_o <| m_m 33 (zh (nd DN)) Hn Ho fun _ _ Em Hp Hq => f_o <| m_z 44 ((zh (zf 4 0)) ++ ((zh (zf 4 0)) ++ (zh (zf 4 0)))) Hp Hq fun _ _ Ea Hr EH => ?_
 refine f_e <| ze <| wp_seq <| r_c (fun ac wo => ∃ (Ee : Nat), Env ac 15 [(2, pt Ea), (3, pt Ee)] ∧ Ev w [] wo [.box Ea ((zh (zf 4 0)) ++ ((zh (zf 4 0)) ++ (zh (zf 4 0)))) 44, .box Ee (zh Yk) 44]) ?_ ?_
 ·
  refine h_s (fun wv => Ev w [] wv [.box Em (zh (nd DN)) 33]) [] 12 ?_
  have En := EH.trans (zS EH.heap)
  refine h_name fun G hG => ?_
  have nd318 : ∀ (ac : Act) (wo : World), Env ac 15 [(2, pt Ea), (11, .tuple #[.agg (zg (zh Yk)), .bool true])] → Ev w [] wo [.box Em (zh (nd DN)) 33, .box Ea ((zh (zf 4 0)) ++ ((zh (zf 4 0)) ++ (zh (zf 4 0)))) 44] → G 6 #[true, true, true, true, true, true, false, false, false, false, false, false] ac wo := by
   intro _ _ EI Eo
   refine Zr hG ?_
   refine q_s [6,7,8] [] 3 EI (Eo.pk [0]) fun _ EJ => q_t 9 ?_
   refine m_z 44 ((zh (zf 4 0)) ++ ((zh (zf 4 0)) ++ (zh (zf 4 0)))) EJ Eo fun _ _ EK EL Ep => ⟨fun _ => Ep.pk [0], ?_⟩
   refine q_t 10 ?_
   refine zZ 2 12 (zh Yk) _ EL Ep rfl (zd (JS _ _)) (zG (zd (zi)) (zG (zd (zi)) (zd (zi)))) (zw _) rfl fun _ _ EM Ef => ⟨fun _ => Ef.pk [0], ?_⟩
   refine q_s [11] [] 0 EM (Ef.pk [0]) fun _ EN => ?_
   exact h_e ⟨EK, EN.sb, Ef.pk [1, 2]⟩
  have nd336 : ∀ (ac : Act) (wo : World) (Eb : Nat), Env ac 15 [(2, pt Ea), (3, pt Eb), (9, .agg (zg (zh (nd (zq 1 (nv ([4, 0, 0, 0] : List UInt64)) (nv (nd (zU 1 (nv ([5, 0, 0, 0] : List UInt64)) (mF 1 - 2))))))))), (10, .agg (zg (zh (nd DN))))] → Ev w [] wo [.box Em (zh (nd DN)) 33, .box Ea ((zh (zf 4 0)) ++ ((zh (zf 4 0)) ++ (zh (zf 4 0)))) 44, .box Eb ((zh (zf 4 0)) ++ ((zh (zf 4 0)) ++ (zh (zf 4 0)))) 44] → G 6 #[true, true, true, true, true, false, false, false, false, true, false, false] ac wo := by
   intro _ _ Eb EO EP
   refine Zr hG ?_
   refine q_t 5 ?_
   refine c_p EO EP (dwithB_go _ by_txt) fun _ _ EQ Eg => ⟨fun _ => Eg.pk [0], ?_⟩
   refine q_s [6,7,8] [] 2 EQ (Eg.pk [0]) fun _ ER => q_t 10 ?_
   refine zZ 2 12 (zh Yk) [.box Em (zh (nd DN)) 33, .box Ea ((zh (zf 4 0)) ++ ((zh (zf 4 0)) ++ (zh (zf 4 0)))) 44, .box Eb (zh Yk) 44] ER Eg rfl (zd (JS _ _)) (zG (zd (zi)) (zG (zd (zi)) (zd (zi)))) (zw _) rfl fun _ _ ES Eh => ⟨fun _ => Eh.pk [0], ?_⟩
   refine q_s [11] [] 0 ES (Eh.pk [0]) fun _ ET => ?_
   exact h_e ⟨Eb, ET.sb, Eh.pk [1, 2]⟩
  have nd356 : ∀ (ac : Act) (wo : World), Env ac 15 [(2, pt Ea), (9, .agg (zg (zh (nd (zq 1 (nv ([4, 0, 0, 0] : List UInt64)) (nv (nd (zU 1 (nv ([5, 0, 0, 0] : List UInt64)) (mF 1 - 2))))))))), (10, .agg (zg (zh (nd DN))))] → Ev w [] wo [.box Em (zh (nd DN)) 33, .box Ea ((zh (zf 4 0)) ++ ((zh (zf 4 0)) ++ (zh (zf 4 0)))) 44] → G 7 #[true, true, true, true, true, false, false, false, false, false, false, false] ac wo := by
   intro _ _ Eq Er
   refine Zr hG ?_
   refine QA [5, 9] (by kernel_rfl) rfl ?_
   refine ⟨?_, ?_, trivial⟩
   ·
    rintro _ rfl
    refine c_p Eq Er (dwithB_go _ by_txt) fun _ _ EU Es => ⟨fun _ => Es.pk [0], ?_⟩
    exact QF hG (by kernel_rfl) (nd318 _ _ (EU.sb) (Es.pk [0, 1]))
   rintro _ rfl
   refine m_z 44 ((zh (zf 4 0)) ++ ((zh (zf 4 0)) ++ (zh (zf 4 0)))) Eq Er fun _ _ EV EW Et => ⟨fun _ => Et.pk [0], ?_⟩
   exact QF hG (by kernel_rfl) (nd336 _ _ EV (EW.sb) (Et.pk [0, 1, 2]))
  have nd373 : ∀ (ac : Act) (wo : World) (Ed : Nat), Env ac 15 [(2, pt Ea), (3, pt Ed), (6, .agg (zg (zh ([4, 0, 0, 0] : List UInt64)))), (8, .agg (zg (zh (nd (zU 1 (nv ([5, 0, 0, 0] : List UInt64)) (mF 1 - 2)))))), (10, .agg (zg (zh (nd DN))))] → Ev w [] wo [.box Em (zh (nd DN)) 33, .box Ea ((zh (zf 4 0)) ++ ((zh (zf 4 0)) ++ (zh (zf 4 0)))) 44, .box Ed ((zh (zf 4 0)) ++ ((zh (zf 4 0)) ++ (zh (zf 4 0)))) 44] → G 7 #[true, true, true, false, true, false, false, false, false, true, false, false] ac wo := by
   intro _ _ Ed EX EY
   refine Zr hG ?_
   refine q_t 3 ?_
   refine c_p EX EY (Qo _ ([4, 0, 0, 0] : List UInt64) (nd (zU 1 (nv ([5, 0, 0, 0] : List UInt64)) (mF 1 - 2))) (show zc ([4, 0, 0, 0] : List UInt64) = 4 from rfl) (zl _ _)) fun _ _ EZ Eu => ⟨fun _ => Eu.pk [0], ?_⟩
   refine q_t 5 ?_
   refine c_p EZ Eu (dwithB_go _ by_txt) fun _ _ E0 Ei => ⟨fun _ => Ei.pk [0], ?_⟩
   refine q_s [6,7,8] [] 2 E0 (Ei.pk [0]) fun _ E1 => q_t 10 ?_
   refine zZ 2 12 (zh Yk) _ E1 Ei rfl (zd (JS _ _)) (zG (zd (zi)) (zG (zd (zi)) (zd (zi)))) (zw _) rfl fun _ _ E2 Ej => ⟨fun _ => Ej.pk [0], ?_⟩
   refine q_s [11] [] 0 E2 (Ej.pk [0]) fun _ E3 => ?_
   exact h_e ⟨Ed, E3.sb, Ej.pk [1, 2]⟩
  have nd400 : ∀ (ac : Act) (wo : World), Env ac 15 [(2, pt Ea), (6, .agg (zg (zh ([4, 0, 0, 0] : List UInt64)))), (8, .agg (zg (zh (nd (zU 1 (nv ([5, 0, 0, 0] : List UInt64)) (mF 1 - 2)))))), (10, .agg (zg (zh (nd DN))))] → Ev w [] wo [.box Em (zh (nd DN)) 33, .box Ea ((zh (zf 4 0)) ++ ((zh (zf 4 0)) ++ (zh (zf 4 0)))) 44] → G 8 #[true, true, true, false, true, false, false, false, false, false, false, false] ac wo := by
   intro _ _ Ew Ex
   refine Zr hG ?_
   refine QA [3, 9] (by kernel_rfl) rfl ?_
   refine ⟨?_, ?_, trivial⟩
   ·
    rintro _ rfl
    refine c_p Ew Ex (Qo _ ([4, 0, 0, 0] : List UInt64) (nd (zU 1 (nv ([5, 0, 0, 0] : List UInt64)) (mF 1 - 2))) (show zc ([4, 0, 0, 0] : List UInt64) = 4 from rfl) (zl _ _)) fun _ _ E4 Ey => ⟨fun _ => Ey.pk [0], ?_⟩
    exact QF hG (by kernel_rfl) (nd356 _ _ (E4.sb) (Ey.pk [0, 1]))
   rintro _ rfl
   refine m_z 44 ((zh (zf 4 0)) ++ ((zh (zf 4 0)) ++ (zh (zf 4 0)))) Ew Ex fun _ _ E5 E6 Ez => ⟨fun _ => Ez.pk [0], ?_⟩
   exact QF hG (by kernel_rfl) (nd373 _ _ E5 (E6.sb) (Ez.pk [0, 1, 2]))
  have nd417 : ∀ (ac : Act) (wo : World) (Ec : Nat), Env ac 15 [(2, pt Ea), (3, pt Ec), (6, .agg (zg (zh ([4, 0, 0, 0] : List UInt64)))), (7, .agg (zg (zh ([5, 0, 0, 0] : List UInt64)))), (10, .agg (zg (zh (nd DN))))] → Ev w [] wo [.box Em (zh (nd DN)) 33, .box Ea ((zh (zf 4 0)) ++ ((zh (zf 4 0)) ++ (zh (zf 4 0)))) 44, .box Ec ((zh (zf 4 0)) ++ ((zh (zf 4 0)) ++ (zh (zf 4 0)))) 44] → G 8 #[true, true, false, false, true, false, false, false, false, true, false, false] ac wo := by
   intro _ _ Ec E7 E8
   refine Zr hG ?_
   refine q_t 2 ?_
   refine c_p E7 E8 (dinv_go _ ([5, 0, 0, 0] : List UInt64) (show zc ([5, 0, 0, 0] : List UInt64) = 4 from rfl)) fun _ _ E9 EA => ⟨fun _ => EA.pk [0], ?_⟩
   refine q_t 3 ?_
   refine c_p E9 EA (Qo _ ([4, 0, 0, 0] : List UInt64) (nd (zU 1 (nv ([5, 0, 0, 0] : List UInt64)) (mF 1 - 2))) (show zc ([4, 0, 0, 0] : List UInt64) = 4 from rfl) (zl _ _)) fun _ _ Ha EB => ⟨fun _ => EB.pk [0], ?_⟩
   refine q_t 5 ?_
   refine c_p Ha EB (dwithB_go _ by_txt) fun _ _ Hb Ek => ⟨fun _ => Ek.pk [0], ?_⟩
   refine q_s [6,7,8] [] 2 Hb (Ek.pk [0]) fun _ Hc => q_t 10 ?_
   refine zZ 2 12 (zh Yk) [.box Em (zh (nd DN)) 33, .box Ea ((zh (zf 4 0)) ++ ((zh (zf 4 0)) ++ (zh (zf 4 0)))) 44, .box Ec (zh Yk) 44] Hc Ek rfl (zd (JS _ _)) (zG (zd (zi)) (zG (zd (zi)) (zd (zi)))) (zw _) rfl fun _ _ Hd El => ⟨fun _ => El.pk [0], ?_⟩
   refine q_s [11] [] 0 Hd (El.pk [0]) fun _ He => ?_
   exact h_e ⟨Ec, He.sb, El.pk [1, 2]⟩
  refine Zr hG ?_
  refine q_s [0,1] [] 10 Hr (En.pk [0]) fun _ Hf => q_r 4 (s := Instr.loadAt 33 (pt Em)) (v := .agg (zg (zh (nd DN)))) Hf (fun w hS => run_loadAgg2 (m := 4) (cs := zh (nd DN)) (zd (zl _ _)) (by kernel_rfl) (by kernel_rfl) (hS.heap.cells (k := 0) (off := 0) (m := 4) rfl (zr (zd (zl _ _))))) (En.pk [0]) fun _ EC => QA [2, 9] (by kernel_rfl) rfl ?_
  refine ⟨?_, ?_, trivial⟩
  ·
   rintro _ rfl
   refine c_p EC En (dinv_go _ ([5, 0, 0, 0] : List UInt64) (show zc ([5, 0, 0, 0] : List UInt64) = 4 from rfl)) fun _ _ Hg ED => ⟨fun _ => ED.pk [0], ?_⟩
   exact QF hG (by kernel_rfl) (nd400 _ _ (Hg.sb) (ED.pk [0, 1]))
  rintro _ rfl
  refine m_z 44 ((zh (zf 4 0)) ++ ((zh (zf 4 0)) ++ (zh (zf 4 0)))) EC En fun _ _ Hh Hi EE => ⟨fun _ => EE.pk [0], ?_⟩
  exact QF hG (by kernel_rfl) (nd417 _ _ Hh (Hi.sb) (EE.pk [0, 1, 2]))
 rintro _ _ ⟨Ee, Hj, EF⟩
 refine ze <| wp_seq <| zk <| f_o <| Zn 1 12 (zh Yk) Hj EF rfl (zd (JS _ _)) fun _ Hk => f_o <| zZ 0 12 (zh Yk) _ Hk EF rfl (zd (JS _ _)) (zG (zd (zi)) (zG (zd (zi)) (zd (zi)))) (zw _) rfl fun _ _ Hl EG => f_e <| ze <| wp_ret <| Zf (v := .agg (zg (zh Yk))) (t := 2) (T := 44) (ad := ⟨Ea, 0, none⟩) Hl (by kernel_rfl) (by kernel_rfl) (zF (t := 44) (k := 0) (off := 0) (m := 12) (xs := zh Yk) EG rfl (zr (zd (JS _ _))) (zd (JS _ _)) (by kernel_rfl) (by kernel_rfl)) ?_
 exact ⟨rfl, EG.pk []⟩
end Go.Proofs.YtlnogkmnklfjlaaGreatDoor
namespace Go.Proofs.YtlnogkmnklfjlaaGreatDoor.Sh
open Go.Dbr
theorem rest64_mod (al : List UInt8) : (rest64 al).length = al.length % 128 := by unfold rest64; rw [zy]; omega
theorem app_b1 {n l j g : Nat} (h : g = l + 2 + j + n) (hs : l ≤ 140737488353280) (hj : j < 128) (hn : n ≤ 20) : ((g + 1) + (g + 1) / 4 + 192) * 1 ≤ 281474976710656 := by omega
theorem app_b2 {n l j g : Nat} (h : g = l + 2 + j + n) (hs : l ≤ 140737488353280) (hj : j < 128) (hn : n ≤ 20) : g + 1 ≤ maxLen := by unfold maxLen; omega
theorem app_n {n l j g : Nat} (h : g = l + 2 + j + n) : g + 1 = l + 2 + j + (n + 1) := by omega
theorem pad_go2 {h : Int} (hh : h = 2 ∨ h = 3) (al : List UInt8) : padH h al = Jy 128 (al.length % 128) al.length := by unfold padH; rw [if_neg (by omega)]; unfold restH; rw [if_neg (by omega), rest64_mod]
theorem padded64_ref (w : World) (ax : Option Addr) (nx cx : Nat) (lx : List UInt8) (ex : nx = zc lx) (ix : InB w [] ax cx lx) : Calls zB 106 #[.slice ax nx cx, .int .i64 128] w fun e w' => ∃ ao co, e = .returned (.slice ao (zc (lx ++ Jy 128 (zc lx % 128) (zc lx))) co) ∧ Ev w [] w' [.vec ao co 1 (bys (lx ++ Jy 128 (zc lx % 128) (zc lx))) 5] := by
 subst ex
 have hs := ix.small
 have hcx := ix.cap
 refine d_0 [(0, .slice ax (zc lx) cx), (1, .int .i64 128)] 52 Tryz.func106 Tryz.ntmps106 (Heap.nil _) fun cf cg ch => wp_seq <| d_r [0,1,4] [] cg fun _ ci => ze <| wp_seq <| zk <| f_o <| ZZ (d := some 9) (t := 23) (T := 5) (m := 0) (parts := #[]) (xs := bys []) (sz := 1) ci (by kernel_rfl) (by kernel_rfl) rfl (by decide) ch ?_
 intro _ _ bk3 cj cc
 refine d_k [0,1,4,9,10] [] 2 cj fun _ ck => f_o ?_
 have cd := ix.small
 refine Zl (d := some 11) (t := 23) (tx := 23) (ty := 23) (k := 0) (p := 0) (m := zc lx) (x := .slice ax (zc lx) cx) (bytes := 1) ck (by kernel_rfl) cc rfl rfl (Zk (size := 1) (tx := 23) (e' := 5) (by kernel_rfl) (ix.ev cc).reads (ZI _) ix.nz (ZC _)) (by kernel_rfl) (z := .int .u8 0) (by kernel_rfl) rfl (by decide) (by omega) (by unfold maxLen; omega) ?_
 intro _ _ cl cm HL HM hnz _
 clear hnz
 rw [bys_nil_append] at HM
 have EG : 0 + (zc lx) = zc lx := (by first | (simp; done) | (simp; omega) | omega)
 rw [EG] at HL
 clear EG
 refine f_o <| ZZ (d := some 12) (t := 23) (T := 5) (m := 1) (parts := #[(0, .int .u8 128)]) (xs := bys [(128 : UInt8)]) (sz := 1) HL (by kernel_rfl) (by kernel_rfl) rfl (by decide) HM ?_
 intro _ _ bL bM HN
 refine f_o <| Zl (d := some 13) (t := 23) (tx := 23) (ty := 23) (k := 0) (p := zc lx) (m := 1) (x := .slice (some ⟨bL, 0, none⟩) 1 1) (bytes := 1) bM (by kernel_rfl) HN rfl (ZI _) (Zk (size := 1) (tx := 23) (e' := 5) (by kernel_rfl) (HN.heap.reads (k := 1) rfl) rfl (fun e => by cases e) (ZC _)) (by kernel_rfl) (z := .int .u8 0) (by kernel_rfl) rfl (by decide) (by omega) (by unfold maxLen; omega) ?_
 intro _ _ bN bO HO HP hnz _
 clear hnz
 rw [← Zg] at HP
 have EH : (zc lx) + 1 = zc (lx ++ [(128 : UInt8)]) := (by first | (simp; done) | (simp; omega) | omega)
 rw [EH] at HO
 clear EH
 refine d_e [0,1,4,5] [] HO fun _ bP => ze <| wp_seq <| wp_block ?_
 have cn : lx ++ [(128 : UInt8)] = (lx ++ ([128] : List UInt8)) ++ zf 0 0 := by simp
 refine Z5 (fun bQ ac wo => ∃ (j : Nat) (ae : Option Addr) (ce : Nat) (el : List UInt8), bQ = (pdZ 128 (zc lx % 128) - j : Nat) ∧ Env ac 52 [(0, .slice ax (zc lx) cx), (1, .int .i64 128), (4, .slice none 0 0), (5, .slice ae (zc el) ce)] ∧ Ev w [] wo [.vec ae ce 1 (bys el) 5] ∧ (j ≤ pdZ 128 (zc lx % 128)) ∧ (el = (lx ++ ([128] : List UInt8)) ++ zf j 0)) ⟨_, 0, bN, bO, lx ++ [(128 : UInt8)], rfl, bP.sb, HP.pk [0], Nat.zero_le _, cn⟩ ?_
 rintro cp _ _ ⟨j, ae, ce, el, rfl, bR, HQ, hj, heel⟩
 refine wp_seq <| wp_seq ?_
 have hel : zc el = zc lx + 1 + j := by rw [heel]; simp; omega
 have hpz : pdZ 128 (zc lx % 128) < 128 := ZU _ (by decide)
 refine d_r [0,1,4,5,22] [(3, g_i .i64 (show Jk ((zc el : Nat) : Int) (128 : Int) = (((zc el) % 128 : Nat) : Int) from Qz (a := ((zc el : Nat) : Int)) (n := zc el) (m := 128) rfl (by omega)))] bR fun _ HJ => ?_
 refine ze <| c_n (((zc el) % 128 : Nat) : Int) (112 : Int) HJ (fun bS => ?_) (fun bS => ?_)
 ·
  refine wp_skip <| ze <| wp_block <| zk <| d_k [0,1,4,5,23] [] 1 HJ fun _ bT => f_o <| ZZ (d := some 24) (t := 23) (T := 5) (m := 1) (parts := #[(0, .int .u8 0)]) (xs := bys [(0 : UInt8)]) (sz := 1) bT (by kernel_rfl) (by kernel_rfl) rfl (by decide) HQ ?_
  intro _ _ bU bV HR
  refine f_o <| Zl (d := some 25) (t := 23) (tx := 23) (ty := 23) (k := 0) (p := zc el) (m := 1) (x := .slice (some ⟨bU, 0, none⟩) 1 1) (bytes := 1) bV (by kernel_rfl) HR rfl (ZI _) (Zk (size := 1) (tx := 23) (e' := 5) (by kernel_rfl) (HR.heap.reads (k := 1) rfl) rfl (fun e => by cases e) (ZC _)) (by kernel_rfl) (z := .int .u8 0) (by kernel_rfl) rfl (by decide) (by omega) (by unfold maxLen; omega) ?_
  intro _ _ bW bX HS HT hnz _
  clear hnz
  rw [← Zg] at HT
  have EI : (zc el) + 1 = zc (el ++ [(0 : UInt8)]) := (by first | (simp; done) | (simp; omega) | omega)
  rw [EI] at HS
  clear EI
  refine d_e [0,1,4,5] [] HS fun _ bY => zx <| ze <| ⟨_, ⟨j + 1, bW, bX, (el ++ [(0 : UInt8)]), rfl, bY.sb, HT.pk [0], by unfold pdZ at *; omega, by rw [heel]; exact end_step⟩, ?_⟩
  unfold pdZ at *; omega
 refine wp_exit <| zD <| zD <| zP <| ze <| wp_seq <| wp_seq ?_
 have hel : zc el = zc lx + 1 + j := by rw [heel]; simp; omega
 have hpz : pdZ 128 (zc lx % 128) < 128 := ZU _ (by decide)
 have hjp : j = pdZ 128 (zc lx % 128) := by unfold pdZ at *; omega
 have hjb : j < 128 := by omega
 refine d_r [0,1,4,5,6] [] HJ fun _ bZ => ?_
 refine ze <| wp_block <| QY ?_
 refine zK <| wp_seq <| wp_seq <| d_r [0,1,4,5,6,29] [] bZ fun _ HU => ze <| c_t HU ?_
 refine wp_skip <| ze <| wp_seq <| wp_block <| zk <| d_k [0,1,4,5,6,32] [] 1 HU fun _ b0 => f_o <| ZZ (d := some 33) (t := 23) (T := 5) (m := 1) (parts := #[(0, .int .u8 0)]) (xs := bys [(0 : UInt8)]) (sz := 1) b0 (by kernel_rfl) (by kernel_rfl) rfl (by decide) HQ ?_
 intro _ _ b1 b2 HV
 refine f_o <| Zl (d := some 34) (t := 23) (tx := 23) (ty := 23) (k := 0) (p := zc el) (m := 1) (x := .slice (some ⟨b1, 0, none⟩) 1 1) (bytes := 1) b2 (by kernel_rfl) HV rfl (ZI _) (Zk (size := 1) (tx := 23) (e' := 5) (by kernel_rfl) (HV.heap.reads (k := 1) rfl) rfl (fun e => by cases e) (ZC _)) (by kernel_rfl) (z := .int .u8 0) (by kernel_rfl) rfl (by decide) (by omega) (by unfold maxLen; omega) ?_
 intro _ _ b3 b4 HW HK hnz _
 clear hnz
 rw [← Zg] at HK
 have EJ : (zc el) + 1 = zc (el ++ [(0 : UInt8)]) := (by first | (simp; done) | (simp; omega) | omega)
 rw [EJ] at HW
 clear EJ
 refine d_e [0,1,4,5,6] [] HW fun _ HX => zx <| ze ?_
 generalize hg0 : el ++ [(0 : UInt8)] = gl0 at HK HX
 have hn0 : zc gl0 = zc lx + 2 + j + 0 := by rw [← hg0, zH]; simp only [z3, ZM]; omega
 have b5 := HK.pk [0] (M := [.vec b3 b4 1 (bys gl0) 5])
 refine d_r [0,1,4,5,6] [] HX fun _ b6 => ?_
 refine ze <| zK <| wp_seq <| wp_seq <| d_r [0,1,4,5,6,29] [] b6 fun _ HY => ze <| c_t HY ?_
 refine wp_skip <| ze <| wp_seq <| wp_block <| zk <| d_k [0,1,4,5,6,32] [] 1 HY fun _ b7 => f_o <| ZZ (d := some 33) (t := 23) (T := 5) (m := 1) (parts := #[(0, .int .u8 0)]) (xs := bys [(0 : UInt8)]) (sz := 1) b7 (by kernel_rfl) (by kernel_rfl) rfl (by decide) b5 ?_
 intro _ _ b8 b9 HZ
 refine f_o <| Zl (d := some 34) (t := 23) (tx := 23) (ty := 23) (k := 0) (p := zc gl0) (m := 1) (x := .slice (some ⟨b8, 0, none⟩) 1 1) (bytes := 1) b9 (by kernel_rfl) HZ rfl (ZI _) (Zk (size := 1) (tx := 23) (e' := 5) (by kernel_rfl) (HZ.heap.reads (k := 1) rfl) rfl (fun e => by cases e) (ZC _)) (by kernel_rfl) (z := .int .u8 0) (by kernel_rfl) rfl (by decide) (app_b1 hn0 hs hjb (by decide)) (app_b2 hn0 hs hjb (by decide)) ?_
 intro _ _ ca cb EK Ea hnz _
 clear hnz
 rw [← Zg] at Ea
 have EL : (zc gl0) + 1 = zc (gl0 ++ [(0 : UInt8)]) := (by first | (simp; done) | (simp; omega) | omega)
 rw [EL] at EK
 clear EL
 refine d_e [0,1,4,5,6] [] EK fun _ EM => zx <| ze ?_
 generalize hg1 : gl0 ++ [(0 : UInt8)] = gl1 at Ea EM
 have hn1 : zc gl1 = zc lx + 2 + j + 1 := by rw [← hg1, zH]; simp only [z3, ZM]; exact app_n hn0
 have H0 := Ea.pk [0] (M := [.vec ca cb 1 (bys gl1) 5])
 refine d_r [0,1,4,5,6] [] EM fun _ H1 => ?_
 refine ze <| zK <| wp_seq <| wp_seq <| d_r [0,1,4,5,6,29] [] H1 fun _ EN => ze <| c_t EN ?_
 refine wp_skip <| ze <| wp_seq <| wp_block <| zk <| d_k [0,1,4,5,6,32] [] 1 EN fun _ H2 => f_o <| ZZ (d := some 33) (t := 23) (T := 5) (m := 1) (parts := #[(0, .int .u8 0)]) (xs := bys [(0 : UInt8)]) (sz := 1) H2 (by kernel_rfl) (by kernel_rfl) rfl (by decide) H0 ?_
 intro _ _ H3 H4 EO
 refine f_o <| Zl (d := some 34) (t := 23) (tx := 23) (ty := 23) (k := 0) (p := zc gl1) (m := 1) (x := .slice (some ⟨H3, 0, none⟩) 1 1) (bytes := 1) H4 (by kernel_rfl) EO rfl (ZI _) (Zk (size := 1) (tx := 23) (e' := 5) (by kernel_rfl) (EO.heap.reads (k := 1) rfl) rfl (fun e => by cases e) (ZC _)) (by kernel_rfl) (z := .int .u8 0) (by kernel_rfl) rfl (by decide) (app_b1 hn1 hs hjb (by decide)) (app_b2 hn1 hs hjb (by decide)) ?_
 intro _ _ H5 H6 EP Eb hnz _
 clear hnz
 rw [← Zg] at Eb
 have Ec : (zc gl1) + 1 = zc (gl1 ++ [(0 : UInt8)]) := (by first | (simp; done) | (simp; omega) | omega)
 rw [Ec] at EP
 clear Ec
 refine d_e [0,1,4,5,6] [] EP fun _ EQ => zx <| ze ?_
 generalize hg2 : gl1 ++ [(0 : UInt8)] = gl2 at Eb EQ
 have hn2 : zc gl2 = zc lx + 2 + j + 2 := by rw [← hg2, zH]; simp only [z3, ZM]; exact app_n hn1
 have H7 := Eb.pk [0] (M := [.vec H5 H6 1 (bys gl2) 5])
 refine d_r [0,1,4,5,6] [] EQ fun _ H8 => ?_
 refine ze <| zK <| wp_seq <| wp_seq <| d_r [0,1,4,5,6,29] [] H8 fun _ ER => ze <| c_t ER ?_
 refine wp_skip <| ze <| wp_seq <| wp_block <| zk <| d_k [0,1,4,5,6,32] [] 1 ER fun _ H9 => f_o <| ZZ (d := some 33) (t := 23) (T := 5) (m := 1) (parts := #[(0, .int .u8 0)]) (xs := bys [(0 : UInt8)]) (sz := 1) H9 (by kernel_rfl) (by kernel_rfl) rfl (by decide) H7 ?_
 intro _ _ aa ab ES
 refine f_o <| Zl (d := some 34) (t := 23) (tx := 23) (ty := 23) (k := 0) (p := zc gl2) (m := 1) (x := .slice (some ⟨aa, 0, none⟩) 1 1) (bytes := 1) ab (by kernel_rfl) ES rfl (ZI _) (Zk (size := 1) (tx := 23) (e' := 5) (by kernel_rfl) (ES.heap.reads (k := 1) rfl) rfl (fun e => by cases e) (ZC _)) (by kernel_rfl) (z := .int .u8 0) (by kernel_rfl) rfl (by decide) (app_b1 hn2 hs hjb (by decide)) (app_b2 hn2 hs hjb (by decide)) ?_
 intro _ _ ad af ET Ed hnz _
 clear hnz
 rw [← Zg] at Ed
 have Ee : (zc gl2) + 1 = zc (gl2 ++ [(0 : UInt8)]) := (by first | (simp; done) | (simp; omega) | omega)
 rw [Ee] at ET
 clear Ee
 refine d_e [0,1,4,5,6] [] ET fun _ EU => zx <| ze ?_
 generalize hg3 : gl2 ++ [(0 : UInt8)] = gl3 at Ed EU
 have hn3 : zc gl3 = zc lx + 2 + j + 3 := by rw [← hg3, zH]; simp only [z3, ZM]; exact app_n hn2
 have ag := Ed.pk [0] (M := [.vec ad af 1 (bys gl3) 5])
 refine d_r [0,1,4,5,6] [] EU fun _ ah => ?_
 refine ze <| zK <| wp_seq <| wp_seq <| d_r [0,1,4,5,6,29] [] ah fun _ EV => ze <| c_t EV ?_
 refine wp_skip <| ze <| wp_seq <| wp_block <| zk <| d_k [0,1,4,5,6,32] [] 1 EV fun _ ai => f_o <| ZZ (d := some 33) (t := 23) (T := 5) (m := 1) (parts := #[(0, .int .u8 0)]) (xs := bys [(0 : UInt8)]) (sz := 1) ai (by kernel_rfl) (by kernel_rfl) rfl (by decide) ag ?_
 intro _ _ aj ak EW
 refine f_o <| Zl (d := some 34) (t := 23) (tx := 23) (ty := 23) (k := 0) (p := zc gl3) (m := 1) (x := .slice (some ⟨aj, 0, none⟩) 1 1) (bytes := 1) ak (by kernel_rfl) EW rfl (ZI _) (Zk (size := 1) (tx := 23) (e' := 5) (by kernel_rfl) (EW.heap.reads (k := 1) rfl) rfl (fun e => by cases e) (ZC _)) (by kernel_rfl) (z := .int .u8 0) (by kernel_rfl) rfl (by decide) (app_b1 hn3 hs hjb (by decide)) (app_b2 hn3 hs hjb (by decide)) ?_
 intro _ _ al am EX Ef hnz _
 clear hnz
 rw [← Zg] at Ef
 have Eg : (zc gl3) + 1 = zc (gl3 ++ [(0 : UInt8)]) := (by first | (simp; done) | (simp; omega) | omega)
 rw [Eg] at EX
 clear Eg
 refine d_e [0,1,4,5,6] [] EX fun _ EY => zx <| ze ?_
 generalize hg4 : gl3 ++ [(0 : UInt8)] = gl4 at Ef EY
 have hn4 : zc gl4 = zc lx + 2 + j + 4 := by rw [← hg4, zH]; simp only [z3, ZM]; exact app_n hn3
 have an := Ef.pk [0] (M := [.vec al am 1 (bys gl4) 5])
 refine d_r [0,1,4,5,6] [] EY fun _ ap => ?_
 refine ze <| zK <| wp_seq <| wp_seq <| d_r [0,1,4,5,6,29] [] ap fun _ EZ => ze <| c_t EZ ?_
 refine wp_skip <| ze <| wp_seq <| wp_block <| zk <| d_k [0,1,4,5,6,32] [] 1 EZ fun _ aq => f_o <| ZZ (d := some 33) (t := 23) (T := 5) (m := 1) (parts := #[(0, .int .u8 0)]) (xs := bys [(0 : UInt8)]) (sz := 1) aq (by kernel_rfl) (by kernel_rfl) rfl (by decide) an ?_
 intro _ _ ar au E0
 refine f_o <| Zl (d := some 34) (t := 23) (tx := 23) (ty := 23) (k := 0) (p := zc gl4) (m := 1) (x := .slice (some ⟨ar, 0, none⟩) 1 1) (bytes := 1) au (by kernel_rfl) E0 rfl (ZI _) (Zk (size := 1) (tx := 23) (e' := 5) (by kernel_rfl) (E0.heap.reads (k := 1) rfl) rfl (fun e => by cases e) (ZC _)) (by kernel_rfl) (z := .int .u8 0) (by kernel_rfl) rfl (by decide) (app_b1 hn4 hs hjb (by decide)) (app_b2 hn4 hs hjb (by decide)) ?_
 intro _ _ av aw E1 Eh hnz _
 clear hnz
 rw [← Zg] at Eh
 have Ei : (zc gl4) + 1 = zc (gl4 ++ [(0 : UInt8)]) := (by first | (simp; done) | (simp; omega) | omega)
 rw [Ei] at E1
 clear Ei
 refine d_e [0,1,4,5,6] [] E1 fun _ E2 => zx <| ze ?_
 generalize hg5 : gl4 ++ [(0 : UInt8)] = gl5 at Eh E2
 have hn5 : zc gl5 = zc lx + 2 + j + 5 := by rw [← hg5, zH]; simp only [z3, ZM]; exact app_n hn4
 have ay := Eh.pk [0] (M := [.vec av aw 1 (bys gl5) 5])
 refine d_r [0,1,4,5,6] [] E2 fun _ az => ?_
 refine ze <| zK <| wp_seq <| wp_seq <| d_r [0,1,4,5,6,29] [] az fun _ E3 => ze <| c_t E3 ?_
 refine wp_skip <| ze <| wp_seq <| wp_block <| zk <| d_k [0,1,4,5,6,32] [] 1 E3 fun _ aA => f_o <| ZZ (d := some 33) (t := 23) (T := 5) (m := 1) (parts := #[(0, .int .u8 0)]) (xs := bys [(0 : UInt8)]) (sz := 1) aA (by kernel_rfl) (by kernel_rfl) rfl (by decide) ay ?_
 intro _ _ aB aC E4
 refine f_o <| Zl (d := some 34) (t := 23) (tx := 23) (ty := 23) (k := 0) (p := zc gl5) (m := 1) (x := .slice (some ⟨aB, 0, none⟩) 1 1) (bytes := 1) aC (by kernel_rfl) E4 rfl (ZI _) (Zk (size := 1) (tx := 23) (e' := 5) (by kernel_rfl) (E4.heap.reads (k := 1) rfl) rfl (fun e => by cases e) (ZC _)) (by kernel_rfl) (z := .int .u8 0) (by kernel_rfl) rfl (by decide) (app_b1 hn5 hs hjb (by decide)) (app_b2 hn5 hs hjb (by decide)) ?_
 intro _ _ aD aE E5 Ej hnz _
 clear hnz
 rw [← Zg] at Ej
 have Ek : (zc gl5) + 1 = zc (gl5 ++ [(0 : UInt8)]) := (by first | (simp; done) | (simp; omega) | omega)
 rw [Ek] at E5
 clear Ek
 refine d_e [0,1,4,5,6] [] E5 fun _ E6 => zx <| ze ?_
 generalize hg6 : gl5 ++ [(0 : UInt8)] = gl6 at Ej E6
 have hn6 : zc gl6 = zc lx + 2 + j + 6 := by rw [← hg6, zH]; simp only [z3, ZM]; exact app_n hn5
 have aF := Ej.pk [0] (M := [.vec aD aE 1 (bys gl6) 5])
 refine d_r [0,1,4,5,6] [] E6 fun _ aG => ?_
 refine ze <| zK <| wp_seq <| wp_seq <| d_r [0,1,4,5,6,29] [] aG fun _ E7 => ze <| c_t E7 ?_
 refine wp_skip <| ze <| wp_seq <| wp_block <| zk <| d_k [0,1,4,5,6,32] [] 1 E7 fun _ aH => f_o <| ZZ (d := some 33) (t := 23) (T := 5) (m := 1) (parts := #[(0, .int .u8 0)]) (xs := bys [(0 : UInt8)]) (sz := 1) aH (by kernel_rfl) (by kernel_rfl) rfl (by decide) aF ?_
 intro _ _ aI aJ E8
 refine f_o <| Zl (d := some 34) (t := 23) (tx := 23) (ty := 23) (k := 0) (p := zc gl6) (m := 1) (x := .slice (some ⟨aI, 0, none⟩) 1 1) (bytes := 1) aJ (by kernel_rfl) E8 rfl (ZI _) (Zk (size := 1) (tx := 23) (e' := 5) (by kernel_rfl) (E8.heap.reads (k := 1) rfl) rfl (fun e => by cases e) (ZC _)) (by kernel_rfl) (z := .int .u8 0) (by kernel_rfl) rfl (by decide) (app_b1 hn6 hs hjb (by decide)) (app_b2 hn6 hs hjb (by decide)) ?_
 intro _ _ aK aL E9 El hnz _
 clear hnz
 rw [← Zg] at El
 have Em : (zc gl6) + 1 = zc (gl6 ++ [(0 : UInt8)]) := (by first | (simp; done) | (simp; omega) | omega)
 rw [Em] at E9
 clear Em
 refine d_e [0,1,4,5,6] [] E9 fun _ Ha => zx <| ze ?_
 generalize hg7 : gl6 ++ [(0 : UInt8)] = gl7 at El Ha
 have hn7 : zc gl7 = zc lx + 2 + j + 7 := by rw [← hg7, zH]; simp only [z3, ZM]; exact app_n hn6
 have aM := El.pk [0] (M := [.vec aK aL 1 (bys gl7) 5])
 refine d_r [0,1,4,5,6] [] Ha fun _ aN => ?_
 refine ze <| zK <| wp_seq <| wp_seq <| d_r [0,1,4,5,6,29] [] aN fun _ Hb => ze <| c_f Hb ?_
 refine wp_exit <| zD <| zD <| zP <| ze <| wp_seq <| d_r [0,1,4,5,6,7] [(2, g_i .u64 (Go.Dbr.nat_to_u64 (a := ((zc lx : Nat) : Int)) (n := zc lx) rfl)), (3, g_i .u64 (Go.Dbr.u64_mul (x := zb (zc lx)) (y := (8 : UInt64)) rfl rfl))] Hb fun _ aO => ze <| wp_seq <| wp_seq <| d_r [0,1,4,5,6,7,8] [] aO fun _ aP => ?_
 refine ze <| wp_block <| QY ?_
 refine zK <| wp_seq <| wp_seq <| d_r [0,1,4,5,6,7,8,40] [] aP fun _ Hc => ze <| c_t Hc ?_
 refine wp_skip <| ze <| wp_seq <| wp_block <| zk <| d_k [0,1,4,5,6,7,8,43,48] [(4, g_i .u64 (zI (x := (zb (zc lx)) * (8 : UInt64)) (n := 56) rfl (by decide))), (5, g_i .u8 (z4 (x := ((zb (zc lx)) * (8 : UInt64)) >>> zb 56) rfl))] 6 Hc fun _ aQ => f_o <| ZZ (d := some 49) (t := 23) (T := 5) (m := 1) (parts := #[(0, bv (zj (((zb (zc lx)) * (8 : UInt64)) >>> zb 56)))]) (xs := bys [zj (((zb (zc lx)) * (8 : UInt64)) >>> zb 56)]) (sz := 1) aQ (by kernel_rfl) (by kernel_rfl) rfl (by decide) aM ?_
 intro _ _ aR aS Hd
 refine f_o <| Zl (d := some 50) (t := 23) (tx := 23) (ty := 23) (k := 0) (p := zc gl7) (m := 1) (x := .slice (some ⟨aR, 0, none⟩) 1 1) (bytes := 1) aS (by kernel_rfl) Hd rfl (ZI _) (Zk (size := 1) (tx := 23) (e' := 5) (by kernel_rfl) (Hd.heap.reads (k := 1) rfl) rfl (fun e => by cases e) (ZC _)) (by kernel_rfl) (z := .int .u8 0) (by kernel_rfl) rfl (by decide) (app_b1 hn7 hs hjb (by decide)) (app_b2 hn7 hs hjb (by decide)) ?_
 intro _ _ aT aU He En hnz _
 clear hnz
 rw [← Zg] at En
 have Eo : (zc gl7) + 1 = zc (gl7 ++ [zj (((zb (zc lx)) * (8 : UInt64)) >>> zb 56)]) := (by first | (simp; done) | (simp; omega) | omega)
 rw [Eo] at He
 clear Eo
 refine d_e [0,1,4,5,6,7,8] [] He fun _ Hf => zx <| ze ?_
 generalize hg8 : gl7 ++ [zj (((zb (zc lx)) * (8 : UInt64)) >>> zb 56)] = gl8 at En Hf
 have hn8 : zc gl8 = zc lx + 2 + j + 8 := by rw [← hg8, zH]; simp only [z3, ZM]; exact app_n hn7
 have aV := En.pk [0] (M := [.vec aT aU 1 (bys gl8) 5])
 refine d_r [0,1,4,5,6,7,8] [] Hf fun _ aW => ?_
 refine ze <| zK <| wp_seq <| wp_seq <| d_r [0,1,4,5,6,7,8,40] [] aW fun _ Hg => ze <| c_t Hg ?_
 refine wp_skip <| ze <| wp_seq <| wp_block <| zk <| d_k [0,1,4,5,6,7,8,43,48] [(4, g_i .u64 (zI (x := (zb (zc lx)) * (8 : UInt64)) (n := 48) rfl (by decide))), (5, g_i .u8 (z4 (x := ((zb (zc lx)) * (8 : UInt64)) >>> zb 48) rfl))] 6 Hg fun _ aX => f_o <| ZZ (d := some 49) (t := 23) (T := 5) (m := 1) (parts := #[(0, bv (zj (((zb (zc lx)) * (8 : UInt64)) >>> zb 48)))]) (xs := bys [zj (((zb (zc lx)) * (8 : UInt64)) >>> zb 48)]) (sz := 1) aX (by kernel_rfl) (by kernel_rfl) rfl (by decide) aV ?_
 intro _ _ aY aZ Hh
 refine f_o <| Zl (d := some 50) (t := 23) (tx := 23) (ty := 23) (k := 0) (p := zc gl8) (m := 1) (x := .slice (some ⟨aY, 0, none⟩) 1 1) (bytes := 1) aZ (by kernel_rfl) Hh rfl (ZI _) (Zk (size := 1) (tx := 23) (e' := 5) (by kernel_rfl) (Hh.heap.reads (k := 1) rfl) rfl (fun e => by cases e) (ZC _)) (by kernel_rfl) (z := .int .u8 0) (by kernel_rfl) rfl (by decide) (app_b1 hn8 hs hjb (by decide)) (app_b2 hn8 hs hjb (by decide)) ?_
 intro _ _ a0 a1 Hi Ep hnz _
 clear hnz
 rw [← Zg] at Ep
 have Eq : (zc gl8) + 1 = zc (gl8 ++ [zj (((zb (zc lx)) * (8 : UInt64)) >>> zb 48)]) := (by first | (simp; done) | (simp; omega) | omega)
 rw [Eq] at Hi
 clear Eq
 refine d_e [0,1,4,5,6,7,8] [] Hi fun _ Hj => zx <| ze ?_
 generalize hg9 : gl8 ++ [zj (((zb (zc lx)) * (8 : UInt64)) >>> zb 48)] = gl9 at Ep Hj
 have hn9 : zc gl9 = zc lx + 2 + j + 9 := by rw [← hg9, zH]; simp only [z3, ZM]; exact app_n hn8
 have a2 := Ep.pk [0] (M := [.vec a0 a1 1 (bys gl9) 5])
 refine d_r [0,1,4,5,6,7,8] [] Hj fun _ a3 => ?_
 refine ze <| zK <| wp_seq <| wp_seq <| d_r [0,1,4,5,6,7,8,40] [] a3 fun _ Hk => ze <| c_t Hk ?_
 refine wp_skip <| ze <| wp_seq <| wp_block <| zk <| d_k [0,1,4,5,6,7,8,43,48] [(4, g_i .u64 (zI (x := (zb (zc lx)) * (8 : UInt64)) (n := 40) rfl (by decide))), (5, g_i .u8 (z4 (x := ((zb (zc lx)) * (8 : UInt64)) >>> zb 40) rfl))] 6 Hk fun _ a4 => f_o <| ZZ (d := some 49) (t := 23) (T := 5) (m := 1) (parts := #[(0, bv (zj (((zb (zc lx)) * (8 : UInt64)) >>> zb 40)))]) (xs := bys [zj (((zb (zc lx)) * (8 : UInt64)) >>> zb 40)]) (sz := 1) a4 (by kernel_rfl) (by kernel_rfl) rfl (by decide) a2 ?_
 intro _ _ a5 a6 Hl
 refine f_o <| Zl (d := some 50) (t := 23) (tx := 23) (ty := 23) (k := 0) (p := zc gl9) (m := 1) (x := .slice (some ⟨a5, 0, none⟩) 1 1) (bytes := 1) a6 (by kernel_rfl) Hl rfl (ZI _) (Zk (size := 1) (tx := 23) (e' := 5) (by kernel_rfl) (Hl.heap.reads (k := 1) rfl) rfl (fun e => by cases e) (ZC _)) (by kernel_rfl) (z := .int .u8 0) (by kernel_rfl) rfl (by decide) (app_b1 hn9 hs hjb (by decide)) (app_b2 hn9 hs hjb (by decide)) ?_
 intro _ _ a7 a8 Hm Er hnz _
 clear hnz
 rw [← Zg] at Er
 have Es : (zc gl9) + 1 = zc (gl9 ++ [zj (((zb (zc lx)) * (8 : UInt64)) >>> zb 40)]) := (by first | (simp; done) | (simp; omega) | omega)
 rw [Es] at Hm
 clear Es
 refine d_e [0,1,4,5,6,7,8] [] Hm fun _ Hn => zx <| ze ?_
 generalize hg10 : gl9 ++ [zj (((zb (zc lx)) * (8 : UInt64)) >>> zb 40)] = gl10 at Er Hn
 have hn10 : zc gl10 = zc lx + 2 + j + 10 := by rw [← hg10, zH]; simp only [z3, ZM]; exact app_n hn9
 have a9 := Er.pk [0] (M := [.vec a7 a8 1 (bys gl10) 5])
 refine d_r [0,1,4,5,6,7,8] [] Hn fun _ ba => ?_
 refine ze <| zK <| wp_seq <| wp_seq <| d_r [0,1,4,5,6,7,8,40] [] ba fun _ Ho => ze <| c_t Ho ?_
 refine wp_skip <| ze <| wp_seq <| wp_block <| zk <| d_k [0,1,4,5,6,7,8,43,48] [(4, g_i .u64 (zI (x := (zb (zc lx)) * (8 : UInt64)) (n := 32) rfl (by decide))), (5, g_i .u8 (z4 (x := ((zb (zc lx)) * (8 : UInt64)) >>> zb 32) rfl))] 6 Ho fun _ bb => f_o <| ZZ (d := some 49) (t := 23) (T := 5) (m := 1) (parts := #[(0, bv (zj (((zb (zc lx)) * (8 : UInt64)) >>> zb 32)))]) (xs := bys [zj (((zb (zc lx)) * (8 : UInt64)) >>> zb 32)]) (sz := 1) bb (by kernel_rfl) (by kernel_rfl) rfl (by decide) a9 ?_
 intro _ _ bc bd Hp
 refine f_o <| Zl (d := some 50) (t := 23) (tx := 23) (ty := 23) (k := 0) (p := zc gl10) (m := 1) (x := .slice (some ⟨bc, 0, none⟩) 1 1) (bytes := 1) bd (by kernel_rfl) Hp rfl (ZI _) (Zk (size := 1) (tx := 23) (e' := 5) (by kernel_rfl) (Hp.heap.reads (k := 1) rfl) rfl (fun e => by cases e) (ZC _)) (by kernel_rfl) (z := .int .u8 0) (by kernel_rfl) rfl (by decide) (app_b1 hn10 hs hjb (by decide)) (app_b2 hn10 hs hjb (by decide)) ?_
 intro _ _ be bf Hq Et hnz _
 clear hnz
 rw [← Zg] at Et
 have Eu : (zc gl10) + 1 = zc (gl10 ++ [zj (((zb (zc lx)) * (8 : UInt64)) >>> zb 32)]) := (by first | (simp; done) | (simp; omega) | omega)
 rw [Eu] at Hq
 clear Eu
 refine d_e [0,1,4,5,6,7,8] [] Hq fun _ Hr => zx <| ze ?_
 generalize hg11 : gl10 ++ [zj (((zb (zc lx)) * (8 : UInt64)) >>> zb 32)] = gl11 at Et Hr
 have hn11 : zc gl11 = zc lx + 2 + j + 11 := by rw [← hg11, zH]; simp only [z3, ZM]; exact app_n hn10
 have bg := Et.pk [0] (M := [.vec be bf 1 (bys gl11) 5])
 refine d_r [0,1,4,5,6,7,8] [] Hr fun _ bh => ?_
 refine ze <| zK <| wp_seq <| wp_seq <| d_r [0,1,4,5,6,7,8,40] [] bh fun _ Hs => ze <| c_t Hs ?_
 refine wp_skip <| ze <| wp_seq <| wp_block <| zk <| d_k [0,1,4,5,6,7,8,43,48] [(4, g_i .u64 (zI (x := (zb (zc lx)) * (8 : UInt64)) (n := 24) rfl (by decide))), (5, g_i .u8 (z4 (x := ((zb (zc lx)) * (8 : UInt64)) >>> zb 24) rfl))] 6 Hs fun _ bi => f_o <| ZZ (d := some 49) (t := 23) (T := 5) (m := 1) (parts := #[(0, bv (zj (((zb (zc lx)) * (8 : UInt64)) >>> zb 24)))]) (xs := bys [zj (((zb (zc lx)) * (8 : UInt64)) >>> zb 24)]) (sz := 1) bi (by kernel_rfl) (by kernel_rfl) rfl (by decide) bg ?_
 intro _ _ bj bk Ht
 refine f_o <| Zl (d := some 50) (t := 23) (tx := 23) (ty := 23) (k := 0) (p := zc gl11) (m := 1) (x := .slice (some ⟨bj, 0, none⟩) 1 1) (bytes := 1) bk (by kernel_rfl) Ht rfl (ZI _) (Zk (size := 1) (tx := 23) (e' := 5) (by kernel_rfl) (Ht.heap.reads (k := 1) rfl) rfl (fun e => by cases e) (ZC _)) (by kernel_rfl) (z := .int .u8 0) (by kernel_rfl) rfl (by decide) (app_b1 hn11 hs hjb (by decide)) (app_b2 hn11 hs hjb (by decide)) ?_
 intro _ _ bl bm Hu Ew hnz _
 clear hnz
 rw [← Zg] at Ew
 have Ex : (zc gl11) + 1 = zc (gl11 ++ [zj (((zb (zc lx)) * (8 : UInt64)) >>> zb 24)]) := (by first | (simp; done) | (simp; omega) | omega)
 rw [Ex] at Hu
 clear Ex
 refine d_e [0,1,4,5,6,7,8] [] Hu fun _ Hv => zx <| ze ?_
 generalize hg12 : gl11 ++ [zj (((zb (zc lx)) * (8 : UInt64)) >>> zb 24)] = gl12 at Ew Hv
 have hn12 : zc gl12 = zc lx + 2 + j + 12 := by rw [← hg12, zH]; simp only [z3, ZM]; exact app_n hn11
 have bn := Ew.pk [0] (M := [.vec bl bm 1 (bys gl12) 5])
 refine d_r [0,1,4,5,6,7,8] [] Hv fun _ bo => ?_
 refine ze <| zK <| wp_seq <| wp_seq <| d_r [0,1,4,5,6,7,8,40] [] bo fun _ Hw => ze <| c_t Hw ?_
 refine wp_skip <| ze <| wp_seq <| wp_block <| zk <| d_k [0,1,4,5,6,7,8,43,48] [(4, g_i .u64 (zI (x := (zb (zc lx)) * (8 : UInt64)) (n := 16) rfl (by decide))), (5, g_i .u8 (z4 (x := ((zb (zc lx)) * (8 : UInt64)) >>> zb 16) rfl))] 6 Hw fun _ bp => f_o <| ZZ (d := some 49) (t := 23) (T := 5) (m := 1) (parts := #[(0, bv (zj (((zb (zc lx)) * (8 : UInt64)) >>> zb 16)))]) (xs := bys [zj (((zb (zc lx)) * (8 : UInt64)) >>> zb 16)]) (sz := 1) bp (by kernel_rfl) (by kernel_rfl) rfl (by decide) bn ?_
 intro _ _ bq br Hx
 refine f_o <| Zl (d := some 50) (t := 23) (tx := 23) (ty := 23) (k := 0) (p := zc gl12) (m := 1) (x := .slice (some ⟨bq, 0, none⟩) 1 1) (bytes := 1) br (by kernel_rfl) Hx rfl (ZI _) (Zk (size := 1) (tx := 23) (e' := 5) (by kernel_rfl) (Hx.heap.reads (k := 1) rfl) rfl (fun e => by cases e) (ZC _)) (by kernel_rfl) (z := .int .u8 0) (by kernel_rfl) rfl (by decide) (app_b1 hn12 hs hjb (by decide)) (app_b2 hn12 hs hjb (by decide)) ?_
 intro _ _ bs bt Hy Ey hnz _
 clear hnz
 rw [← Zg] at Ey
 have Ez : (zc gl12) + 1 = zc (gl12 ++ [zj (((zb (zc lx)) * (8 : UInt64)) >>> zb 16)]) := (by first | (simp; done) | (simp; omega) | omega)
 rw [Ez] at Hy
 clear Ez
 refine d_e [0,1,4,5,6,7,8] [] Hy fun _ Hz => zx <| ze ?_
 generalize hg13 : gl12 ++ [zj (((zb (zc lx)) * (8 : UInt64)) >>> zb 16)] = gl13 at Ey Hz
 have hn13 : zc gl13 = zc lx + 2 + j + 13 := by rw [← hg13, zH]; simp only [z3, ZM]; exact app_n hn12
 have bu := Ey.pk [0] (M := [.vec bs bt 1 (bys gl13) 5])
 refine d_r [0,1,4,5,6,7,8] [] Hz fun _ bw => ?_
 refine ze <| zK <| wp_seq <| wp_seq <| d_r [0,1,4,5,6,7,8,40] [] bw fun _ HA => ze <| c_t HA ?_
 refine wp_skip <| ze <| wp_seq <| wp_block <| zk <| d_k [0,1,4,5,6,7,8,43,48] [(4, g_i .u64 (zI (x := (zb (zc lx)) * (8 : UInt64)) (n := 8) rfl (by decide))), (5, g_i .u8 (z4 (x := ((zb (zc lx)) * (8 : UInt64)) >>> zb 8) rfl))] 6 HA fun _ bx => f_o <| ZZ (d := some 49) (t := 23) (T := 5) (m := 1) (parts := #[(0, bv (zj (((zb (zc lx)) * (8 : UInt64)) >>> zb 8)))]) (xs := bys [zj (((zb (zc lx)) * (8 : UInt64)) >>> zb 8)]) (sz := 1) bx (by kernel_rfl) (by kernel_rfl) rfl (by decide) bu ?_
 intro _ _ bz bA HB
 refine f_o <| Zl (d := some 50) (t := 23) (tx := 23) (ty := 23) (k := 0) (p := zc gl13) (m := 1) (x := .slice (some ⟨bz, 0, none⟩) 1 1) (bytes := 1) bA (by kernel_rfl) HB rfl (ZI _) (Zk (size := 1) (tx := 23) (e' := 5) (by kernel_rfl) (HB.heap.reads (k := 1) rfl) rfl (fun e => by cases e) (ZC _)) (by kernel_rfl) (z := .int .u8 0) (by kernel_rfl) rfl (by decide) (app_b1 hn13 hs hjb (by decide)) (app_b2 hn13 hs hjb (by decide)) ?_
 intro _ _ bB bC HC EA hnz _
 clear hnz
 rw [← Zg] at EA
 have EB : (zc gl13) + 1 = zc (gl13 ++ [zj (((zb (zc lx)) * (8 : UInt64)) >>> zb 8)]) := (by first | (simp; done) | (simp; omega) | omega)
 rw [EB] at HC
 clear EB
 refine d_e [0,1,4,5,6,7,8] [] HC fun _ HD => zx <| ze ?_
 generalize hg14 : gl13 ++ [zj (((zb (zc lx)) * (8 : UInt64)) >>> zb 8)] = gl14 at EA HD
 have hn14 : zc gl14 = zc lx + 2 + j + 14 := by rw [← hg14, zH]; simp only [z3, ZM]; exact app_n hn13
 have bD := EA.pk [0] (M := [.vec bB bC 1 (bys gl14) 5])
 refine d_r [0,1,4,5,6,7,8] [] HD fun _ bE => ?_
 refine ze <| zK <| wp_seq <| wp_seq <| d_r [0,1,4,5,6,7,8,40] [] bE fun _ HE => ze <| c_t HE ?_
 refine wp_skip <| ze <| wp_seq <| wp_block <| zk <| d_k [0,1,4,5,6,7,8,43,48] [(4, g_i .u64 (zI (x := (zb (zc lx)) * (8 : UInt64)) (n := 0) rfl (by decide))), (5, g_i .u8 (z4 (x := ((zb (zc lx)) * (8 : UInt64)) >>> zb 0) rfl))] 6 HE fun _ bF => f_o <| ZZ (d := some 49) (t := 23) (T := 5) (m := 1) (parts := #[(0, bv (zj (((zb (zc lx)) * (8 : UInt64)) >>> zb 0)))]) (xs := bys [zj (((zb (zc lx)) * (8 : UInt64)) >>> zb 0)]) (sz := 1) bF (by kernel_rfl) (by kernel_rfl) rfl (by decide) bD ?_
 intro _ _ bG bH HF
 refine f_o <| Zl (d := some 50) (t := 23) (tx := 23) (ty := 23) (k := 0) (p := zc gl14) (m := 1) (x := .slice (some ⟨bG, 0, none⟩) 1 1) (bytes := 1) bH (by kernel_rfl) HF rfl (ZI _) (Zk (size := 1) (tx := 23) (e' := 5) (by kernel_rfl) (HF.heap.reads (k := 1) rfl) rfl (fun e => by cases e) (ZC _)) (by kernel_rfl) (z := .int .u8 0) (by kernel_rfl) rfl (by decide) (app_b1 hn14 hs hjb (by decide)) (app_b2 hn14 hs hjb (by decide)) ?_
 intro _ _ EC ED HG EE hnz _
 clear hnz
 rw [← Zg] at EE
 have EF : (zc gl14) + 1 = zc (gl14 ++ [zj (((zb (zc lx)) * (8 : UInt64)) >>> zb 0)]) := (by first | (simp; done) | (simp; omega) | omega)
 rw [EF] at HG
 clear EF
 refine d_e [0,1,4,5,6,7,8] [] HG fun _ HH => zx <| ze ?_
 generalize hg15 : gl14 ++ [zj (((zb (zc lx)) * (8 : UInt64)) >>> zb 0)] = gl15 at EE HH
 have hn15 : zc gl15 = zc lx + 2 + j + 15 := by rw [← hg15, zH]; simp only [z3, ZM]; exact app_n hn14
 have bI := EE.pk [0] (M := [.vec EC ED 1 (bys gl15) 5])
 refine d_r [0,1,4,5,6,7,8] [] HH fun _ bJ => ?_
 refine ze <| zK <| wp_seq <| wp_seq <| d_r [0,1,4,5,6,7,8,40] [] bJ fun _ HI => ze <| c_f HI ?_
 refine wp_exit <| zD <| zD <| zP <| ze <| wp_seq <| d_r [0,1,4,5,6,7,8] [] HI fun _ bK => ze <| wp_ret <| Qh (t := 4) (v := .slice EC (zc gl15) ED) bK (by kernel_rfl) (by kernel_rfl) ?_
 have hl : gl15 = lx ++ Jy 128 (zc lx % 128) (zc lx) := by rw [← hg15, ← hg14, ← hg13, ← hg12, ← hg11, ← hg10, ← hg9, ← hg8, ← hg7, ← hg6, ← hg5, ← hg4, ← hg3, ← hg2, ← hg1, ← hg0, heel, hjp]; simp [Jy, be8, zf]
 have Hf425 := bI.pk [0] (M := [.vec EC ED 1 (bys gl15) 5])
 rw [hl] at Hf425
 exact ⟨_, _, by rw [hl], Hf425⟩
theorem turn64_ref (w : World) (x : UInt64) (n : Nat) (h0 : 0 < n) (hn : n < 64) : Calls zB 108 #[zn x, ni n] w fun e w' => e = .returned (zn (zT x n)) ∧ Ev w [] w' [] := by
 refine d_0 [(0, zn x), (1, ni n)] 13 Tryz.func108 Tryz.ntmps108 (Heap.nil _) fun Ei Ej Eh => d_s [0,1,4] [] Ej fun _ Ek => ?_
 refine wp_seq <| r_c (fun ac wo => Env ac 13 [(4, zn ((x >>> zb n) ||| (x <<< zb (64 - n))))] ∧ Ev w [] wo []) ?_ ?_
 ·
  refine Xg (by kernel_rfl) 9 (by kernel_rfl) ?_
  have El := Eh.trans (zS Eh.heap)
  refine q_a [0,1] [] 7 Ek fun _ Ea => q_g 2 Ea (fun _ => Q0 x .i64 n (by omega) _) fun _ Eb => q_a [3,4,5] [(5, g_n (w_r (e := (64 : Int) - ((n : Nat) : Int)) (x := ((64 - n : Nat) : Int)) (by omega)))] 3 Eb fun _ Ec => q_g 6 Ec (fun _ => Go.Dbr.run_shl_u64 x .i64 (64 - n) (by omega) _) fun _ Ed => q_a [7,8] [(7, g_i .u64 (ZL (x := x >>> zb n) (y := x <<< zb (64 - n)) rfl rfl))] 0 Ed fun _ Ee => ?_
  exact a_e ⟨Ee.sb, El.pk []⟩
 rintro _ _ ⟨Ef, Eg⟩
 refine ze <| wp_ret <| Qh (t := 4) (v := zn ((x >>> zb n) ||| (x <<< zb (64 - n)))) Ef (by kernel_rfl) (by kernel_rfl) ?_
 exact ⟨rfl, Eg.pk []⟩
def rby64 (bl : List UInt8) (f t : Nat) : Nat → UInt64
  | 0 => 0
  | i + 1 => (rby64 bl f t i <<< zb 8) ||| Ze (za bl (f + 8 * t + i) 0)
def rwI64 (V : List UInt64) (bl : List UInt8) (f t : Nat) : Nat → List UInt64
  | 0 => V
  | i + 1 => zp (rwI64 V bl f t i) t ((za (rwI64 V bl f t i) t 0 <<< zb 8) ||| Ze (za bl (f + 8 * t + i) 0))
theorem rwI64_len {V : List UInt64} {m : Nat} (h : V.length = m) (bl : List UInt8) (f t i : Nat) : (rwI64 V bl f t i).length = m := by
  induction i with
  | zero => exact h
  | succ i ih => simp [rwI64, ih]
def rwF64 (bl : List UInt8) (f : Nat) : Nat → List UInt64
  | 0 => zf 80 0
  | t + 1 => rwI64 (rwF64 bl f t) bl f t 8
def rsF64 (W : List UInt64) : Nat → List UInt64
  | 0 => W
  | q + 1 => zp (rsF64 W q) (16 + q) (((mix64 (za (rsF64 W q) (14 + q) 0) 19 61 6 true + za (rsF64 W q) (9 + q) 0) + mix64 (za (rsF64 W q) (1 + q) 0) 1 8 7 true) + za (rsF64 W q) q 0)
def rx64 (v : List UInt64) (k w : UInt64) : UInt64 := (((za v 7 0 + mix64 (za v 4 0) 14 18 41 false) + ((za v 4 0 &&& za v 5 0) ^^^ (((18446744073709551615 : UInt64) ^^^ za v 4 0) &&& za v 6 0))) + k) + w
def ry64 (v : List UInt64) : UInt64 := mix64 (za v 0 0) 28 34 39 false + (((za v 0 0 &&& za v 1 0) ^^^ (za v 0 0 &&& za v 2 0)) ^^^ (za v 1 0 &&& za v 2 0))
def rst64 (v : List UInt64) (k w : UInt64) : List UInt64 := [rx64 v k w + ry64 v, za v 0 0, za v 1 0, za v 2 0, za v 3 0 + rx64 v k w, za v 4 0, za v 5 0, za v 6 0]
def rr64 (W v : List UInt64) : Nat → List UInt64
  | 0 => v
  | j + 1 => rst64 (rr64 W v j) (za K64 j 0) (za W j 0)
def rfeed64 (s : List UInt64) (bl : List UInt8) : Nat → List UInt64
  | 0 => s
  | q + 1 => XW (rfeed64 s bl q) (rr64 (rsF64 (rwF64 bl (128 * q) 16) 64) (rfeed64 s bl q) 80) 8
theorem rwF64_len (bl : List UInt8) (f t : Nat) : (rwF64 bl f t).length = 80 := by
  induction t with
  | zero => rfl
  | succ t ih => exact rwI64_len ih _ _ _ _
theorem rsF64_len {W : List UInt64} {m : Nat} (h : W.length = m) (q : Nat) : (rsF64 W q).length = m := by
  induction q with
  | zero => exact h
  | succ q ih => simp [rsF64, ih]
theorem rr64_len {v : List UInt64} (W : List UInt64) (h : v.length = 8) (j : Nat) : (rr64 W v j).length = 8 := by
  cases j with
  | zero => exact h
  | succ j => rfl
theorem pad64_mod (al : List UInt8) : (al ++ Jy 128 (al.length % 128) al.length).length % 128 = 0 := by
  simp only [Jy, pdZ, be8, zH, zi, z3, ZM]
  omega
def ro64 (s : List UInt64) : Nat → List UInt8
  | 0 => []
  | i + 1 => ro64 s i ++ be8 (za s i 0)
theorem sum64_ref (w : World) (ax : Option Addr) (nx cx : Nat) (lx : List UInt8) (ex : nx = zc lx) (ix : InB w [] ax cx lx) (s0 : List UInt64) (hs0 : zc s0 = 8) : Calls zB 79 #[.slice ax nx cx, .agg (zg (zh s0))] w fun e w' => ∃ ao co, e = .returned (.slice ao (zc (ro64 (rfeed64 s0 (lx ++ Jy 128 (zc lx % 128) (zc lx)) (zc (lx ++ Jy 128 (zc lx % 128) (zc lx)) / 128)) 8)) co) ∧ Ev w [] w' [.vec ao co 1 (bys (ro64 (rfeed64 s0 (lx ++ Jy 128 (zc lx % 128) (zc lx)) (zc (lx ++ Jy 128 (zc lx % 128) (zc lx)) / 128)) 8)) 5] := by
 subst ex
 have hs := ix.small
 have hcx := ix.cap
 refine d_0 [(0, .slice ax (zc lx) cx), (1, .agg (zg (zh s0)))] 211 Tryz.func79 Tryz.ntmps79 (Heap.nil _) fun ej ek el => wp_seq <| zk <| f_o <| m_m 99 (zh s0) ek el fun _ _ Ef em en => d_e [0,3,4] [] em fun _ eo => ze <| wp_seq <| zk <| d_k [0,3,4,23] [] 1 eo fun _ ep => f_o <| m_z 129 (zh (zf 80 0)) ep en fun _ _ Ed dS dT => f_o <| zZ 1 80 (zh ([4794697086780616226, 8158064640168781261, 13096744586834688815, 16840607885511220156, 4131703408338449720, 6480981068601479193, 10538285296894168987, 12329834152419229976, 15566598209576043074, 1334009975649890238, 2608012711638119052, 6128411473006802146, 8268148722764581231, 9286055187155687089, 11230858885718282805, 13951009754708518548, 16472876342353939154, 17275323862435702243, 1135362057144423861, 2597628984639134821, 3308224258029322869, 5365058923640841347, 6679025012923562964, 8573033837759648693, 10970295158949994411, 12119686244451234320, 12683024718118986047, 13788192230050041572, 14330467153632333762, 15395433587784984357, 489312712824947311, 1452737877330783856, 2861767655752347644, 3322285676063803686, 5560940570517711597, 5996557281743188959, 7280758554555802590, 8532644243296465576, 9350256976987008742, 10552545826968843579, 11727347734174303076, 12113106623233404929, 14000437183269869457, 14369950271660146224, 15101387698204529176, 15463397548674623760, 17586052441742319658, 1182934255886127544, 1847814050463011016, 2177327727835720531, 2830643537854262169, 3796741975233480872, 4115178125766777443, 5681478168544905931, 6601373596472566643, 7507060721942968483, 8399075790359081724, 8693463985226723168, 9568029438360202098, 10144078919501101548, 10430055236837252648, 11840083180663258601, 13761210420658862357, 14299343276471374635, 14566680578165727644, 15097957966210449927, 16922976911328602910, 17689382322260857208, 500013540394364858, 748580250866718886, 1242879168328830382, 1977374033974150939, 2944078676154940804, 3659926193048069267, 4368137639120453308, 4836135668995329356, 5532061633213252278, 6448918945643986474, 6902733635092675308, 7801388544844847127] : List UInt64)) _ dS dT rfl (zd (show zc ([4794697086780616226, 8158064640168781261, 13096744586834688815, 16840607885511220156, 4131703408338449720, 6480981068601479193, 10538285296894168987, 12329834152419229976, 15566598209576043074, 1334009975649890238, 2608012711638119052, 6128411473006802146, 8268148722764581231, 9286055187155687089, 11230858885718282805, 13951009754708518548, 16472876342353939154, 17275323862435702243, 1135362057144423861, 2597628984639134821, 3308224258029322869, 5365058923640841347, 6679025012923562964, 8573033837759648693, 10970295158949994411, 12119686244451234320, 12683024718118986047, 13788192230050041572, 14330467153632333762, 15395433587784984357, 489312712824947311, 1452737877330783856, 2861767655752347644, 3322285676063803686, 5560940570517711597, 5996557281743188959, 7280758554555802590, 8532644243296465576, 9350256976987008742, 10552545826968843579, 11727347734174303076, 12113106623233404929, 14000437183269869457, 14369950271660146224, 15101387698204529176, 15463397548674623760, 17586052441742319658, 1182934255886127544, 1847814050463011016, 2177327727835720531, 2830643537854262169, 3796741975233480872, 4115178125766777443, 5681478168544905931, 6601373596472566643, 7507060721942968483, 8399075790359081724, 8693463985226723168, 9568029438360202098, 10144078919501101548, 10430055236837252648, 11840083180663258601, 13761210420658862357, 14299343276471374635, 14566680578165727644, 15097957966210449927, 16922976911328602910, 17689382322260857208, 500013540394364858, 748580250866718886, 1242879168328830382, 1977374033974150939, 2944078676154940804, 3659926193048069267, 4368137639120453308, 4836135668995329356, 5532061633213252278, 6448918945643986474, 6902733635092675308, 7801388544844847127] : List UInt64) = 80 from rfl)) (zd (zi)) (zw _) rfl fun _ dU dV Hm => ?_
 refine f_e ?_
 replace Hm : Ev w [] dU [.box Ef (zh s0) 99, .box Ed (zh K64) 129] := Hm
 refine ze <| wp_seq <| zk <| d_k [0,3,4,5,24] [] 1 dV fun _ dW => f_o <| c_0 dW Hm (padded64_ref _ ax (zc lx) cx lx (by first | rfl | (simp; done) | (simp; omega) | omega) ((ix.ev Hm).pick [] (by kernel_rfl))) ?_
 rintro _ _ ⟨Ea, Eb, rfl, dX⟩
 refine ⟨_, _, _, rfl, dX, rfl, fun _ dY dZ => ?_⟩
 refine d_e [0,3,4,5] [] dY fun _ d0 => ?_
 have hbm := pad64_mod lx
 have hbs := padB_len 128 (zc lx % 128) (zc lx) (by decide) (by decide)
 have hbl : zc (lx ++ Jy 128 (zc lx % 128) (zc lx)) = zc lx + zc (Jy 128 (zc lx % 128) (zc lx)) := zH
 generalize hbe : lx ++ Jy 128 (zc lx % 128) (zc lx) = bl at *
 refine ze <| wp_seq <| wp_seq <| d_r [0,3,4,5,6] [] d0 fun _ d1 => ?_
 refine ze <| wp_block <| Z5 (fun d2 ac wo => ∃ (q : Nat) (sx : List UInt64), d2 = (zc bl - 128 * q : Nat) ∧ Env ac 211 [(0, .slice Ea (zc bl) Eb), (3, pt Ef), (4, .slice none 0 0), (5, pt Ed), (6, ni (128 * q))] ∧ Ev w [] wo [.box Ef (zh sx) 99, .vec Ea Eb 1 (bys bl) 5, .box Ed (zh K64) 129] ∧ (128 * q ≤ zc bl) ∧ (zc sx = 8) ∧ (sx = rfeed64 s0 bl q)) ⟨_, 0, s0, rfl, d1.sb, dZ.pk [1, 0, 2], by omega, hs0, rfl⟩ ?_
 rintro eq _ _ ⟨q, sx, rfl, d3, cH, hq, hlx, hes⟩
 refine wp_seq <| wp_seq <| d_r [0,3,4,5,6,29] [] d3 fun _ Hz => ?_
 refine ze <| c_d (((128 * q : Nat) : Int) < ((zc bl : Nat) : Int)) Hz (fun d4 => ?_) (fun d4 => ?_)
 ·
  refine wp_skip <| ze <| wp_seq <| wp_block <| wp_seq <| zk <| f_o <| m_z 129 (zh (zf 80 0)) Hz cH fun _ _ Ec d5 d6 => f_e <| ze <| wp_seq <| wp_seq <| d_r [0,3,4,5,6,7,8] [] d5 fun _ d7 => ?_
  refine ze <| wp_block <| Z5 (fun d8 ac wo => ∃ (t1 : Nat) (wa : List UInt64), d8 = (16 - t1 : Nat) ∧ Env ac 211 [(0, .slice Ea (zc bl) Eb), (3, pt Ef), (4, .slice none 0 0), (5, pt Ed), (6, ni (128 * q)), (7, pt Ec), (8, ni t1)] ∧ Ev w [] wo [.box Ec (zh wa) 129, .box Ef (zh sx) 99, .vec Ea Eb 1 (bys bl) 5, .box Ed (zh K64) 129] ∧ (t1 ≤ 16) ∧ (zc wa = 80) ∧ (wa = rwF64 bl (128 * q) t1)) ⟨_, 0, zf 80 0, rfl, d7.sb, d6.pk [3, 0, 1, 2], by omega, (zi), rfl⟩ ?_
  rintro er _ _ ⟨t1, wa, rfl, d9, HA, hiwa, hlwa, hewa⟩
  refine wp_seq <| wp_seq <| d_r [0,3,4,5,6,7,8,33] [] d9 fun _ HB => ?_
  refine ze <| c_d (((t1 : Nat) : Int) < (16 : Int)) HB (fun ea => ?_) (fun ea => ?_)
  ·
   refine wp_skip <| ze <| wp_seq <| wp_block <| wp_seq <| d_r [0,3,4,5,6,7,8,9] [] HB fun _ eb => ?_
   refine ze <| wp_block <| Z5 (fun ec ac wo => ∃ (ti : Nat) (wi : List UInt64), ec = (8 - ti : Nat) ∧ Env ac 211 [(0, .slice Ea (zc bl) Eb), (3, pt Ef), (4, .slice none 0 0), (5, pt Ed), (6, ni (128 * q)), (7, pt Ec), (8, ni t1), (9, ni ti)] ∧ Ev w [] wo [.box Ec (zh wi) 129, .box Ef (zh sx) 99, .vec Ea Eb 1 (bys bl) 5, .box Ed (zh K64) 129] ∧ (ti ≤ 8) ∧ (zc wi = 80) ∧ (wi = rwI64 wa bl (128 * q) t1 ti)) ⟨_, 0, wa, rfl, eb.sb, HA.pk [0, 1, 2, 3], by omega, hlwa, rfl⟩ ?_
   rintro es _ _ ⟨ti, wi, rfl, ed, Hn, hiwi, hlwi, hewi⟩
   refine wp_seq <| wp_seq <| d_r [0,3,4,5,6,7,8,9,37] [] ed fun _ HC => ?_
   refine ze <| c_d (((ti : Nat) : Int) < (8 : Int)) HC (fun ee => ?_) (fun ee => ?_)
   ·
    refine wp_skip <| ze <| wp_seq <| wp_block <| r_c (fun ac wo => Env ac 211 [(0, .slice Ea (zc bl) Eb), (3, pt Ef), (4, .slice none 0 0), (5, pt Ed), (6, ni (128 * q)), (7, pt Ec), (8, ni t1), (9, ni ti)] ∧ Ev w [] wo [.box Ec (zh (zp wi t1 (((za wi t1 0) <<< zb 8) ||| (Ze (za bl (((128 * q) + (8 * t1)) + ti) 0))))) 129, .box Ef (zh sx) 99, .vec Ea Eb 1 (bys bl) 5, .box Ed (zh K64) 129]) ?_ ?_
    ·
     refine h_s (fun wv => Ev w [] wv [.box Ec (zh wi) 129, .vec Ea Eb 1 (bys bl) 5]) [17] 18 ?_
     have Em := Hn.trans (zS Hn.heap)
     refine q_s [0,1] [] 16 HC (Em.pk [0, 2]) fun _ cI => q_f 2 (s := Instr.indexAt 129 (pt Ec) (ni t1)) (v := .pointer (some ⟨Ec, t1, none⟩)) cI (fun _ => zt (e := 31) (sz := 1) (m := 80) (j := t1) (o := t1) (by kernel_rfl) (by kernel_rfl) (by omega) (by omega) (by omega) _) (fun _ => Em.pk [0, 2]) fun _ cJ => ?_
     have cK : t1 < zc wi := by rw [hlwi]; omega
     refine q_r 3 (s := Instr.loadAt 31 (.pointer (some ⟨Ec, t1, none⟩))) (v := zn (za wi t1 0)) cJ (fun w hS => Zi (by kernel_rfl) (hS.heap.cell (k := 0) rfl (zC cK))) (Em.pk [0, 2]) fun _ cL => ?_
     have Hw : ((128 * q) + (8 * t1)) + ti < zc bl := (by omega)
     obtain ⟨Ep, Ez⟩ := some_of (bys_vnz Em.heap (k := 2) rfl) Hw
     refine q_s [4,5,6,7,8,9,10,11] [(4, g_i .u64 (Go.Dbr.u64_shl (x := za wi t1 0) (n := 8) rfl (by decide))), (8, g_n (w_m 8 t1)), (9, g_n (w_a (128 * q) (8 * t1))), (11, g_n (w_a ((128 * q) + (8 * t1)) ti))] 6 cL (Em.pk [0, 2]) fun _ cM => q_f 12 (s := Instr.indexAt 23 (.slice Ea (zc bl) Eb) (ni (((128 * q) + (8 * t1)) + ti))) (v := .pointer (some (Addr.add Ep (((128 * q) + (8 * t1)) + ti)))) cM (fun _ => Ql (e := 5) (sz := 1) (j := ((128 * q) + (8 * t1)) + ti) (jo := ((128 * q) + (8 * t1)) + ti) Ez (by kernel_rfl) (by kernel_rfl) (by omega) Hw (ZG _) _) (fun _ => Em.pk [0, 2]) fun _ cN => ?_
     have cO : ((128 * q) + (8 * t1)) + ti < zc bl := by omega
     refine q_r 13 (s := Instr.loadAt 5 (.pointer (some (Addr.add Ep (((128 * q) + (8 * t1)) + ti))))) (v := bv (za bl (((128 * q) + (8 * t1)) + ti) 0)) cN (fun w hS => run_loadel (ad := Ep) (o := ((128 * q) + (8 * t1)) + ti) rfl (hS.heap.reads (k := 1) rfl) Ez (Qr cO) (by kernel_rfl)) (Em.pk [0, 2]) fun _ cP => q_s [14,15] [(14, g_i .u64 (Go.Dbr.u8_to_u64 (x := za bl (((128 * q) + (8 * t1)) + ti) 0) rfl)), (15, g_i .u64 (ZL (x := (za wi t1 0) <<< zb 8) (y := Ze (za bl (((128 * q) + (8 * t1)) + ti) 0)) rfl rfl))] 2 cP (Em.pk [0, 2]) fun _ cQ => q_f 16 (s := Instr.indexAt 129 (pt Ec) (ni t1)) (v := .pointer (some ⟨Ec, t1, none⟩)) cQ (fun _ => zt (e := 31) (sz := 1) (m := 80) (j := t1) (o := t1) (by kernel_rfl) (by kernel_rfl) (by omega) (by omega) (by omega) _) (fun _ => Em.pk [0, 2]) fun _ cR => q_t 17 ?_
     have cS : t1 < zc wi := by rw [hlwi]; omega
     refine m_t 0 t1 (zn (((za wi t1 0) <<< zb 8) ||| (Ze (za bl (((128 * q) + (8 * t1)) + ti) 0)))) [.box Ec (zh (zp wi t1 (((za wi t1 0) <<< zb 8) ||| (Ze (za bl (((128 * q) + (8 * t1)) + ti) 0))))) 129, .box Ef (zh sx) 99, .vec Ea Eb 1 (bys bl) 5, .box Ed (zh K64) 129] cR Em rfl (zC cS) (Z4 _ _ _) rfl fun _ _ cT cU => ⟨q_y, ?_⟩
     exact h_e ⟨cT.sb, cU.pk [0, 1, 2, 3]⟩
    rintro _ _ ⟨cV, cW⟩
    refine zx <| ze <| d_r [0,3,4,5,6,7,8,9] [(1, g_n (w_a ti 1))] cV fun _ cX => ze <| ⟨_, ⟨ti + 1, (zp wi t1 (((za wi t1 0) <<< zb 8) ||| (Ze (za bl (((128 * q) + (8 * t1)) + ti) 0)))), rfl, cX.sb, cW.pk [0, 1, 2, 3], by omega, (List.length_set.trans hlwi), by first | (rw [hewi]; rfl) | (rw [hewi, dR]; rfl) | rfl⟩, ?_⟩
    omega
   refine wp_exit <| zD <| zD <| zP <| zx <| ze ?_
   have hti : ti = 8 := by omega
   have hwi : wi = rwF64 bl (128 * q) (t1 + 1) := by rw [hewi, hti, hewa]; rfl
   rw [show wi = (rwF64 bl (128 * q) (t1 + 1)) from hwi] at Hn
   refine d_r [0,3,4,5,6,7,8,9] [(1, g_n (w_a t1 1))] HC fun _ cY => ze <| ⟨_, ⟨t1 + 1, (rwF64 bl (128 * q) (t1 + 1)), rfl, cY.sb, Hn.pk [0, 1, 2, 3], by omega, (rwF64_len _ _ _), by first | (rw [hewa]; rfl) | (rw [hewa, dR]; rfl) | rfl⟩, ?_⟩
   omega
  refine wp_exit <| zD <| zD <| zP <| ze <| wp_seq <| wp_seq ?_
  have hnwa : t1 = 16 := by omega
  have hfwa : wa = rwF64 bl (128 * q) 16 := by rw [hewa, hnwa] <;> rfl
  rw [show wa = (rwF64 bl (128 * q) 16) from hfwa] at HA
  refine d_r [0,3,4,5,6,7,8,10] [] HB fun _ cZ => ?_
  refine ze <| wp_block <| Z5 (fun c0 ac wo => ∃ (t2 : Nat) (wb : List UInt64), c0 = (64 - t2 : Nat) ∧ Env ac 211 [(0, .slice Ea (zc bl) Eb), (3, pt Ef), (4, .slice none 0 0), (5, pt Ed), (6, ni (128 * q)), (7, pt Ec), (8, ni t1), (10, ni (16 + t2))] ∧ Ev w [] wo [.box Ec (zh wb) 129, .box Ef (zh sx) 99, .vec Ea Eb 1 (bys bl) 5, .box Ed (zh K64) 129] ∧ (t2 ≤ 64) ∧ (zc wb = 80) ∧ (wb = rsF64 (rwF64 bl (128 * q) 16) t2)) ⟨_, 0, rwF64 bl (128 * q) 16, rfl, cZ.sb, HA.pk [0, 1, 2, 3], by omega, (rwF64_len _ _ _), rfl⟩ ?_
  rintro eh _ _ ⟨t2, wb, rfl, c1, Ek, hiwb, hlwb, hewb⟩
  refine wp_seq <| wp_seq <| d_r [0,3,4,5,6,7,8,10,58] [] c1 fun _ EA => ?_
  refine ze <| c_d (((16 + t2 : Nat) : Int) < (80 : Int)) EA (fun c2 => ?_) (fun c2 => ?_)
  ·
   refine wp_skip <| ze <| wp_seq <| wp_block <| wp_seq <| zk <| d_k [0,3,4,5,6,7,8,10,62] [(1, g_n (w_r (e := ((16 + t2 : Nat) : Int) - (15 : Int)) (x := ((1 + t2 : Nat) : Int)) (by omega)))] 2 EA fun _ c3 => f_o <| q_v (x := Instr.indexAt 129 (pt Ec) (ni (1 + t2))) (v := .pointer (some ⟨Ec, 1 + t2, none⟩)) c3 (zt (e := 31) (sz := 1) (m := 80) (j := 1 + t2) (o := 1 + t2) (by kernel_rfl) (by kernel_rfl) (by omega) (by omega) (by omega) _) fun _ c4 => f_o ?_
   have c5 : 1 + t2 < zc wb := by rw [hlwb]; omega
   refine m_v 0 (1 + t2) (zn (za wb (1 + t2) 0)) c4 Ek rfl (zC c5) fun _ c6 => d_e [0,3,4,5,6,7,8,10,11] [] c6 fun _ c8 => ze <| wp_seq <| zk <| d_k [0,3,4,5,6,7,8,10,11,66] [(1, g_n (w_r (e := ((16 + t2 : Nat) : Int) - (2 : Int)) (x := ((14 + t2 : Nat) : Int)) (by omega)))] 2 c8 fun _ c9 => f_o <| q_v (x := Instr.indexAt 129 (pt Ec) (ni (14 + t2))) (v := .pointer (some ⟨Ec, 14 + t2, none⟩)) c9 (zt (e := 31) (sz := 1) (m := 80) (j := 14 + t2) (o := 14 + t2) (by kernel_rfl) (by kernel_rfl) (by omega) (by omega) (by omega) _) fun _ da => f_o ?_
   have db : 14 + t2 < zc wb := by rw [hlwb]; omega
   refine m_v 0 (14 + t2) (zn (za wb (14 + t2) 0)) da Ek rfl (zC db) fun _ dc => d_e [0,3,4,5,6,7,8,10,11,12] [] dc fun _ dd => ?_
   refine ze <| r_c (fun ac wo => Env ac 211 [(0, .slice Ea (zc bl) Eb), (3, pt Ef), (4, .slice none 0 0), (5, pt Ed), (6, ni (128 * q)), (7, pt Ec), (8, ni t1), (10, ni (16 + t2))] ∧ Ev w [] wo [.box Ec (zh (zp wb (16 + t2) ((((((zT (za wb (14 + t2) 0) 19) ^^^ (zT (za wb (14 + t2) 0) 61)) ^^^ ((za wb (14 + t2) 0) >>> zb 6)) + (za wb (9 + t2) 0)) + (((zT (za wb (1 + t2) 0) 1) ^^^ (zT (za wb (1 + t2) 0) 8)) ^^^ ((za wb (1 + t2) 0) >>> zb 7))) + (za wb t2 0)))) 129, .box Ef (zh sx) 99, .vec Ea Eb 1 (bys bl) 5, .box Ed (zh K64) 129]) ?_ ?_
   ·
    refine h_s (fun wv => Ev w [] wv [.box Ec (zh wb) 129]) [29] 30 ?_
    have El := Ek.trans (zS Ek.heap)
    refine q_s [0,1,3,6,7,9,10] [(7, g_i .u64 (zI (x := za wb (14 + t2) 0) (n := 6) rfl (by decide))), (10, g_n (w_r (e := ((16 + t2 : Nat) : Int) - (7 : Int)) (x := ((9 + t2 : Nat) : Int)) (by omega)))] 23 dd (El.pk [0]) fun _ de => q_f 11 (s := Instr.indexAt 129 (pt Ec) (ni (9 + t2))) (v := .pointer (some ⟨Ec, 9 + t2, none⟩)) de (fun _ => zt (e := 31) (sz := 1) (m := 80) (j := 9 + t2) (o := 9 + t2) (by kernel_rfl) (by kernel_rfl) (by omega) (by omega) (by omega) _) (fun _ => El.pk [0]) fun _ df => ?_
    have dg : 9 + t2 < zc wb := by rw [hlwb]; omega
    refine q_r 12 (s := Instr.loadAt 31 (.pointer (some ⟨Ec, 9 + t2, none⟩))) (v := zn (za wb (9 + t2) 0)) df (fun w hS => Zi (by kernel_rfl) (hS.heap.cell (k := 0) rfl (zC dg))) (El.pk [0]) fun _ dh => q_s [14,16,19,20,23,24] [(20, g_i .u64 (zI (x := za wb (1 + t2) 0) (n := 7) rfl (by decide))), (24, g_n (w_r (e := ((16 + t2 : Nat) : Int) - (16 : Int)) (x := ((t2 : Nat) : Int)) (by omega)))] 15 dh (El.pk [0]) fun _ di => q_f 25 (s := Instr.indexAt 129 (pt Ec) (ni t2)) (v := .pointer (some ⟨Ec, t2, none⟩)) di (fun _ => zt (e := 31) (sz := 1) (m := 80) (j := t2) (o := t2) (by kernel_rfl) (by kernel_rfl) (by omega) (by omega) (by omega) _) (fun _ => El.pk [0]) fun _ dj => ?_
    have dk : t2 < zc wb := by rw [hlwb]; omega
    refine q_r 26 (s := Instr.loadAt 31 (.pointer (some ⟨Ec, t2, none⟩))) (v := zn (za wb t2 0)) dj (fun w hS => Zi (by kernel_rfl) (hS.heap.cell (k := 0) rfl (zC dk))) (El.pk [0]) fun _ dl => q_t 2 ?_
    refine c_p dl El (turn64_ref _ (za wb (14 + t2) 0) 19 (by decide) (by decide)) fun _ _ dm Hx => ⟨fun _ => Hx.pk [0], ?_⟩
    refine q_t 4 ?_
    refine c_p dm Hx (turn64_ref _ (za wb (14 + t2) 0) 61 (by decide) (by decide)) fun _ _ dn EB => ⟨fun _ => EB.pk [0], ?_⟩
    refine q_s [5,8,13] [(5, g_i .u64 (ZK (x := zT (za wb (14 + t2) 0) 19) (y := zT (za wb (14 + t2) 0) 61) rfl rfl)), (8, g_i .u64 (ZK (x := (zT (za wb (14 + t2) 0) 19) ^^^ (zT (za wb (14 + t2) 0) 61)) (y := (za wb (14 + t2) 0) >>> zb 6) rfl rfl)), (13, g_i .u64 (zO (x := ((zT (za wb (14 + t2) 0) 19) ^^^ (zT (za wb (14 + t2) 0) 61)) ^^^ ((za wb (14 + t2) 0) >>> zb 6)) (y := za wb (9 + t2) 0) rfl rfl))] 8 dn (EB.pk [0]) fun _ dp => q_t 15 ?_
    refine c_p dp EB (turn64_ref _ (za wb (1 + t2) 0) 1 (by decide) (by decide)) fun _ _ dq Hy => ⟨fun _ => Hy.pk [0], ?_⟩
    refine q_t 17 ?_
    refine c_p dq Hy (turn64_ref _ (za wb (1 + t2) 0) 8 (by decide) (by decide)) fun _ _ dr Ey => ⟨fun _ => Ey.pk [0], ?_⟩
    refine q_s [18,21,22,27] [(18, g_i .u64 (ZK (x := zT (za wb (1 + t2) 0) 1) (y := zT (za wb (1 + t2) 0) 8) rfl rfl)), (21, g_i .u64 (ZK (x := (zT (za wb (1 + t2) 0) 1) ^^^ (zT (za wb (1 + t2) 0) 8)) (y := (za wb (1 + t2) 0) >>> zb 7) rfl rfl)), (22, g_i .u64 (zO (x := (((zT (za wb (14 + t2) 0) 19) ^^^ (zT (za wb (14 + t2) 0) 61)) ^^^ ((za wb (14 + t2) 0) >>> zb 6)) + (za wb (9 + t2) 0)) (y := ((zT (za wb (1 + t2) 0) 1) ^^^ (zT (za wb (1 + t2) 0) 8)) ^^^ ((za wb (1 + t2) 0) >>> zb 7)) rfl rfl)), (27, g_i .u64 (zO (x := ((((zT (za wb (14 + t2) 0) 19) ^^^ (zT (za wb (14 + t2) 0) 61)) ^^^ ((za wb (14 + t2) 0) >>> zb 6)) + (za wb (9 + t2) 0)) + (((zT (za wb (1 + t2) 0) 1) ^^^ (zT (za wb (1 + t2) 0) 8)) ^^^ ((za wb (1 + t2) 0) >>> zb 7))) (y := za wb t2 0) rfl rfl))] 2 dr (Ey.pk [0]) fun _ ds => q_f 28 (s := Instr.indexAt 129 (pt Ec) (ni (16 + t2))) (v := .pointer (some ⟨Ec, 16 + t2, none⟩)) ds (fun _ => zt (e := 31) (sz := 1) (m := 80) (j := 16 + t2) (o := 16 + t2) (by kernel_rfl) (by kernel_rfl) (by omega) (by omega) (by omega) _) (fun _ => Ey.pk [0]) fun _ dt => q_t 29 ?_
    have du : 16 + t2 < zc wb := by rw [hlwb]; omega
    refine m_t 0 (16 + t2) (zn ((((((zT (za wb (14 + t2) 0) 19) ^^^ (zT (za wb (14 + t2) 0) 61)) ^^^ ((za wb (14 + t2) 0) >>> zb 6)) + (za wb (9 + t2) 0)) + (((zT (za wb (1 + t2) 0) 1) ^^^ (zT (za wb (1 + t2) 0) 8)) ^^^ ((za wb (1 + t2) 0) >>> zb 7))) + (za wb t2 0))) _ dt Ey rfl (zC du) (Z4 _ _ _) rfl fun _ _ dv dw => ⟨q_y, ?_⟩
    exact h_e ⟨dv.sb, dw.pk [0, 1, 2, 3]⟩
   rintro _ _ ⟨dx, dy⟩
   refine zx <| ze <| d_r [0,3,4,5,6,7,8,10] [(1, g_n (w_a (16 + t2) 1))] dx fun _ dz => ze <| ⟨_, ⟨t2 + 1, (zp wb (16 + t2) ((((((zT (za wb (14 + t2) 0) 19) ^^^ (zT (za wb (14 + t2) 0) 61)) ^^^ ((za wb (14 + t2) 0) >>> zb 6)) + (za wb (9 + t2) 0)) + (((zT (za wb (1 + t2) 0) 1) ^^^ (zT (za wb (1 + t2) 0) 8)) ^^^ ((za wb (1 + t2) 0) >>> zb 7))) + (za wb t2 0))), rfl, dz.sb, dy.pk [0, 1, 2, 3], by omega, (List.length_set.trans hlwb), by first | (rw [hewb]; rfl) | (rw [hewb, dR]; rfl) | rfl⟩, ?_⟩
   omega
  refine wp_exit <| zD <| zD <| zP <| ze <| wp_seq ?_
  have hnwb : t2 = 64 := by omega
  have hfwb : wb = rsF64 (rwF64 bl (128 * q) 16) 64 := by rw [hewb, hnwb] <;> rfl
  rw [show wb = (rsF64 (rwF64 bl (128 * q) 16) 64) from hfwb] at Ek
  refine zk <| f_o <| Zn 1 8 (zh sx) EA Ek rfl (zd hlx) fun _ dA => f_o <| m_z 99 (zh (zf 8 0)) dA Ek fun _ _ Ee dB dC => f_o <| zZ 4 8 (zh sx) [.box Ec (zh (rsF64 (rwF64 bl (128 * q) 16) 64)) 129, .box Ef (zh sx) 99, .vec Ea Eb 1 (bys bl) 5, .box Ed (zh K64) 129, .box Ee (zh sx) 99] dB dC rfl (zd hlx) (zd (zi)) (zw _) rfl fun _ _ dD dE => f_e <| ze <| wp_seq <| wp_seq <| d_r [0,3,4,5,6,7,8,10,13,14] [] dD fun _ dF => ?_
  refine ze <| wp_block <| Z5 (fun dG ac wo => ∃ (t3 : Nat) (va : List UInt64), dG = (80 - t3 : Nat) ∧ Env ac 211 [(0, .slice Ea (zc bl) Eb), (3, pt Ef), (4, .slice none 0 0), (5, pt Ed), (6, ni (128 * q)), (7, pt Ec), (8, ni t1), (10, ni (16 + t2)), (13, pt Ee), (14, ni t3)] ∧ Ev w [] wo [.box Ee (zh va) 99, .box Ec (zh (rsF64 (rwF64 bl (128 * q) 16) 64)) 129, .box Ef (zh sx) 99, .vec Ea Eb 1 (bys bl) 5, .box Ed (zh K64) 129] ∧ (t3 ≤ 80) ∧ (zc va = 8) ∧ (va = rr64 (rsF64 (rwF64 bl (128 * q) 16) 64) sx t3)) ⟨_, 0, sx, rfl, dF.sb, dE.pk [4, 0, 1, 2, 3], by omega, hlx, rfl⟩ ?_
  rintro ei _ _ ⟨t3, va, rfl, dH, En, hiva, hlva, heva⟩
  refine wp_seq <| wp_seq <| d_r [0,3,4,5,6,7,8,10,13,14,100] [] dH fun _ EC => ?_
  refine ze <| c_d (((t3 : Nat) : Int) < (80 : Int)) EC (fun dI => ?_) (fun dI => ?_)
  ·
   refine wp_skip <| ze <| wp_seq <| wp_block <| wp_seq <| zk <| d_k [0,3,4,5,6,7,8,10,13,14,103] [] 1 EC fun _ dJ => f_o ?_
   have dK : 0 < zc va := by rw [hlva]; omega
   refine m_v 0 0 (zn (za va 0 0)) dJ En rfl (zC dK) fun _ dL => d_e [0,3,4,5,6,7,8,10,13,14,15] [] dL fun _ dM => ze <| wp_seq <| zk <| d_k [0,3,4,5,6,7,8,10,13,14,15,105] [] 1 dM fun _ dN => f_o ?_
   have dO : 4 < zc va := by rw [hlva]; omega
   refine m_v 0 4 (zn (za va 4 0)) dN En rfl (zC dO) fun _ dP => d_e [0,3,4,5,6,7,8,10,13,14,15,16] [] dP fun _ dQ => ?_
   refine ze <| wp_seq <| r_c (fun ac wo => Env ac 211 [(0, .slice Ea (zc bl) Eb), (3, pt Ef), (4, .slice none 0 0), (5, pt Ed), (6, ni (128 * q)), (7, pt Ec), (8, ni t1), (10, ni (16 + t2)), (13, pt Ee), (14, ni t3), (15, zn (za va 0 0)), (16, zn (za va 4 0)), (17, zn (((((za va 7 0) + (((zT (za va 4 0) 14) ^^^ (zT (za va 4 0) 18)) ^^^ (zT (za va 4 0) 41))) + (((za va 4 0) &&& (za va 5 0)) ^^^ (((18446744073709551615 : UInt64) ^^^ (za va 4 0)) &&& (za va 6 0)))) + (za K64 t3 0)) + (za (rsF64 (rwF64 bl (128 * q) 16) 64) t3 0)))] ∧ Ev w [] wo [.box Ee (zh va) 99, .box Ec (zh (rsF64 (rwF64 bl (128 * q) 16) 64)) 129, .box Ef (zh sx) 99, .vec Ea Eb 1 (bys bl) 5, .box Ed (zh K64) 129]) ?_ ?_
   ·
    refine h_s (fun wv => Ev w [] wv [.box Ee (zh va) 99, .box Ec (zh (rsF64 (rwF64 bl (128 * q) 16) 64)) 129, .box Ed (zh K64) 129]) [] 31 ?_
    have Eh := En.trans (zS En.heap)
    have HD : 7 < zc va := by rw [hlva]; omega
    refine q_s [0] [] 30 dQ (Eh.pk [0, 1, 4]) fun _ HE => q_r 1 (s := Instr.loadAt 31 (.pointer (some ⟨Ee, 7, none⟩))) (v := zn (za va 7 0)) HE (fun w hS => Zi (by kernel_rfl) (hS.heap.cell (k := 0) rfl (zC HD))) (Eh.pk [0, 1, 4]) fun _ HF => ?_
    have HG : 5 < zc va := by rw [hlva]; omega
    refine q_s [2,4,7,11,12] [] 24 HF (Eh.pk [0, 1, 4]) fun _ HH => q_r 13 (s := Instr.loadAt 31 (.pointer (some ⟨Ee, 5, none⟩))) (v := zn (za va 5 0)) HH (fun w hS => Zi (by kernel_rfl) (hS.heap.cell (k := 0) rfl (zC HG))) (Eh.pk [0, 1, 4]) fun _ HI => ?_
    have HJ : 6 < zc va := by rw [hlva]; omega
    refine q_s [14,15,16,17] [(14, g_i .u64 (Zp (x := za va 4 0) (y := za va 5 0) rfl rfl)), (16, g_i .u64 (ZK (x := 18446744073709551615) (y := za va 4 0) rfl rfl))] 19 HI (Eh.pk [0, 1, 4]) fun _ HK => q_r 18 (s := Instr.loadAt 31 (.pointer (some ⟨Ee, 6, none⟩))) (v := zn (za va 6 0)) HK (fun w hS => Zi (by kernel_rfl) (hS.heap.cell (k := 0) rfl (zC HJ))) (Eh.pk [0, 1, 4]) fun _ HL => q_s [19,20,22] [(19, g_i .u64 (Zp (x := (18446744073709551615 : UInt64) ^^^ (za va 4 0)) (y := za va 6 0) rfl rfl)), (20, g_i .u64 (ZK (x := (za va 4 0) &&& (za va 5 0)) (y := ((18446744073709551615 : UInt64) ^^^ (za va 4 0)) &&& (za va 6 0)) rfl rfl))] 15 HL (Eh.pk [0, 1, 4]) fun _ HM => q_f 23 (s := Instr.indexAt 129 (pt Ed) (ni t3)) (v := .pointer (some ⟨Ed, t3, none⟩)) HM (fun _ => zt (e := 31) (sz := 1) (m := 80) (j := t3) (o := t3) (by kernel_rfl) (by kernel_rfl) (by omega) (by omega) (by omega) _) (fun _ => Eh.pk [0, 1, 4]) fun _ HN => ?_
    have HO : t3 < zc K64 := by rw [(show zc K64 = 80 from rfl)]; omega
    refine q_r 24 (s := Instr.loadAt 31 (.pointer (some ⟨Ed, t3, none⟩))) (v := zn (za K64 t3 0)) HN (fun w hS => Zi (by kernel_rfl) (hS.heap.cell (k := 2) rfl (zC HO))) (Eh.pk [0, 1, 4]) fun _ HP => q_s [26] [] 12 HP (Eh.pk [0, 1, 4]) fun _ HQ => q_f 27 (s := Instr.indexAt 129 (pt Ec) (ni t3)) (v := .pointer (some ⟨Ec, t3, none⟩)) HQ (fun _ => zt (e := 31) (sz := 1) (m := 80) (j := t3) (o := t3) (by kernel_rfl) (by kernel_rfl) (by omega) (by omega) (by omega) _) (fun _ => Eh.pk [0, 1, 4]) fun _ HR => ?_
    have HS : t3 < zc (rsF64 (rwF64 bl (128 * q) 16) 64) := by rw [(rsF64_len (rwF64_len _ _ _) _)]; omega
    refine q_r 28 (s := Instr.loadAt 31 (.pointer (some ⟨Ec, t3, none⟩))) (v := zn (za (rsF64 (rwF64 bl (128 * q) 16) 64) t3 0)) HR (fun w hS => Zi (by kernel_rfl) (hS.heap.cell (k := 1) rfl (zC HS))) (Eh.pk [0, 1, 4]) fun _ HT => q_t 3 ?_
    refine c_p HT Eh (turn64_ref _ (za va 4 0) 14 (by decide) (by decide)) fun _ _ HU ED => ⟨fun _ => ED.pk [0, 1, 4], ?_⟩
    refine q_t 5 ?_
    refine c_p HU ED (turn64_ref _ (za va 4 0) 18 (by decide) (by decide)) fun _ _ HV Eq => ⟨fun _ => Eq.pk [0, 1, 4], ?_⟩
    refine q_s [6] [(6, g_i .u64 (ZK (x := zT (za va 4 0) 14) (y := zT (za va 4 0) 18) rfl rfl))] 7 HV (Eq.pk [0, 1, 4]) fun _ HW => q_t 8 ?_
    refine c_p HW Eq (turn64_ref _ (za va 4 0) 41 (by decide) (by decide)) fun _ _ HX Er => ⟨fun _ => Er.pk [0, 1, 4], ?_⟩
    refine q_s [9,10,21,25,29,30] [(9, g_i .u64 (ZK (x := (zT (za va 4 0) 14) ^^^ (zT (za va 4 0) 18)) (y := zT (za va 4 0) 41) rfl rfl)), (10, g_i .u64 (zO (x := za va 7 0) (y := ((zT (za va 4 0) 14) ^^^ (zT (za va 4 0) 18)) ^^^ (zT (za va 4 0) 41)) rfl rfl)), (21, g_i .u64 (zO (x := (za va 7 0) + (((zT (za va 4 0) 14) ^^^ (zT (za va 4 0) 18)) ^^^ (zT (za va 4 0) 41))) (y := ((za va 4 0) &&& (za va 5 0)) ^^^ (((18446744073709551615 : UInt64) ^^^ (za va 4 0)) &&& (za va 6 0))) rfl rfl)), (25, g_i .u64 (zO (x := ((za va 7 0) + (((zT (za va 4 0) 14) ^^^ (zT (za va 4 0) 18)) ^^^ (zT (za va 4 0) 41))) + (((za va 4 0) &&& (za va 5 0)) ^^^ (((18446744073709551615 : UInt64) ^^^ (za va 4 0)) &&& (za va 6 0)))) (y := za K64 t3 0) rfl rfl)), (29, g_i .u64 (zO (x := (((za va 7 0) + (((zT (za va 4 0) 14) ^^^ (zT (za va 4 0) 18)) ^^^ (zT (za va 4 0) 41))) + (((za va 4 0) &&& (za va 5 0)) ^^^ (((18446744073709551615 : UInt64) ^^^ (za va 4 0)) &&& (za va 6 0)))) + (za K64 t3 0)) (y := za (rsF64 (rwF64 bl (128 * q) 16) 64) t3 0) rfl rfl))] 0 HX (Er.pk [0, 1, 4]) fun _ HY => ?_
    exact h_e ⟨HY.sb, Er.pk [0, 1, 2, 3, 4]⟩
   rintro _ _ ⟨HZ, EE⟩
   refine ze <| wp_seq <| r_c (fun ac wo => Env ac 211 [(0, .slice Ea (zc bl) Eb), (3, pt Ef), (4, .slice none 0 0), (5, pt Ed), (6, ni (128 * q)), (7, pt Ec), (8, ni t1), (10, ni (16 + t2)), (13, pt Ee), (14, ni t3), (15, zn (za va 0 0)), (16, zn (za va 4 0)), (17, zn (((((za va 7 0) + (((zT (za va 4 0) 14) ^^^ (zT (za va 4 0) 18)) ^^^ (zT (za va 4 0) 41))) + (((za va 4 0) &&& (za va 5 0)) ^^^ (((18446744073709551615 : UInt64) ^^^ (za va 4 0)) &&& (za va 6 0)))) + (za K64 t3 0)) + (za (rsF64 (rwF64 bl (128 * q) 16) 64) t3 0))), (18, zn ((((zT (za va 0 0) 28) ^^^ (zT (za va 0 0) 34)) ^^^ (zT (za va 0 0) 39)) + ((((za va 0 0) &&& (za va 1 0)) ^^^ ((za va 0 0) &&& (za va 2 0))) ^^^ ((za va 1 0) &&& (za va 2 0)))))] ∧ Ev w [] wo [.box Ee (zh va) 99, .box Ec (zh (rsF64 (rwF64 bl (128 * q) 16) 64)) 129, .box Ef (zh sx) 99, .vec Ea Eb 1 (bys bl) 5, .box Ed (zh K64) 129]) ?_ ?_
   ·
    refine h_s (fun wv => Ev w [] wv [.box Ee (zh va) 99]) [] 25 ?_
    have Eg := EE.trans (zS EE.heap)
    have H0 : 1 < zc va := by rw [hlva]; omega
    refine q_s [0,2,5,8,9] [] 20 HZ (Eg.pk [0]) fun _ H1 => q_r 10 (s := Instr.loadAt 31 (.pointer (some ⟨Ee, 1, none⟩))) (v := zn (za va 1 0)) H1 (fun w hS => Zi (by kernel_rfl) (hS.heap.cell (k := 0) rfl (zC H0))) (Eg.pk [0]) fun _ H2 => ?_
    have H3 : 2 < zc va := by rw [hlva]; omega
    refine q_s [11,12,13] [(11, g_i .u64 (Zp (x := za va 0 0) (y := za va 1 0) rfl rfl))] 16 H2 (Eg.pk [0]) fun _ H4 => q_r 14 (s := Instr.loadAt 31 (.pointer (some ⟨Ee, 2, none⟩))) (v := zn (za va 2 0)) H4 (fun w hS => Zi (by kernel_rfl) (hS.heap.cell (k := 0) rfl (zC H3))) (Eg.pk [0]) fun _ H5 => ?_
    have H6 : 1 < zc va := by rw [hlva]; omega
    refine q_s [15,16,17] [(15, g_i .u64 (Zp (x := za va 0 0) (y := za va 2 0) rfl rfl)), (16, g_i .u64 (ZK (x := (za va 0 0) &&& (za va 1 0)) (y := (za va 0 0) &&& (za va 2 0)) rfl rfl))] 12 H5 (Eg.pk [0]) fun _ H7 => q_r 18 (s := Instr.loadAt 31 (.pointer (some ⟨Ee, 1, none⟩))) (v := zn (za va 1 0)) H7 (fun w hS => Zi (by kernel_rfl) (hS.heap.cell (k := 0) rfl (zC H6))) (Eg.pk [0]) fun _ H8 => ?_
    have H9 : 2 < zc va := by rw [hlva]; omega
    refine q_s [19] [] 10 H8 (Eg.pk [0]) fun _ aa => q_r 20 (s := Instr.loadAt 31 (.pointer (some ⟨Ee, 2, none⟩))) (v := zn (za va 2 0)) aa (fun w hS => Zi (by kernel_rfl) (hS.heap.cell (k := 0) rfl (zC H9))) (Eg.pk [0]) fun _ ab => q_s [21,22] [(21, g_i .u64 (Zp (x := za va 1 0) (y := za va 2 0) rfl rfl)), (22, g_i .u64 (ZK (x := ((za va 0 0) &&& (za va 1 0)) ^^^ ((za va 0 0) &&& (za va 2 0))) (y := (za va 1 0) &&& (za va 2 0)) rfl rfl))] 7 ab (Eg.pk [0]) fun _ ae => q_t 1 ?_
    refine c_p ae Eg (turn64_ref _ (za va 0 0) 28 (by decide) (by decide)) fun _ _ af EF => ⟨fun _ => EF.pk [0], ?_⟩
    refine q_t 3 ?_
    refine c_p af EF (turn64_ref _ (za va 0 0) 34 (by decide) (by decide)) fun _ _ ag Es => ⟨fun _ => Es.pk [0], ?_⟩
    refine q_s [4] [(4, g_i .u64 (ZK (x := zT (za va 0 0) 28) (y := zT (za va 0 0) 34) rfl rfl))] 4 ag (Es.pk [0]) fun _ ah => q_t 6 ?_
    refine c_p ah Es (turn64_ref _ (za va 0 0) 39 (by decide) (by decide)) fun _ _ ai Et => ⟨fun _ => Et.pk [0], ?_⟩
    refine q_s [7,23,24] [(7, g_i .u64 (ZK (x := (zT (za va 0 0) 28) ^^^ (zT (za va 0 0) 34)) (y := zT (za va 0 0) 39) rfl rfl)), (23, g_i .u64 (zO (x := ((zT (za va 0 0) 28) ^^^ (zT (za va 0 0) 34)) ^^^ (zT (za va 0 0) 39)) (y := (((za va 0 0) &&& (za va 1 0)) ^^^ ((za va 0 0) &&& (za va 2 0))) ^^^ ((za va 1 0) &&& (za va 2 0))) rfl rfl))] 0 ai (Et.pk [0]) fun _ aj => ?_
    exact h_e ⟨aj.sb, Et.pk [0, 1, 2, 3, 4]⟩
   rintro _ _ ⟨ak, Ej⟩
   refine ze <| zk <| d_k [0,3,4,5,6,7,8,10,13,14,15,16,17,163,164,165] [(2, g_i .u64 (zO (x := ((((za va 7 0) + (((zT (za va 4 0) 14) ^^^ (zT (za va 4 0) 18)) ^^^ (zT (za va 4 0) 41))) + (((za va 4 0) &&& (za va 5 0)) ^^^ (((18446744073709551615 : UInt64) ^^^ (za va 4 0)) &&& (za va 6 0)))) + (za K64 t3 0)) + (za (rsF64 (rwF64 bl (128 * q) 16) 64) t3 0)) (y := (((zT (za va 0 0) 28) ^^^ (zT (za va 0 0) 34)) ^^^ (zT (za va 0 0) 39)) + ((((za va 0 0) &&& (za va 1 0)) ^^^ ((za va 0 0) &&& (za va 2 0))) ^^^ ((za va 1 0) &&& (za va 2 0)))) rfl rfl))] 5 ak fun _ al => f_o ?_
   have am : 1 < zc va := by rw [hlva]; omega
   refine m_v 0 1 (zn (za va 1 0)) al Ej rfl (zC am) fun _ an => d_k [0,3,4,5,6,7,8,10,13,14,15,16,17,163,164,166,167] [] 7 an fun _ ap => f_o ?_
   have aq : 2 < zc va := by rw [hlva]; omega
   refine m_v 0 2 (zn (za va 2 0)) ap Ej rfl (zC aq) fun _ ar => d_k [0,3,4,5,6,7,8,10,13,14,15,16,17,163,164,166,168,169] [] 9 ar fun _ au => f_o ?_
   have av : 3 < zc va := by rw [hlva]; omega
   refine m_v 0 3 (zn (za va 3 0)) au Ej rfl (zC av) fun _ aw => d_k [0,3,4,5,6,7,8,10,13,14,15,16,163,164,166,168,172,173,174] [(11, g_i .u64 (zO (x := za va 3 0) (y := ((((za va 7 0) + (((zT (za va 4 0) 14) ^^^ (zT (za va 4 0) 18)) ^^^ (zT (za va 4 0) 41))) + (((za va 4 0) &&& (za va 5 0)) ^^^ (((18446744073709551615 : UInt64) ^^^ (za va 4 0)) &&& (za va 6 0)))) + (za K64 t3 0)) + (za (rsF64 (rwF64 bl (128 * q) 16) 64) t3 0)) rfl rfl))] 14 aw fun _ ay => f_o ?_
   have az : 5 < zc va := by rw [hlva]; omega
   refine m_v 0 5 (zn (za va 5 0)) ay Ej rfl (zC az) fun _ aA => d_k [0,3,4,5,6,7,8,10,13,14,15,16,163,164,166,168,172,173,175,176] [] 16 aA fun _ aB => f_o ?_
   have aC : 6 < zc va := by rw [hlva]; omega
   refine m_v 0 6 (zn (za va 6 0)) aB Ej rfl (zC aC) fun _ aD => d_k [0,3,4,5,6,7,8,10,13,14,15,16,178] [] 18 aD fun _ aE => f_o <| zZ 0 8 (zh ([(((((za va 7 0) + (((zT (za va 4 0) 14) ^^^ (zT (za va 4 0) 18)) ^^^ (zT (za va 4 0) 41))) + (((za va 4 0) &&& (za va 5 0)) ^^^ (((18446744073709551615 : UInt64) ^^^ (za va 4 0)) &&& (za va 6 0)))) + (za K64 t3 0)) + (za (rsF64 (rwF64 bl (128 * q) 16) 64) t3 0)) + ((((zT (za va 0 0) 28) ^^^ (zT (za va 0 0) 34)) ^^^ (zT (za va 0 0) 39)) + ((((za va 0 0) &&& (za va 1 0)) ^^^ ((za va 0 0) &&& (za va 2 0))) ^^^ ((za va 1 0) &&& (za va 2 0)))), za va 0 0, za va 1 0, za va 2 0, (za va 3 0) + (((((za va 7 0) + (((zT (za va 4 0) 14) ^^^ (zT (za va 4 0) 18)) ^^^ (zT (za va 4 0) 41))) + (((za va 4 0) &&& (za va 5 0)) ^^^ (((18446744073709551615 : UInt64) ^^^ (za va 4 0)) &&& (za va 6 0)))) + (za K64 t3 0)) + (za (rsF64 (rwF64 bl (128 * q) 16) 64) t3 0)), za va 4 0, za va 5 0, za va 6 0] : List UInt64)) _ aE Ej rfl (zd (show zc ([(((((za va 7 0) + (((zT (za va 4 0) 14) ^^^ (zT (za va 4 0) 18)) ^^^ (zT (za va 4 0) 41))) + (((za va 4 0) &&& (za va 5 0)) ^^^ (((18446744073709551615 : UInt64) ^^^ (za va 4 0)) &&& (za va 6 0)))) + (za K64 t3 0)) + (za (rsF64 (rwF64 bl (128 * q) 16) 64) t3 0)) + ((((zT (za va 0 0) 28) ^^^ (zT (za va 0 0) 34)) ^^^ (zT (za va 0 0) 39)) + ((((za va 0 0) &&& (za va 1 0)) ^^^ ((za va 0 0) &&& (za va 2 0))) ^^^ ((za va 1 0) &&& (za va 2 0)))), za va 0 0, za va 1 0, za va 2 0, (za va 3 0) + (((((za va 7 0) + (((zT (za va 4 0) 14) ^^^ (zT (za va 4 0) 18)) ^^^ (zT (za va 4 0) 41))) + (((za va 4 0) &&& (za va 5 0)) ^^^ (((18446744073709551615 : UInt64) ^^^ (za va 4 0)) &&& (za va 6 0)))) + (za K64 t3 0)) + (za (rsF64 (rwF64 bl (128 * q) 16) 64) t3 0)), za va 4 0, za va 5 0, za va 6 0] : List UInt64) = 8 from rfl)) (zd hlva) (zw _) rfl fun _ _ aF aG => f_e <| zx <| ze <| d_r [0,3,4,5,6,7,8,10,13,14,15,16] [(1, g_n (w_a t3 1))] aF fun _ aH => ze <| ⟨_, ⟨t3 + 1, ([(((((za va 7 0) + (((zT (za va 4 0) 14) ^^^ (zT (za va 4 0) 18)) ^^^ (zT (za va 4 0) 41))) + (((za va 4 0) &&& (za va 5 0)) ^^^ (((18446744073709551615 : UInt64) ^^^ (za va 4 0)) &&& (za va 6 0)))) + (za K64 t3 0)) + (za (rsF64 (rwF64 bl (128 * q) 16) 64) t3 0)) + ((((zT (za va 0 0) 28) ^^^ (zT (za va 0 0) 34)) ^^^ (zT (za va 0 0) 39)) + ((((za va 0 0) &&& (za va 1 0)) ^^^ ((za va 0 0) &&& (za va 2 0))) ^^^ ((za va 1 0) &&& (za va 2 0)))), za va 0 0, za va 1 0, za va 2 0, (za va 3 0) + (((((za va 7 0) + (((zT (za va 4 0) 14) ^^^ (zT (za va 4 0) 18)) ^^^ (zT (za va 4 0) 41))) + (((za va 4 0) &&& (za va 5 0)) ^^^ (((18446744073709551615 : UInt64) ^^^ (za va 4 0)) &&& (za va 6 0)))) + (za K64 t3 0)) + (za (rsF64 (rwF64 bl (128 * q) 16) 64) t3 0)), za va 4 0, za va 5 0, za va 6 0] : List UInt64), rfl, aH.sb, aG.pk [0, 1, 2, 3, 4], by omega, (show zc ([(((((za va 7 0) + (((zT (za va 4 0) 14) ^^^ (zT (za va 4 0) 18)) ^^^ (zT (za va 4 0) 41))) + (((za va 4 0) &&& (za va 5 0)) ^^^ (((18446744073709551615 : UInt64) ^^^ (za va 4 0)) &&& (za va 6 0)))) + (za K64 t3 0)) + (za (rsF64 (rwF64 bl (128 * q) 16) 64) t3 0)) + ((((zT (za va 0 0) 28) ^^^ (zT (za va 0 0) 34)) ^^^ (zT (za va 0 0) 39)) + ((((za va 0 0) &&& (za va 1 0)) ^^^ ((za va 0 0) &&& (za va 2 0))) ^^^ ((za va 1 0) &&& (za va 2 0)))), za va 0 0, za va 1 0, za va 2 0, (za va 3 0) + (((((za va 7 0) + (((zT (za va 4 0) 14) ^^^ (zT (za va 4 0) 18)) ^^^ (zT (za va 4 0) 41))) + (((za va 4 0) &&& (za va 5 0)) ^^^ (((18446744073709551615 : UInt64) ^^^ (za va 4 0)) &&& (za va 6 0)))) + (za K64 t3 0)) + (za (rsF64 (rwF64 bl (128 * q) 16) 64) t3 0)), za va 4 0, za va 5 0, za va 6 0] : List UInt64) = 8 from rfl), by first | (rw [heva]; rfl) | (rw [heva, dR]; rfl) | rfl⟩, ?_⟩
   omega
  refine wp_exit <| zD <| zD <| zP <| ze <| wp_seq ?_
  have hnva : t3 = 80 := by omega
  have hfva : va = rr64 (rsF64 (rwF64 bl (128 * q) 16) 64) sx 80 := by rw [heva, hnva] <;> rfl
  rw [show va = (rr64 (rsF64 (rwF64 bl (128 * q) 16) 64) sx 80) from hfva] at En
  refine d_r [0,3,4,5,6,7,8,10,13,14,19] [] EC fun _ aI => ?_
  refine ze <| wp_block <| Z5 (fun aJ ac wo => ∃ (t4 : Nat) (sb : List UInt64), aJ = (8 - t4 : Nat) ∧ Env ac 211 [(0, .slice Ea (zc bl) Eb), (3, pt Ef), (4, .slice none 0 0), (5, pt Ed), (6, ni (128 * q)), (7, pt Ec), (8, ni t1), (10, ni (16 + t2)), (13, pt Ee), (14, ni t3), (19, ni t4)] ∧ Ev w [] wo [.box Ef (zh sb) 99, .box Ee (zh (rr64 (rsF64 (rwF64 bl (128 * q) 16) 64) sx 80)) 99, .box Ec (zh (rsF64 (rwF64 bl (128 * q) 16) 64)) 129, .vec Ea Eb 1 (bys bl) 5, .box Ed (zh K64) 129] ∧ (t4 ≤ 8) ∧ (zc sb = 8) ∧ (sb = XW sx (rr64 (rsF64 (rwF64 bl (128 * q) 16) 64) sx 80) t4)) ⟨_, 0, sx, rfl, aI.sb, En.pk [2, 0, 1, 3, 4], by omega, hlx, rfl⟩ ?_
  rintro ef _ _ ⟨t4, sb, rfl, aK, Eo, hisb, hlsb, hesb⟩
  refine wp_seq <| wp_seq <| d_r [0,3,4,5,6,7,8,10,13,14,19,180] [] aK fun _ Eu => ?_
  refine ze <| c_d (((t4 : Nat) : Int) < (8 : Int)) Eu (fun aL => ?_) (fun aL => ?_)
  ·
   refine wp_skip <| ze <| wp_seq <| wp_block <| r_c (fun ac wo => Env ac 211 [(0, .slice Ea (zc bl) Eb), (3, pt Ef), (4, .slice none 0 0), (5, pt Ed), (6, ni (128 * q)), (7, pt Ec), (8, ni t1), (10, ni (16 + t2)), (13, pt Ee), (14, ni t3), (19, ni t4)] ∧ Ev w [] wo [.box Ef (zh (zp sb t4 ((za sb t4 0) + (za (rr64 (rsF64 (rwF64 bl (128 * q) 16) 64) sx 80) t4 0)))) 99, .box Ee (zh (rr64 (rsF64 (rwF64 bl (128 * q) 16) 64) sx 80)) 99, .box Ec (zh (rsF64 (rwF64 bl (128 * q) 16) 64)) 129, .vec Ea Eb 1 (bys bl) 5, .box Ed (zh K64) 129]) ?_ ?_
   ·
    refine h_s (fun wv => Ev w [] wv [.box Ef (zh sb) 99, .box Ee (zh (rr64 (rsF64 (rwF64 bl (128 * q) 16) 64) sx 80)) 99]) [9] 10 ?_
    have Ei := Eo.trans (zS Eo.heap)
    refine q_s [0,1] [] 8 Eu (Ei.pk [0, 1]) fun _ aM => q_f 2 (s := Instr.indexAt 99 (pt Ef) (ni t4)) (v := .pointer (some ⟨Ef, t4, none⟩)) aM (fun _ => zt (e := 31) (sz := 1) (m := 8) (j := t4) (o := t4) (by kernel_rfl) (by kernel_rfl) (by omega) (by omega) (by omega) _) (fun _ => Ei.pk [0, 1]) fun _ aN => ?_
    have aO : t4 < zc sb := by rw [hlsb]; omega
    refine q_r 3 (s := Instr.loadAt 31 (.pointer (some ⟨Ef, t4, none⟩))) (v := zn (za sb t4 0)) aN (fun w hS => Zi (by kernel_rfl) (hS.heap.cell (k := 0) rfl (zC aO))) (Ei.pk [0, 1]) fun _ aP => q_s [4] [] 5 aP (Ei.pk [0, 1]) fun _ aQ => q_f 5 (s := Instr.indexAt 99 (pt Ee) (ni t4)) (v := .pointer (some ⟨Ee, t4, none⟩)) aQ (fun _ => zt (e := 31) (sz := 1) (m := 8) (j := t4) (o := t4) (by kernel_rfl) (by kernel_rfl) (by omega) (by omega) (by omega) _) (fun _ => Ei.pk [0, 1]) fun _ aR => ?_
    have aS : t4 < zc (rr64 (rsF64 (rwF64 bl (128 * q) 16) 64) sx 80) := by rw [(rr64_len _ hlx _)]; omega
    refine q_r 6 (s := Instr.loadAt 31 (.pointer (some ⟨Ee, t4, none⟩))) (v := zn (za (rr64 (rsF64 (rwF64 bl (128 * q) 16) 64) sx 80) t4 0)) aR (fun w hS => Zi (by kernel_rfl) (hS.heap.cell (k := 1) rfl (zC aS))) (Ei.pk [0, 1]) fun _ aT => q_s [7] [(7, g_i .u64 (zO (x := za sb t4 0) (y := za (rr64 (rsF64 (rwF64 bl (128 * q) 16) 64) sx 80) t4 0) rfl rfl))] 2 aT (Ei.pk [0, 1]) fun _ aU => q_f 8 (s := Instr.indexAt 99 (pt Ef) (ni t4)) (v := .pointer (some ⟨Ef, t4, none⟩)) aU (fun _ => zt (e := 31) (sz := 1) (m := 8) (j := t4) (o := t4) (by kernel_rfl) (by kernel_rfl) (by omega) (by omega) (by omega) _) (fun _ => Ei.pk [0, 1]) fun _ aV => q_t 9 ?_
    have aW : t4 < zc sb := by rw [hlsb]; omega
    refine m_t 0 t4 (zn ((za sb t4 0) + (za (rr64 (rsF64 (rwF64 bl (128 * q) 16) 64) sx 80) t4 0))) [.box Ef (zh (zp sb t4 ((za sb t4 0) + (za (rr64 (rsF64 (rwF64 bl (128 * q) 16) 64) sx 80) t4 0)))) 99, .box Ee (zh (rr64 (rsF64 (rwF64 bl (128 * q) 16) 64) sx 80)) 99, .box Ec (zh (rsF64 (rwF64 bl (128 * q) 16) 64)) 129, .vec Ea Eb 1 (bys bl) 5, .box Ed (zh K64) 129] aV Ei rfl (zC aW) (Z4 _ _ _) rfl fun _ _ aX aY => ⟨q_y, ?_⟩
    exact h_e ⟨aX.sb, aY.pk [0, 1, 2, 3, 4]⟩
   rintro _ _ ⟨aZ, a0⟩
   refine zx <| ze <| d_r [0,3,4,5,6,7,8,10,13,14,19] [(1, g_n (w_a t4 1))] aZ fun _ a1 => ze <| ⟨_, ⟨t4 + 1, (zp sb t4 ((za sb t4 0) + (za (rr64 (rsF64 (rwF64 bl (128 * q) 16) 64) sx 80) t4 0))), rfl, a1.sb, a0.pk [0, 1, 2, 3, 4], by omega, (List.length_set.trans hlsb), by first | (rw [hesb]; rfl) | (rw [hesb, dR]; rfl) | rfl⟩, ?_⟩
   omega
  refine wp_exit <| zD <| zD <| zP <| zx <| ze ?_
  have hnsb : t4 = 8 := by omega
  have hfsb : sb = XW sx (rr64 (rsF64 (rwF64 bl (128 * q) 16) 64) sx 80) 8 := by rw [hesb, hnsb] <;> rfl
  rw [show sb = (XW sx (rr64 (rsF64 (rwF64 bl (128 * q) 16) 64) sx 80) 8) from hfsb] at Eo
  refine d_r [0,3,4,5,6,7,8,10,13,14,19] [(1, g_n (w_a (128 * q) 128))] Eu fun _ a2 => ze <| ⟨_, ⟨q + 1, (XW sx (rr64 (rsF64 (rwF64 bl (128 * q) 16) 64) sx 80) 8), rfl, a2.sb, Eo.pk [0, 3, 4], by omega, (add64_len hlx _ _), by rw [hes]; rfl⟩, ?_⟩
  omega
 refine wp_exit <| zD <| zD <| zP <| ze <| wp_seq ?_
 have hqe : q = zc bl / 128 := by omega
 refine d_r [0,3,4,5,6,20] [] Hz fun _ a3 => ze <| wp_seq <| wp_seq <| d_r [0,3,4,5,6,20,21] [] a3 fun _ a4 => ze <| wp_block ?_
 have a5 := Ev.nil (sz := 1) (T := 5) cH
 refine Z5 (fun a6 ac wo => ∃ (i : Nat) (a7 : Option Addr) (c7 : Nat) (ol : List UInt8), a6 = (8 - i : Nat) ∧ Env ac 211 [(0, .slice Ea (zc bl) Eb), (3, pt Ef), (4, .slice none 0 0), (5, pt Ed), (6, ni (128 * q)), (20, .slice a7 (zc ol) c7), (21, ni i)] ∧ Ev w [] wo [.vec a7 c7 1 (bys ol) 5, .box Ef (zh sx) 99, .vec Ea Eb 1 (bys bl) 5, .box Ed (zh K64) 129] ∧ (i ≤ 8) ∧ (ol = ro64 sx i) ∧ (zc ol = 8 * i)) ⟨_, 0, none, 0, [], rfl, a4.sb, a5.pk [3, 0, 1, 2], by omega, rfl, rfl⟩ ?_
 rintro eg _ _ ⟨i, a7, c7, ol, rfl, a8, Ew, hi, heo, hol⟩
 refine wp_seq <| wp_seq <| d_r [0,3,4,5,6,20,21,193] [] a8 fun _ Ex => ?_
 refine ze <| c_d (((i : Nat) : Int) < (8 : Int)) Ex (fun a9 => ?_) (fun a9 => ?_)
 ·
  refine wp_skip <| ze <| wp_seq <| wp_block <| wp_seq <| d_r [0,3,4,5,6,20,21,22] [] Ex fun _ ba => ?_
  refine ze <| wp_block <| QY ?_
  refine zK <| wp_seq <| wp_seq <| d_r [0,3,4,5,6,20,21,22,197] [] ba fun _ EG => ze <| c_t EG ?_
  refine wp_skip <| ze <| wp_seq <| wp_block <| zk <| d_k [0,3,4,5,6,20,21,22,200,201] [] 2 EG fun _ bb => f_o <| q_v (x := Instr.indexAt 99 (pt Ef) (ni i)) (v := .pointer (some ⟨Ef, i, none⟩)) bb (zt (e := 31) (sz := 1) (m := 8) (j := i) (o := i) (by kernel_rfl) (by kernel_rfl) (by omega) (by omega) (by omega) _) fun _ bc => f_o ?_
  have bd : i < zc sx := by rw [hlx]; omega
  refine m_v 1 i (zn (za sx i 0)) bc Ew rfl (zC bd) fun _ be => d_k [0,3,4,5,6,20,21,22,200,207] [(6, g_i .u64 (zI (x := za sx i 0) (n := 56) rfl (by decide))), (7, g_i .u8 (z4 (x := (za sx i 0) >>> zb 56) rfl))] 8 be fun _ bf => f_o <| ZZ (d := some 208) (t := 23) (T := 5) (m := 1) (parts := #[(0, bv (zj ((za sx i 0) >>> zb 56)))]) (xs := bys [zj ((za sx i 0) >>> zb 56)]) (sz := 1) bf (by kernel_rfl) (by kernel_rfl) rfl (by decide) Ew ?_
  intro _ _ bg bh EH
  refine f_o <| Zl (d := some 209) (t := 23) (tx := 23) (ty := 23) (k := 0) (p := zc ol) (m := 1) (x := .slice (some ⟨bg, 0, none⟩) 1 1) (bytes := 1) bh (by kernel_rfl) EH rfl (ZI _) (Zk (size := 1) (tx := 23) (e' := 5) (by kernel_rfl) (EH.heap.reads (k := 4) rfl) rfl (fun e => by cases e) (ZC _)) (by kernel_rfl) (z := .int .u8 0) (by kernel_rfl) rfl (by decide) (by omega) (by unfold maxLen; omega) ?_
  intro _ _ bi bj EI EJ hnz _
  clear hnz
  rw [← Zg] at EJ
  have Ho : (zc ol) + 1 = zc (ol ++ [zj ((za sx i 0) >>> zb 56)]) := (by first | (simp; done) | (simp; omega) | omega)
  rw [Ho] at EI
  refine d_e [0,3,4,5,6,20,21,22] [] EI fun _ bk => zx <| ze ?_
  have EK := EJ.pk [0, 1, 2, 3] (M := [.vec bi bj 1 (bys (ol ++ [zj ((za sx i 0) >>> zb 56)])) 5, .box Ef (zh sx) 99, .vec Ea Eb 1 (bys bl) 5, .box Ed (zh K64) 129])
  refine d_r [0,3,4,5,6,20,21,22] [] bk fun _ bm => ?_
  refine ze <| zK <| wp_seq <| wp_seq <| d_r [0,3,4,5,6,20,21,22,197] [] bm fun _ EL => ze <| c_t EL ?_
  refine wp_skip <| ze <| wp_seq <| wp_block <| zk <| d_k [0,3,4,5,6,20,21,22,200,201] [] 2 EL fun _ bn => f_o <| q_v (x := Instr.indexAt 99 (pt Ef) (ni i)) (v := .pointer (some ⟨Ef, i, none⟩)) bn (zt (e := 31) (sz := 1) (m := 8) (j := i) (o := i) (by kernel_rfl) (by kernel_rfl) (by omega) (by omega) (by omega) _) fun _ bo => f_o ?_
  have bp : i < zc sx := by rw [hlx]; omega
  refine m_v 1 i (zn (za sx i 0)) bo EK rfl (zC bp) fun _ bq => d_k [0,3,4,5,6,20,21,22,200,207] [(6, g_i .u64 (zI (x := za sx i 0) (n := 48) rfl (by decide))), (7, g_i .u8 (z4 (x := (za sx i 0) >>> zb 48) rfl))] 8 bq fun _ br => f_o <| ZZ (d := some 208) (t := 23) (T := 5) (m := 1) (parts := #[(0, bv (zj ((za sx i 0) >>> zb 48)))]) (xs := bys [zj ((za sx i 0) >>> zb 48)]) (sz := 1) br (by kernel_rfl) (by kernel_rfl) rfl (by decide) EK ?_
  intro _ _ bs bt EM
  refine f_o <| Zl (d := some 209) (t := 23) (tx := 23) (ty := 23) (k := 0) (p := zc (ol ++ [zj ((za sx i 0) >>> zb 56)])) (m := 1) (x := .slice (some ⟨bs, 0, none⟩) 1 1) (bytes := 1) bt (by kernel_rfl) EM rfl (ZI _) (Zk (size := 1) (tx := 23) (e' := 5) (by kernel_rfl) (EM.heap.reads (k := 4) rfl) rfl (fun e => by cases e) (ZC _)) (by kernel_rfl) (z := .int .u8 0) (by kernel_rfl) rfl (by decide) (by omega) (by unfold maxLen; omega) ?_
  intro _ _ bu bw EN EO hnz _
  clear hnz
  rw [← Zg] at EO
  have Hp : (zc (ol ++ [zj ((za sx i 0) >>> zb 56)])) + 1 = zc ((ol ++ [zj ((za sx i 0) >>> zb 56)]) ++ [zj ((za sx i 0) >>> zb 48)]) := (by first | (simp; done) | (simp; omega) | omega)
  rw [Hp] at EN
  refine d_e [0,3,4,5,6,20,21,22] [] EN fun _ bx => zx <| ze ?_
  have EP := EO.pk [0, 1, 2, 3] (M := [.vec bu bw 1 (bys ((ol ++ [zj ((za sx i 0) >>> zb 56)]) ++ [zj ((za sx i 0) >>> zb 48)])) 5, .box Ef (zh sx) 99, .vec Ea Eb 1 (bys bl) 5, .box Ed (zh K64) 129])
  refine d_r [0,3,4,5,6,20,21,22] [] bx fun _ bz => ?_
  refine ze <| zK <| wp_seq <| wp_seq <| d_r [0,3,4,5,6,20,21,22,197] [] bz fun _ EQ => ze <| c_t EQ ?_
  refine wp_skip <| ze <| wp_seq <| wp_block <| zk <| d_k [0,3,4,5,6,20,21,22,200,201] [] 2 EQ fun _ bA => f_o <| q_v (x := Instr.indexAt 99 (pt Ef) (ni i)) (v := .pointer (some ⟨Ef, i, none⟩)) bA (zt (e := 31) (sz := 1) (m := 8) (j := i) (o := i) (by kernel_rfl) (by kernel_rfl) (by omega) (by omega) (by omega) _) fun _ bB => f_o ?_
  have bC : i < zc sx := by rw [hlx]; omega
  refine m_v 1 i (zn (za sx i 0)) bB EP rfl (zC bC) fun _ bD => d_k [0,3,4,5,6,20,21,22,200,207] [(6, g_i .u64 (zI (x := za sx i 0) (n := 40) rfl (by decide))), (7, g_i .u8 (z4 (x := (za sx i 0) >>> zb 40) rfl))] 8 bD fun _ bE => f_o <| ZZ (d := some 208) (t := 23) (T := 5) (m := 1) (parts := #[(0, bv (zj ((za sx i 0) >>> zb 40)))]) (xs := bys [zj ((za sx i 0) >>> zb 40)]) (sz := 1) bE (by kernel_rfl) (by kernel_rfl) rfl (by decide) EP ?_
  intro _ _ bF bG ER
  refine f_o <| Zl (d := some 209) (t := 23) (tx := 23) (ty := 23) (k := 0) (p := zc ((ol ++ [zj ((za sx i 0) >>> zb 56)]) ++ [zj ((za sx i 0) >>> zb 48)])) (m := 1) (x := .slice (some ⟨bF, 0, none⟩) 1 1) (bytes := 1) bG (by kernel_rfl) ER rfl (ZI _) (Zk (size := 1) (tx := 23) (e' := 5) (by kernel_rfl) (ER.heap.reads (k := 4) rfl) rfl (fun e => by cases e) (ZC _)) (by kernel_rfl) (z := .int .u8 0) (by kernel_rfl) rfl (by decide) (by omega) (by unfold maxLen; omega) ?_
  intro _ _ bH bI ES ET hnz _
  clear hnz
  rw [← Zg] at ET
  have Hq : (zc ((ol ++ [zj ((za sx i 0) >>> zb 56)]) ++ [zj ((za sx i 0) >>> zb 48)])) + 1 = zc (((ol ++ [zj ((za sx i 0) >>> zb 56)]) ++ [zj ((za sx i 0) >>> zb 48)]) ++ [zj ((za sx i 0) >>> zb 40)]) := (by first | (simp; done) | (simp; omega) | omega)
  rw [Hq] at ES
  refine d_e [0,3,4,5,6,20,21,22] [] ES fun _ bJ => zx <| ze ?_
  have EU := ET.pk [0, 1, 2, 3] (M := [.vec bH bI 1 (bys (((ol ++ [zj ((za sx i 0) >>> zb 56)]) ++ [zj ((za sx i 0) >>> zb 48)]) ++ [zj ((za sx i 0) >>> zb 40)])) 5, .box Ef (zh sx) 99, .vec Ea Eb 1 (bys bl) 5, .box Ed (zh K64) 129])
  refine d_r [0,3,4,5,6,20,21,22] [] bJ fun _ bK => ?_
  refine ze <| zK <| wp_seq <| wp_seq <| d_r [0,3,4,5,6,20,21,22,197] [] bK fun _ EV => ze <| c_t EV ?_
  refine wp_skip <| ze <| wp_seq <| wp_block <| zk <| d_k [0,3,4,5,6,20,21,22,200,201] [] 2 EV fun _ bL => f_o <| q_v (x := Instr.indexAt 99 (pt Ef) (ni i)) (v := .pointer (some ⟨Ef, i, none⟩)) bL (zt (e := 31) (sz := 1) (m := 8) (j := i) (o := i) (by kernel_rfl) (by kernel_rfl) (by omega) (by omega) (by omega) _) fun _ bM => f_o ?_
  have bN : i < zc sx := by rw [hlx]; omega
  refine m_v 1 i (zn (za sx i 0)) bM EU rfl (zC bN) fun _ bO => d_k [0,3,4,5,6,20,21,22,200,207] [(6, g_i .u64 (zI (x := za sx i 0) (n := 32) rfl (by decide))), (7, g_i .u8 (z4 (x := (za sx i 0) >>> zb 32) rfl))] 8 bO fun _ bP => f_o <| ZZ (d := some 208) (t := 23) (T := 5) (m := 1) (parts := #[(0, bv (zj ((za sx i 0) >>> zb 32)))]) (xs := bys [zj ((za sx i 0) >>> zb 32)]) (sz := 1) bP (by kernel_rfl) (by kernel_rfl) rfl (by decide) EU ?_
  intro _ _ bQ bR EW
  refine f_o <| Zl (d := some 209) (t := 23) (tx := 23) (ty := 23) (k := 0) (p := zc (((ol ++ [zj ((za sx i 0) >>> zb 56)]) ++ [zj ((za sx i 0) >>> zb 48)]) ++ [zj ((za sx i 0) >>> zb 40)])) (m := 1) (x := .slice (some ⟨bQ, 0, none⟩) 1 1) (bytes := 1) bR (by kernel_rfl) EW rfl (ZI _) (Zk (size := 1) (tx := 23) (e' := 5) (by kernel_rfl) (EW.heap.reads (k := 4) rfl) rfl (fun e => by cases e) (ZC _)) (by kernel_rfl) (z := .int .u8 0) (by kernel_rfl) rfl (by decide) (by omega) (by unfold maxLen; omega) ?_
  intro _ _ bS bT EX EY hnz _
  clear hnz
  rw [← Zg] at EY
  have Hr : (zc (((ol ++ [zj ((za sx i 0) >>> zb 56)]) ++ [zj ((za sx i 0) >>> zb 48)]) ++ [zj ((za sx i 0) >>> zb 40)])) + 1 = zc ((((ol ++ [zj ((za sx i 0) >>> zb 56)]) ++ [zj ((za sx i 0) >>> zb 48)]) ++ [zj ((za sx i 0) >>> zb 40)]) ++ [zj ((za sx i 0) >>> zb 32)]) := (by first | (simp; done) | (simp; omega) | omega)
  rw [Hr] at EX
  refine d_e [0,3,4,5,6,20,21,22] [] EX fun _ bU => zx <| ze ?_
  have EZ := EY.pk [0, 1, 2, 3] (M := [.vec bS bT 1 (bys ((((ol ++ [zj ((za sx i 0) >>> zb 56)]) ++ [zj ((za sx i 0) >>> zb 48)]) ++ [zj ((za sx i 0) >>> zb 40)]) ++ [zj ((za sx i 0) >>> zb 32)])) 5, .box Ef (zh sx) 99, .vec Ea Eb 1 (bys bl) 5, .box Ed (zh K64) 129])
  refine d_r [0,3,4,5,6,20,21,22] [] bU fun _ bV => ?_
  refine ze <| zK <| wp_seq <| wp_seq <| d_r [0,3,4,5,6,20,21,22,197] [] bV fun _ E0 => ze <| c_t E0 ?_
  refine wp_skip <| ze <| wp_seq <| wp_block <| zk <| d_k [0,3,4,5,6,20,21,22,200,201] [] 2 E0 fun _ bW => f_o <| q_v (x := Instr.indexAt 99 (pt Ef) (ni i)) (v := .pointer (some ⟨Ef, i, none⟩)) bW (zt (e := 31) (sz := 1) (m := 8) (j := i) (o := i) (by kernel_rfl) (by kernel_rfl) (by omega) (by omega) (by omega) _) fun _ bX => f_o ?_
  have bY : i < zc sx := by rw [hlx]; omega
  refine m_v 1 i (zn (za sx i 0)) bX EZ rfl (zC bY) fun _ bZ => d_k [0,3,4,5,6,20,21,22,200,207] [(6, g_i .u64 (zI (x := za sx i 0) (n := 24) rfl (by decide))), (7, g_i .u8 (z4 (x := (za sx i 0) >>> zb 24) rfl))] 8 bZ fun _ b0 => f_o <| ZZ (d := some 208) (t := 23) (T := 5) (m := 1) (parts := #[(0, bv (zj ((za sx i 0) >>> zb 24)))]) (xs := bys [zj ((za sx i 0) >>> zb 24)]) (sz := 1) b0 (by kernel_rfl) (by kernel_rfl) rfl (by decide) EZ ?_
  intro _ _ b1 b2 E1
  refine f_o <| Zl (d := some 209) (t := 23) (tx := 23) (ty := 23) (k := 0) (p := zc ((((ol ++ [zj ((za sx i 0) >>> zb 56)]) ++ [zj ((za sx i 0) >>> zb 48)]) ++ [zj ((za sx i 0) >>> zb 40)]) ++ [zj ((za sx i 0) >>> zb 32)])) (m := 1) (x := .slice (some ⟨b1, 0, none⟩) 1 1) (bytes := 1) b2 (by kernel_rfl) E1 rfl (ZI _) (Zk (size := 1) (tx := 23) (e' := 5) (by kernel_rfl) (E1.heap.reads (k := 4) rfl) rfl (fun e => by cases e) (ZC _)) (by kernel_rfl) (z := .int .u8 0) (by kernel_rfl) rfl (by decide) (by omega) (by unfold maxLen; omega) ?_
  intro _ _ b3 b4 E2 E3 hnz _
  clear hnz
  rw [← Zg] at E3
  have Hs : (zc ((((ol ++ [zj ((za sx i 0) >>> zb 56)]) ++ [zj ((za sx i 0) >>> zb 48)]) ++ [zj ((za sx i 0) >>> zb 40)]) ++ [zj ((za sx i 0) >>> zb 32)])) + 1 = zc (((((ol ++ [zj ((za sx i 0) >>> zb 56)]) ++ [zj ((za sx i 0) >>> zb 48)]) ++ [zj ((za sx i 0) >>> zb 40)]) ++ [zj ((za sx i 0) >>> zb 32)]) ++ [zj ((za sx i 0) >>> zb 24)]) := (by first | (simp; done) | (simp; omega) | omega)
  rw [Hs] at E2
  refine d_e [0,3,4,5,6,20,21,22] [] E2 fun _ b5 => zx <| ze ?_
  have E4 := E3.pk [0, 1, 2, 3] (M := [.vec b3 b4 1 (bys (((((ol ++ [zj ((za sx i 0) >>> zb 56)]) ++ [zj ((za sx i 0) >>> zb 48)]) ++ [zj ((za sx i 0) >>> zb 40)]) ++ [zj ((za sx i 0) >>> zb 32)]) ++ [zj ((za sx i 0) >>> zb 24)])) 5, .box Ef (zh sx) 99, .vec Ea Eb 1 (bys bl) 5, .box Ed (zh K64) 129])
  refine d_r [0,3,4,5,6,20,21,22] [] b5 fun _ b6 => ?_
  refine ze <| zK <| wp_seq <| wp_seq <| d_r [0,3,4,5,6,20,21,22,197] [] b6 fun _ E5 => ze <| c_t E5 ?_
  refine wp_skip <| ze <| wp_seq <| wp_block <| zk <| d_k [0,3,4,5,6,20,21,22,200,201] [] 2 E5 fun _ b7 => f_o <| q_v (x := Instr.indexAt 99 (pt Ef) (ni i)) (v := .pointer (some ⟨Ef, i, none⟩)) b7 (zt (e := 31) (sz := 1) (m := 8) (j := i) (o := i) (by kernel_rfl) (by kernel_rfl) (by omega) (by omega) (by omega) _) fun _ b8 => f_o ?_
  have b9 : i < zc sx := by rw [hlx]; omega
  refine m_v 1 i (zn (za sx i 0)) b8 E4 rfl (zC b9) fun _ ca => d_k [0,3,4,5,6,20,21,22,200,207] [(6, g_i .u64 (zI (x := za sx i 0) (n := 16) rfl (by decide))), (7, g_i .u8 (z4 (x := (za sx i 0) >>> zb 16) rfl))] 8 ca fun _ cb => f_o <| ZZ (d := some 208) (t := 23) (T := 5) (m := 1) (parts := #[(0, bv (zj ((za sx i 0) >>> zb 16)))]) (xs := bys [zj ((za sx i 0) >>> zb 16)]) (sz := 1) cb (by kernel_rfl) (by kernel_rfl) rfl (by decide) E4 ?_
  intro _ _ cc cd E6
  refine f_o <| Zl (d := some 209) (t := 23) (tx := 23) (ty := 23) (k := 0) (p := zc (((((ol ++ [zj ((za sx i 0) >>> zb 56)]) ++ [zj ((za sx i 0) >>> zb 48)]) ++ [zj ((za sx i 0) >>> zb 40)]) ++ [zj ((za sx i 0) >>> zb 32)]) ++ [zj ((za sx i 0) >>> zb 24)])) (m := 1) (x := .slice (some ⟨cc, 0, none⟩) 1 1) (bytes := 1) cd (by kernel_rfl) E6 rfl (ZI _) (Zk (size := 1) (tx := 23) (e' := 5) (by kernel_rfl) (E6.heap.reads (k := 4) rfl) rfl (fun e => by cases e) (ZC _)) (by kernel_rfl) (z := .int .u8 0) (by kernel_rfl) rfl (by decide) (by omega) (by unfold maxLen; omega) ?_
  intro _ _ ce cf E7 E8 hnz _
  clear hnz
  rw [← Zg] at E8
  have Ht : (zc (((((ol ++ [zj ((za sx i 0) >>> zb 56)]) ++ [zj ((za sx i 0) >>> zb 48)]) ++ [zj ((za sx i 0) >>> zb 40)]) ++ [zj ((za sx i 0) >>> zb 32)]) ++ [zj ((za sx i 0) >>> zb 24)])) + 1 = zc ((((((ol ++ [zj ((za sx i 0) >>> zb 56)]) ++ [zj ((za sx i 0) >>> zb 48)]) ++ [zj ((za sx i 0) >>> zb 40)]) ++ [zj ((za sx i 0) >>> zb 32)]) ++ [zj ((za sx i 0) >>> zb 24)]) ++ [zj ((za sx i 0) >>> zb 16)]) := (by first | (simp; done) | (simp; omega) | omega)
  rw [Ht] at E7
  refine d_e [0,3,4,5,6,20,21,22] [] E7 fun _ cg => zx <| ze ?_
  have E9 := E8.pk [0, 1, 2, 3] (M := [.vec ce cf 1 (bys ((((((ol ++ [zj ((za sx i 0) >>> zb 56)]) ++ [zj ((za sx i 0) >>> zb 48)]) ++ [zj ((za sx i 0) >>> zb 40)]) ++ [zj ((za sx i 0) >>> zb 32)]) ++ [zj ((za sx i 0) >>> zb 24)]) ++ [zj ((za sx i 0) >>> zb 16)])) 5, .box Ef (zh sx) 99, .vec Ea Eb 1 (bys bl) 5, .box Ed (zh K64) 129])
  refine d_r [0,3,4,5,6,20,21,22] [] cg fun _ ch => ?_
  refine ze <| zK <| wp_seq <| wp_seq <| d_r [0,3,4,5,6,20,21,22,197] [] ch fun _ Ha => ze <| c_t Ha ?_
  refine wp_skip <| ze <| wp_seq <| wp_block <| zk <| d_k [0,3,4,5,6,20,21,22,200,201] [] 2 Ha fun _ ci => f_o <| q_v (x := Instr.indexAt 99 (pt Ef) (ni i)) (v := .pointer (some ⟨Ef, i, none⟩)) ci (zt (e := 31) (sz := 1) (m := 8) (j := i) (o := i) (by kernel_rfl) (by kernel_rfl) (by omega) (by omega) (by omega) _) fun _ cj => f_o ?_
  have ck : i < zc sx := by rw [hlx]; omega
  refine m_v 1 i (zn (za sx i 0)) cj E9 rfl (zC ck) fun _ cl => d_k [0,3,4,5,6,20,21,22,200,207] [(6, g_i .u64 (zI (x := za sx i 0) (n := 8) rfl (by decide))), (7, g_i .u8 (z4 (x := (za sx i 0) >>> zb 8) rfl))] 8 cl fun _ cm => f_o <| ZZ (d := some 208) (t := 23) (T := 5) (m := 1) (parts := #[(0, bv (zj ((za sx i 0) >>> zb 8)))]) (xs := bys [zj ((za sx i 0) >>> zb 8)]) (sz := 1) cm (by kernel_rfl) (by kernel_rfl) rfl (by decide) E9 ?_
  intro _ _ cn cp Hb
  refine f_o <| Zl (d := some 209) (t := 23) (tx := 23) (ty := 23) (k := 0) (p := zc ((((((ol ++ [zj ((za sx i 0) >>> zb 56)]) ++ [zj ((za sx i 0) >>> zb 48)]) ++ [zj ((za sx i 0) >>> zb 40)]) ++ [zj ((za sx i 0) >>> zb 32)]) ++ [zj ((za sx i 0) >>> zb 24)]) ++ [zj ((za sx i 0) >>> zb 16)])) (m := 1) (x := .slice (some ⟨cn, 0, none⟩) 1 1) (bytes := 1) cp (by kernel_rfl) Hb rfl (ZI _) (Zk (size := 1) (tx := 23) (e' := 5) (by kernel_rfl) (Hb.heap.reads (k := 4) rfl) rfl (fun e => by cases e) (ZC _)) (by kernel_rfl) (z := .int .u8 0) (by kernel_rfl) rfl (by decide) (by omega) (by unfold maxLen; omega) ?_
  intro _ _ cq cr Hc Hd hnz _
  clear hnz
  rw [← Zg] at Hd
  have Hu : (zc ((((((ol ++ [zj ((za sx i 0) >>> zb 56)]) ++ [zj ((za sx i 0) >>> zb 48)]) ++ [zj ((za sx i 0) >>> zb 40)]) ++ [zj ((za sx i 0) >>> zb 32)]) ++ [zj ((za sx i 0) >>> zb 24)]) ++ [zj ((za sx i 0) >>> zb 16)])) + 1 = zc (((((((ol ++ [zj ((za sx i 0) >>> zb 56)]) ++ [zj ((za sx i 0) >>> zb 48)]) ++ [zj ((za sx i 0) >>> zb 40)]) ++ [zj ((za sx i 0) >>> zb 32)]) ++ [zj ((za sx i 0) >>> zb 24)]) ++ [zj ((za sx i 0) >>> zb 16)]) ++ [zj ((za sx i 0) >>> zb 8)]) := (by first | (simp; done) | (simp; omega) | omega)
  rw [Hu] at Hc
  refine d_e [0,3,4,5,6,20,21,22] [] Hc fun _ cs => zx <| ze ?_
  have He := Hd.pk [0, 1, 2, 3] (M := [.vec cq cr 1 (bys (((((((ol ++ [zj ((za sx i 0) >>> zb 56)]) ++ [zj ((za sx i 0) >>> zb 48)]) ++ [zj ((za sx i 0) >>> zb 40)]) ++ [zj ((za sx i 0) >>> zb 32)]) ++ [zj ((za sx i 0) >>> zb 24)]) ++ [zj ((za sx i 0) >>> zb 16)]) ++ [zj ((za sx i 0) >>> zb 8)])) 5, .box Ef (zh sx) 99, .vec Ea Eb 1 (bys bl) 5, .box Ed (zh K64) 129])
  refine d_r [0,3,4,5,6,20,21,22] [] cs fun _ ct => ?_
  refine ze <| zK <| wp_seq <| wp_seq <| d_r [0,3,4,5,6,20,21,22,197] [] ct fun _ Hf => ze <| c_t Hf ?_
  refine wp_skip <| ze <| wp_seq <| wp_block <| zk <| d_k [0,3,4,5,6,20,21,22,200,201] [] 2 Hf fun _ cu => f_o <| q_v (x := Instr.indexAt 99 (pt Ef) (ni i)) (v := .pointer (some ⟨Ef, i, none⟩)) cu (zt (e := 31) (sz := 1) (m := 8) (j := i) (o := i) (by kernel_rfl) (by kernel_rfl) (by omega) (by omega) (by omega) _) fun _ cv => f_o ?_
  have cw : i < zc sx := by rw [hlx]; omega
  refine m_v 1 i (zn (za sx i 0)) cv He rfl (zC cw) fun _ cy => d_k [0,3,4,5,6,20,21,22,200,207] [(6, g_i .u64 (zI (x := za sx i 0) (n := 0) rfl (by decide))), (7, g_i .u8 (z4 (x := (za sx i 0) >>> zb 0) rfl))] 8 cy fun _ cz => f_o <| ZZ (d := some 208) (t := 23) (T := 5) (m := 1) (parts := #[(0, bv (zj ((za sx i 0) >>> zb 0)))]) (xs := bys [zj ((za sx i 0) >>> zb 0)]) (sz := 1) cz (by kernel_rfl) (by kernel_rfl) rfl (by decide) He ?_
  intro _ _ cA cB Hg
  refine f_o <| Zl (d := some 209) (t := 23) (tx := 23) (ty := 23) (k := 0) (p := zc (((((((ol ++ [zj ((za sx i 0) >>> zb 56)]) ++ [zj ((za sx i 0) >>> zb 48)]) ++ [zj ((za sx i 0) >>> zb 40)]) ++ [zj ((za sx i 0) >>> zb 32)]) ++ [zj ((za sx i 0) >>> zb 24)]) ++ [zj ((za sx i 0) >>> zb 16)]) ++ [zj ((za sx i 0) >>> zb 8)])) (m := 1) (x := .slice (some ⟨cA, 0, none⟩) 1 1) (bytes := 1) cB (by kernel_rfl) Hg rfl (ZI _) (Zk (size := 1) (tx := 23) (e' := 5) (by kernel_rfl) (Hg.heap.reads (k := 4) rfl) rfl (fun e => by cases e) (ZC _)) (by kernel_rfl) (z := .int .u8 0) (by kernel_rfl) rfl (by decide) (by omega) (by unfold maxLen; omega) ?_
  intro _ _ Hh Hi Hj Hk hnz _
  clear hnz
  rw [← Zg] at Hk
  have Hv : (zc (((((((ol ++ [zj ((za sx i 0) >>> zb 56)]) ++ [zj ((za sx i 0) >>> zb 48)]) ++ [zj ((za sx i 0) >>> zb 40)]) ++ [zj ((za sx i 0) >>> zb 32)]) ++ [zj ((za sx i 0) >>> zb 24)]) ++ [zj ((za sx i 0) >>> zb 16)]) ++ [zj ((za sx i 0) >>> zb 8)])) + 1 = zc ((((((((ol ++ [zj ((za sx i 0) >>> zb 56)]) ++ [zj ((za sx i 0) >>> zb 48)]) ++ [zj ((za sx i 0) >>> zb 40)]) ++ [zj ((za sx i 0) >>> zb 32)]) ++ [zj ((za sx i 0) >>> zb 24)]) ++ [zj ((za sx i 0) >>> zb 16)]) ++ [zj ((za sx i 0) >>> zb 8)]) ++ [zj ((za sx i 0) >>> zb 0)]) := (by first | (simp; done) | (simp; omega) | omega)
  rw [Hv] at Hj
  refine d_e [0,3,4,5,6,20,21,22] [] Hj fun _ cC => zx <| ze ?_
  have cD := Hk.pk [0, 1, 2, 3] (M := [.vec Hh Hi 1 (bys ((((((((ol ++ [zj ((za sx i 0) >>> zb 56)]) ++ [zj ((za sx i 0) >>> zb 48)]) ++ [zj ((za sx i 0) >>> zb 40)]) ++ [zj ((za sx i 0) >>> zb 32)]) ++ [zj ((za sx i 0) >>> zb 24)]) ++ [zj ((za sx i 0) >>> zb 16)]) ++ [zj ((za sx i 0) >>> zb 8)]) ++ [zj ((za sx i 0) >>> zb 0)])) 5, .box Ef (zh sx) 99, .vec Ea Eb 1 (bys bl) 5, .box Ed (zh K64) 129])
  refine d_r [0,3,4,5,6,20,21,22] [] cC fun _ cE => ?_
  refine ze <| zK <| wp_seq <| wp_seq <| d_r [0,3,4,5,6,20,21,22,197] [] cE fun _ Hl => ze <| c_f Hl ?_
  refine wp_exit <| zD <| zD <| zP <| zx <| ze <| d_r [0,3,4,5,6,20,21,22] [(1, g_n (w_a i 1))] Hl fun _ cF => ze <| ⟨_, ⟨i + 1, Hh, Hi, ((((((((ol ++ [zj ((za sx i 0) >>> zb 56)]) ++ [zj ((za sx i 0) >>> zb 48)]) ++ [zj ((za sx i 0) >>> zb 40)]) ++ [zj ((za sx i 0) >>> zb 32)]) ++ [zj ((za sx i 0) >>> zb 24)]) ++ [zj ((za sx i 0) >>> zb 16)]) ++ [zj ((za sx i 0) >>> zb 8)]) ++ [zj ((za sx i 0) >>> zb 0)]), rfl, cF.sb, cD.pk [0, 1, 2, 3], by omega, by rw [heo]; simp [ro64, be8], by simp [hol]; omega⟩, ?_⟩
  omega
 refine wp_exit <| zD <| zD <| zP <| ze <| wp_seq <| d_r [0,3,4,5,6,20,21] [] Ex fun _ cG => ze <| wp_ret <| Qh (t := 4) (v := .slice a7 (zc ol) c7) cG (by kernel_rfl) (by kernel_rfl) ?_
 have hi8 : i = 8 := by omega
 have hoe : ol = ro64 (rfeed64 s0 (lx ++ Jy 128 (zc lx % 128) (zc lx)) (zc (lx ++ Jy 128 (zc lx % 128) (zc lx)) / 128)) 8 := by rw [heo, hi8, hes, hqe, hbe]
 subst hoe
 exact ⟨_, _, rfl, Ew.pk [0]⟩
theorem ch64 (e f g : UInt64) : (e &&& f) ^^^ (((18446744073709551615 : UInt64) ^^^ e) &&& g) = g ^^^ (e &&& (f ^^^ g)) := by
  apply Xw
  apply XA
  intro i hi
  have hm : (18446744073709551615 : UInt64).toBitVec.getLsbD i = true := by
    show (BitVec.allOnes 64).getLsbD i = true
    rw [BitVec.getLsbD_allOnes]
    exact decide_eq_true hi
  simp only [X3, X4, Ke, Kf, hm]
  cases e.toBitVec.getLsbD i <;> cases f.toBitVec.getLsbD i <;> cases g.toBitVec.getLsbD i <;> rfl
theorem maj64 (x y z : UInt64) : ((x &&& y) ^^^ (x &&& z)) ^^^ (y &&& z) = (x &&& y) ||| (z &&& (x ||| y)) := by
  apply Xw
  apply XA
  intro i hi
  simp only [X3, X4, UInt64.toBitVec_or, Ke, Kf, BitVec.getLsbD_or]
  cases x.toBitVec.getLsbD i <;> cases y.toBitVec.getLsbD i <;> cases z.toBitVec.getLsbD i <;> rfl
theorem rst64_eq (v : List UInt64) (k w : UInt64) : rst64 v k w = step64 v k w := by
  unfold rst64 step64 rx64 ry64 x64 y64
  rw [ch64, maj64]
theorem rr64_eq (W v : List UInt64) (j : Nat) : rr64 W v j = rnd64 W v j := by
  induction j with
  | zero => rfl
  | succ j ih => rw [rr64, rnd64, ih, rst64_eq]
theorem getD_left64 {a c : List UInt64} {i : Nat} (h : i < a.length) : za (a ++ c) i 0 = za a i 0 := by
  rw [zN, zN, List.getElem?_append_left h]
theorem rsF64_eq {w : List UInt64} (hw : w.length = 16) : ∀ q, q ≤ 64 → rsF64 (w ++ zf 64 0) q = sch64 w q ++ zf (64 - q) 0
  | 0, _ => rfl
  | q + 1, h => by
    have hl : (sch64 w q).length = 16 + q := by rw [sch64_len, hw]
    rw [rsF64, rsF64_eq hw q (by omega), sch64, getD_left64 (by omega), getD_left64 (by omega), getD_left64 (by omega), getD_left64 (by omega)]
    rw [XN _ _ (by omega), hl, YB, show 64 - q = (64 - (q + 1)) + 1 by omega, Ji, Kg, QK]
    rfl
theorem getD_in {bl : List UInt8} {f m z t i : Nat} (h : z * t + i < m) (hi : i < z) : za (zm z (zo (z * t) (zm m (zo f bl)))) i 0 = za bl (f + z * t + i) 0 := by
  rw [zN, ZQ, if_pos hi, QL, ZQ, if_pos h, QL, ← zN, Nat.add_assoc]
theorem rby64_eq {bl : List UInt8} {f t : Nat} (ht : t < 16) : ∀ i, i ≤ 8 → rby64 bl f t i = beP64 (zm 8 (zo (8 * t) (zm 128 (zo f bl)))) i
  | 0, _ => rfl
  | i + 1, h => by rw [rby64, beP64, rby64_eq ht i (by omega), getD_in (by omega) (by omega)]
theorem rwI64_eq {V : List UInt64} {bl : List UInt8} {f t : Nat} (ht : t < V.length) (h0 : za V t 0 = 0) : ∀ i, rwI64 V bl f t i = zp V t (rby64 bl f t i)
  | 0 => by
    rw [rwI64, rby64, ← h0]
    simp [za, ht]
  | i + 1 => by
    rw [rwI64, rwI64_eq ht h0 i, rby64, getD_set, if_pos ⟨rfl, ht⟩, List.set_set]
theorem rwF64_eq {bl : List UInt8} {f : Nat} : ∀ t, t ≤ 16 → rwF64 bl f t = wB64 (zm 128 (zo f bl)) t ++ zf (80 - t) 0
  | 0, _ => rfl
  | t + 1, h => by
    have hz : za (wB64 (zm 128 (zo f bl)) t ++ zf (80 - t) 0) t 0 = 0 := by
      rw [zN, List.getElem?_append_right (by rw [Jp]; exact ZX _), List.getElem?_replicate]
      split <;> rfl
    rw [rwF64, rwF64_eq t (by omega), rwI64_eq (by rw [zH, Jp, zi]; omega) hz, wB64, XN _ _ (by rw [Jp]; exact ZX _), Jp, YB, show 80 - t = (80 - (t + 1)) + 1 by omega, Ji, Kg, rby64_eq (by omega) 8 (ZX _), QK]
    rfl
theorem ro64_eq (s : List UInt64) (i : Nat) : ro64 s i = out64 s i := by
  induction i with
  | zero => rfl
  | succ i ih => rw [ro64, out64, ih]
theorem rfeed64_eq (s : List UInt64) (bl : List UInt8) (q : Nat) : rfeed64 s bl q = feed64 s bl q := by
  induction q with
  | zero => rfl
  | succ q ih =>
    rw [rfeed64, feed64, ih, rr64_eq, rwF64_eq 16 (ZX _), rsF64_eq (Jp _ _) 64 (ZX _), YB]
    unfold blk64
    rw [show zf 0 (0 : UInt64) = [] from rfl, ZH]
theorem sum_same2 {h : Int} (hh : h = 2 ∨ h = 3) (al : List UInt8) : zm (sizeOfH h) (ro64 (rfeed64 (YR h) (al ++ Jy 128 (al.length % 128) al.length) ((al ++ Jy 128 (al.length % 128) al.length).length / 128)) 8) = sumF h al := by
  unfold sumF
  rw [if_neg (by omega), ro64_eq, rfeed64_eq, pad_go2 hh]
  unfold S64 st64
  rw [if_neg (by omega)]
theorem docof3 (w : World) (ax : Option Addr) (nx cx : Nat) (lx : List UInt8) (ex : nx = zc lx) (ix : InB w [] ax cx lx) : Calls zB 47 #[.int .i64 3, .slice ax nx cx] w fun e w' => ∃ ao co, e = .returned (.slice ao (zc (sumF 3 lx)) co) ∧ Ev w [] w' [.vec ao co 1 (bys (sumF 3 lx)) 5] := by
 subst ex
 have hs := ix.small
 have hcx := ix.cap
 refine d_0 [(0, .int .i64 3), (1, .slice ax (zc lx) cx)] 21 Tryz.func47 Tryz.ntmps47 (Heap.nil _) fun El Em Ei => wp_seq <| d_r [0,1,4] [] Em fun _ En => ze <| wp_seq <| wp_seq <| d_r [1,4,5] [] En fun _ Eo => ze <| wp_block <| wp_seq <| d_r [1,4,5,6] [] Eo fun _ Ej => ze <| c_f Ej ?_
 refine wp_seq <| d_r [1,4,5,10] [] Ej fun _ Ek => ze <| c_f Ek ?_
 refine wp_seq <| d_r [1,4,5,16] [] Ek fun _ Ec => ze <| c_t Ec ?_
 refine wp_seq ?_
 have hl64 : ∀ s, zc (ro64 s 8) = 64 := fun s => by rw [ro64_eq, out64_len]
 have hl := hl64 (rfeed64 (YR 3) (lx ++ Jy 128 (zc lx % 128) (zc lx)) (zc (lx ++ Jy 128 (zc lx % 128) (zc lx)) / 128))
 refine zk <| d_k [1,4,5,18,19] [] 2 Ec fun _ Ed => f_o <| c_0 Ed Ei (sum64_ref _ ax (zc lx) cx lx (by first | rfl | (simp; done) | (simp; omega) | omega) ((ix.ev Ei).pick [] (by kernel_rfl)) (YR 3) (init64_len _)) ?_
 rintro _ _ ⟨Ea, Eb, rfl, Ee⟩
 refine ⟨_, _, _, rfl, Ee, rfl, fun _ Ef Eg => ?_⟩
 refine d_e [1,4,5] [] Ef fun _ Eh => ze <| wp_ret <| block_ret <| Zx <| Qh (t := 4) (v := .slice Ea (zc (ro64 (rfeed64 (YR 3) (lx ++ Jy 128 (zc lx % 128) (zc lx)) (zc (lx ++ Jy 128 (zc lx % 128) (zc lx)) / 128)) 8)) Eb) Eh (by kernel_rfl) (by kernel_rfl) ?_
 have Hf23 := Eg.pk [0] (M := [.vec Ea Eb 1 (bys (ro64 (rfeed64 (YR 3) (lx ++ Jy 128 (zc lx % 128) (zc lx)) (zc (lx ++ Jy 128 (zc lx % 128) (zc lx)) / 128)) 8)) 5])
 have hse : ro64 (rfeed64 (YR 3) (lx ++ Jy 128 (zc lx % 128) (zc lx)) (zc (lx ++ Jy 128 (zc lx % 128) (zc lx)) / 128)) 8 = sumF 3 lx := by rw [← sum_same2 (h := 3) (by decide), show sizeOfH 3 = 64 from rfl]; rw [zJ (by omega)]
 rw [hse] at Hf23
 exact ⟨_, _, by rw [hse], Hf23⟩
end Go.Proofs.YtlnogkmnklfjlaaGreatDoor.Sh
namespace Go.Proofs.YtlnogkmnklfjlaaGreatDoor
open Go.Dbr
def cqF (s : List UInt8) : Nat → List UInt8
  | 0 => zf 32 0
  | i + 1 => zp (cqF s i) i (za s i 0)
theorem cqF_len (s : List UInt8) : ∀ i, (cqF s i).length = 32
  | 0 => zi
  | i + 1 => by rw [cqF, Qk, cqF_len s i]
theorem getD_at {l : List UInt8} {i : Nat} (h : i < l.length) : l[i]? = some (za l i 0) := by
  rw [zN, zR h]
  rfl
theorem cqF_at {s : List UInt8} (h : s.length = 64) : ∀ i, i ≤ 32 → ∀ j, j < i → (cqF s i)[j]? = s[j]?
  | 0, _, j, hj => absurd hj (by omega)
  | i + 1, hi, j, hj => by
    rw [cqF, Xn]
    split
    · rename_i e
      subst e
      rw [if_pos (by rw [cqF_len]; omega), getD_at (by omega)]
    · exact cqF_at h i (by omega) j (by omega)
theorem cq_all {s : List UInt8} (h : s.length = 64) : cqF s 32 = zm 32 s := by
  refine Yp fun j => ?_
  rw [ZQ]
  split
  · rename_i hj
    rw [cqF_at h 32 (ZX _) j hj]
  · rw [Qe (by rw [cqF_len]; omega)]
def cpF (s : List UInt8) : Nat → List UInt8
  | 0 => zf 32 0
  | i + 1 => zp (cpF s i) i (za s (32 + i) 0)
theorem cpF_len (s : List UInt8) : ∀ i, (cpF s i).length = 32
  | 0 => zi
  | i + 1 => by rw [cpF, Qk, cpF_len s i]
theorem cpF_at {s : List UInt8} (h : s.length = 64) : ∀ i, i ≤ 32 → ∀ j, j < i → (cpF s i)[j]? = s[32 + j]?
  | 0, _, j, hj => absurd hj (by omega)
  | i + 1, hi, j, hj => by
    rw [cpF, Xn]
    split
    · rename_i e
      subst e
      rw [if_pos (by rw [cpF_len]; omega), getD_at (by omega)]
    · exact cpF_at h i (by omega) j (by omega)
theorem cp_all {s : List UInt8} (h : s.length = 64) : cpF s 32 = hfS s := by
  refine Yp fun j => ?_
  rw [hfS, ZQ]
  split
  · rename_i hj
    rw [cpF_at h 32 (ZX _) j hj, QL]
  · rw [Qe (by rw [cpF_len]; omega)]
theorem flat_take_succ {l : List (Sl UInt8)} {k : Nat} {x : Sl UInt8} (h : l[k]? = some x) : (l.take (k + 1)).flatMap (fun s => s.l) = (l.take k).flatMap (fun s => s.l) ++ x.l := by
  rw [List.take_add_one, h, Xb]
  simp
theorem flat_le {l : List (Sl UInt8)} {k : Nat} {x : Sl UInt8} (h : l[k]? = some x) {B : Nat} (hB : (l.flatMap (fun s => s.l)).length ≤ B) : ((l.take k).flatMap (fun s => s.l)).length + x.l.length ≤ B := by
  have e := flat_take_succ h
  have t : (l.flatMap (fun s => s.l)) = ((l.take (k + 1)).flatMap (fun s => s.l)) ++ ((l.drop (k + 1)).flatMap (fun s => s.l)) := by rw [← Xb, QJ]
  rw [t, zH, e, zH] at hB
  omega
theorem dnumber_go (w : World) (ax : Option Addr) (nx cx : Nat) (lx : List (Sl UInt8)) (ex : nx = zc lx) (ix : InS (fun s : Sl UInt8 => s.f) 24 (fun x : Sl UInt8 => InB w [] x.a x.c x.l) w [] ax cx lx) (hT2 : zc (Z7 (fun s : Sl UInt8 => s.l) lx) ≤ 140737488353280) {b : List UInt8} (hb : (Z7 (fun s : Sl UInt8 => s.l) lx) = b) : Calls zB 25 #[.slice ax nx cx] w fun e w' => e = .returned (.agg (zg (zh (nd (nE b))))) ∧ Ev w [] w' [] := by
 subst ex
 have hs := ix.small
 have EP := ix.cap
 refine d_0 [(0, .slice ax (zc lx) cx)] 20 Tryz.func25 Tryz.ntmps25 (Heap.nil _) fun EH EI EJ => wp_seq <| zk <| f_o <| m_z 33 (zh (zf 4 0)) EI EJ fun _ _ Em EK EL => f_e <| ze <| wp_seq <| d_r [0,2,3] [] EK fun _ EM => ze <| wp_seq <| wp_seq <| d_r [0,2,3,4] [] EM fun _ EN => ze <| wp_block ?_
 have En := Ev.nil (sz := 1) (T := 5) EL
 refine Z5 (fun Eo ac wo => ∃ (k : Nat) (ar : Option Addr) (cr : Nat) (al : List UInt8), Eo = (zc lx - k : Nat) ∧ Env ac 20 [(0, .slice ax (zc lx) cx), (2, pt Em), (3, .slice ar (zc al) cr), (4, ni k)] ∧ Ev w [] wo [.vec ar cr 1 (bys al) 5, .box Em (zh (zf 4 0)) 33] ∧ (k ≤ zc lx) ∧ (al = (Z7 (fun s : Sl UInt8 => s.l) (zm k lx)))) ⟨_, 0, none, 0, [], rfl, EN.sb, En.pk [1, 0], by omega, by rfl⟩ ?_
 rintro EO _ _ ⟨k, ar, cr, al, rfl, Ep, Ea, hk, hal⟩
 refine wp_seq <| wp_seq <| d_r [0,2,3,4,8] [] Ep fun _ Ed => ?_
 refine ze <| c_d (((k : Nat) : Int) < ((zc lx : Nat) : Int)) Ed (fun Eq => ?_) (fun Eq => ?_)
 ·
  refine wp_skip <| ze <| wp_seq <| wp_block ?_
  have Ee : k < zc lx := (by omega)
  obtain ⟨Eb, Ec⟩ := some_of ix.nz Ee
  have Er : k < zc lx := by omega
  obtain ⟨⟨a_x26, c_x26, x26⟩, hx25⟩ : ∃ x, (lx)[k]? = some x := ⟨_, zR Er⟩
  obtain i_x26 := ix.each _ (List.mem_of_getElem? hx25)
  replace i_x26 : InB w [] a_x26 c_x26 x26 := i_x26
  refine zk <| d_k [0,2,3,4,11,12,13] [] 3 Ed fun _ Es => f_o <| q_v (x := Instr.indexAt 72 (.slice ax (zc lx) cx) (ni k)) (v := .pointer (some (Addr.add Eb k))) Es (Ql (e := 23) (sz := 1) (j := k) (jo := k) Ec (by kernel_rfl) (by kernel_rfl) (by omega) Ee (ZG _) _) fun _ Et => f_o <| op_loadf (d := some 15) (t := 23) (ad := Eb) (ao := ax) (ys := Z7 (fun s : Sl UInt8 => s.f) lx) (o := k) (v := .slice a_x26 (zc x26) c_x26) Et (by kernel_rfl) rfl (ix.ro.ev Ea).reads Ec ((flat_get1 (fun _ _ => rfl) hx25).trans rfl) (by kernel_rfl) ?_
  intro _ Eu
  refine f_o ?_
  have EG := i_x26.small
  have hfl := flat_le hx25 hT2
  rw [← hal] at hfl
  simp only at hfl
  refine Zl (d := some 16) (t := 23) (tx := 23) (ty := 23) (k := 0) (p := zc al) (m := zc x26) (x := .slice a_x26 (zc x26) c_x26) (bytes := 1) Eu (by kernel_rfl) Ea rfl (ZI _) (Zk (size := 1) (tx := 23) (e' := 5) (by kernel_rfl) (i_x26.ev Ea).reads (ZI _) i_x26.nz (ZC _)) (by kernel_rfl) (z := .int .u8 0) (by kernel_rfl) rfl (by decide) (by omega) (by unfold maxLen; omega) ?_
  intro _ _ Ew Ex Ef Eg hnz _
  clear hnz
  rw [← Zg] at Eg
  have Eh : (zc al) + (zc x26) = zc (al ++ x26) := (by first | (simp; done) | (simp; omega) | omega)
  rw [Eh] at Ef
  refine d_e [0,2,3,4] [] Ef fun _ Ey => zx <| ze <| d_r [0,2,3,4] [(1, g_n (w_a k 1))] Ey fun _ Ez => ze <| ⟨_, ⟨k + 1, Ew, Ex, (al ++ x26), rfl, Ez.sb, Eg.pk [0, 1], by omega, by rw [flat_take_succ hx25, hal]⟩, ?_⟩
  omega
 refine wp_exit <| zD <| zD <| zP <| ze <| wp_seq ?_
 have hkk : k = zc lx := by omega
 have hae : al = (Z7 (fun s : Sl UInt8 => s.l) lx) := by rw [hal, hkk, List.take_length]
 have hal2 : zc al ≤ 140737488353280 := by rw [hae]; exact hT2
 have hs3l := Zq al
 refine zk <| d_k [0,2,3,4,17] [] 1 Ed fun _ EA => f_o <| c_0 EA Ea (Sh.docof3 _ ar (zc al) cr al (by first | rfl | (simp; done) | (simp; omega) | omega) (bys_in Ea.heap (k := 0) rfl [] (by kernel_rfl) rfl (by first | omega | (simp; done) | (simp; omega)))) ?_
 rintro _ _ ⟨Ei, Ej, rfl, EB⟩
 refine ⟨_, _, _, rfl, EB, rfl, fun _ EC Ek => ?_⟩
 refine f_o <| c_p EC Ek (rwide_go _ 4 h4f hL4 Ei (zc (Sh.sumF 3 al)) Ej (Sh.sumF 3 al) (by first | rfl | (simp; done) | (simp; omega) | omega) (bys_in Ek.heap (k := 0) rfl [] (by kernel_rfl) rfl (by first | omega | (simp; done) | (simp; omega)))) fun _ _ ED EE => f_o <| zZ 2 4 (zh (nd (lv (Sh.sumF 3 al) % mF 4))) _ ED EE rfl (zd (zl _ _)) (zd (zi)) (zw _) rfl fun _ _ EF El => f_e <| ze <| wp_ret <| Zf (v := .agg (zg (zh (nd (lv (Sh.sumF 3 al) % mF 4))))) (t := 2) (T := 33) (ad := ⟨Em, 0, none⟩) EF (by kernel_rfl) (by kernel_rfl) (zF (t := 33) (k := 2) (off := 0) (m := 4) (xs := zh (nd (lv (Sh.sumF 3 al) % mF 4))) El rfl (zr (zd (zl _ _))) (zd (zl _ _)) (by kernel_rfl) (by kernel_rfl)) ?_
 exact ⟨by rw [← hb, ← hae]; rfl, El.pk []⟩
theorem rlessL_go (w : World) (a : List UInt64) (ha : zc a = 4) : Calls zB 36 #[.agg (zg (zh a)), .agg (zg (zh (nd (mF 4))))] w fun e w' => e = .returned (.bool (decide (nv a < mF 4))) ∧ Ev w [] w' [] := by
  have h := rless_go w a (nd (mF 4)) ha (zl _ _)
  rw [nv_mF] at h
  exact h
theorem dver_yes {pb tx sg : List UInt8} (hs : sg.length = 64) (h1 : isE pb = true) (h2 : isE (zm 32 sg) = true) (h3 : lv (hfS sg) < mF 4) {p q : L4} (hp : p = mnF Yk (nv (nd (lv (hfS sg)))) 256) (hq : q = plD (toD (zm 32 sg)) (mnF (toD pb) (nv (nd (nE (zm 32 sg ++ (pb ++ tx))))) 256)) :
    Jf (k1 p) (k2 p) (j3 p) (k1 q) (k2 q) (j3 q) = X0 pb tx sg := by
  rw [nv_nd (lv_w (Xv hs))] at hp
  rw [nv_nE, toD_pt h1, toD_pt h2] at hq
  have rp : RepD p (Go.Ed.Ec.mul (lv (hfS sg)) gB) := by rw [hp]; exact rep_many rep_baseD (lv_w (Xv hs))
  have rq : RepD q (Go.Ed.Ec.add (gPt (zm 32 sg)) (Go.Ed.Ec.mul (nE (zm 32 sg ++ (pb ++ tx))) (gPt pb))) := by rw [hq]; exact rep_pl (rep_ptD h2) (rep_many (rep_ptD h1) (nE_lt _))
  rw [sameN_ok rp.rep rq.rep, X0, h1, h2, decide_eq_true h3, Qd, Qd, Qd]
theorem dverify_go (w : World) (pb : List UInt8) (hpb : zc pb = 32) (am : Option Addr) (nm cm : Nat) (lm : List UInt8) (em : nm = zc lm) (im : InB w [] am cm lm) (sg : List UInt8) (hsg : zc sg = 64) (hBt : zc lm ≤ 140737488351232) : Calls zB 11 #[.agg (zg (bys pb)), .slice am nm cm, .agg (zg (bys sg))] w fun e w' => e = .returned (.bool (X0 pb lm sg)) ∧ Ev w [] w' [] := by
 subst em
 have hs := im.small
 have bH := im.cap
 refine d_0 [(0, .agg (zg (bys pb))), (1, .slice am (zc lm) cm), (2, .agg (zg (bys sg)))] 77 Tryz.func11 Tryz.ntmps11 (Heap.nil _) fun bA bB bC => wp_seq <| zk <| f_o <| m_m 22 (bys pb) bB bC fun _ _ Ef bD bE => f_o <| m_m 26 (bys sg) bD bE fun _ _ Eh bF aT => d_e [1,3,5,6] [] bF fun _ aU => ze <| wp_seq <| zk <| f_o <| c_p aU aT (dd_go _) fun _ _ aV aW => f_o <| m_z 33 (zh (zf 4 0)) aV aW fun _ _ Ee aX aY => ?_
 refine f_o <| zZ 2 4 (zh (nd DN)) _ aX aY rfl (zd (zl _ _)) (zd (zi)) (zw _) rfl fun _ _ aZ a0 => f_e <| ze <| wp_seq <| zk <| f_o <| m_z 22 (bys (zf 32 0)) aZ a0 fun _ _ Ea a1 a2 => f_e <| ze <| wp_seq <| zk <| f_o <| m_z 22 (bys (zf 32 0)) a1 a2 fun _ _ Ed a3 a4 => f_e <| ze <| wp_seq <| wp_seq <| d_r [1,3,5,6,7,8,9,10] [] a3 fun _ a5 => ?_
 refine ze <| wp_block <| Z5 (fun a6 ac wo => ∃ (i : Nat) (c1 : List UInt8) (c2 : List UInt8), a6 = (32 - i : Nat) ∧ Env ac 77 [(1, .slice am (zc lm) cm), (3, pt Ef), (5, pt Eh), (6, .bool false), (7, pt Ee), (8, pt Ea), (9, pt Ed), (10, ni i)] ∧ Ev w [] wo [.box Ea (bys c1) 22, .box Ed (bys c2) 22, .box Ef (bys pb) 22, .box Eh (bys sg) 26, .box Ee (zh (nd DN)) 33] ∧ (i ≤ 32) ∧ (zc c1 = 32) ∧ (zc c2 = 32) ∧ (c1 = cqF sg i) ∧ (c2 = cpF sg i)) ⟨_, 0, zf 32 0, zf 32 0, rfl, a5.sb, a4.pk [3, 4, 0, 1, 2], by omega, zi, zi, rfl, rfl⟩ ?_
 rintro bG _ _ ⟨i, c1, c2, rfl, a7, Ey, hi, hl1, hl2, bx, bz⟩
 refine wp_seq <| wp_seq <| d_r [1,3,5,6,7,8,9,10,19] [] a7 fun _ Hg => ?_
 refine ze <| c_d (((i : Nat) : Int) < (32 : Int)) Hg (fun a8 => ?_) (fun a8 => ?_)
 ·
  refine wp_skip <| ze <| wp_seq <| wp_block <| wp_seq <| zk <| d_k [1,3,5,6,7,8,9,10,22,23] [] 2 Hg fun _ a9 => f_o <| q_v (x := Instr.indexAt 26 (pt Eh) (ni i)) (v := .pointer (some ⟨Eh, i, none⟩)) a9 (zt (e := 5) (sz := 1) (m := 64) (j := i) (o := i) (by kernel_rfl) (by kernel_rfl) (by omega) (by omega) (by omega) _) fun _ ba => f_o ?_
  have bb : i < zc sg := by rw [hsg]; omega
  refine m_v 3 i (bv (za sg i 0)) ba Ey rfl (Qr bb) fun _ bc => f_o <| q_v (x := Instr.indexAt 22 (pt Ea) (ni i)) (v := .pointer (some ⟨Ea, i, none⟩)) bc (zt (e := 5) (sz := 1) (m := 32) (j := i) (o := i) (by kernel_rfl) (by kernel_rfl) (by omega) (by omega) (by omega) _) fun _ bd => f_o ?_
  have be : i < zc c1 := by rw [hl1]; omega
  refine m_t 0 i (bv (za sg i 0)) [.box Ea (bys (zp c1 i (za sg i 0))) 22, .box Ed (bys c2) 22, .box Ef (bys pb) 22, .box Eh (bys sg) 26, .box Ee (zh (nd DN)) 33] bd Ey rfl (Qr be) (bys_set _ _ _) rfl fun _ _ bf Hh => f_e <| ze <| zk <| d_k [1,3,5,6,7,8,9,10,27,29] [(2, g_n (w_a 32 i))] 3 bf fun _ bg => f_o <| q_v (x := Instr.indexAt 26 (pt Eh) (ni (32 + i))) (v := .pointer (some ⟨Eh, 32 + i, none⟩)) bg (zt (e := 5) (sz := 1) (m := 64) (j := 32 + i) (o := 32 + i) (by kernel_rfl) (by kernel_rfl) (by omega) (by omega) (by omega) _) fun _ bh => f_o ?_
  have bi : 32 + i < zc sg := by rw [hsg]; omega
  refine m_v 3 (32 + i) (bv (za sg (32 + i) 0)) bh Hh rfl (Qr bi) fun _ bj => f_o <| q_v (x := Instr.indexAt 22 (pt Ed) (ni i)) (v := .pointer (some ⟨Ed, i, none⟩)) bj (zt (e := 5) (sz := 1) (m := 32) (j := i) (o := i) (by kernel_rfl) (by kernel_rfl) (by omega) (by omega) (by omega) _) fun _ bk => f_o ?_
  have bl : i < zc c2 := by rw [hl2]; omega
  refine m_t 1 i (bv (za sg (32 + i) 0)) _ bk Hh rfl (Qr bl) (bys_set _ _ _) rfl fun _ _ bm bn => f_e <| zx <| ze <| d_r [1,3,5,6,7,8,9,10] [(1, g_n (w_a i 1))] bm fun _ bo => ze <| ⟨_, ⟨i + 1, (zp c1 i (za sg i 0)), (zp c2 i (za sg (32 + i) 0)), rfl, bo.sb, bn.pk [0, 1, 2, 3, 4], by omega, (List.length_set.trans hl1), (List.length_set.trans hl2), by rw [bx]; rfl, by rw [bz]; rfl⟩, ?_⟩
  omega
 refine wp_exit <| zD <| zD <| zP <| ze <| wp_seq ?_
 have hi32 : i = 32 := by omega
 have hf1 : c1 = zm 32 sg := by rw [bx, hi32, cq_all hsg]
 have hf2 : c2 = hfS sg := by rw [bz, hi32, cp_all hsg]
 have ht32 : zc (zm 32 sg) = 32 := by rw [zs, hsg]; rfl
 rw [show c1 = (zm 32 sg) from hf1] at Ey
 rw [show c2 = (hfS sg) from hf2] at Ey
 refine zk <| f_o <| Zn 2 32 (bys pb) Hg Ey rfl (z7 hpb) fun _ bp => f_o <| Zn 4 4 (zh (nd DN)) bp Ey rfl (zd (zl _ _)) fun _ bq => f_o <| c_p bq Ey (dtold_go _ pb hpb) fun _ _ br bs => d_k [1,3,5,6,7,8,9,10,37,38] [] 6 br fun _ bt => f_o <| m_z 44 ((zh (zf 4 0)) ++ ((zh (zf 4 0)) ++ (zh (zf 4 0)))) bt bs fun _ _ Eg bu bw => f_o <| zZ 5 12 (zh (toD pb)) [.box Ea (bys (zm 32 sg)) 22, .box Ed (bys (hfS sg)) 22, .box Ef (bys pb) 22, .box Eh (bys sg) 26, .box Ee (zh (nd DN)) 33, .box Eg (zh (toD pb)) 44] bu bw rfl (zd (Xs _)) (zG (zd (zi)) (zG (zd (zi)) (zd (zi)))) (zw _) rfl fun _ _ Hi ED => ?_
 refine d_e [1,3,5,6,7,8,9,10,11,12] [] Hi fun _ Hj => ze <| wp_seq <| zk <| f_o <| Zn 0 32 (bys (zm 32 sg)) Hj ED rfl (z7 ht32) fun _ Hk => f_o <| Zn 4 4 (zh (nd DN)) Hk ED rfl (zd (zl _ _)) fun _ Hl => f_o <| c_p Hl ED (dtold_go _ (zm 32 sg) ht32) fun _ _ Hm Hn => d_k [1,3,5,6,7,8,9,10,11,12,43,44] [] 6 Hm fun _ Ho => f_o <| m_z 44 ((zh (zf 4 0)) ++ ((zh (zf 4 0)) ++ (zh (zf 4 0)))) Ho Hn fun _ _ Ec Hp Hq => ?_
 refine f_o <| zZ 6 12 (zh (toD (zm 32 sg))) _ Hp Hq rfl (zd (Xs _)) (zG (zd (zi)) (zG (zd (zi)) (zd (zi)))) (zw _) rfl fun _ _ Hr EL => d_e [1,3,5,6,7,8,9,10,11,12,13,14] [] Hr fun _ Hs => ze <| wp_seq <| zk <| f_o <| Zn 1 32 (bys (hfS sg)) Hs EL rfl (z7 (Xv hsg)) fun _ Ht => f_o <| c_p Ht EL (rfromle_go _ (hfS sg) (Xv hsg)) fun _ _ Hu Hv => f_o <| m_z 33 (zh (zf 4 0)) Hu Hv fun _ _ Eb Hw Hx => f_o <| zZ 7 4 (zh (nd (lv (hfS sg)))) [.box Ea (bys (zm 32 sg)) 22, .box Ed (bys (hfS sg)) 22, .box Ef (bys pb) 22, .box Eh (bys sg) 26, .box Ee (zh (nd DN)) 33, .box Eg (zh (toD pb)) 44, .box Ec (zh (toD (zm 32 sg))) 44, .box Eb (zh (nd (lv (hfS sg)))) 33] Hw Hx rfl (zd (zl _ _)) (zd (zi)) (zw _) rfl fun _ _ EE Es => ?_
 refine f_e <| ze <| wp_seq <| wp_seq ?_
 rcases Za (!(isE pb)) with Ei | Ei
 ·
  have hb147p : ¬ (isE pb = true) := by simpa using Ei
  refine r_c (fun ac wo => Env ac 77 [(1, .slice am (zc lm) cm), (3, pt Ef), (5, pt Eh), (6, .bool false), (7, pt Ee), (8, pt Ea), (9, pt Ed), (10, ni i), (11, pt Eg), (13, pt Ec), (15, pt Eb), (58, .bool true)] ∧ Ev w [] wo [.box Ea (bys (zm 32 sg)) 22, .box Ed (bys (hfS sg)) 22, .box Ef (bys pb) 22, .box Eh (bys sg) 26, .box Ee (zh (nd DN)) 33, .box Eg (zh (toD pb)) 44, .box Ec (zh (toD (zm 32 sg))) 44, .box Eb (zh (nd (lv (hfS sg)))) 33]) ?_ ?_
  ·
   refine Xg (by kernel_rfl) 12 (by kernel_rfl) ?_
   have Hy := Es.trans (zS Es.heap)
   refine q_a [0,1,2] [] 9 EE fun _ Hz => ?_
   have HA := Hz.fx (t := 48) (congrArg Value.bool Ei)
   have HB := HA.fx (t := 49) (congrArg Value.bool Ei)
   refine q_a [3,4,5,6,7,8,9,10,11] [] 0 HB fun _ HC => ?_
   exact a_e ⟨HC.sb, Hy.pk [0, 1, 2, 3, 4, 5, 6, 7]⟩
  rintro _ _ ⟨EM, HD⟩
  refine ze <| c_t EM ?_
  refine wp_seq <| d_r [1,3,5,6,7,8,9,10,11,13,15] [] EM fun _ HE => ze <| wp_ret <| Zx <| Qh (t := 6) (v := .bool false) HE (by kernel_rfl) (by kernel_rfl) ?_
  exact ⟨by rw [ver_no1 (show isE pb = false from (by simpa using Ei))], HD.pk []⟩
 have hb147p : isE pb = true := by simpa using Ei
 rcases Za (!(isE (zm 32 sg))) with Ej | Ej
 ·
  have hb167p : ¬ (isE (zm 32 sg) = true) := by simpa using Ej
  refine r_c (fun ac wo => Env ac 77 [(1, .slice am (zc lm) cm), (3, pt Ef), (5, pt Eh), (6, .bool false), (7, pt Ee), (8, pt Ea), (9, pt Ed), (10, ni i), (11, pt Eg), (13, pt Ec), (15, pt Eb), (58, .bool true)] ∧ Ev w [] wo [.box Ea (bys (zm 32 sg)) 22, .box Ed (bys (hfS sg)) 22, .box Ef (bys pb) 22, .box Eh (bys sg) 26, .box Ee (zh (nd DN)) 33, .box Eg (zh (toD pb)) 44, .box Ec (zh (toD (zm 32 sg))) 44, .box Eb (zh (nd (lv (hfS sg)))) 33]) ?_ ?_
  ·
   refine Xg (by kernel_rfl) 12 (by kernel_rfl) ?_
   have HF := Es.trans (zS Es.heap)
   refine q_a [0,1,2] [] 9 EE fun _ HG => ?_
   have HH := HG.fx (t := 48) (congrArg Value.bool Ei)
   have HI := HH.fx (t := 49) (congrArg Value.bool Ei)
   refine q_a [3,4,5,6] [] 5 HI fun _ HJ => ?_
   have HK := HJ.fx (t := 51) (congrArg Value.bool Ej)
   have HL := HK.fx (t := 52) (congrArg Value.bool Ej)
   have HM := HL.fx (t := 53) (congrArg Value.bool Ej)
   refine q_a [7,8,9,10,11] [] 0 HM fun _ HN => ?_
   exact a_e ⟨HN.sb, HF.pk [0, 1, 2, 3, 4, 5, 6, 7]⟩
  rintro _ _ ⟨EN, HO⟩
  refine ze <| c_t EN ?_
  refine wp_seq <| d_r [1,3,5,6,7,8,9,10,11,13,15] [] EN fun _ HP => ze <| wp_ret <| Zx <| Qh (t := 6) (v := .bool false) HP (by kernel_rfl) (by kernel_rfl) ?_
  exact ⟨by rw [ver_no2 (show isE (zm 32 sg) = false from (by simpa using Ej))], HO.pk []⟩
 have hb167p : isE (zm 32 sg) = true := by simpa using Ej
 refine r_c (fun ac wo => Env ac 77 [(1, .slice am (zc lm) cm), (3, pt Ef), (5, pt Eh), (6, .bool false), (7, pt Ee), (8, pt Ea), (9, pt Ed), (10, ni i), (11, pt Eg), (13, pt Ec), (15, pt Eb), (58, .bool (!(decide (nv (nd (lv (hfS sg))) < mF 4))))] ∧ Ev w [] wo [.box Ea (bys (zm 32 sg)) 22, .box Ed (bys (hfS sg)) 22, .box Ef (bys pb) 22, .box Eh (bys sg) 26, .box Ee (zh (nd DN)) 33, .box Eg (zh (toD pb)) 44, .box Ec (zh (toD (zm 32 sg))) 44, .box Eb (zh (nd (lv (hfS sg)))) 33]) ?_ ?_
 ·
  refine h_s (fun wv => Ev w [] wv [.box Eb (zh (nd (lv (hfS sg)))) 33]) [] 12 ?_
  have Ez := Es.trans (zS Es.heap)
  refine q_s [0,1,2] [] 9 EE (Ez.pk [7]) fun _ HQ => ?_
  have HR := HQ.fx (t := 48) (congrArg Value.bool Ei)
  have HS := HR.fx (t := 49) (congrArg Value.bool Ei)
  refine q_s [3,4,5,6] [] 5 HS (Ez.pk [7]) fun _ HT => ?_
  have HU := HT.fx (t := 51) (congrArg Value.bool Ej)
  have HV := HU.fx (t := 52) (congrArg Value.bool Ej)
  have HW := HV.fx (t := 53) (congrArg Value.bool Ej)
  refine q_r 7 (s := Instr.loadAt 33 (pt Eb)) (v := .agg (zg (zh (nd (lv (hfS sg)))))) HW (fun w hS => run_loadAgg2 (m := 4) (cs := zh (nd (lv (hfS sg)))) (zd (zl _ _)) (by kernel_rfl) (by kernel_rfl) (hS.heap.cells (k := 0) (off := 0) (m := 4) rfl (zr (zd (zl _ _))))) (Ez.pk [7]) fun _ HX => q_t 8 ?_
  refine c_p HX Ez (rmodulus_go _ 4) fun _ _ HY EO => ⟨fun _ => EO.pk [7], ?_⟩
  refine q_t 9 ?_
  refine c_p HY EO (rlessL_go _ (nd (lv (hfS sg))) (zl _ _)) fun _ _ HZ EF => ⟨fun _ => EF.pk [7], ?_⟩
  refine q_s [10,11] [] 0 HZ (EF.pk [7]) fun _ H0 => ?_
  exact h_e ⟨H0.sb, EF.pk [0, 1, 2, 3, 4, 5, 6, 7]⟩
 rintro _ _ ⟨EG, EH⟩
 refine ze <| cond_at EG (t := !(decide (nv (nd (lv (hfS sg))) < mF 4))) (by kernel_rfl) (fun Ep => ?_) (fun Ep => ?_)
 ·
  replace Ep : ¬ (nv (nd (lv (hfS sg))) < mF 4) := by simpa using Ep
  refine wp_seq <| d_r [1,3,5,6,7,8,9,10,11,13,15] [] EG fun _ H1 => ze <| wp_ret <| Zx <| Qh (t := 6) (v := .bool false) H1 (by kernel_rfl) (by kernel_rfl) ?_
  have hn : ¬ lv (hfS sg) < mF 4 := (by have h := Ep; rw [nv_nd (lv_w (Xv hsg))] at h; simpa using h)
  exact ⟨by rw [ver_no3 hn], EH.pk []⟩
 replace Ep : nv (nd (lv (hfS sg))) < mF 4 := by simpa using Ep
 refine wp_skip <| ze <| wp_seq <| r_c (fun ac wo => ∃ (Eq : Nat), Env ac 77 [(3, pt Ef), (5, pt Eh), (6, .bool false), (7, pt Ee), (8, pt Ea), (9, pt Ed), (10, ni i), (11, pt Eg), (13, pt Ec), (15, pt Eb), (16, pt Eq)] ∧ Ev w [] wo [.box Ea (bys (zm 32 sg)) 22, .box Ed (bys (hfS sg)) 22, .box Ef (bys pb) 22, .box Eh (bys sg) 26, .box Ee (zh (nd DN)) 33, .box Eg (zh (toD pb)) 44, .box Ec (zh (toD (zm 32 sg))) 44, .box Eb (zh (nd (lv (hfS sg)))) 33, .box Eq (zh (nd (nE ((zm 32 sg) ++ (pb ++ (lm)))))) 33]) ?_ ?_
 ·
  refine h_s (fun wv => Ev w [] wv [.box Ea (bys (zm 32 sg)) 22, .box Ef (bys pb) 22]) [] 7 ?_
  have Et := EH.trans (zS EH.heap)
  refine h_name fun G hG => ?_
  have nd551 : ∀ (ac : Act) (wo : World), Env ac 77 [(3, pt Ef), (5, pt Eh), (6, .bool false), (7, pt Ee), (8, pt Ea), (9, pt Ed), (10, ni i), (11, pt Eg), (13, pt Ec), (15, pt Eb), (63, .agg (zg (zh (nd (nE ((zm 32 sg) ++ (pb ++ (lm))))))))] → Ev w [] wo [.box Ea (bys (zm 32 sg)) 22, .box Ed (bys (hfS sg)) 22, .box Ef (bys pb) 22, .box Eh (bys sg) 26, .box Ee (zh (nd DN)) 33, .box Eg (zh (toD pb)) 44, .box Ec (zh (toD (zm 32 sg))) 44, .box Eb (zh (nd (lv (hfS sg)))) 33] → G 2 #[true, true, true, true, true, false, false] ac wo := by
   intro _ _ H2 H3
   refine Zr hG ?_
   refine q_t 5 ?_
   refine m_z 33 (zh (zf 4 0)) H2 H3 fun _ _ H4 H5 EP => ⟨fun _ => EP.pk [0, 2], ?_⟩
   refine q_t 6 ?_
   refine zZ 8 4 (zh (nd (nE ((zm 32 sg) ++ (pb ++ (lm)))))) _ H5 EP rfl (zd (zl _ _)) (zd (zi)) (zw _) rfl fun _ _ H6 EQ => ⟨fun _ => EQ.pk [0, 2], ?_⟩
   exact h_e ⟨H4, H6.sb, EQ.pk [0, 1, 2, 3, 4, 5, 6, 7, 8]⟩
  have nd565 : ∀ (ac : Act) (wo : World) (Ek : Nat) (Eu : Nat), Env ac 77 [(3, pt Ef), (5, pt Eh), (6, .bool false), (7, pt Ee), (8, pt Ea), (9, pt Ed), (10, ni i), (11, pt Eg), (13, pt Ec), (15, pt Eb), (16, pt Eu), (62, .slice (some ⟨Ek, 0, none⟩) 3 3)] → Ev w [] wo [.box Ea (bys (zm 32 sg)) 22, .box Ed (bys (hfS sg)) 22, .box Ef (bys pb) 22, .box Eh (bys sg) 26, .box Ee (zh (nd DN)) 33, .box Eg (zh (toD pb)) 44, .box Ec (zh (toD (zm 32 sg))) 44, .box Eb (zh (nd (lv (hfS sg)))) 33, .vec (some ⟨Ek, 0, none⟩) 3 1 [.slice (some ⟨Ea, 0, none⟩) 32 32, .slice (some ⟨Ef, 0, none⟩) 32 32, .slice am (zc lm) cm] 23, .box Eu (zh (zf 4 0)) 33] → G 2 #[true, true, true, true, false, true, false] ac wo := by
   intro _ _ Ek Eu H7 Er
   refine Zr hG ?_
   refine q_t 4 ?_
   rw [show (.slice (some ⟨Ea, 0, none⟩) 32 32 : Value) = .slice (some ⟨Ea, 0, none⟩) (zc (zm 32 sg)) 32 from by rw [show zc (zm 32 sg) = 32 from by first | omega | (simp only [Zb, Zq, zs, zy, Zj, hpb, hsg]; omega) | (simp only [Zb, Zq, zs, zy, Zj, hpb, hsg])]] at Er
   rw [show (.slice (some ⟨Ef, 0, none⟩) 32 32 : Value) = .slice (some ⟨Ef, 0, none⟩) (zc pb) 32 from by rw [show zc pb = 32 from by first | omega | (simp only [Zb, Zq, zs, zy, Zj, hpb, hsg]; omega) | (simp only [Zb, Zq, zs, zy, Zj, hpb, hsg])]] at Er
   refine c_p H7 Er (dnumber_go _ (some ⟨Ek, 0, none⟩) 3 3 ([⟨some ⟨Ea, 0, none⟩, 32, zm 32 sg⟩, ⟨some ⟨Ef, 0, none⟩, 32, pb⟩, ⟨am, cm, lm⟩] : List (Sl UInt8)) (by first | rfl | (simp; done) | (simp; omega) | omega) ⟨Er.heap.ro (k := 8) rfl [] (by kernel_rfl) rfl, (fun e => by cases e), (by simp), (by simp), (zE.2 ⟨(QD (Er.heap.roBox (k := 0) (m := 32) rfl (zr (z7 ht32)) [] (by kernel_rfl) rfl) ht32 (by first | decide | (dsimp only; decide))), (zE.2 ⟨(QD (Er.heap.roBox (k := 2) (m := 32) rfl (zr (z7 hpb)) [] (by kernel_rfl) rfl) hpb (by first | decide | (dsimp only; decide))), (zE.2 ⟨((im.ev Er).pick [] (by kernel_rfl)), (fun x h => absurd h ZF)⟩)⟩)⟩)⟩ (by simp only [Zz, Z3, ZH, zH, Zb, Zq, zs, zy, Zj, hpb, hsg]; omega) (b := (zm 32 sg) ++ (pb ++ (lm))) (by simp only [Zz, Z3, ZH])) fun _ _ H8 ER => ⟨fun _ => ER.pk [0, 2], ?_⟩
   refine q_t 6 ?_
   refine zZ 9 4 (zh (nd (nE ((zm 32 sg) ++ (pb ++ (lm)))))) [.box Ea (bys (zm 32 sg)) 22, .box Ed (bys (hfS sg)) 22, .box Ef (bys pb) 22, .box Eh (bys sg) 26, .box Ee (zh (nd DN)) 33, .box Eg (zh (toD pb)) 44, .box Ec (zh (toD (zm 32 sg))) 44, .box Eb (zh (nd (lv (hfS sg)))) 33, .vec (some ⟨Ek, 0, none⟩) 3 1 [.slice (some ⟨Ea, 0, none⟩) (zc (zm 32 sg)) 32, .slice (some ⟨Ef, 0, none⟩) (zc pb) 32, .slice am (zc lm) cm] 23, .box Eu (zh (nd (nE ((zm 32 sg) ++ (pb ++ (lm)))))) 33] H8 ER rfl (zd (zl _ _)) (zd (zi)) (zw _) rfl fun _ _ H9 ES => ⟨fun _ => ES.pk [0, 2], ?_⟩
   exact h_e ⟨Eu, H9.sb, ES.pk [0, 1, 2, 3, 4, 5, 6, 7, 9]⟩
  have nd581 : ∀ (ac : Act) (wo : World) (Ek : Nat), Env ac 77 [(3, pt Ef), (5, pt Eh), (6, .bool false), (7, pt Ee), (8, pt Ea), (9, pt Ed), (10, ni i), (11, pt Eg), (13, pt Ec), (15, pt Eb), (62, .slice (some ⟨Ek, 0, none⟩) 3 3)] → Ev w [] wo [.box Ea (bys (zm 32 sg)) 22, .box Ed (bys (hfS sg)) 22, .box Ef (bys pb) 22, .box Eh (bys sg) 26, .box Ee (zh (nd DN)) 33, .box Eg (zh (toD pb)) 44, .box Ec (zh (toD (zm 32 sg))) 44, .box Eb (zh (nd (lv (hfS sg)))) 33, .vec (some ⟨Ek, 0, none⟩) 3 1 [.slice (some ⟨Ea, 0, none⟩) 32 32, .slice (some ⟨Ef, 0, none⟩) 32 32, .slice am (zc lm) cm] 23] → G 3 #[true, true, true, true, false, false, false] ac wo := by
   intro _ _ Ek ET El
   refine Zr hG ?_
   refine QA [4, 5] (by kernel_rfl) rfl ?_
   refine ⟨?_, ?_, trivial⟩
   ·
    rintro _ rfl
    rw [show (.slice (some ⟨Ea, 0, none⟩) 32 32 : Value) = .slice (some ⟨Ea, 0, none⟩) (zc (zm 32 sg)) 32 from by rw [show zc (zm 32 sg) = 32 from by first | omega | (simp only [Zb, Zq, zs, zy, Zj, hpb, hsg]; omega) | (simp only [Zb, Zq, zs, zy, Zj, hpb, hsg])]] at El
    rw [show (.slice (some ⟨Ef, 0, none⟩) 32 32 : Value) = .slice (some ⟨Ef, 0, none⟩) (zc pb) 32 from by rw [show zc pb = 32 from by first | omega | (simp only [Zb, Zq, zs, zy, Zj, hpb, hsg]; omega) | (simp only [Zb, Zq, zs, zy, Zj, hpb, hsg])]] at El
    refine c_p ET El (dnumber_go _ (some ⟨Ek, 0, none⟩) 3 3 ([⟨some ⟨Ea, 0, none⟩, 32, zm 32 sg⟩, ⟨some ⟨Ef, 0, none⟩, 32, pb⟩, ⟨am, cm, lm⟩] : List (Sl UInt8)) (by first | rfl | (simp; done) | (simp; omega) | omega) ⟨El.heap.ro (k := 8) rfl [] (by kernel_rfl) rfl, (fun e => by cases e), (by simp), (by simp), (zE.2 ⟨(QD (El.heap.roBox (k := 0) (m := 32) rfl (zr (z7 ht32)) [] (by kernel_rfl) rfl) ht32 (by first | decide | (dsimp only; decide))), (zE.2 ⟨(QD (El.heap.roBox (k := 2) (m := 32) rfl (zr (z7 hpb)) [] (by kernel_rfl) rfl) hpb (by first | decide | (dsimp only; decide))), (zE.2 ⟨((im.ev El).pick [] (by kernel_rfl)), (fun x h => absurd h ZF)⟩)⟩)⟩)⟩ (by simp only [Zz, Z3, ZH, zH, Zb, Zq, zs, zy, Zj, hpb, hsg]; omega) (b := (zm 32 sg) ++ (pb ++ (lm))) (by simp only [Zz, Z3, ZH])) fun _ _ aa EU => ⟨fun _ => EU.pk [0, 2], ?_⟩
    exact QF hG (by kernel_rfl) (nd551 _ _ (aa.sb) (EU.pk [0, 1, 2, 3, 4, 5, 6, 7]))
   rintro _ rfl
   refine m_z 33 (zh (zf 4 0)) ET El fun _ _ ab ad EV => ⟨fun _ => EV.pk [0, 2], ?_⟩
   exact QF hG (by kernel_rfl) (nd565 _ _ Ek ab (ad.sb) (EV.pk [0, 1, 2, 3, 4, 5, 6, 7, 8, 9]))
  have nd598 : ∀ (ac : Act) (wo : World) (EA : Nat), Env ac 77 [(3, pt Ef), (5, pt Eh), (6, .bool false), (7, pt Ee), (8, pt Ea), (9, pt Ed), (10, ni i), (11, pt Eg), (13, pt Ec), (15, pt Eb), (16, pt EA), (59, .slice (some ⟨Ea, 0, none⟩) 32 32), (60, .slice (some ⟨Ef, 0, none⟩) 32 32), (61, .slice am (zc lm) cm)] → Ev w [] wo [.box Ea (bys (zm 32 sg)) 22, .box Ed (bys (hfS sg)) 22, .box Ef (bys pb) 22, .box Eh (bys sg) 26, .box Ee (zh (nd DN)) 33, .box Eg (zh (toD pb)) 44, .box Ec (zh (toD (zm 32 sg))) 44, .box Eb (zh (nd (lv (hfS sg)))) 33, .box EA (zh (zf 4 0)) 33] → G 3 #[true, true, true, false, false, true, false] ac wo := by
   intro _ _ EA ae af
   refine Zr hG ?_
   refine q_t 3 ?_
   refine ZZ (d := some 62) (t := 72) (T := 23) (m := 3) (parts := #[(0, .slice (some ⟨Ea, 0, none⟩) 32 32), (1, .slice (some ⟨Ef, 0, none⟩) 32 32), (2, .slice am (zc lm) cm)]) (xs := [.slice (some ⟨Ea, 0, none⟩) 32 32, .slice (some ⟨Ef, 0, none⟩) 32 32, .slice am (zc lm) cm]) (sz := 1) ae (by kernel_rfl) (by kernel_rfl) rfl (by decide) af ?_
   intro _ _ ag ah Em
   refine ⟨fun _ => Em.pk [0, 2], ?_⟩
   refine q_t 4 ?_
   rw [show (.slice (some ⟨Ea, 0, none⟩) 32 32 : Value) = .slice (some ⟨Ea, 0, none⟩) (zc (zm 32 sg)) 32 from by rw [show zc (zm 32 sg) = 32 from by first | omega | (simp only [Zb, Zq, zs, zy, Zj, hpb, hsg]; omega) | (simp only [Zb, Zq, zs, zy, Zj, hpb, hsg])]] at Em
   rw [show (.slice (some ⟨Ef, 0, none⟩) 32 32 : Value) = .slice (some ⟨Ef, 0, none⟩) (zc pb) 32 from by rw [show zc pb = 32 from by first | omega | (simp only [Zb, Zq, zs, zy, Zj, hpb, hsg]; omega) | (simp only [Zb, Zq, zs, zy, Zj, hpb, hsg])]] at Em
   refine c_p ah Em (dnumber_go _ (some ⟨ag, 0, none⟩) 3 3 ([⟨some ⟨Ea, 0, none⟩, 32, zm 32 sg⟩, ⟨some ⟨Ef, 0, none⟩, 32, pb⟩, ⟨am, cm, lm⟩] : List (Sl UInt8)) (by first | rfl | (simp; done) | (simp; omega) | omega) ⟨Em.heap.ro (k := 9) rfl [] (by kernel_rfl) rfl, (fun e => by cases e), (by simp), (by simp), (zE.2 ⟨(QD (Em.heap.roBox (k := 0) (m := 32) rfl (zr (z7 ht32)) [] (by kernel_rfl) rfl) ht32 (by first | decide | (dsimp only; decide))), (zE.2 ⟨(QD (Em.heap.roBox (k := 2) (m := 32) rfl (zr (z7 hpb)) [] (by kernel_rfl) rfl) hpb (by first | decide | (dsimp only; decide))), (zE.2 ⟨((im.ev Em).pick [] (by kernel_rfl)), (fun x h => absurd h ZF)⟩)⟩)⟩)⟩ (by simp only [Zz, Z3, ZH, zH, Zb, Zq, zs, zy, Zj, hpb, hsg]; omega) (b := (zm 32 sg) ++ (pb ++ (lm))) (by simp only [Zz, Z3, ZH])) fun _ _ ai EW => ⟨fun _ => EW.pk [0, 2], ?_⟩
   refine q_t 6 ?_
   refine zZ 8 4 (zh (nd (nE ((zm 32 sg) ++ (pb ++ (lm)))))) _ ai EW rfl (zd (zl _ _)) (zd (zi)) (zw _) rfl fun _ _ aj EX => ⟨fun _ => EX.pk [0, 2], ?_⟩
   exact h_e ⟨EA, aj.sb, EX.pk [0, 1, 2, 3, 4, 5, 6, 7, 8]⟩
  have nd619 : ∀ (ac : Act) (wo : World), Env ac 77 [(3, pt Ef), (5, pt Eh), (6, .bool false), (7, pt Ee), (8, pt Ea), (9, pt Ed), (10, ni i), (11, pt Eg), (13, pt Ec), (15, pt Eb), (59, .slice (some ⟨Ea, 0, none⟩) 32 32), (60, .slice (some ⟨Ef, 0, none⟩) 32 32), (61, .slice am (zc lm) cm)] → Ev w [] wo [.box Ea (bys (zm 32 sg)) 22, .box Ed (bys (hfS sg)) 22, .box Ef (bys pb) 22, .box Eh (bys sg) 26, .box Ee (zh (nd DN)) 33, .box Eg (zh (toD pb)) 44, .box Ec (zh (toD (zm 32 sg))) 44, .box Eb (zh (nd (lv (hfS sg)))) 33] → G 4 #[true, true, true, false, false, false, false] ac wo := by
   intro _ _ EY EZ
   refine Zr hG ?_
   refine QA [3, 5] (by kernel_rfl) rfl ?_
   refine ⟨?_, ?_, trivial⟩
   ·
    rintro _ rfl
    refine ZZ (d := some 62) (t := 72) (T := 23) (m := 3) (parts := #[(0, .slice (some ⟨Ea, 0, none⟩) 32 32), (1, .slice (some ⟨Ef, 0, none⟩) 32 32), (2, .slice am (zc lm) cm)]) (xs := [.slice (some ⟨Ea, 0, none⟩) 32 32, .slice (some ⟨Ef, 0, none⟩) 32 32, .slice am (zc lm) cm]) (sz := 1) EY (by kernel_rfl) (by kernel_rfl) rfl (by decide) EZ ?_
    intro _ _ ak al E0
    refine ⟨fun _ => E0.pk [0, 2], ?_⟩
    exact QF hG (by kernel_rfl) (nd581 _ _ ak (al.sb) (E0.pk [0, 1, 2, 3, 4, 5, 6, 7, 8]))
   rintro _ rfl
   refine m_z 33 (zh (zf 4 0)) EY EZ fun _ _ an ao E1 => ⟨fun _ => E1.pk [0, 2], ?_⟩
   exact QF hG (by kernel_rfl) (nd598 _ _ an (ao.sb) (E1.pk [0, 1, 2, 3, 4, 5, 6, 7, 8]))
  have nd634 : ∀ (ac : Act) (wo : World) (Ew : Nat), Env ac 77 [(3, pt Ef), (5, pt Eh), (6, .bool false), (7, pt Ee), (8, pt Ea), (9, pt Ed), (10, ni i), (11, pt Eg), (13, pt Ec), (15, pt Eb), (16, pt Ew), (59, .slice (some ⟨Ea, 0, none⟩) 32 32), (61, .slice am (zc lm) cm)] → Ev w [] wo [.box Ea (bys (zm 32 sg)) 22, .box Ed (bys (hfS sg)) 22, .box Ef (bys pb) 22, .box Eh (bys sg) 26, .box Ee (zh (nd DN)) 33, .box Eg (zh (toD pb)) 44, .box Ec (zh (toD (zm 32 sg))) 44, .box Eb (zh (nd (lv (hfS sg)))) 33, .box Ew (zh (zf 4 0)) 33] → G 4 #[true, false, true, false, false, true, false] ac wo := by
   intro _ _ Ew ap E2
   refine Zr hG ?_
   refine q_t 1 ?_
   refine ZY (d := some 60) (t := 22) (e := 5) (sz := 1) (m := 32) (lo := 0) (hi := 32) (b := Ef) (off := 0) (lov := none) (hiv := none) (o := 0) ap (by kernel_rfl) (by kernel_rfl) (by kernel_rfl) (by omega) (by omega) (by omega) (.inl ⟨rfl, rfl⟩) (.inl ⟨rfl, rfl⟩) (by omega) ?_
   intro _ aq
   refine ⟨fun _ => E2.pk [0, 2], ?_⟩
   refine q_t 3 ?_
   refine ZZ (d := some 62) (t := 72) (T := 23) (m := 3) (parts := #[(0, .slice (some ⟨Ea, 0, none⟩) 32 32), (1, .slice (some ⟨Ef, 0, none⟩) 32 32), (2, .slice am (zc lm) cm)]) (xs := [.slice (some ⟨Ea, 0, none⟩) 32 32, .slice (some ⟨Ef, 0, none⟩) 32 32, .slice am (zc lm) cm]) (sz := 1) aq (by kernel_rfl) (by kernel_rfl) rfl (by decide) E2 ?_
   intro _ _ E3 ar En
   refine ⟨fun _ => En.pk [0, 2], ?_⟩
   refine q_t 4 ?_
   rw [show (.slice (some ⟨Ea, 0, none⟩) 32 32 : Value) = .slice (some ⟨Ea, 0, none⟩) (zc (zm 32 sg)) 32 from by rw [show zc (zm 32 sg) = 32 from by first | omega | (simp only [Zb, Zq, zs, zy, Zj, hpb, hsg]; omega) | (simp only [Zb, Zq, zs, zy, Zj, hpb, hsg])]] at En
   rw [show (.slice (some ⟨Ef, 0, none⟩) 32 32 : Value) = .slice (some ⟨Ef, 0, none⟩) (zc pb) 32 from by rw [show zc pb = 32 from by first | omega | (simp only [Zb, Zq, zs, zy, Zj, hpb, hsg]; omega) | (simp only [Zb, Zq, zs, zy, Zj, hpb, hsg])]] at En
   refine c_p ar En (dnumber_go _ (some ⟨E3, 0, none⟩) 3 3 ([⟨some ⟨Ea, 0, none⟩, 32, zm 32 sg⟩, ⟨some ⟨Ef, 0, none⟩, 32, pb⟩, ⟨am, cm, lm⟩] : List (Sl UInt8)) (by first | rfl | (simp; done) | (simp; omega) | omega) ⟨En.heap.ro (k := 9) rfl [] (by kernel_rfl) rfl, (fun e => by cases e), (by simp), (by simp), (zE.2 ⟨(QD (En.heap.roBox (k := 0) (m := 32) rfl (zr (z7 ht32)) [] (by kernel_rfl) rfl) ht32 (by first | decide | (dsimp only; decide))), (zE.2 ⟨(QD (En.heap.roBox (k := 2) (m := 32) rfl (zr (z7 hpb)) [] (by kernel_rfl) rfl) hpb (by first | decide | (dsimp only; decide))), (zE.2 ⟨((im.ev En).pick [] (by kernel_rfl)), (fun x h => absurd h ZF)⟩)⟩)⟩)⟩ (by simp only [Zz, Z3, ZH, zH, Zb, Zq, zs, zy, Zj, hpb, hsg]; omega) (b := (zm 32 sg) ++ (pb ++ (lm))) (by simp only [Zz, Z3, ZH])) fun _ _ au E4 => ⟨fun _ => E4.pk [0, 2], ?_⟩
   refine q_t 6 ?_
   refine zZ 8 4 (zh (nd (nE ((zm 32 sg) ++ (pb ++ (lm)))))) [.box Ea (bys (zm 32 sg)) 22, .box Ed (bys (hfS sg)) 22, .box Ef (bys pb) 22, .box Eh (bys sg) 26, .box Ee (zh (nd DN)) 33, .box Eg (zh (toD pb)) 44, .box Ec (zh (toD (zm 32 sg))) 44, .box Eb (zh (nd (lv (hfS sg)))) 33, .box Ew (zh (nd (nE ((zm 32 sg) ++ (pb ++ (lm)))))) 33, .vec (some ⟨E3, 0, none⟩) 3 1 [.slice (some ⟨Ea, 0, none⟩) (zc (zm 32 sg)) 32, .slice (some ⟨Ef, 0, none⟩) (zc pb) 32, .slice am (zc lm) cm] 23] au E4 rfl (zd (zl _ _)) (zd (zi)) (zw _) rfl fun _ _ av E5 => ⟨fun _ => E5.pk [0, 2], ?_⟩
   exact h_e ⟨Ew, av.sb, E5.pk [0, 1, 2, 3, 4, 5, 6, 7, 8]⟩
  have nd657 : ∀ (ac : Act) (wo : World) (EB : Nat), Env ac 77 [(3, pt Ef), (5, pt Eh), (6, .bool false), (7, pt Ee), (8, pt Ea), (9, pt Ed), (10, ni i), (11, pt Eg), (13, pt Ec), (15, pt Eb), (16, pt EB), (60, .slice (some ⟨Ef, 0, none⟩) 32 32), (61, .slice am (zc lm) cm)] → Ev w [] wo [.box Ea (bys (zm 32 sg)) 22, .box Ed (bys (hfS sg)) 22, .box Ef (bys pb) 22, .box Eh (bys sg) 26, .box Ee (zh (nd DN)) 33, .box Eg (zh (toD pb)) 44, .box Ec (zh (toD (zm 32 sg))) 44, .box Eb (zh (nd (lv (hfS sg)))) 33, .box EB (zh (zf 4 0)) 33] → G 4 #[false, true, true, false, false, true, false] ac wo := by
   intro _ _ EB aw E6
   refine Zr hG ?_
   refine q_t 0 ?_
   refine ZY (d := some 59) (t := 22) (e := 5) (sz := 1) (m := 32) (lo := 0) (hi := 32) (b := Ea) (off := 0) (lov := none) (hiv := none) (o := 0) aw (by kernel_rfl) (by kernel_rfl) (by kernel_rfl) (by omega) (by omega) (by omega) (.inl ⟨rfl, rfl⟩) (.inl ⟨rfl, rfl⟩) (by omega) ?_
   intro _ ax
   refine ⟨fun _ => E6.pk [0, 2], ?_⟩
   refine q_t 3 ?_
   refine ZZ (d := some 62) (t := 72) (T := 23) (m := 3) (parts := #[(0, .slice (some ⟨Ea, 0, none⟩) 32 32), (1, .slice (some ⟨Ef, 0, none⟩) 32 32), (2, .slice am (zc lm) cm)]) (xs := [.slice (some ⟨Ea, 0, none⟩) 32 32, .slice (some ⟨Ef, 0, none⟩) 32 32, .slice am (zc lm) cm]) (sz := 1) ax (by kernel_rfl) (by kernel_rfl) rfl (by decide) E6 ?_
   intro _ _ ay az Eo
   refine ⟨fun _ => Eo.pk [0, 2], ?_⟩
   refine q_t 4 ?_
   rw [show (.slice (some ⟨Ea, 0, none⟩) 32 32 : Value) = .slice (some ⟨Ea, 0, none⟩) (zc (zm 32 sg)) 32 from by rw [show zc (zm 32 sg) = 32 from by first | omega | (simp only [Zb, Zq, zs, zy, Zj, hpb, hsg]; omega) | (simp only [Zb, Zq, zs, zy, Zj, hpb, hsg])]] at Eo
   rw [show (.slice (some ⟨Ef, 0, none⟩) 32 32 : Value) = .slice (some ⟨Ef, 0, none⟩) (zc pb) 32 from by rw [show zc pb = 32 from by first | omega | (simp only [Zb, Zq, zs, zy, Zj, hpb, hsg]; omega) | (simp only [Zb, Zq, zs, zy, Zj, hpb, hsg])]] at Eo
   refine c_p az Eo (dnumber_go _ (some ⟨ay, 0, none⟩) 3 3 ([⟨some ⟨Ea, 0, none⟩, 32, zm 32 sg⟩, ⟨some ⟨Ef, 0, none⟩, 32, pb⟩, ⟨am, cm, lm⟩] : List (Sl UInt8)) (by first | rfl | (simp; done) | (simp; omega) | omega) ⟨Eo.heap.ro (k := 9) rfl [] (by kernel_rfl) rfl, (fun e => by cases e), (by simp), (by simp), (zE.2 ⟨(QD (Eo.heap.roBox (k := 0) (m := 32) rfl (zr (z7 ht32)) [] (by kernel_rfl) rfl) ht32 (by first | decide | (dsimp only; decide))), (zE.2 ⟨(QD (Eo.heap.roBox (k := 2) (m := 32) rfl (zr (z7 hpb)) [] (by kernel_rfl) rfl) hpb (by first | decide | (dsimp only; decide))), (zE.2 ⟨((im.ev Eo).pick [] (by kernel_rfl)), (fun x h => absurd h ZF)⟩)⟩)⟩)⟩ (by simp only [Zz, Z3, ZH, zH, Zb, Zq, zs, zy, Zj, hpb, hsg]; omega) (b := (zm 32 sg) ++ (pb ++ (lm))) (by simp only [Zz, Z3, ZH])) fun _ _ aA E7 => ⟨fun _ => E7.pk [0, 2], ?_⟩
   refine q_t 6 ?_
   refine zZ 8 4 (zh (nd (nE ((zm 32 sg) ++ (pb ++ (lm)))))) _ aA E7 rfl (zd (zl _ _)) (zd (zi)) (zw _) rfl fun _ _ aB E8 => ⟨fun _ => E8.pk [0, 2], ?_⟩
   exact h_e ⟨EB, aB.sb, E8.pk [0, 1, 2, 3, 4, 5, 6, 7, 8]⟩
  have nd680 : ∀ (ac : Act) (wo : World), Env ac 77 [(3, pt Ef), (5, pt Eh), (6, .bool false), (7, pt Ee), (8, pt Ea), (9, pt Ed), (10, ni i), (11, pt Eg), (13, pt Ec), (15, pt Eb), (59, .slice (some ⟨Ea, 0, none⟩) 32 32), (61, .slice am (zc lm) cm)] → Ev w [] wo [.box Ea (bys (zm 32 sg)) 22, .box Ed (bys (hfS sg)) 22, .box Ef (bys pb) 22, .box Eh (bys sg) 26, .box Ee (zh (nd DN)) 33, .box Eg (zh (toD pb)) 44, .box Ec (zh (toD (zm 32 sg))) 44, .box Eb (zh (nd (lv (hfS sg)))) 33] → G 5 #[true, false, true, false, false, false, false] ac wo := by
   intro _ _ E9 EI
   refine Zr hG ?_
   refine QA [1, 5] (by kernel_rfl) rfl ?_
   refine ⟨?_, ?_, trivial⟩
   ·
    rintro _ rfl
    refine ZY (d := some 60) (t := 22) (e := 5) (sz := 1) (m := 32) (lo := 0) (hi := 32) (b := Ef) (off := 0) (lov := none) (hiv := none) (o := 0) E9 (by kernel_rfl) (by kernel_rfl) (by kernel_rfl) (by omega) (by omega) (by omega) (.inl ⟨rfl, rfl⟩) (.inl ⟨rfl, rfl⟩) (by omega) ?_
    intro _ aC
    refine ⟨fun _ => EI.pk [0, 2], ?_⟩
    exact QF hG (by kernel_rfl) (nd619 _ _ (aC.sb) (EI.pk [0, 1, 2, 3, 4, 5, 6, 7]))
   rintro _ rfl
   refine m_z 33 (zh (zf 4 0)) E9 EI fun _ _ aD aE Ha => ⟨fun _ => Ha.pk [0, 2], ?_⟩
   exact QF hG (by kernel_rfl) (nd634 _ _ aD (aE.sb) (Ha.pk [0, 1, 2, 3, 4, 5, 6, 7, 8]))
  have nd692 : ∀ (ac : Act) (wo : World), Env ac 77 [(3, pt Ef), (5, pt Eh), (6, .bool false), (7, pt Ee), (8, pt Ea), (9, pt Ed), (10, ni i), (11, pt Eg), (13, pt Ec), (15, pt Eb), (60, .slice (some ⟨Ef, 0, none⟩) 32 32), (61, .slice am (zc lm) cm)] → Ev w [] wo [.box Ea (bys (zm 32 sg)) 22, .box Ed (bys (hfS sg)) 22, .box Ef (bys pb) 22, .box Eh (bys sg) 26, .box Ee (zh (nd DN)) 33, .box Eg (zh (toD pb)) 44, .box Ec (zh (toD (zm 32 sg))) 44, .box Eb (zh (nd (lv (hfS sg)))) 33] → G 5 #[false, true, true, false, false, false, false] ac wo := by
   intro _ _ Hb EJ
   refine Zr hG ?_
   refine QA [0, 5] (by kernel_rfl) rfl ?_
   refine ⟨?_, ?_, trivial⟩
   ·
    rintro _ rfl
    refine ZY (d := some 59) (t := 22) (e := 5) (sz := 1) (m := 32) (lo := 0) (hi := 32) (b := Ea) (off := 0) (lov := none) (hiv := none) (o := 0) Hb (by kernel_rfl) (by kernel_rfl) (by kernel_rfl) (by omega) (by omega) (by omega) (.inl ⟨rfl, rfl⟩) (.inl ⟨rfl, rfl⟩) (by omega) ?_
    intro _ aF
    refine ⟨fun _ => EJ.pk [0, 2], ?_⟩
    exact QF hG (by kernel_rfl) (nd619 _ _ (aF.sb) (EJ.pk [0, 1, 2, 3, 4, 5, 6, 7]))
   rintro _ rfl
   refine m_z 33 (zh (zf 4 0)) Hb EJ fun _ _ aG aH Hc => ⟨fun _ => Hc.pk [0, 2], ?_⟩
   exact QF hG (by kernel_rfl) (nd657 _ _ aG (aH.sb) (Hc.pk [0, 1, 2, 3, 4, 5, 6, 7, 8]))
  have nd704 : ∀ (ac : Act) (wo : World) (Ex : Nat), Env ac 77 [(3, pt Ef), (5, pt Eh), (6, .bool false), (7, pt Ee), (8, pt Ea), (9, pt Ed), (10, ni i), (11, pt Eg), (13, pt Ec), (15, pt Eb), (16, pt Ex), (61, .slice am (zc lm) cm)] → Ev w [] wo [.box Ea (bys (zm 32 sg)) 22, .box Ed (bys (hfS sg)) 22, .box Ef (bys pb) 22, .box Eh (bys sg) 26, .box Ee (zh (nd DN)) 33, .box Eg (zh (toD pb)) 44, .box Ec (zh (toD (zm 32 sg))) 44, .box Eb (zh (nd (lv (hfS sg)))) 33, .box Ex (zh (zf 4 0)) 33] → G 5 #[false, false, true, false, false, true, false] ac wo := by
   intro _ _ Ex Hd EC
   refine Zr hG ?_
   refine QA [0, 1] (by kernel_rfl) rfl ?_
   refine ⟨?_, ?_, trivial⟩
   ·
    rintro _ rfl
    refine ZY (d := some 59) (t := 22) (e := 5) (sz := 1) (m := 32) (lo := 0) (hi := 32) (b := Ea) (off := 0) (lov := none) (hiv := none) (o := 0) Hd (by kernel_rfl) (by kernel_rfl) (by kernel_rfl) (by omega) (by omega) (by omega) (.inl ⟨rfl, rfl⟩) (.inl ⟨rfl, rfl⟩) (by omega) ?_
    intro _ aI
    refine ⟨fun _ => EC.pk [0, 2], ?_⟩
    exact QF hG (by kernel_rfl) (nd634 _ _ Ex (aI.sb) (EC.pk [0, 1, 2, 3, 4, 5, 6, 7, 8]))
   rintro _ rfl
   refine ZY (d := some 60) (t := 22) (e := 5) (sz := 1) (m := 32) (lo := 0) (hi := 32) (b := Ef) (off := 0) (lov := none) (hiv := none) (o := 0) Hd (by kernel_rfl) (by kernel_rfl) (by kernel_rfl) (by omega) (by omega) (by omega) (.inl ⟨rfl, rfl⟩) (.inl ⟨rfl, rfl⟩) (by omega) ?_
   intro _ aJ
   refine ⟨fun _ => EC.pk [0, 2], ?_⟩
   exact QF hG (by kernel_rfl) (nd657 _ _ Ex (aJ.sb) (EC.pk [0, 1, 2, 3, 4, 5, 6, 7, 8]))
  refine Zr hG ?_
  refine q_s [2] [] 6 EG (Et.pk [0, 2]) fun _ EK => QA [0, 1, 5] (by kernel_rfl) rfl ?_
  refine ⟨?_, ?_, ?_, trivial⟩
  ·
   rintro _ rfl
   refine ZY (d := some 59) (t := 22) (e := 5) (sz := 1) (m := 32) (lo := 0) (hi := 32) (b := Ea) (off := 0) (lov := none) (hiv := none) (o := 0) EK (by kernel_rfl) (by kernel_rfl) (by kernel_rfl) (by omega) (by omega) (by omega) (.inl ⟨rfl, rfl⟩) (.inl ⟨rfl, rfl⟩) (by omega) ?_
   intro _ aK
   refine ⟨fun _ => Et.pk [0, 2], ?_⟩
   exact QF hG (by kernel_rfl) (nd680 _ _ (aK.sb) (Et.pk [0, 1, 2, 3, 4, 5, 6, 7]))
  ·
   rintro _ rfl
   refine ZY (d := some 60) (t := 22) (e := 5) (sz := 1) (m := 32) (lo := 0) (hi := 32) (b := Ef) (off := 0) (lov := none) (hiv := none) (o := 0) EK (by kernel_rfl) (by kernel_rfl) (by kernel_rfl) (by omega) (by omega) (by omega) (.inl ⟨rfl, rfl⟩) (.inl ⟨rfl, rfl⟩) (by omega) ?_
   intro _ aL
   refine ⟨fun _ => Et.pk [0, 2], ?_⟩
   exact QF hG (by kernel_rfl) (nd692 _ _ (aL.sb) (Et.pk [0, 1, 2, 3, 4, 5, 6, 7]))
  rintro _ rfl
  refine m_z 33 (zh (zf 4 0)) EK Et fun _ _ aM aN He => ⟨fun _ => He.pk [0, 2], ?_⟩
  exact QF hG (by kernel_rfl) (nd704 _ _ aM (aN.sb) (He.pk [0, 1, 2, 3, 4, 5, 6, 7, 8]))
 rintro _ _ ⟨Eq, aO, Hf⟩
 refine ze <| wp_seq <| r_c (fun ac wo => Env ac 77 [(3, pt Ef), (5, pt Eh), (6, .bool (Jf (k1 (mnF Yk (nv (nd (lv (hfS sg)))) 256)) (k2 (mnF Yk (nv (nd (lv (hfS sg)))) 256)) (j3 (mnF Yk (nv (nd (lv (hfS sg)))) 256)) (k1 (plD (toD (zm 32 sg)) (mnF (toD pb) (nv (nd (nE ((zm 32 sg) ++ (pb ++ (lm)))))) 256))) (k2 (plD (toD (zm 32 sg)) (mnF (toD pb) (nv (nd (nE ((zm 32 sg) ++ (pb ++ (lm)))))) 256))) (j3 (plD (toD (zm 32 sg)) (mnF (toD pb) (nv (nd (nE ((zm 32 sg) ++ (pb ++ (lm)))))) 256))))), (7, pt Ee), (8, pt Ea), (9, pt Ed), (10, ni i), (11, pt Eg), (13, pt Ec), (15, pt Eb), (16, pt Eq)] ∧ Ev w [] wo [.box Ea (bys (zm 32 sg)) 22, .box Ed (bys (hfS sg)) 22, .box Ef (bys pb) 22, .box Eh (bys sg) 26, .box Ee (zh (nd DN)) 33, .box Eg (zh (toD pb)) 44, .box Ec (zh (toD (zm 32 sg))) 44, .box Eb (zh (nd (lv (hfS sg)))) 33, .box Eq (zh (nd (nE ((zm 32 sg) ++ (pb ++ (lm)))))) 33]) ?_ ?_
 ·
  refine s_g0 [(3, pt Ef), (5, pt Eh), (7, pt Ee), (8, pt Ea), (9, pt Ed), (10, ni i), (11, pt Eg), (13, pt Ec), (15, pt Eb), (16, pt Eq)] [0,1,2,3,4,5,6,7,8,9,10,11,12,13] [(6, .bool (Jf (k1 (mnF Yk (nv (nd (lv (hfS sg)))) 256)) (k2 (mnF Yk (nv (nd (lv (hfS sg)))) 256)) (j3 (mnF Yk (nv (nd (lv (hfS sg)))) 256)) (k1 (plD (toD (zm 32 sg)) (mnF (toD pb) (nv (nd (nE ((zm 32 sg) ++ (pb ++ (lm)))))) 256))) (k2 (plD (toD (zm 32 sg)) (mnF (toD pb) (nv (nd (nE ((zm 32 sg) ++ (pb ++ (lm)))))) 256))) (j3 (plD (toD (zm 32 sg)) (mnF (toD pb) (nv (nd (nE ((zm 32 sg) ++ (pb ++ (lm)))))) 256))))), (64, .agg (zg (zh (nd (lv (hfS sg)))))), (65, .agg (zg (zh (nd DN)))), (66, .agg (zg (zh Yk))), (67, .agg (zg (zh (nd DN)))), (68, .agg (zg (zh (mnF Yk (nv (nd (lv (hfS sg)))) 256)))), (69, .agg (zg (zh (toD (zm 32 sg))))), (70, .agg (zg (zh (nd (nE ((zm 32 sg) ++ (pb ++ (lm)))))))), (71, .agg (zg (zh (toD pb)))), (72, .agg (zg (zh (nd DN)))), (73, .agg (zg (zh (mnF (toD pb) (nv (nd (nE ((zm 32 sg) ++ (pb ++ (lm)))))) 256)))), (74, .agg (zg (zh (nd DN)))), (75, .agg (zg (zh (plD (toD (zm 32 sg)) (mnF (toD pb) (nv (nd (nE ((zm 32 sg) ++ (pb ++ (lm)))))) 256))))), (76, .bool (Jf (k1 (mnF Yk (nv (nd (lv (hfS sg)))) 256)) (k2 (mnF Yk (nv (nd (lv (hfS sg)))) 256)) (j3 (mnF Yk (nv (nd (lv (hfS sg)))) 256)) (k1 (plD (toD (zm 32 sg)) (mnF (toD pb) (nv (nd (nE ((zm 32 sg) ++ (pb ++ (lm)))))) 256))) (k2 (plD (toD (zm 32 sg)) (mnF (toD pb) (nv (nd (nE ((zm 32 sg) ++ (pb ++ (lm)))))) 256))) (j3 (plD (toD (zm 32 sg)) (mnF (toD pb) (nv (nd (nE ((zm 32 sg) ++ (pb ++ (lm)))))) 256)))))] 0 [(3, pt Ef), (5, pt Eh), (6, .bool (Jf (k1 (mnF Yk (nv (nd (lv (hfS sg)))) 256)) (k2 (mnF Yk (nv (nd (lv (hfS sg)))) 256)) (j3 (mnF Yk (nv (nd (lv (hfS sg)))) 256)) (k1 (plD (toD (zm 32 sg)) (mnF (toD pb) (nv (nd (nE ((zm 32 sg) ++ (pb ++ (lm)))))) 256))) (k2 (plD (toD (zm 32 sg)) (mnF (toD pb) (nv (nd (nE ((zm 32 sg) ++ (pb ++ (lm)))))) 256))) (j3 (plD (toD (zm 32 sg)) (mnF (toD pb) (nv (nd (nE ((zm 32 sg) ++ (pb ++ (lm)))))) 256))))), (7, pt Ee), (8, pt Ea), (9, pt Ed), (10, ni i), (11, pt Eg), (13, pt Ec), (15, pt Eb), (16, pt Eq)] (aO.sb) (Hf.trans (zS Hf.heap)) ?_ fun _ _ aP aQ => ?_
  ·
   refine s_a 7 0 4 (zh (nd (lv (hfS sg)))) rfl (zr (zd (zl _ _))) (zd (zl _ _)) <| s_a 4 0 4 (zh (nd DN)) rfl (zr (zd (zl _ _))) (zd (zl _ _)) <| s_f (fun _ => dbase_go _) ?_
   refine s_a 4 0 4 (zh (nd DN)) rfl (zr (zd (zl _ _))) (zd (zl _ _)) <| s_f (fun _ => many12_go _ Yk (nd (lv (hfS sg))) (JS _ _) (zl _ _)) ?_
   refine s_a 6 0 12 (zh (toD (zm 32 sg))) rfl (zr (zd (Xs _))) (zd (Xs _)) <| s_a 8 0 4 (zh (nd (nE ((zm 32 sg) ++ (pb ++ (lm)))))) rfl (zr (zd (zl _ _))) (zd (zl _ _)) <| s_a 5 0 12 (zh (toD pb)) rfl (zr (zd (Xs _))) (zd (Xs _)) <| s_a 4 0 4 (zh (nd DN)) rfl (zr (zd (zl _ _))) (zd (zl _ _)) <| s_f (fun _ => many12_go _ (toD pb) (nd (nE ((zm 32 sg) ++ (pb ++ (lm))))) (Xs _) (zl _ _)) ?_
   refine s_a 4 0 4 (zh (nd DN)) rfl (zr (zd (zl _ _))) (zd (zl _ _)) <| s_f (fun _ => plus12_go _ (toD (zm 32 sg)) (mnF (toD pb) (nv (nd (nE ((zm 32 sg) ++ (pb ++ (lm)))))) 256) (Xs _) (mnF_len _ _ _)) ?_
   refine s_f (fun _ => alike12_go _ (mnF Yk (nv (nd (lv (hfS sg)))) 256) (plD (toD (zm 32 sg)) (mnF (toD pb) (nv (nd (nE ((zm 32 sg) ++ (pb ++ (lm)))))) 256)) (mnF_len _ _ _) (Xe _ _)) ?_
   refine s_p [] ?_
   exact s_n
  exact a_e ⟨aP.sb, aQ.pk [0, 1, 2, 3, 4, 5, 6, 7, 8]⟩
 rintro _ _ ⟨aR, aS⟩
 refine ze <| wp_ret <| Qh (t := 6) (v := .bool (Jf (k1 (mnF Yk (nv (nd (lv (hfS sg)))) 256)) (k2 (mnF Yk (nv (nd (lv (hfS sg)))) 256)) (j3 (mnF Yk (nv (nd (lv (hfS sg)))) 256)) (k1 (plD (toD (zm 32 sg)) (mnF (toD pb) (nv (nd (nE ((zm 32 sg) ++ (pb ++ (lm)))))) 256))) (k2 (plD (toD (zm 32 sg)) (mnF (toD pb) (nv (nd (nE ((zm 32 sg) ++ (pb ++ (lm)))))) 256))) (j3 (plD (toD (zm 32 sg)) (mnF (toD pb) (nv (nd (nE ((zm 32 sg) ++ (pb ++ (lm)))))) 256))))) aR (by kernel_rfl) (by kernel_rfl) ?_
 have hy : lv (hfS sg) < mF 4 := (by have h := Ep; rw [nv_nd (lv_w (Xv hsg))] at h; simpa using h)
 exact ⟨congrArg (fun t : Bool => Ending.returned (.bool t)) (dver_yes hsg (by simpa using Ei) (by simpa using Ej) hy rfl rfl), aS.pk []⟩
def seedH : List UInt8 := [157, 97, 177, 157, 239, 253, 90, 96, 186, 132, 74, 244, 146, 236, 44, 196, 68, 73, 197, 105, 123, 50, 105, 25, 112, 59, 172, 3, 28, 174, 127, 96]
def pubH : List UInt8 := [215, 90, 152, 1, 130, 177, 10, 183, 213, 75, 254, 211, 201, 100, 7, 58, 14, 225, 114, 243, 218, 166, 35, 37, 175, 2, 26, 104, 247, 7, 81, 26]
theorem sE_head : sE seedH = 36144925721603087658594284515452164870581325872720374094707712194495455132720 := by decide +kernel
theorem puN {n f : Nat} (h : n < 2 ^ f) : outN (zq 1 (mulG f n (BX, BY_, 1, zq 1 BX BY_)).1 (ivE (mulG f n (BX, BY_, 1, zq 1 BX BY_)).2.2.1)) (zq 1 (mulG f n (BX, BY_, 1, zq 1 BX BY_)).2.1 (ivE (mulG f n (BX, BY_, 1, zq 1 BX BY_)).2.2.1)) = puE n := by
  have r := repN_mul f n _ gB h repB
  rw [puE, outE, aff_x r.1 r.2.1, aff_x r.1 r.2.2.1]
theorem pu_head : puE (sE seedH) = pubH := by
  rw [sE_head, ← puN (n := 36144925721603087658594284515452164870581325872720374094707712194495455132720) (f := 255) (by decide), ivE_pw]
  decide +kernel
theorem public_head (w : World) (gk32 : InU32 w [] (some ⟨0, 0, none⟩) 64 Sh.K32) (gk64 : InU64 w [] (some ⟨1, 0, none⟩) 80 Sh.K64) : Calls zB 6 #[.agg #[.int .u8 157, .int .u8 97, .int .u8 177, .int .u8 157, .int .u8 239, .int .u8 253, .int .u8 90, .int .u8 96, .int .u8 186, .int .u8 132, .int .u8 74, .int .u8 244, .int .u8 146, .int .u8 236, .int .u8 44, .int .u8 196, .int .u8 68, .int .u8 73, .int .u8 197, .int .u8 105, .int .u8 123, .int .u8 50, .int .u8 105, .int .u8 25, .int .u8 112, .int .u8 59, .int .u8 172, .int .u8 3, .int .u8 28, .int .u8 174, .int .u8 127, .int .u8 96]] w fun e w' => e = .returned (.agg (zg (bys pubH))) ∧ Ev w [] w' [] := by
  have h := public_go w seedH rfl gk32 gk64
  rw [pu_head] at h
  exact h
theorem head_ok (w : World) (gk32 : InU32 w [] (some ⟨0, 0, none⟩) 64 Sh.K32) (gk64 : InU64 w [] (some ⟨1, 0, none⟩) 80 Sh.K64) : Calls zB 5 #[] w fun e w' => e = .returned (.bool true) ∧ Ev w [] w' [] := by
 have hpH : zc pubH = 32 := rfl
 refine d_0 [] 24 Tryz.func5 Tryz.ntmps5 (Heap.nil _) fun Ey Ez EA => d_s [0] [] Ez fun _ EB => wp_seq <| zk <| d_k [0,3] [] 1 EB fun _ EC => f_o <| m_z 22 (bys (zf 32 0)) EC EA fun _ _ ED EE EF => f_o <| zZ 0 32 (bys ([157, 97, 177, 157, 239, 253, 90, 96, 186, 132, 74, 244, 146, 236, 44, 196, 68, 73, 197, 105, 123, 50, 105, 25, 112, 59, 172, 3, 28, 174, 127, 96] : List UInt8)) _ EE EF rfl (z7 (show zc ([157, 97, 177, 157, 239, 253, 90, 96, 186, 132, 74, 244, 146, 236, 44, 196, 68, 73, 197, 105, 123, 50, 105, 25, 112, 59, 172, 3, 28, 174, 127, 96] : List UInt8) = 32 from rfl)) (z7 (zi)) (ZC _) rfl fun _ _ Ec Eb => f_e <| ze <| wp_seq <| zk <| f_o <| Zn 0 32 (bys ([157, 97, 177, 157, 239, 253, 90, 96, 186, 132, 74, 244, 146, 236, 44, 196, 68, 73, 197, 105, 123, 50, 105, 25, 112, 59, 172, 3, 28, 174, 127, 96] : List UInt8)) Ec Eb rfl (z7 (show zc ([157, 97, 177, 157, 239, 253, 90, 96, 186, 132, 74, 244, 146, 236, 44, 196, 68, 73, 197, 105, 123, 50, 105, 25, 112, 59, 172, 3, 28, 174, 127, 96] : List UInt8) = 32 from rfl)) fun _ Ed => ?_
 refine f_o <| c_p Ed Eb (public_head _ ((gk32.ev Eb).pick [] (by kernel_rfl)) ((gk64.ev Eb).pick [] (by kernel_rfl))) fun _ _ Ee Ef => f_o <| m_z 22 (bys (zf 32 0)) Ee Ef fun _ _ Eg Eh Ei => f_o <| zZ 1 32 (bys pubH) [.box ED (bys ([157, 97, 177, 157, 239, 253, 90, 96, 186, 132, 74, 244, 146, 236, 44, 196, 68, 73, 197, 105, 123, 50, 105, 25, 112, 59, 172, 3, 28, 174, 127, 96] : List UInt8)) 22, .box Eg (bys pubH) 22] Eh Ei rfl (z7 hpH) (z7 (zi)) (ZC _) rfl fun _ _ Ej Ea => f_e <| ze <| wp_seq <| zk <| d_k [0,1,2,6] [] 1 Ej fun _ Ek => f_o ?_
 have El : 0 < zc pubH := by rw [hpH]; omega
 refine m_v 1 0 (bv (za pubH 0 0)) Ek Ea rfl (Qr El) fun _ Em => d_k [0,1,2,9,10] [(2, g_b (show (((zM (za pubH 0 0) : Nat) : Int) == (215 : Int)) = true from (by decide)))] 5 Em fun _ En => f_o ?_
 have Eo : 1 < zc pubH := by rw [hpH]; omega
 refine m_v 1 1 (bv (za pubH 1 0)) En Ea rfl (Qr Eo) fun _ Ep => d_k [0,1,2,14,15] [(6, g_b (show (((zM (za pubH 1 0) : Nat) : Int) == (90 : Int)) = true from (by decide)))] 10 Ep fun _ Eq => f_o ?_
 have Er : 30 < zc pubH := by rw [hpH]; omega
 refine m_v 1 30 (bv (za pubH 30 0)) Eq Ea rfl (Qr Er) fun _ Es => d_k [0,1,2,19,20] [(11, g_b (show (((zM (za pubH 30 0) : Nat) : Int) == (81 : Int)) = true from (by decide)))] 15 Es fun _ Et => f_o ?_
 have Eu : 31 < zc pubH := by rw [hpH]; omega
 refine m_v 1 31 (bv (za pubH 31 0)) Et Ea rfl (Qr Eu) fun _ Ew => d_e [0,1,2] [(16, g_b (show (((zM (za pubH 31 0) : Nat) : Int) == (26 : Int)) = true from (by decide)))] Ew fun _ Ex => ze <| wp_ret <| Qh (t := 0) (v := .bool true) Ex (by kernel_rfl) (by kernel_rfl) ?_
 exact ⟨rfl, Ea.pk []⟩
theorem verifies_walk (pb : List UInt8) (a_m : Option Addr) (c_m : Nat) (m : List UInt8) (sg : List UInt8) (a : UInt8) (b : UInt8) (w : World) (n_pb : (zc pb = 32)) (i_m : InB w [] a_m c_m m) (s_m : zc m ≤ 140737488351232) (n_sg : (zc sg = 64)) (gk32 : InU32 w [] (some ⟨0, 0, none⟩) 64 Sh.K32) (gk64 : InU64 w [] (some ⟨1, 0, none⟩) 80 Sh.K64) : Calls zB 4 #[.agg (zg (bys pb)), .slice a_m (zc m) c_m, .agg (zg (bys sg)), bv a, bv b] w fun e w' => e = .returned (.bool true) ∧ Ev w [] w' [] := by
 have hs := i_m.small
 have EQ := i_m.cap
 have ha8 : zM a < 256 := a.toNat_lt
 refine d_0 [(0, .agg (zg (bys pb))), (1, .slice a_m (zc m) c_m), (2, .agg (zg (bys sg))), (3, bv a), (4, bv b)] 38 Tryz.func4 Tryz.ntmps4 (Heap.nil _) fun EJ EK EL => wp_seq <| zk <| f_o <| m_m 22 (bys pb) EK EL fun _ _ EI EM EN => f_o <| m_m 26 (bys sg) EM EN fun _ _ EO EP Ec => d_e [1,3,4,5,7,10] [] EP fun _ Ek => ze <| wp_seq <| zk <| f_o <| c_p Ek Ec (head_ok _ ((gk32.ev Ec).pick [] (by kernel_rfl)) ((gk64.ev Ec).pick [] (by kernel_rfl))) fun _ _ El Ed => d_e [1,3,4,5,7,10,11] [] El fun _ Em => ?_
 refine ze <| wp_seq <| zk <| f_o <| Zn 1 64 (bys sg) Em Ed rfl (z7 n_sg) fun _ En => f_o <| m_z 26 (bys (zf 64 0)) En Ed fun _ _ Ea Eo Ep => f_o <| zZ 2 64 (bys sg) _ Eo Ep rfl (z7 n_sg) (z7 (zi)) (ZC _) rfl fun _ _ Eq Ee => f_e <| ze <| d_s [1,4,5,10,11,12,13] [(1, g_i .i64 (Go.Dbr.u8_to_i64 (x := a) rfl)), (2, g_i .i64 (show Jk ((zM a : Nat) : Int) (64 : Int) = (((zM a) % 64 : Nat) : Int) from Qz (a := ((zM a : Nat) : Int)) (n := zM a) (m := 64) rfl (by omega)))] Eq fun _ Er => wp_seq <| zk <| d_k [1,4,5,10,11,12,19,20] [] 2 Er fun _ Es => f_o <| q_v (x := Instr.indexAt 26 (pt Ea) (ni ((zM a) % 64))) (v := .pointer (some ⟨Ea, (zM a) % 64, none⟩)) Es (zt (e := 5) (sz := 1) (m := 64) (j := (zM a) % 64) (o := (zM a) % 64) (by kernel_rfl) (by kernel_rfl) (by omega) (by omega) (by omega) _) fun _ Et => ?_
 refine f_o ?_
 have Eu : (zM a) % 64 < zc sg := by rw [n_sg]; omega
 refine m_v 2 ((zM a) % 64) (bv (za sg ((zM a) % 64) 0)) Et Ee rfl (Qr Eu) fun _ Ew => d_k [1,5,10,11,12,19,24] [(5, g_i .u8 (Go.Dbr.u8_xor (x := za sg ((zM a) % 64) 0) (y := b) rfl rfl))] 6 Ew fun _ Ex => f_o <| q_v (x := Instr.indexAt 26 (pt Ea) (ni ((zM a) % 64))) (v := .pointer (some ⟨Ea, (zM a) % 64, none⟩)) Ex (zt (e := 5) (sz := 1) (m := 64) (j := (zM a) % 64) (o := (zM a) % 64) (by kernel_rfl) (by kernel_rfl) (by omega) (by omega) (by omega) _) fun _ Ey => f_o ?_
 have Ez : (zM a) % 64 < zc sg := by rw [n_sg]; omega
 refine m_t 2 ((zM a) % 64) (bv ((za sg ((zM a) % 64) 0) ^^^ b)) [.box EI (bys pb) 22, .box EO (bys sg) 26, .box Ea (bys (zp sg ((zM a) % 64) ((za sg ((zM a) % 64) 0) ^^^ b))) 26] Ey Ee rfl (Qr Ez) (bys_set _ _ _) rfl fun _ _ EA Ef => ?_
 refine f_e <| ze <| wp_seq <| r_c (fun ac wo => Env ac 38 [(10, .bool true), (12, pt Ea)] ∧ Ev w [] wo [.box Ea (bys (zp sg ((zM a) % 64) ((za sg ((zM a) % 64) 0) ^^^ b))) 26]) ?_ ?_
 ·
  refine s_g0 [(1, .slice a_m (zc m) c_m), (5, pt EI), (11, .bool true), (12, pt Ea)] [0,1,2,3,4,5,6,7,8,9,10,11,12] [(10, .bool true), (26, .bool true), (27, .bool true), (28, .agg (zg (bys pb))), (29, .slice a_m (zc m) c_m), (30, .agg (zg (bys (zp sg ((zM a) % 64) ((za sg ((zM a) % 64) 0) ^^^ b))))), (31, .bool (X0 pb m (zp sg ((zM a) % 64) ((za sg ((zM a) % 64) 0) ^^^ b)))), (32, .agg (zg (bys pb))), (33, .slice a_m (zc m) c_m), (34, .agg (zg (bys (zp sg ((zM a) % 64) ((za sg ((zM a) % 64) 0) ^^^ b))))), (35, .bool (X0 pb m (zp sg ((zM a) % 64) ((za sg ((zM a) % 64) 0) ^^^ b)))), (36, .bool true), (37, .bool true)] 0 [(10, .bool true), (12, pt Ea)] (EA.sb) (Ef.trans (zS Ef.heap)) ?_ fun _ _ EB Eg => ?_
  ·
   refine s_p [] <| s_p [] <| s_a 0 0 32 (bys pb) rfl (zr (z7 n_pb)) (z7 n_pb) <| s_p [] <| s_a 2 0 64 (bys (zp sg ((zM a) % 64) ((za sg ((zM a) % 64) 0) ^^^ b))) rfl (zr (z7 (List.length_set.trans n_sg))) (z7 (List.length_set.trans n_sg)) ?_
   refine s_c (fun Mx61 _ _ EC Eb => ?_) ?_
   ·
    refine c_p EC Eb (verify_go _ pb n_pb a_m (zc m) c_m m (by first | rfl | (simp; done) | (simp; omega) | omega) ((i_m.ev Eb).pick [] (by kernel_rfl)) (zp sg ((zM a) % 64) ((za sg ((zM a) % 64) 0) ^^^ b)) (List.length_set.trans n_sg) ((gk32.ev Eb).pick [] (by kernel_rfl)) ((gk64.ev Eb).pick [] (by kernel_rfl))) fun _ _ ED EE => ?_
    exact s_e ED EE
   refine s_a 0 0 32 (bys pb) rfl (zr (z7 n_pb)) (z7 n_pb) <| s_p [] <| s_a 2 0 64 (bys (zp sg ((zM a) % 64) ((za sg ((zM a) % 64) 0) ^^^ b))) rfl (zr (z7 (List.length_set.trans n_sg))) (z7 (List.length_set.trans n_sg)) ?_
   refine s_c (fun Mx84 _ _ EF Eh => ?_) ?_
   ·
    refine c_p EF Eh (dverify_go _ pb n_pb a_m (zc m) c_m m (by first | rfl | (simp; done) | (simp; omega) | omega) ((i_m.ev Eh).pick [] (by kernel_rfl)) (zp sg ((zM a) % 64) ((za sg ((zM a) % 64) 0) ^^^ b)) (List.length_set.trans n_sg) s_m) fun _ _ EG EH => ?_
    exact s_e EG EH
   refine s_p [(10, g_b (show ((X0 pb m (zp sg ((zM a) % 64) ((za sg ((zM a) % 64) 0) ^^^ b))) == (X0 pb m (zp sg ((zM a) % 64) ((za sg ((zM a) % 64) 0) ^^^ b)))) = true from (beq_self_eq_true _)))] <| s_p [] <| s_p [] ?_
   exact s_n
  exact a_e ⟨EB.sb, Eg.pk [2]⟩
 rintro _ _ ⟨Ei, Ej⟩
 refine ze <| wp_ret <| Qh (t := 10) (v := .bool true) Ei (by kernel_rfl) (by kernel_rfl) ?_
 exact ⟨rfl, Ej.pk []⟩
end Go.Proofs.YtlnogkmnklfjlaaGreatDoor
namespace Go.Proofs.YtlnogkmnklfjlaaGreatDoor
open Go Go.Dbr
theorem g32 : Tryz.prog.globalNamed "drawbridge/sha.k32" = some 0 := by kernel_rfl
theorem g64 : Tryz.prog.globalNamed "drawbridge/sha.k64" = some 1 := by kernel_rfl
theorem ty32 : (Tryz.prog.globals[0]?).map (·.type) = some 121 := by kernel_rfl
theorem ty64 : (Tryz.prog.globals[1]?).map (·.type) = some 129 := by kernel_rfl
def zs32 : List Int := Sh.K32.map fun x => ((UInt32.toNat x : Nat) : Int)
def zs64 : List Int := Sh.K64.map fun x => ((zA x : Nat) : Int)
theorem tab32 {W : World} (h : laidMetH zB Rows.edsigSignsRow.laid W) : Lib.TabIs zB W "drawbridge/sha.k32" .u32 zs32 :=
  Lib.tabIs_of_head (rest := [("drawbridge/sha.k64", Rows.laid_drawbridge_sha_k64)]) (n := 64) (e := 112) g32 ty32 (by kernel_rfl) (by kernel_rfl) (by kernel_rfl) (by kernel_rfl) h
theorem tab64 {W : World} (h : laidMetH zB Rows.edsigSignsRow.laid W) : Lib.TabIs zB W "drawbridge/sha.k64" .u64 zs64 :=
  Lib.tabIs_of_head (rest := []) (n := 80) (e := 31) g64 ty64 (by kernel_rfl) (by kernel_rfl) (by kernel_rfl) (by kernel_rfl) (laidMet.tail (x := ("drawbridge/sha.k32", Rows.laid_drawbridge_sha_k32)) h)
theorem in32_laid {W : World} (h : laidMetH zB Rows.edsigSignsRow.laid W) : InU32 W [] (some ⟨0, 0, none⟩) 64 Sh.K32 := by
  refine ⟨⟨fun j u hj => ?_, fun _ _ _ => Owns.nil⟩, fun e => (by cases e), (by decide), (by decide)⟩
  have hl : j < zs32.length := by
    have := (Zm.1 hj).1
    rw [u32s_length] at this
    exact this
  have hc := (tab32 h).cell g32 j hl
  rw [add_off, QU, hc, ← hj]
  have hk : j < Sh.K32.length := by simpa [zs32] using hl
  rw [u32s_getD hk]
  simp [zs32, zR hk]
  first | done | rfl
theorem in64_laid {W : World} (h : laidMetH zB Rows.edsigSignsRow.laid W) : InU64 W [] (some ⟨1, 0, none⟩) 80 Sh.K64 := by
  refine ⟨⟨fun j u hj => ?_, fun _ _ _ => Owns.nil⟩, fun e => (by cases e), (by decide), (by decide)⟩
  have hl : j < zs64.length := by
    have := (Zm.1 hj).1
    rw [u64s_length] at this
    exact this
  have hc := (tab64 h).cell g64 j hl
  rw [add_off, QU, hc, ← hj]
  have hk : j < Sh.K64.length := by simpa [zs64] using hl
  rw [zC hk]
  simp [zs64, zR hk]
  first | done | rfl
end Go.Proofs.YtlnogkmnklfjlaaGreatDoor
