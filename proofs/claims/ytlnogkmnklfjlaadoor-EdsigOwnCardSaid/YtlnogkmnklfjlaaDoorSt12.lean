import Derived.Test.YtlnogkmnklfjlaaDoorSt11
import Derived.Test.YtlnogkmnklfjlaaDoorSt1
open List renaming length → za, getD → zb, replicate → ze, length_replicate → zf, toArray → zi, take → zk, drop → zo, length_take → zp, length_drop → zr, forall_mem_cons → zu, length_append → zU, not_mem_nil → z3, take_of_length_le → Zk, flatMap_cons → Zq, append_nil → Zw, flatMap_nil → ZQ, map_take → QG
open Go.Dbr renaming u64s_lenh → zc, then_normal → zg, u64s → zh, region_from → zm, load_whole → zq, store_whole → zs, u64s_one → zv, bys_lenh → zC, len_app → zD, h_from → Zi, op_slicearr → Zp, bys_one → ZD, bys_inbox → ZX, then_ret → Z0, bys_getD → Qa, d_ret1 → Qb, h_ways → Qc, h_to → Qe, op_lit → Qu
open Go.Proofs.YtlnogkmnklfjlaaDoor renaming nds_len → zl, mulM → zt, puE_len → zE, lb_len → zG, ahE_len → zJ, s3_len → zQ, addM → ZA, baseL → Z7, nv_nd → Qd, enumber_go → QT, ptL_len → Ja, toL_len → Jv, times16_go → JB, sameN → J3, base_go → XK
open Go.Dbr.Ev renaming drew → z4
open UInt8 renaming toNat → Zn
open Bool renaming eq_false_or_eq_true → ZC, true_and → Qp, false_and → Qx, eq_false_iff → Q6, and_false → Jb
open Nat renaming le_of_eq → JV
/- Layer 12: keys, signatures. -/

namespace Go.Proofs.YtlnogkmnklfjlaaDoor
open Go.Dbr
set_option maxRecDepth 100000
set_option maxHeartbeats 2000000
set_option linter.unusedVariables false
set_option linter.unusedSimpArgs false

theorem bys_sub (m o : Nat) (l : List UInt8) : ((bys l).drop o).take m = bys (zk m (zo o l)) := by simp [bys, QG, List.map_drop]
theorem bytesB_go (w : World) (k : Nat) (hk : k < W256) : Calls Tryd.prog 27 #[.agg (zi (zh (tmF Z7 (nv (nd k)) 64)))] w fun e w' => e = .returned (.agg (zi (bys (puE k)))) ∧ Ev w [] w' [] := by
  have h := bytes16_go w (tmF Z7 (nv (nd k)) 64) (tmF_len _ _ _)
  rw [Qd hk, pu_L hk] at h
  rw [Qd hk]
  exact h
/-- a text's number, the signature's number -/
def rS (sd tx : List UInt8) : Nat := nE (ahE sd ++ tx)
noncomputable def kS (sd tx : List UInt8) : Nat := nE (puE (rS sd tx) ++ (puE (sE sd) ++ tx))
noncomputable def zS (sd tx : List UInt8) : Nat := ZA 4 (rS sd tx) (zt 4 (kS sd tx) (sE sd))
/-- the signature -/
noncomputable def siE (sd tx : List UInt8) : List UInt8 := puE (rS sd tx) ++ lb 32 (zS sd tx)
theorem siE_len (sd tx : List UInt8) : (siE sd tx).length = 64 := by rw [siE, zU, zE, zG]
theorem nv_m4 (x y : Nat) : nv (nd (zt 4 x y)) = zt 4 x y := Qd (mulM_lt h4f x y)
theorem nv_a4 (x y : Nat) : nv (nd (ZA 4 x y)) = ZA 4 x y := Qd (addM_lt h4f x y)
theorem nv_nE (b : List UInt8) : nv (nd (nE b)) = nE b := Qd (nE_lt b)
theorem nv_sE (b : List UInt8) : nv (nd (sE b)) = sE b := Qd (sE_lt b)
theorem zS_txt (sd tx : List UInt8) : lb 32 (nv (nd (ZA 4 (nv (nd (nE (ahE sd ++ tx)))) (nv (nd (zt 4 (nv (nd (nE (puE (nE (ahE sd ++ tx)) ++ (puE (sE sd) ++ tx))))) (nv (nd (sE sd))))))))) = lb 32 (zS sd tx) := by
  rw [nv_a4, nv_m4, nv_nE, nv_nE, nv_sE]
  rfl
/-- the signature's second half -/
def hS (sg : List UInt8) : List UInt8 := zk 32 (zo 32 sg)
noncomputable def verB (pb tx sg : List UInt8) : Bool := isE pb && isE (zk 32 sg) && decide (lv (hS sg) < mF 4) && decide (Go.Ed.Ec.mul (lv (hS sg)) gB = Go.Ed.Ec.add (gPt (zk 32 sg)) (Go.Ed.Ec.mul (nE (zk 32 sg ++ (pb ++ tx))) (gPt pb)))
theorem ver_no1 {pb tx sg : List UInt8} (h : isE pb = false) : verB pb tx sg = false := by rw [verB, h, Qx, Qx, Qx]
theorem ver_no2 {pb tx sg : List UInt8} (h : isE (zk 32 sg) = false) : verB pb tx sg = false := by rw [verB, h, Jb, Qx, Qx]
theorem ver_no3 {pb tx sg : List UInt8} (h : ¬ lv (hS sg) < mF 4) : verB pb tx sg = false := by rw [verB, decide_eq_false h, Jb, Qx]
theorem toL_pt {b : List UInt8} (h : isE b = true) : toL b = ptL (yE b) (odE b) := (to_yes h).symm
theorem hS_len {sg : List UInt8} (h : sg.length = 64) : (hS sg).length = 32 := by rw [hS, zp, zr, h]; rfl
theorem lv_w {l : List UInt8} (h : l.length = 32) : lv l < W256 := by
  have := lv_lt l
  rw [h] at this
  exact this
theorem ver_yes {pb tx sg : List UInt8} (hs : sg.length = 64) (h1 : isE pb = true) (h2 : isE (zk 32 sg) = true) (h3 : lv (hS sg) < mF 4) {p q : L4} (hp : p = tmF Z7 (nv (nd (lv (hS sg)))) 64) (hq : q = wtE (toL (zk 32 sg)) (tmF (toL pb) (nv (nd (nE (zk 32 sg ++ (pb ++ tx))))) 64)) :
    J3 (k1 p) (k2 p) (k3 p) (k1 q) (k2 q) (k3 q) = verB pb tx sg := by
  rw [Qd (lv_w (hS_len hs))] at hp
  rw [nv_nE, toL_pt h1, toL_pt h2] at hq
  have rp : RepE p (Go.Ed.Ec.mul (lv (hS sg)) gB) := by rw [hp]; exact rep_times rep_base (lv_w (hS_len hs))
  have rq : RepE q (Go.Ed.Ec.add (gPt (zk 32 sg)) (Go.Ed.Ec.mul (nE (zk 32 sg ++ (pb ++ tx))) (gPt pb))) := by rw [hq]; exact rep_wt (rep_pt h2) (rep_times (rep_pt h1) (nE_lt _))
  rw [sameN_ok ⟨rp.rep.1, rp.rep.2.1, rp.rep.2.2.1⟩ ⟨rq.rep.1, rq.rep.2.1, rq.rep.2.2.1⟩, verB, h1, h2, decide_eq_true h3, Qp, Qp, Qp]

theorem public_go (w : World) (sd : List UInt8) (hsd : za sd = 32) (gk32 : InU32 w [] (some ⟨0, 0, none⟩) 64 Sh.K32) (gk64 : InU64 w [] (some ⟨1, 0, none⟩) 80 Sh.K64) : Calls Tryd.prog 10 #[.agg (zi (bys sd))] w fun e w' => e = .returned (.agg (zi (bys (puE (sE sd))))) ∧ Ev w [] w' [] := by
 refine d_0 [(0, .agg (zi (bys sd)))] 14 Go.Proofs.Tryd.func10 Go.Proofs.Tryd.ntmps10 (Heap.nil _) fun act0 En0 Hv0 => ?_
 refine wp_seq <| zm <| f_o <| m_m 22 (bys sd) En0 Hv0 fun _ _ bk1 En4 Hv5 => ?_
 refine f_o <| m_z 22 (bys (ze 32 0)) En4 Hv5 fun _ _ bk6 En9 Hv10 => ?_
 refine f_e <| zg <| wp_seq <| zm <| f_o <| m_a 0 0 32 (bys sd) En9 Hv10 rfl (zq (zC hsd)) (zC hsd) fun _ En12 => ?_
 refine f_o <| c_0 En12 Hv10 (secret_go _ sd hsd ((gk32.ev Hv10).pick [] (by kernel_rfl)) ((gk64.ev Hv10).pick [] (by kernel_rfl))) ?_
 rintro _ _ ⟨aoq13, coq13, rfl, he16⟩
 refine ⟨_, _, _, rfl, he16, rfl, fun _ En19 Hv20 => ?_⟩
 refine d_k [2,8,9] [] 5 En19 fun _ En22 => ?_
 refine f_o <| m_z 34 (zh (ze 4 0)) En22 Hv20 fun _ _ bk23 En26 Hv27 => ?_
 refine f_o <| m_g 3 0 4 (zh (nd (sE sd))) _ [.vec aoq13 coq13 1 (bys (ahE sd)) 5, .box bk1 (bys sd) 22, .box bk6 (bys (ze 32 0)) 22, .box bk23 (zh (nd (sE sd))) 34] En26 Hv27 rfl (zc (zl _ _)) (by rw [(zc (zf))]; first | decide | (simp; done)) (zv _) (zs (zc (zf))) rfl fun _ _ En30 Hv31 => ?_
 refine d_e [2,3] [] En30 fun _ En33 => ?_
 refine zg <| wp_seq <| r_c (fun ac wo => Env ac 14 [(2, pt bk6), (3, pt bk23)] ∧ Ev w [] wo [.box bk6 (bys (puE (sE sd))) 22, .box bk23 (zh (nd (sE sd))) 34]) ?_ ?_
 ·
  refine s_g0 [(2, pt bk6), (3, pt bk23)] [0,1,2,3] [(10, .agg (zi (zh Z7))), (11, .agg (zi (zh (nd (sE sd))))), (12, .agg (zi (zh (tmF Z7 (nv (nd (sE sd))) 64)))), (13, .agg (zi (bys (puE (sE sd)))))] 1 [(2, pt bk6), (3, pt bk23), (13, .agg (zi (bys (puE (sE sd)))))] (En33.sb) (Hv31.trans (z4 Hv31.heap)) ?_ fun _ _ En68 Hv69 => ?_
  ·
   refine s_f (fun _ => XK _) ?_
   refine s_a 3 0 4 (zh (nd (sE sd))) rfl (zq (zc (zl _ _))) (zc (zl _ _)) ?_
   refine s_f (fun _ => JB _ Z7 (nd (sE sd)) (Ja _ _) (zl _ _)) ?_
   refine s_f (fun _ => bytesB_go _ (sE sd) (sE_lt _)) ?_
   exact s_n
  refine q_u 4 ?_
  refine m_g 2 0 32 (bys (puE (sE sd))) _ [.vec aoq13 coq13 1 (bys (ahE sd)) 5, .box bk1 (bys sd) 22, .box bk6 (bys (puE (sE sd))) 22, .box bk23 (zh (nd (sE sd))) 34] En68 Hv69 rfl (zC (zE _)) (by rw [(zC (zf))]; first | decide | (simp; done)) (ZD _) (zs (zC (zf))) rfl fun _ _ En76 Hv77 => ?_
  exact a_e ⟨En76.sb, Hv77.pk [2, 3]⟩
 rintro _ _ ⟨En80, Hv81⟩
 refine zg <| wp_ret <| d_cell1 (v := .agg (zi (bys (puE (sE sd))))) (t := 2) (T := 22) (ad := ⟨bk6, 0, none⟩) En80 (by kernel_rfl) (by kernel_rfl) (Ev.cellAgg (t := 22) (k := 0) (off := 0) (m := 32) (xs := bys (puE (sE sd))) Hv81 rfl (zq (zC (zE _))) (zC (zE _)) (by kernel_rfl) (by kernel_rfl)) ?_
 exact ⟨rfl, Hv81.pk []⟩

theorem sign_go (w : World) (sd : List UInt8) (hsd : za sd = 32) (am : Option Addr) (nm cm : Nat) (lm : List UInt8) (em : nm = za lm) (im : InB w [] am cm lm) (gk32 : InU32 w [] (some ⟨0, 0, none⟩) 64 Sh.K32) (gk64 : InU64 w [] (some ⟨1, 0, none⟩) 80 Sh.K64) : Calls Tryd.prog 11 #[.agg (zi (bys sd)), .slice am nm cm] w fun e w' => e = .returned (.agg (zi (bys (siE sd lm)))) ∧ Ev w [] w' [] := by
 have hah := zJ sd
 subst em
 have hs := im.small
 have hc2 := im.cap
 refine d_0 [(0, .agg (zi (bys sd))), (1, .slice am (za lm) cm)] 45 Go.Proofs.Tryd.func11 Go.Proofs.Tryd.ntmps11 (Heap.nil _) fun act0 En0 Hv0 => ?_
 refine wp_seq <| zm <| f_o <| m_m 22 (bys sd) En0 Hv0 fun _ _ bk1 En4 Hv5 => ?_
 refine f_o <| m_z 29 (bys (ze 64 0)) En4 Hv5 fun _ _ bk6 En9 Hv10 => ?_
 refine f_e <| zg <| wp_seq <| zm <| f_o <| m_a 0 0 32 (bys sd) En9 Hv10 rfl (zq (zC hsd)) (zC hsd) fun _ En12 => ?_
 refine f_o <| c_0 En12 Hv10 (secret_go _ sd hsd ((gk32.ev Hv10).pick [] (by kernel_rfl)) ((gk64.ev Hv10).pick [] (by kernel_rfl))) ?_
 rintro _ _ ⟨aoq13, coq13, rfl, he16⟩
 refine ⟨_, _, _, rfl, he16, rfl, fun _ En19 Hv20 => ?_⟩
 refine d_k [1,4,15,16] [] 5 En19 fun _ En22 => ?_
 refine f_o <| m_z 34 (zh (ze 4 0)) En22 Hv20 fun _ _ bk23 En26 Hv27 => ?_
 refine f_o <| m_g 3 0 4 (zh (nd (sE sd))) _ [.vec aoq13 coq13 1 (bys (ahE sd)) 5, .box bk1 (bys sd) 22, .box bk6 (bys (ze 64 0)) 29, .box bk23 (zh (nd (sE sd))) 34] En26 Hv27 rfl (zc (zl _ _)) (by rw [(zc (zf))]; first | decide | (simp; done)) (zv _) (zs (zc (zf))) rfl fun _ _ En30 Hv31 => ?_
 refine d_e [1,4,5,6] [] En30 fun _ En33 => ?_
 refine zg <| wp_seq <| r_c (fun ac wo => ∃ (bk70 : Nat), Env ac 45 [(1, .slice am (za lm) cm), (4, pt bk6), (5, pt bk23), (6, .slice aoq13 (za (ahE sd)) coq13), (7, pt bk70)] ∧ Ev w [] wo [.vec aoq13 coq13 1 (bys (ahE sd)) 5, .box bk6 (bys (ze 64 0)) 29, .box bk23 (zh (nd (sE sd))) 34, .box bk70 (bys (puE (sE sd))) 22]) ?_ ?_
 ·
  refine s_g1 [(1, .slice am (za lm) cm), (4, pt bk6), (5, pt bk23), (6, .slice aoq13 (za (ahE sd)) coq13)] [0,1,2,3] [(17, .agg (zi (zh Z7))), (18, .agg (zi (zh (nd (sE sd))))), (19, .agg (zi (zh (tmF Z7 (nv (nd (sE sd))) 64)))), (20, .agg (zi (bys (puE (sE sd)))))] 1 [(1, .slice am (za lm) cm), (4, pt bk6), (5, pt bk23), (6, .slice aoq13 (za (ahE sd)) coq13), (20, .agg (zi (bys (puE (sE sd)))))] 4 (bys (ze 32 0)) (En33.sb) (Hv31.trans (z4 Hv31.heap)) ?_ fun _ _ bk70 En68 Hv69 => ?_
  ·
   refine s_f (fun _ => XK _) ?_
   refine s_a 3 0 4 (zh (nd (sE sd))) rfl (zq (zc (zl _ _))) (zc (zl _ _)) ?_
   refine s_f (fun _ => JB _ Z7 (nd (sE sd)) (Ja _ _) (zl _ _)) ?_
   refine s_f (fun _ => bytesB_go _ (sE sd) (sE_lt _)) ?_
   exact s_n
  refine q_u 5 ?_
  refine m_g 4 0 32 (bys (puE (sE sd))) _ [.vec aoq13 coq13 1 (bys (ahE sd)) 5, .box bk1 (bys sd) 22, .box bk6 (bys (ze 64 0)) 29, .box bk23 (zh (nd (sE sd))) 34, .box bk70 (bys (puE (sE sd))) 22] En68 Hv69 rfl (zC (zE _)) (by rw [(zC (zf))]; first | decide | (simp; done)) (ZD _) (zs (zC (zf))) rfl fun _ _ En77 Hv78 => ?_
  exact a_e ⟨bk70, En77.sb, Hv78.pk [0, 2, 3, 4]⟩
 rintro _ _ ⟨bk70, En81, Hv82⟩
 refine zg <| wp_seq <| zm <| d_k [1,4,5,7,21,22] [] 2 En81 fun _ En84 => ?_
 refine f_o <| Qu (d := some 23) (t := 71) (T := 26) (m := 2) (parts := #[(0, .slice aoq13 (za (ahE sd)) coq13), (1, .slice am (za lm) cm)]) (xs := [.slice aoq13 (za (ahE sd)) coq13, .slice am (za lm) cm]) (sz := 1) En84 (by kernel_rfl) (by kernel_rfl) rfl (by decide) Hv82 ?_
 intro _ _ bk85 En88 Hv89
 refine f_o <| c_p En88 Hv89 (QT _ (some ⟨bk85, 0, none⟩) 2 2 ([⟨aoq13, coq13, ahE sd⟩, ⟨am, cm, lm⟩] : List (Sl UInt8)) (by first | rfl | (simp; done) | (simp; omega) | omega) ⟨Hv89.heap.ro (k := 4) rfl [] (by kernel_rfl) rfl, (fun e => by cases e), (by simp), (by simp), (zu.2 ⟨(bys_in Hv89.heap (k := 0) rfl [] (by kernel_rfl) rfl (by first | decide | (dsimp only; omega) | (simp; done) | (simp; omega) | omega)), (zu.2 ⟨((im.ev Hv89).pick [] (by kernel_rfl)), (fun x h => absurd h z3)⟩)⟩)⟩ (zu.2 ⟨(show za (ahE sd) ≤ 140737488353280 from (by first | omega | (simp only [zE, zJ, zQ, zp, zr, zG, hsd]; omega) | (simp only [zE, zJ, zQ, zp, zr, zG, hsd]; decide))), (zu.2 ⟨(show za lm ≤ 140737488353280 from (by first | omega | (simp only [zE, zJ, zQ, zp, zr, zG, hsd]; omega) | (simp only [zE, zJ, zQ, zp, zr, zG, hsd]; decide))), (fun x h => absurd h z3)⟩)⟩) (b := (ahE sd) ++ (lm)) (by simp only [Zq, ZQ, Zw]) ((gk32.ev Hv89).pick [] (by kernel_rfl)) ((gk64.ev Hv89).pick [] (by kernel_rfl))) fun _ _ En95 Hv96 => ?_
 refine f_o <| m_z 34 (zh (ze 4 0)) En95 Hv96 fun _ _ bk97 En100 Hv101 => ?_
 refine f_o <| m_g 5 0 4 (zh (nd (nE ((ahE sd) ++ (lm))))) _ [.vec aoq13 coq13 1 (bys (ahE sd)) 5, .box bk6 (bys (ze 64 0)) 29, .box bk23 (zh (nd (sE sd))) 34, .box bk70 (bys (puE (sE sd))) 22, .vec (some ⟨bk85, 0, none⟩) 2 1 [.slice aoq13 (za (ahE sd)) coq13, .slice am (za lm) cm] 26, .box bk97 (zh (nd (nE ((ahE sd) ++ (lm))))) 34] En100 Hv101 rfl (zc (zl _ _)) (by rw [(zc (zf))]; first | decide | (simp; done)) (zv _) (zs (zc (zf))) rfl fun _ _ En104 Hv105 => ?_
 refine f_e <| zg <| wp_seq <| r_c (fun ac wo => ∃ (bk142 : Nat), Env ac 45 [(1, .slice am (za lm) cm), (4, pt bk6), (5, pt bk23), (7, pt bk70), (8, pt bk97), (9, pt bk142)] ∧ Ev w [] wo [.box bk6 (bys (ze 64 0)) 29, .box bk23 (zh (nd (sE sd))) 34, .box bk70 (bys (puE (sE sd))) 22, .box bk97 (zh (nd (nE ((ahE sd) ++ (lm))))) 34, .box bk142 (bys (puE (nE ((ahE sd) ++ (lm))))) 22]) ?_ ?_
 ·
  refine s_g1 [(1, .slice am (za lm) cm), (4, pt bk6), (5, pt bk23), (7, pt bk70), (8, pt bk97)] [0,1,2,3] [(25, .agg (zi (zh Z7))), (26, .agg (zi (zh (nd (nE ((ahE sd) ++ (lm))))))), (27, .agg (zi (zh (tmF Z7 (nv (nd (nE ((ahE sd) ++ (lm))))) 64)))), (28, .agg (zi (bys (puE (nE ((ahE sd) ++ (lm)))))))] 1 [(1, .slice am (za lm) cm), (4, pt bk6), (5, pt bk23), (7, pt bk70), (8, pt bk97), (28, .agg (zi (bys (puE (nE ((ahE sd) ++ (lm)))))))] 4 (bys (ze 32 0)) (En104.sb) (Hv105.trans (z4 Hv105.heap)) ?_ fun _ _ bk142 En140 Hv141 => ?_
  ·
   refine s_f (fun _ => XK _) ?_
   refine s_a 5 0 4 (zh (nd (nE ((ahE sd) ++ (lm))))) rfl (zq (zc (zl _ _))) (zc (zl _ _)) ?_
   refine s_f (fun _ => JB _ Z7 (nd (nE ((ahE sd) ++ (lm)))) (Ja _ _) (zl _ _)) ?_
   refine s_f (fun _ => bytesB_go _ (nE ((ahE sd) ++ (lm))) (nE_lt _)) ?_
   exact s_n
  refine q_u 5 ?_
  refine m_g 6 0 32 (bys (puE (nE ((ahE sd) ++ (lm))))) _ [.vec aoq13 coq13 1 (bys (ahE sd)) 5, .box bk6 (bys (ze 64 0)) 29, .box bk23 (zh (nd (sE sd))) 34, .box bk70 (bys (puE (sE sd))) 22, .vec (some ⟨bk85, 0, none⟩) 2 1 [.slice aoq13 (za (ahE sd)) coq13, .slice am (za lm) cm] 26, .box bk97 (zh (nd (nE ((ahE sd) ++ (lm))))) 34, .box bk142 (bys (puE (nE ((ahE sd) ++ (lm))))) 22] En140 Hv141 rfl (zC (zE _)) (by rw [(zC (zf))]; first | decide | (simp; done)) (ZD _) (zs (zC (zf))) rfl fun _ _ En149 Hv150 => ?_
  exact a_e ⟨bk142, En149.sb, Hv150.pk [1, 2, 3, 5, 6]⟩
 rintro _ _ ⟨bk142, En153, Hv154⟩
 refine zg <| wp_seq <| r_c (fun ac wo => ∃ (bk297 : Nat), Env ac 45 [(1, .slice am (za lm) cm), (4, pt bk6), (5, pt bk23), (7, pt bk70), (8, pt bk97), (9, pt bk142), (10, pt bk297)] ∧ Ev w [] wo [.box bk6 (bys (ze 64 0)) 29, .box bk23 (zh (nd (sE sd))) 34, .box bk70 (bys (puE (sE sd))) 22, .box bk97 (zh (nd (nE ((ahE sd) ++ (lm))))) 34, .box bk142 (bys (puE (nE ((ahE sd) ++ (lm))))) 22, .box bk297 (zh (nd (nE ((puE (nE ((ahE sd) ++ (lm)))) ++ ((puE (sE sd)) ++ (lm)))))) 34]) ?_ ?_
 ·
  refine h_s (fun wv => Ev w [] wv [.box bk70 (bys (puE (sE sd))) 22, .box bk142 (bys (puE (nE ((ahE sd) ++ (lm))))) 22]) [] 7 ?_
  have wo155 := Hv154.trans (z4 Hv154.heap)
  refine h_name fun G hG => ?_
  have nd402 : ∀ (ac : Act) (wo : World), Env ac 45 [(1, .slice am (za lm) cm), (4, pt bk6), (5, pt bk23), (7, pt bk70), (8, pt bk97), (9, pt bk142), (33, .agg (zi (zh (nd (nE ((puE (nE ((ahE sd) ++ (lm)))) ++ ((puE (sE sd)) ++ (lm))))))))] → Ev w [] wo [.box bk6 (bys (ze 64 0)) 29, .box bk23 (zh (nd (sE sd))) 34, .box bk70 (bys (puE (sE sd))) 22, .box bk97 (zh (nd (nE ((ahE sd) ++ (lm))))) 34, .box bk142 (bys (puE (nE ((ahE sd) ++ (lm))))) 22] → G 2 #[true, true, true, true, true, false, false] ac wo := by
   intro _ _ En405 Hv406
   refine Zi hG ?_
   refine q_t 5 ?_
   refine m_z 34 (zh (ze 4 0)) En405 Hv406 fun _ _ bk407 En410 Hv411 => ?_
   refine ⟨fun _ => Hv411.pk [2, 4], ?_⟩
   refine q_t 6 ?_
   refine m_g 5 0 4 (zh (nd (nE ((puE (nE ((ahE sd) ++ (lm)))) ++ ((puE (sE sd)) ++ (lm)))))) _ [.box bk6 (bys (ze 64 0)) 29, .box bk23 (zh (nd (sE sd))) 34, .box bk70 (bys (puE (sE sd))) 22, .box bk97 (zh (nd (nE ((ahE sd) ++ (lm))))) 34, .box bk142 (bys (puE (nE ((ahE sd) ++ (lm))))) 22, .box bk407 (zh (nd (nE ((puE (nE ((ahE sd) ++ (lm)))) ++ ((puE (sE sd)) ++ (lm)))))) 34] En410 Hv411 rfl (zc (zl _ _)) (by rw [(zc (zf))]; first | decide | (simp; done)) (zv _) (zs (zc (zf))) rfl fun _ _ En414 Hv415 => ?_
   refine ⟨fun _ => Hv415.pk [2, 4], ?_⟩
   exact h_e ⟨bk407, En414.sb, Hv415.pk [0, 1, 2, 3, 4, 5]⟩
  have nd416 : ∀ (ac : Act) (wo : World) (bk285 : Nat) (bk306 : Nat), Env ac 45 [(1, .slice am (za lm) cm), (4, pt bk6), (5, pt bk23), (7, pt bk70), (8, pt bk97), (9, pt bk142), (10, pt bk306), (32, .slice (some ⟨bk285, 0, none⟩) 3 3)] → Ev w [] wo [.box bk6 (bys (ze 64 0)) 29, .box bk23 (zh (nd (sE sd))) 34, .box bk70 (bys (puE (sE sd))) 22, .box bk97 (zh (nd (nE ((ahE sd) ++ (lm))))) 34, .box bk142 (bys (puE (nE ((ahE sd) ++ (lm))))) 22, .vec (some ⟨bk285, 0, none⟩) 3 1 [.slice (some ⟨bk142, 0, none⟩) 32 32, .slice (some ⟨bk70, 0, none⟩) 32 32, .slice am (za lm) cm] 26, .box bk306 (zh (ze 4 0)) 34] → G 2 #[true, true, true, true, false, true, false] ac wo := by
   intro _ _ bk285 bk306 En419 Hv420
   refine Zi hG ?_
   refine q_t 4 ?_
   rw [show (.slice (some ⟨bk142, 0, none⟩) 32 32 : Value) = .slice (some ⟨bk142, 0, none⟩) (za (puE (nE ((ahE sd) ++ (lm))))) 32 from by rw [show za (puE (nE ((ahE sd) ++ (lm)))) = 32 from by first | omega | (simp only [zE, zJ, zQ, zp, zr, zG, hsd]; omega) | (simp only [zE, zJ, zQ, zp, zr, zG, hsd])]] at Hv420
   rw [show (.slice (some ⟨bk70, 0, none⟩) 32 32 : Value) = .slice (some ⟨bk70, 0, none⟩) (za (puE (sE sd))) 32 from by rw [show za (puE (sE sd)) = 32 from by first | omega | (simp only [zE, zJ, zQ, zp, zr, zG, hsd]; omega) | (simp only [zE, zJ, zQ, zp, zr, zG, hsd])]] at Hv420
   refine c_p En419 Hv420 (QT _ (some ⟨bk285, 0, none⟩) 3 3 ([⟨some ⟨bk142, 0, none⟩, 32, puE (nE ((ahE sd) ++ (lm)))⟩, ⟨some ⟨bk70, 0, none⟩, 32, puE (sE sd)⟩, ⟨am, cm, lm⟩] : List (Sl UInt8)) (by first | rfl | (simp; done) | (simp; omega) | omega) ⟨Hv420.heap.ro (k := 5) rfl [] (by kernel_rfl) rfl, (fun e => by cases e), (by simp), (by simp), (zu.2 ⟨(ZX (Hv420.heap.roBox (k := 4) (m := 32) rfl (zq (zC (zE _))) [] (by kernel_rfl) rfl) (zE _) (by first | decide | (dsimp only; decide))), (zu.2 ⟨(ZX (Hv420.heap.roBox (k := 2) (m := 32) rfl (zq (zC (zE _))) [] (by kernel_rfl) rfl) (zE _) (by first | decide | (dsimp only; decide))), (zu.2 ⟨((im.ev Hv420).pick [] (by kernel_rfl)), (fun x h => absurd h z3)⟩)⟩)⟩)⟩ (zu.2 ⟨(show za (puE (nE ((ahE sd) ++ (lm)))) ≤ 140737488353280 from (by first | omega | (simp only [zE, zJ, zQ, zp, zr, zG, hsd]; omega) | (simp only [zE, zJ, zQ, zp, zr, zG, hsd]; decide))), (zu.2 ⟨(show za (puE (sE sd)) ≤ 140737488353280 from (by first | omega | (simp only [zE, zJ, zQ, zp, zr, zG, hsd]; omega) | (simp only [zE, zJ, zQ, zp, zr, zG, hsd]; decide))), (zu.2 ⟨(show za lm ≤ 140737488353280 from (by first | omega | (simp only [zE, zJ, zQ, zp, zr, zG, hsd]; omega) | (simp only [zE, zJ, zQ, zp, zr, zG, hsd]; decide))), (fun x h => absurd h z3)⟩)⟩)⟩) (b := (puE (nE ((ahE sd) ++ (lm)))) ++ ((puE (sE sd)) ++ (lm))) (by simp only [Zq, ZQ, Zw]) ((gk32.ev Hv420).pick [] (by kernel_rfl)) ((gk64.ev Hv420).pick [] (by kernel_rfl))) fun _ _ En426 Hv427 => ?_
   refine ⟨fun _ => Hv427.pk [2, 4], ?_⟩
   refine q_t 6 ?_
   refine m_g 6 0 4 (zh (nd (nE ((puE (nE ((ahE sd) ++ (lm)))) ++ ((puE (sE sd)) ++ (lm)))))) _ [.box bk6 (bys (ze 64 0)) 29, .box bk23 (zh (nd (sE sd))) 34, .box bk70 (bys (puE (sE sd))) 22, .box bk97 (zh (nd (nE ((ahE sd) ++ (lm))))) 34, .box bk142 (bys (puE (nE ((ahE sd) ++ (lm))))) 22, .vec (some ⟨bk285, 0, none⟩) 3 1 [.slice (some ⟨bk142, 0, none⟩) (za (puE (nE ((ahE sd) ++ (lm))))) 32, .slice (some ⟨bk70, 0, none⟩) (za (puE (sE sd))) 32, .slice am (za lm) cm] 26, .box bk306 (zh (nd (nE ((puE (nE ((ahE sd) ++ (lm)))) ++ ((puE (sE sd)) ++ (lm)))))) 34] En426 Hv427 rfl (zc (zl _ _)) (by rw [(zc (zf))]; first | decide | (simp; done)) (zv _) (zs (zc (zf))) rfl fun _ _ En430 Hv431 => ?_
   refine ⟨fun _ => Hv431.pk [2, 4], ?_⟩
   exact h_e ⟨bk306, En430.sb, Hv431.pk [0, 1, 2, 3, 4, 6]⟩
  have nd432 : ∀ (ac : Act) (wo : World) (bk285 : Nat), Env ac 45 [(1, .slice am (za lm) cm), (4, pt bk6), (5, pt bk23), (7, pt bk70), (8, pt bk97), (9, pt bk142), (32, .slice (some ⟨bk285, 0, none⟩) 3 3)] → Ev w [] wo [.box bk6 (bys (ze 64 0)) 29, .box bk23 (zh (nd (sE sd))) 34, .box bk70 (bys (puE (sE sd))) 22, .box bk97 (zh (nd (nE ((ahE sd) ++ (lm))))) 34, .box bk142 (bys (puE (nE ((ahE sd) ++ (lm))))) 22, .vec (some ⟨bk285, 0, none⟩) 3 1 [.slice (some ⟨bk142, 0, none⟩) 32 32, .slice (some ⟨bk70, 0, none⟩) 32 32, .slice am (za lm) cm] 26] → G 3 #[true, true, true, true, false, false, false] ac wo := by
   intro _ _ bk285 En435 Hv436
   refine Zi hG ?_
   refine Qc [4, 5] (by kernel_rfl) rfl ?_
   refine ⟨?_, ?_, trivial⟩
   ·
    rintro _ rfl
    rw [show (.slice (some ⟨bk142, 0, none⟩) 32 32 : Value) = .slice (some ⟨bk142, 0, none⟩) (za (puE (nE ((ahE sd) ++ (lm))))) 32 from by rw [show za (puE (nE ((ahE sd) ++ (lm)))) = 32 from by first | omega | (simp only [zE, zJ, zQ, zp, zr, zG, hsd]; omega) | (simp only [zE, zJ, zQ, zp, zr, zG, hsd])]] at Hv436
    rw [show (.slice (some ⟨bk70, 0, none⟩) 32 32 : Value) = .slice (some ⟨bk70, 0, none⟩) (za (puE (sE sd))) 32 from by rw [show za (puE (sE sd)) = 32 from by first | omega | (simp only [zE, zJ, zQ, zp, zr, zG, hsd]; omega) | (simp only [zE, zJ, zQ, zp, zr, zG, hsd])]] at Hv436
    refine c_p En435 Hv436 (QT _ (some ⟨bk285, 0, none⟩) 3 3 ([⟨some ⟨bk142, 0, none⟩, 32, puE (nE ((ahE sd) ++ (lm)))⟩, ⟨some ⟨bk70, 0, none⟩, 32, puE (sE sd)⟩, ⟨am, cm, lm⟩] : List (Sl UInt8)) (by first | rfl | (simp; done) | (simp; omega) | omega) ⟨Hv436.heap.ro (k := 5) rfl [] (by kernel_rfl) rfl, (fun e => by cases e), (by simp), (by simp), (zu.2 ⟨(ZX (Hv436.heap.roBox (k := 4) (m := 32) rfl (zq (zC (zE _))) [] (by kernel_rfl) rfl) (zE _) (by first | decide | (dsimp only; decide))), (zu.2 ⟨(ZX (Hv436.heap.roBox (k := 2) (m := 32) rfl (zq (zC (zE _))) [] (by kernel_rfl) rfl) (zE _) (by first | decide | (dsimp only; decide))), (zu.2 ⟨((im.ev Hv436).pick [] (by kernel_rfl)), (fun x h => absurd h z3)⟩)⟩)⟩)⟩ (zu.2 ⟨(show za (puE (nE ((ahE sd) ++ (lm)))) ≤ 140737488353280 from (by first | omega | (simp only [zE, zJ, zQ, zp, zr, zG, hsd]; omega) | (simp only [zE, zJ, zQ, zp, zr, zG, hsd]; decide))), (zu.2 ⟨(show za (puE (sE sd)) ≤ 140737488353280 from (by first | omega | (simp only [zE, zJ, zQ, zp, zr, zG, hsd]; omega) | (simp only [zE, zJ, zQ, zp, zr, zG, hsd]; decide))), (zu.2 ⟨(show za lm ≤ 140737488353280 from (by first | omega | (simp only [zE, zJ, zQ, zp, zr, zG, hsd]; omega) | (simp only [zE, zJ, zQ, zp, zr, zG, hsd]; decide))), (fun x h => absurd h z3)⟩)⟩)⟩) (b := (puE (nE ((ahE sd) ++ (lm)))) ++ ((puE (sE sd)) ++ (lm))) (by simp only [Zq, ZQ, Zw]) ((gk32.ev Hv436).pick [] (by kernel_rfl)) ((gk64.ev Hv436).pick [] (by kernel_rfl))) fun _ _ En442 Hv443 => ?_
    refine ⟨fun _ => Hv443.pk [2, 4], ?_⟩
    exact Qe hG (by kernel_rfl) (nd402 _ _ (En442.sb) (Hv443.pk [0, 1, 2, 3, 4]))
   rintro _ rfl
   refine m_z 34 (zh (ze 4 0)) En435 Hv436 fun _ _ bk444 En447 Hv448 => ?_
   refine ⟨fun _ => Hv448.pk [2, 4], ?_⟩
   exact Qe hG (by kernel_rfl) (nd416 _ _ bk285 bk444 (En447.sb) (Hv448.pk [0, 1, 2, 3, 4, 5, 6]))
  have nd449 : ∀ (ac : Act) (wo : World) (bk322 : Nat), Env ac 45 [(1, .slice am (za lm) cm), (4, pt bk6), (5, pt bk23), (7, pt bk70), (8, pt bk97), (9, pt bk142), (10, pt bk322), (29, .slice (some ⟨bk142, 0, none⟩) 32 32), (30, .slice (some ⟨bk70, 0, none⟩) 32 32), (31, .slice am (za lm) cm)] → Ev w [] wo [.box bk6 (bys (ze 64 0)) 29, .box bk23 (zh (nd (sE sd))) 34, .box bk70 (bys (puE (sE sd))) 22, .box bk97 (zh (nd (nE ((ahE sd) ++ (lm))))) 34, .box bk142 (bys (puE (nE ((ahE sd) ++ (lm))))) 22, .box bk322 (zh (ze 4 0)) 34] → G 3 #[true, true, true, false, false, true, false] ac wo := by
   intro _ _ bk322 En452 Hv453
   refine Zi hG ?_
   refine q_t 3 ?_
   refine Qu (d := some 32) (t := 71) (T := 26) (m := 3) (parts := #[(0, .slice (some ⟨bk142, 0, none⟩) 32 32), (1, .slice (some ⟨bk70, 0, none⟩) 32 32), (2, .slice am (za lm) cm)]) (xs := [.slice (some ⟨bk142, 0, none⟩) 32 32, .slice (some ⟨bk70, 0, none⟩) 32 32, .slice am (za lm) cm]) (sz := 1) En452 (by kernel_rfl) (by kernel_rfl) rfl (by decide) Hv453 ?_
   intro _ _ bk454 En457 Hv458
   refine ⟨fun _ => Hv458.pk [2, 4], ?_⟩
   refine q_t 4 ?_
   rw [show (.slice (some ⟨bk142, 0, none⟩) 32 32 : Value) = .slice (some ⟨bk142, 0, none⟩) (za (puE (nE ((ahE sd) ++ (lm))))) 32 from by rw [show za (puE (nE ((ahE sd) ++ (lm)))) = 32 from by first | omega | (simp only [zE, zJ, zQ, zp, zr, zG, hsd]; omega) | (simp only [zE, zJ, zQ, zp, zr, zG, hsd])]] at Hv458
   rw [show (.slice (some ⟨bk70, 0, none⟩) 32 32 : Value) = .slice (some ⟨bk70, 0, none⟩) (za (puE (sE sd))) 32 from by rw [show za (puE (sE sd)) = 32 from by first | omega | (simp only [zE, zJ, zQ, zp, zr, zG, hsd]; omega) | (simp only [zE, zJ, zQ, zp, zr, zG, hsd])]] at Hv458
   refine c_p En457 Hv458 (QT _ (some ⟨bk454, 0, none⟩) 3 3 ([⟨some ⟨bk142, 0, none⟩, 32, puE (nE ((ahE sd) ++ (lm)))⟩, ⟨some ⟨bk70, 0, none⟩, 32, puE (sE sd)⟩, ⟨am, cm, lm⟩] : List (Sl UInt8)) (by first | rfl | (simp; done) | (simp; omega) | omega) ⟨Hv458.heap.ro (k := 6) rfl [] (by kernel_rfl) rfl, (fun e => by cases e), (by simp), (by simp), (zu.2 ⟨(ZX (Hv458.heap.roBox (k := 4) (m := 32) rfl (zq (zC (zE _))) [] (by kernel_rfl) rfl) (zE _) (by first | decide | (dsimp only; decide))), (zu.2 ⟨(ZX (Hv458.heap.roBox (k := 2) (m := 32) rfl (zq (zC (zE _))) [] (by kernel_rfl) rfl) (zE _) (by first | decide | (dsimp only; decide))), (zu.2 ⟨((im.ev Hv458).pick [] (by kernel_rfl)), (fun x h => absurd h z3)⟩)⟩)⟩)⟩ (zu.2 ⟨(show za (puE (nE ((ahE sd) ++ (lm)))) ≤ 140737488353280 from (by first | omega | (simp only [zE, zJ, zQ, zp, zr, zG, hsd]; omega) | (simp only [zE, zJ, zQ, zp, zr, zG, hsd]; decide))), (zu.2 ⟨(show za (puE (sE sd)) ≤ 140737488353280 from (by first | omega | (simp only [zE, zJ, zQ, zp, zr, zG, hsd]; omega) | (simp only [zE, zJ, zQ, zp, zr, zG, hsd]; decide))), (zu.2 ⟨(show za lm ≤ 140737488353280 from (by first | omega | (simp only [zE, zJ, zQ, zp, zr, zG, hsd]; omega) | (simp only [zE, zJ, zQ, zp, zr, zG, hsd]; decide))), (fun x h => absurd h z3)⟩)⟩)⟩) (b := (puE (nE ((ahE sd) ++ (lm)))) ++ ((puE (sE sd)) ++ (lm))) (by simp only [Zq, ZQ, Zw]) ((gk32.ev Hv458).pick [] (by kernel_rfl)) ((gk64.ev Hv458).pick [] (by kernel_rfl))) fun _ _ En464 Hv465 => ?_
   refine ⟨fun _ => Hv465.pk [2, 4], ?_⟩
   refine q_t 6 ?_
   refine m_g 5 0 4 (zh (nd (nE ((puE (nE ((ahE sd) ++ (lm)))) ++ ((puE (sE sd)) ++ (lm)))))) _ [.box bk6 (bys (ze 64 0)) 29, .box bk23 (zh (nd (sE sd))) 34, .box bk70 (bys (puE (sE sd))) 22, .box bk97 (zh (nd (nE ((ahE sd) ++ (lm))))) 34, .box bk142 (bys (puE (nE ((ahE sd) ++ (lm))))) 22, .box bk322 (zh (nd (nE ((puE (nE ((ahE sd) ++ (lm)))) ++ ((puE (sE sd)) ++ (lm)))))) 34, .vec (some ⟨bk454, 0, none⟩) 3 1 [.slice (some ⟨bk142, 0, none⟩) (za (puE (nE ((ahE sd) ++ (lm))))) 32, .slice (some ⟨bk70, 0, none⟩) (za (puE (sE sd))) 32, .slice am (za lm) cm] 26] En464 Hv465 rfl (zc (zl _ _)) (by rw [(zc (zf))]; first | decide | (simp; done)) (zv _) (zs (zc (zf))) rfl fun _ _ En468 Hv469 => ?_
   refine ⟨fun _ => Hv469.pk [2, 4], ?_⟩
   exact h_e ⟨bk322, En468.sb, Hv469.pk [0, 1, 2, 3, 4, 5]⟩
  have nd470 : ∀ (ac : Act) (wo : World), Env ac 45 [(1, .slice am (za lm) cm), (4, pt bk6), (5, pt bk23), (7, pt bk70), (8, pt bk97), (9, pt bk142), (29, .slice (some ⟨bk142, 0, none⟩) 32 32), (30, .slice (some ⟨bk70, 0, none⟩) 32 32), (31, .slice am (za lm) cm)] → Ev w [] wo [.box bk6 (bys (ze 64 0)) 29, .box bk23 (zh (nd (sE sd))) 34, .box bk70 (bys (puE (sE sd))) 22, .box bk97 (zh (nd (nE ((ahE sd) ++ (lm))))) 34, .box bk142 (bys (puE (nE ((ahE sd) ++ (lm))))) 22] → G 4 #[true, true, true, false, false, false, false] ac wo := by
   intro _ _ En473 Hv474
   refine Zi hG ?_
   refine Qc [3, 5] (by kernel_rfl) rfl ?_
   refine ⟨?_, ?_, trivial⟩
   ·
    rintro _ rfl
    refine Qu (d := some 32) (t := 71) (T := 26) (m := 3) (parts := #[(0, .slice (some ⟨bk142, 0, none⟩) 32 32), (1, .slice (some ⟨bk70, 0, none⟩) 32 32), (2, .slice am (za lm) cm)]) (xs := [.slice (some ⟨bk142, 0, none⟩) 32 32, .slice (some ⟨bk70, 0, none⟩) 32 32, .slice am (za lm) cm]) (sz := 1) En473 (by kernel_rfl) (by kernel_rfl) rfl (by decide) Hv474 ?_
    intro _ _ bk475 En478 Hv479
    refine ⟨fun _ => Hv479.pk [2, 4], ?_⟩
    exact Qe hG (by kernel_rfl) (nd432 _ _ bk475 (En478.sb) (Hv479.pk [0, 1, 2, 3, 4, 5]))
   rintro _ rfl
   refine m_z 34 (zh (ze 4 0)) En473 Hv474 fun _ _ bk480 En483 Hv484 => ?_
   refine ⟨fun _ => Hv484.pk [2, 4], ?_⟩
   exact Qe hG (by kernel_rfl) (nd449 _ _ bk480 (En483.sb) (Hv484.pk [0, 1, 2, 3, 4, 5]))
  have nd485 : ∀ (ac : Act) (wo : World) (bk343 : Nat), Env ac 45 [(1, .slice am (za lm) cm), (4, pt bk6), (5, pt bk23), (7, pt bk70), (8, pt bk97), (9, pt bk142), (10, pt bk343), (29, .slice (some ⟨bk142, 0, none⟩) 32 32), (31, .slice am (za lm) cm)] → Ev w [] wo [.box bk6 (bys (ze 64 0)) 29, .box bk23 (zh (nd (sE sd))) 34, .box bk70 (bys (puE (sE sd))) 22, .box bk97 (zh (nd (nE ((ahE sd) ++ (lm))))) 34, .box bk142 (bys (puE (nE ((ahE sd) ++ (lm))))) 22, .box bk343 (zh (ze 4 0)) 34] → G 4 #[true, false, true, false, false, true, false] ac wo := by
   intro _ _ bk343 En488 Hv489
   refine Zi hG ?_
   refine q_t 1 ?_
   refine Zp (d := some 30) (t := 22) (e := 5) (sz := 1) (m := 32) (lo := 0) (hi := 32) (b := bk70) (off := 0) (lov := none) (hiv := none) (o := 0) En488 (by kernel_rfl) (by kernel_rfl) (by kernel_rfl) (by omega) (by omega) (by omega) (.inl ⟨rfl, rfl⟩) (.inl ⟨rfl, rfl⟩) (by omega) ?_
   intro _ En491
   refine ⟨fun _ => Hv489.pk [2, 4], ?_⟩
   refine q_t 3 ?_
   refine Qu (d := some 32) (t := 71) (T := 26) (m := 3) (parts := #[(0, .slice (some ⟨bk142, 0, none⟩) 32 32), (1, .slice (some ⟨bk70, 0, none⟩) 32 32), (2, .slice am (za lm) cm)]) (xs := [.slice (some ⟨bk142, 0, none⟩) 32 32, .slice (some ⟨bk70, 0, none⟩) 32 32, .slice am (za lm) cm]) (sz := 1) En491 (by kernel_rfl) (by kernel_rfl) rfl (by decide) Hv489 ?_
   intro _ _ bk492 En495 Hv496
   refine ⟨fun _ => Hv496.pk [2, 4], ?_⟩
   refine q_t 4 ?_
   rw [show (.slice (some ⟨bk142, 0, none⟩) 32 32 : Value) = .slice (some ⟨bk142, 0, none⟩) (za (puE (nE ((ahE sd) ++ (lm))))) 32 from by rw [show za (puE (nE ((ahE sd) ++ (lm)))) = 32 from by first | omega | (simp only [zE, zJ, zQ, zp, zr, zG, hsd]; omega) | (simp only [zE, zJ, zQ, zp, zr, zG, hsd])]] at Hv496
   rw [show (.slice (some ⟨bk70, 0, none⟩) 32 32 : Value) = .slice (some ⟨bk70, 0, none⟩) (za (puE (sE sd))) 32 from by rw [show za (puE (sE sd)) = 32 from by first | omega | (simp only [zE, zJ, zQ, zp, zr, zG, hsd]; omega) | (simp only [zE, zJ, zQ, zp, zr, zG, hsd])]] at Hv496
   refine c_p En495 Hv496 (QT _ (some ⟨bk492, 0, none⟩) 3 3 ([⟨some ⟨bk142, 0, none⟩, 32, puE (nE ((ahE sd) ++ (lm)))⟩, ⟨some ⟨bk70, 0, none⟩, 32, puE (sE sd)⟩, ⟨am, cm, lm⟩] : List (Sl UInt8)) (by first | rfl | (simp; done) | (simp; omega) | omega) ⟨Hv496.heap.ro (k := 6) rfl [] (by kernel_rfl) rfl, (fun e => by cases e), (by simp), (by simp), (zu.2 ⟨(ZX (Hv496.heap.roBox (k := 4) (m := 32) rfl (zq (zC (zE _))) [] (by kernel_rfl) rfl) (zE _) (by first | decide | (dsimp only; decide))), (zu.2 ⟨(ZX (Hv496.heap.roBox (k := 2) (m := 32) rfl (zq (zC (zE _))) [] (by kernel_rfl) rfl) (zE _) (by first | decide | (dsimp only; decide))), (zu.2 ⟨((im.ev Hv496).pick [] (by kernel_rfl)), (fun x h => absurd h z3)⟩)⟩)⟩)⟩ (zu.2 ⟨(show za (puE (nE ((ahE sd) ++ (lm)))) ≤ 140737488353280 from (by first | omega | (simp only [zE, zJ, zQ, zp, zr, zG, hsd]; omega) | (simp only [zE, zJ, zQ, zp, zr, zG, hsd]; decide))), (zu.2 ⟨(show za (puE (sE sd)) ≤ 140737488353280 from (by first | omega | (simp only [zE, zJ, zQ, zp, zr, zG, hsd]; omega) | (simp only [zE, zJ, zQ, zp, zr, zG, hsd]; decide))), (zu.2 ⟨(show za lm ≤ 140737488353280 from (by first | omega | (simp only [zE, zJ, zQ, zp, zr, zG, hsd]; omega) | (simp only [zE, zJ, zQ, zp, zr, zG, hsd]; decide))), (fun x h => absurd h z3)⟩)⟩)⟩) (b := (puE (nE ((ahE sd) ++ (lm)))) ++ ((puE (sE sd)) ++ (lm))) (by simp only [Zq, ZQ, Zw]) ((gk32.ev Hv496).pick [] (by kernel_rfl)) ((gk64.ev Hv496).pick [] (by kernel_rfl))) fun _ _ En502 Hv503 => ?_
   refine ⟨fun _ => Hv503.pk [2, 4], ?_⟩
   refine q_t 6 ?_
   refine m_g 5 0 4 (zh (nd (nE ((puE (nE ((ahE sd) ++ (lm)))) ++ ((puE (sE sd)) ++ (lm)))))) _ [.box bk6 (bys (ze 64 0)) 29, .box bk23 (zh (nd (sE sd))) 34, .box bk70 (bys (puE (sE sd))) 22, .box bk97 (zh (nd (nE ((ahE sd) ++ (lm))))) 34, .box bk142 (bys (puE (nE ((ahE sd) ++ (lm))))) 22, .box bk343 (zh (nd (nE ((puE (nE ((ahE sd) ++ (lm)))) ++ ((puE (sE sd)) ++ (lm)))))) 34, .vec (some ⟨bk492, 0, none⟩) 3 1 [.slice (some ⟨bk142, 0, none⟩) (za (puE (nE ((ahE sd) ++ (lm))))) 32, .slice (some ⟨bk70, 0, none⟩) (za (puE (sE sd))) 32, .slice am (za lm) cm] 26] En502 Hv503 rfl (zc (zl _ _)) (by rw [(zc (zf))]; first | decide | (simp; done)) (zv _) (zs (zc (zf))) rfl fun _ _ En506 Hv507 => ?_
   refine ⟨fun _ => Hv507.pk [2, 4], ?_⟩
   exact h_e ⟨bk343, En506.sb, Hv507.pk [0, 1, 2, 3, 4, 5]⟩
  have nd508 : ∀ (ac : Act) (wo : World) (bk370 : Nat), Env ac 45 [(1, .slice am (za lm) cm), (4, pt bk6), (5, pt bk23), (7, pt bk70), (8, pt bk97), (9, pt bk142), (10, pt bk370), (30, .slice (some ⟨bk70, 0, none⟩) 32 32), (31, .slice am (za lm) cm)] → Ev w [] wo [.box bk6 (bys (ze 64 0)) 29, .box bk23 (zh (nd (sE sd))) 34, .box bk70 (bys (puE (sE sd))) 22, .box bk97 (zh (nd (nE ((ahE sd) ++ (lm))))) 34, .box bk142 (bys (puE (nE ((ahE sd) ++ (lm))))) 22, .box bk370 (zh (ze 4 0)) 34] → G 4 #[false, true, true, false, false, true, false] ac wo := by
   intro _ _ bk370 En511 Hv512
   refine Zi hG ?_
   refine q_t 0 ?_
   refine Zp (d := some 29) (t := 22) (e := 5) (sz := 1) (m := 32) (lo := 0) (hi := 32) (b := bk142) (off := 0) (lov := none) (hiv := none) (o := 0) En511 (by kernel_rfl) (by kernel_rfl) (by kernel_rfl) (by omega) (by omega) (by omega) (.inl ⟨rfl, rfl⟩) (.inl ⟨rfl, rfl⟩) (by omega) ?_
   intro _ En514
   refine ⟨fun _ => Hv512.pk [2, 4], ?_⟩
   refine q_t 3 ?_
   refine Qu (d := some 32) (t := 71) (T := 26) (m := 3) (parts := #[(0, .slice (some ⟨bk142, 0, none⟩) 32 32), (1, .slice (some ⟨bk70, 0, none⟩) 32 32), (2, .slice am (za lm) cm)]) (xs := [.slice (some ⟨bk142, 0, none⟩) 32 32, .slice (some ⟨bk70, 0, none⟩) 32 32, .slice am (za lm) cm]) (sz := 1) En514 (by kernel_rfl) (by kernel_rfl) rfl (by decide) Hv512 ?_
   intro _ _ bk515 En518 Hv519
   refine ⟨fun _ => Hv519.pk [2, 4], ?_⟩
   refine q_t 4 ?_
   rw [show (.slice (some ⟨bk142, 0, none⟩) 32 32 : Value) = .slice (some ⟨bk142, 0, none⟩) (za (puE (nE ((ahE sd) ++ (lm))))) 32 from by rw [show za (puE (nE ((ahE sd) ++ (lm)))) = 32 from by first | omega | (simp only [zE, zJ, zQ, zp, zr, zG, hsd]; omega) | (simp only [zE, zJ, zQ, zp, zr, zG, hsd])]] at Hv519
   rw [show (.slice (some ⟨bk70, 0, none⟩) 32 32 : Value) = .slice (some ⟨bk70, 0, none⟩) (za (puE (sE sd))) 32 from by rw [show za (puE (sE sd)) = 32 from by first | omega | (simp only [zE, zJ, zQ, zp, zr, zG, hsd]; omega) | (simp only [zE, zJ, zQ, zp, zr, zG, hsd])]] at Hv519
   refine c_p En518 Hv519 (QT _ (some ⟨bk515, 0, none⟩) 3 3 ([⟨some ⟨bk142, 0, none⟩, 32, puE (nE ((ahE sd) ++ (lm)))⟩, ⟨some ⟨bk70, 0, none⟩, 32, puE (sE sd)⟩, ⟨am, cm, lm⟩] : List (Sl UInt8)) (by first | rfl | (simp; done) | (simp; omega) | omega) ⟨Hv519.heap.ro (k := 6) rfl [] (by kernel_rfl) rfl, (fun e => by cases e), (by simp), (by simp), (zu.2 ⟨(ZX (Hv519.heap.roBox (k := 4) (m := 32) rfl (zq (zC (zE _))) [] (by kernel_rfl) rfl) (zE _) (by first | decide | (dsimp only; decide))), (zu.2 ⟨(ZX (Hv519.heap.roBox (k := 2) (m := 32) rfl (zq (zC (zE _))) [] (by kernel_rfl) rfl) (zE _) (by first | decide | (dsimp only; decide))), (zu.2 ⟨((im.ev Hv519).pick [] (by kernel_rfl)), (fun x h => absurd h z3)⟩)⟩)⟩)⟩ (zu.2 ⟨(show za (puE (nE ((ahE sd) ++ (lm)))) ≤ 140737488353280 from (by first | omega | (simp only [zE, zJ, zQ, zp, zr, zG, hsd]; omega) | (simp only [zE, zJ, zQ, zp, zr, zG, hsd]; decide))), (zu.2 ⟨(show za (puE (sE sd)) ≤ 140737488353280 from (by first | omega | (simp only [zE, zJ, zQ, zp, zr, zG, hsd]; omega) | (simp only [zE, zJ, zQ, zp, zr, zG, hsd]; decide))), (zu.2 ⟨(show za lm ≤ 140737488353280 from (by first | omega | (simp only [zE, zJ, zQ, zp, zr, zG, hsd]; omega) | (simp only [zE, zJ, zQ, zp, zr, zG, hsd]; decide))), (fun x h => absurd h z3)⟩)⟩)⟩) (b := (puE (nE ((ahE sd) ++ (lm)))) ++ ((puE (sE sd)) ++ (lm))) (by simp only [Zq, ZQ, Zw]) ((gk32.ev Hv519).pick [] (by kernel_rfl)) ((gk64.ev Hv519).pick [] (by kernel_rfl))) fun _ _ En525 Hv526 => ?_
   refine ⟨fun _ => Hv526.pk [2, 4], ?_⟩
   refine q_t 6 ?_
   refine m_g 5 0 4 (zh (nd (nE ((puE (nE ((ahE sd) ++ (lm)))) ++ ((puE (sE sd)) ++ (lm)))))) _ [.box bk6 (bys (ze 64 0)) 29, .box bk23 (zh (nd (sE sd))) 34, .box bk70 (bys (puE (sE sd))) 22, .box bk97 (zh (nd (nE ((ahE sd) ++ (lm))))) 34, .box bk142 (bys (puE (nE ((ahE sd) ++ (lm))))) 22, .box bk370 (zh (nd (nE ((puE (nE ((ahE sd) ++ (lm)))) ++ ((puE (sE sd)) ++ (lm)))))) 34, .vec (some ⟨bk515, 0, none⟩) 3 1 [.slice (some ⟨bk142, 0, none⟩) (za (puE (nE ((ahE sd) ++ (lm))))) 32, .slice (some ⟨bk70, 0, none⟩) (za (puE (sE sd))) 32, .slice am (za lm) cm] 26] En525 Hv526 rfl (zc (zl _ _)) (by rw [(zc (zf))]; first | decide | (simp; done)) (zv _) (zs (zc (zf))) rfl fun _ _ En529 Hv530 => ?_
   refine ⟨fun _ => Hv530.pk [2, 4], ?_⟩
   exact h_e ⟨bk370, En529.sb, Hv530.pk [0, 1, 2, 3, 4, 5]⟩
  have nd531 : ∀ (ac : Act) (wo : World), Env ac 45 [(1, .slice am (za lm) cm), (4, pt bk6), (5, pt bk23), (7, pt bk70), (8, pt bk97), (9, pt bk142), (29, .slice (some ⟨bk142, 0, none⟩) 32 32), (31, .slice am (za lm) cm)] → Ev w [] wo [.box bk6 (bys (ze 64 0)) 29, .box bk23 (zh (nd (sE sd))) 34, .box bk70 (bys (puE (sE sd))) 22, .box bk97 (zh (nd (nE ((ahE sd) ++ (lm))))) 34, .box bk142 (bys (puE (nE ((ahE sd) ++ (lm))))) 22] → G 5 #[true, false, true, false, false, false, false] ac wo := by
   intro _ _ En534 Hv535
   refine Zi hG ?_
   refine Qc [1, 5] (by kernel_rfl) rfl ?_
   refine ⟨?_, ?_, trivial⟩
   ·
    rintro _ rfl
    refine Zp (d := some 30) (t := 22) (e := 5) (sz := 1) (m := 32) (lo := 0) (hi := 32) (b := bk70) (off := 0) (lov := none) (hiv := none) (o := 0) En534 (by kernel_rfl) (by kernel_rfl) (by kernel_rfl) (by omega) (by omega) (by omega) (.inl ⟨rfl, rfl⟩) (.inl ⟨rfl, rfl⟩) (by omega) ?_
    intro _ En537
    refine ⟨fun _ => Hv535.pk [2, 4], ?_⟩
    exact Qe hG (by kernel_rfl) (nd470 _ _ (En537.sb) (Hv535.pk [0, 1, 2, 3, 4]))
   rintro _ rfl
   refine m_z 34 (zh (ze 4 0)) En534 Hv535 fun _ _ bk538 En541 Hv542 => ?_
   refine ⟨fun _ => Hv542.pk [2, 4], ?_⟩
   exact Qe hG (by kernel_rfl) (nd485 _ _ bk538 (En541.sb) (Hv542.pk [0, 1, 2, 3, 4, 5]))
  have nd543 : ∀ (ac : Act) (wo : World), Env ac 45 [(1, .slice am (za lm) cm), (4, pt bk6), (5, pt bk23), (7, pt bk70), (8, pt bk97), (9, pt bk142), (30, .slice (some ⟨bk70, 0, none⟩) 32 32), (31, .slice am (za lm) cm)] → Ev w [] wo [.box bk6 (bys (ze 64 0)) 29, .box bk23 (zh (nd (sE sd))) 34, .box bk70 (bys (puE (sE sd))) 22, .box bk97 (zh (nd (nE ((ahE sd) ++ (lm))))) 34, .box bk142 (bys (puE (nE ((ahE sd) ++ (lm))))) 22] → G 5 #[false, true, true, false, false, false, false] ac wo := by
   intro _ _ En546 Hv547
   refine Zi hG ?_
   refine Qc [0, 5] (by kernel_rfl) rfl ?_
   refine ⟨?_, ?_, trivial⟩
   ·
    rintro _ rfl
    refine Zp (d := some 29) (t := 22) (e := 5) (sz := 1) (m := 32) (lo := 0) (hi := 32) (b := bk142) (off := 0) (lov := none) (hiv := none) (o := 0) En546 (by kernel_rfl) (by kernel_rfl) (by kernel_rfl) (by omega) (by omega) (by omega) (.inl ⟨rfl, rfl⟩) (.inl ⟨rfl, rfl⟩) (by omega) ?_
    intro _ En549
    refine ⟨fun _ => Hv547.pk [2, 4], ?_⟩
    exact Qe hG (by kernel_rfl) (nd470 _ _ (En549.sb) (Hv547.pk [0, 1, 2, 3, 4]))
   rintro _ rfl
   refine m_z 34 (zh (ze 4 0)) En546 Hv547 fun _ _ bk550 En553 Hv554 => ?_
   refine ⟨fun _ => Hv554.pk [2, 4], ?_⟩
   exact Qe hG (by kernel_rfl) (nd508 _ _ bk550 (En553.sb) (Hv554.pk [0, 1, 2, 3, 4, 5]))
  have nd555 : ∀ (ac : Act) (wo : World) (bk393 : Nat), Env ac 45 [(1, .slice am (za lm) cm), (4, pt bk6), (5, pt bk23), (7, pt bk70), (8, pt bk97), (9, pt bk142), (10, pt bk393), (31, .slice am (za lm) cm)] → Ev w [] wo [.box bk6 (bys (ze 64 0)) 29, .box bk23 (zh (nd (sE sd))) 34, .box bk70 (bys (puE (sE sd))) 22, .box bk97 (zh (nd (nE ((ahE sd) ++ (lm))))) 34, .box bk142 (bys (puE (nE ((ahE sd) ++ (lm))))) 22, .box bk393 (zh (ze 4 0)) 34] → G 5 #[false, false, true, false, false, true, false] ac wo := by
   intro _ _ bk393 En558 Hv559
   refine Zi hG ?_
   refine Qc [0, 1] (by kernel_rfl) rfl ?_
   refine ⟨?_, ?_, trivial⟩
   ·
    rintro _ rfl
    refine Zp (d := some 29) (t := 22) (e := 5) (sz := 1) (m := 32) (lo := 0) (hi := 32) (b := bk142) (off := 0) (lov := none) (hiv := none) (o := 0) En558 (by kernel_rfl) (by kernel_rfl) (by kernel_rfl) (by omega) (by omega) (by omega) (.inl ⟨rfl, rfl⟩) (.inl ⟨rfl, rfl⟩) (by omega) ?_
    intro _ En561
    refine ⟨fun _ => Hv559.pk [2, 4], ?_⟩
    exact Qe hG (by kernel_rfl) (nd485 _ _ bk393 (En561.sb) (Hv559.pk [0, 1, 2, 3, 4, 5]))
   rintro _ rfl
   refine Zp (d := some 30) (t := 22) (e := 5) (sz := 1) (m := 32) (lo := 0) (hi := 32) (b := bk70) (off := 0) (lov := none) (hiv := none) (o := 0) En558 (by kernel_rfl) (by kernel_rfl) (by kernel_rfl) (by omega) (by omega) (by omega) (.inl ⟨rfl, rfl⟩) (.inl ⟨rfl, rfl⟩) (by omega) ?_
   intro _ En563
   refine ⟨fun _ => Hv559.pk [2, 4], ?_⟩
   exact Qe hG (by kernel_rfl) (nd508 _ _ bk393 (En563.sb) (Hv559.pk [0, 1, 2, 3, 4, 5]))
  refine Zi hG ?_
  refine q_s [2] [] 6 En153 (wo155.pk [2, 4]) fun _ En565 => ?_
  refine Qc [0, 1, 5] (by kernel_rfl) rfl ?_
  refine ⟨?_, ?_, ?_, trivial⟩
  ·
   rintro _ rfl
   refine Zp (d := some 29) (t := 22) (e := 5) (sz := 1) (m := 32) (lo := 0) (hi := 32) (b := bk142) (off := 0) (lov := none) (hiv := none) (o := 0) En565 (by kernel_rfl) (by kernel_rfl) (by kernel_rfl) (by omega) (by omega) (by omega) (.inl ⟨rfl, rfl⟩) (.inl ⟨rfl, rfl⟩) (by omega) ?_
   intro _ En567
   refine ⟨fun _ => wo155.pk [2, 4], ?_⟩
   exact Qe hG (by kernel_rfl) (nd531 _ _ (En567.sb) (wo155.pk [0, 1, 2, 3, 4]))
  ·
   rintro _ rfl
   refine Zp (d := some 30) (t := 22) (e := 5) (sz := 1) (m := 32) (lo := 0) (hi := 32) (b := bk70) (off := 0) (lov := none) (hiv := none) (o := 0) En565 (by kernel_rfl) (by kernel_rfl) (by kernel_rfl) (by omega) (by omega) (by omega) (.inl ⟨rfl, rfl⟩) (.inl ⟨rfl, rfl⟩) (by omega) ?_
   intro _ En569
   refine ⟨fun _ => wo155.pk [2, 4], ?_⟩
   exact Qe hG (by kernel_rfl) (nd543 _ _ (En569.sb) (wo155.pk [0, 1, 2, 3, 4]))
  rintro _ rfl
  refine m_z 34 (zh (ze 4 0)) En565 wo155 fun _ _ bk570 En573 Hv574 => ?_
  refine ⟨fun _ => Hv574.pk [2, 4], ?_⟩
  exact Qe hG (by kernel_rfl) (nd555 _ _ bk570 (En573.sb) (Hv574.pk [0, 1, 2, 3, 4, 5]))
 rintro _ _ ⟨bk297, En577, Hv578⟩
 refine zg <| wp_seq <| r_c (fun ac wo => ∃ (bk625 : Nat), Env ac 45 [(1, .slice am (za lm) cm), (4, pt bk6), (5, pt bk23), (7, pt bk70), (8, pt bk97), (9, pt bk142), (10, pt bk297), (11, pt bk625)] ∧ Ev w [] wo [.box bk6 (bys (ze 64 0)) 29, .box bk23 (zh (nd (sE sd))) 34, .box bk70 (bys (puE (sE sd))) 22, .box bk97 (zh (nd (nE ((ahE sd) ++ (lm))))) 34, .box bk142 (bys (puE (nE ((ahE sd) ++ (lm))))) 22, .box bk297 (zh (nd (nE ((puE (nE ((ahE sd) ++ (lm)))) ++ ((puE (sE sd)) ++ (lm)))))) 34, .box bk625 (bys (lb 32 (nv (nd (ZA 4 (nv (nd (nE ((ahE sd) ++ (lm))))) (nv (nd (zt 4 (nv (nd (nE ((puE (nE ((ahE sd) ++ (lm)))) ++ ((puE (sE sd)) ++ (lm)))))) (nv (nd (sE sd))))))))))) 22]) ?_ ?_
 ·
  refine s_g1 [(1, .slice am (za lm) cm), (4, pt bk6), (5, pt bk23), (7, pt bk70), (8, pt bk97), (9, pt bk142), (10, pt bk297)] [0,1,2,3,4,5] [(34, .agg (zi (zh (nd (nE ((ahE sd) ++ (lm))))))), (35, .agg (zi (zh (nd (nE ((puE (nE ((ahE sd) ++ (lm)))) ++ ((puE (sE sd)) ++ (lm)))))))), (36, .agg (zi (zh (nd (sE sd))))), (37, .agg (zi (zh (nd (zt 4 (nv (nd (nE ((puE (nE ((ahE sd) ++ (lm)))) ++ ((puE (sE sd)) ++ (lm)))))) (nv (nd (sE sd)))))))), (38, .agg (zi (zh (nd (ZA 4 (nv (nd (nE ((ahE sd) ++ (lm))))) (nv (nd (zt 4 (nv (nd (nE ((puE (nE ((ahE sd) ++ (lm)))) ++ ((puE (sE sd)) ++ (lm)))))) (nv (nd (sE sd))))))))))), (39, .agg (zi (bys (lb 32 (nv (nd (ZA 4 (nv (nd (nE ((ahE sd) ++ (lm))))) (nv (nd (zt 4 (nv (nd (nE ((puE (nE ((ahE sd) ++ (lm)))) ++ ((puE (sE sd)) ++ (lm)))))) (nv (nd (sE sd)))))))))))))] 1 [(1, .slice am (za lm) cm), (4, pt bk6), (5, pt bk23), (7, pt bk70), (8, pt bk97), (9, pt bk142), (10, pt bk297), (39, .agg (zi (bys (lb 32 (nv (nd (ZA 4 (nv (nd (nE ((ahE sd) ++ (lm))))) (nv (nd (zt 4 (nv (nd (nE ((puE (nE ((ahE sd) ++ (lm)))) ++ ((puE (sE sd)) ++ (lm)))))) (nv (nd (sE sd)))))))))))))] 6 (bys (ze 32 0)) (En577.sb) (Hv578.trans (z4 Hv578.heap)) ?_ fun _ _ bk625 En623 Hv624 => ?_
  ·
   refine s_a 3 0 4 (zh (nd (nE ((ahE sd) ++ (lm))))) rfl (zq (zc (zl _ _))) (zc (zl _ _)) ?_
   refine s_a 5 0 4 (zh (nd (nE ((puE (nE ((ahE sd) ++ (lm)))) ++ ((puE (sE sd)) ++ (lm)))))) rfl (zq (zc (zl _ _))) (zc (zl _ _)) ?_
   refine s_a 1 0 4 (zh (nd (sE sd))) rfl (zq (zc (zl _ _))) (zc (zl _ _)) ?_
   refine s_f (fun _ => hM4 _ (nd (nE ((puE (nE ((ahE sd) ++ (lm)))) ++ ((puE (sE sd)) ++ (lm))))) (nd (sE sd)) (zl _ _) (zl _ _)) ?_
   refine s_f (fun _ => add_go _ 4 h4f (nd (nE ((ahE sd) ++ (lm)))) (nd (zt 4 (nv (nd (nE ((puE (nE ((ahE sd) ++ (lm)))) ++ ((puE (sE sd)) ++ (lm)))))) (nv (nd (sE sd))))) (zl _ _) (zl _ _)) ?_
   refine s_f (fun _ => tole_go _ (nd (ZA 4 (nv (nd (nE ((ahE sd) ++ (lm))))) (nv (nd (zt 4 (nv (nd (nE ((puE (nE ((ahE sd) ++ (lm)))) ++ ((puE (sE sd)) ++ (lm)))))) (nv (nd (sE sd)))))))) (zl _ _)) ?_
   exact s_n
  refine q_u 7 ?_
  refine m_g 6 0 32 (bys (lb 32 (nv (nd (ZA 4 (nv (nd (nE ((ahE sd) ++ (lm))))) (nv (nd (zt 4 (nv (nd (nE ((puE (nE ((ahE sd) ++ (lm)))) ++ ((puE (sE sd)) ++ (lm)))))) (nv (nd (sE sd))))))))))) _ [.box bk6 (bys (ze 64 0)) 29, .box bk23 (zh (nd (sE sd))) 34, .box bk70 (bys (puE (sE sd))) 22, .box bk97 (zh (nd (nE ((ahE sd) ++ (lm))))) 34, .box bk142 (bys (puE (nE ((ahE sd) ++ (lm))))) 22, .box bk297 (zh (nd (nE ((puE (nE ((ahE sd) ++ (lm)))) ++ ((puE (sE sd)) ++ (lm)))))) 34, .box bk625 (bys (lb 32 (nv (nd (ZA 4 (nv (nd (nE ((ahE sd) ++ (lm))))) (nv (nd (zt 4 (nv (nd (nE ((puE (nE ((ahE sd) ++ (lm)))) ++ ((puE (sE sd)) ++ (lm)))))) (nv (nd (sE sd))))))))))) 22] En623 Hv624 rfl (zC (zG _ _)) (by rw [(zC (zf))]; first | decide | (simp; done)) (ZD _) (zs (zC (zf))) rfl fun _ _ En632 Hv633 => ?_
  exact a_e ⟨bk625, En632.sb, Hv633.pk [0, 1, 2, 3, 4, 5, 6]⟩
 rintro _ _ ⟨bk625, En636, Hv637⟩
 refine zg <| wp_seq ?_
 rw [show (lb 32 (nv (nd (ZA 4 (nv (nd (nE ((ahE sd) ++ (lm))))) (nv (nd (zt 4 (nv (nd (nE ((puE (nE ((ahE sd) ++ (lm)))) ++ ((puE (sE sd)) ++ (lm)))))) (nv (nd (sE sd)))))))))) = (lb 32 (zS sd lm)) from (zS_txt sd lm)] at Hv637
 have hll : za (lb 32 (zS sd lm)) = 32 := zG _ _
 have hpl : za (puE (nE (ahE sd ++ lm))) = 32 := zE _
 have hal : za (puE (nE (ahE sd ++ lm)) ++ lb 32 (zS sd lm)) = 64 := by rw [zU, hll, hpl]
 refine r_c (fun ac wo => Env ac 45 [(1, .slice am (za lm) cm), (4, pt bk6), (5, pt bk23), (7, pt bk70), (8, pt bk97), (9, pt bk142), (10, pt bk297), (11, pt bk625)] ∧ Ev w [] wo [.box bk6 (bys (zk 64 ((puE (nE ((ahE sd) ++ (lm)))) ++ (lb 32 (zS sd lm))))) 29, .box bk23 (zh (nd (sE sd))) 34, .box bk70 (bys (puE (sE sd))) 22, .box bk97 (zh (nd (nE ((ahE sd) ++ (lm))))) 34, .box bk142 (bys (puE (nE ((ahE sd) ++ (lm))))) 22, .box bk297 (zh (nd (nE ((puE (nE ((ahE sd) ++ (lm)))) ++ ((puE (sE sd)) ++ (lm)))))) 34, .box bk625 (bys (lb 32 (zS sd lm))) 22]) ?_ ?_
 ·
  refine s_g0 [(1, .slice am (za lm) cm), (4, pt bk6), (5, pt bk23), (7, pt bk70), (8, pt bk97), (9, pt bk142), (10, pt bk297), (11, pt bk625)] [0,1] [(40, .slice (some ⟨bk142, 0, none⟩) 32 32), (41, .slice (some ⟨bk625, 0, none⟩) 32 32)] 4 [(1, .slice am (za lm) cm), (4, pt bk6), (5, pt bk23), (7, pt bk70), (8, pt bk97), (9, pt bk142), (10, pt bk297), (11, pt bk625), (40, .slice (some ⟨bk142, 0, none⟩) 32 32), (41, .slice (some ⟨bk625, 0, none⟩) 32 32)] (En636.sb) (Hv637.trans (z4 Hv637.heap)) ?_ fun _ _ En654 Hv655 => ?_
  ·
   refine s_c (fun Mx638 _ _ En641 Hv642 => ?_) ?_
   ·
    refine Zp (d := some 40) (t := 22) (e := 5) (sz := 1) (m := 32) (lo := 0) (hi := 32) (b := bk142) (off := 0) (lov := none) (hiv := none) (o := 0) En641 (by kernel_rfl) (by kernel_rfl) (by kernel_rfl) (by omega) (by omega) (by omega) (.inl ⟨rfl, rfl⟩) (.inl ⟨rfl, rfl⟩) (by omega) ?_
    intro _ En644
    exact s_e En644 Hv642
   refine s_c (fun Mx645 _ _ En648 Hv649 => ?_) ?_
   ·
    refine Zp (d := some 41) (t := 22) (e := 5) (sz := 1) (m := 32) (lo := 0) (hi := 32) (b := bk625) (off := 0) (lov := none) (hiv := none) (o := 0) En648 (by kernel_rfl) (by kernel_rfl) (by kernel_rfl) (by omega) (by omega) (by omega) (.inl ⟨rfl, rfl⟩) (.inl ⟨rfl, rfl⟩) (by omega) ?_
    intro _ En651
    exact s_e En651 Hv649
   exact s_n
  refine q_u 2 ?_
  refine op_appbox (d := some 42) (t := 26) (tx := 26) (ty := 26) (T := 5) (k := 4) (b := bk142) (p := 32) (m := 32) (x := .slice (some ⟨bk625, 0, none⟩) 32 32) (bytes := 1) (cs := bys (puE (nE ((ahE sd) ++ (lm))))) En654 (by kernel_rfl) Hv655 rfl (bys_lenn (by first | (rw [(zE _)]) | (simp [(zE _)]; done) | (simp [(zE _)]; omega))) (Reads.src (size := 1) (tx := 26) (e' := 5) (by kernel_rfl) (Hv655.heap.readsBox (k := 6) (m := 32) rfl (zq (zC (zG _ _)))) (bys_lenn (by first | (rw [(zG _ _)]) | (simp [(zG _ _)]; done) | (simp [(zG _ _)]; omega))) (fun e => by cases e) (ZD _)) (by kernel_rfl) (z := .int .u8 0) (by kernel_rfl) rfl (by omega) (by omega) (by unfold maxLen; omega) ?_
  intro _ _ ao675 cp676 En680 Hv681 _
  rw [← bys_append] at Hv681
  have ehz677 : 32 + 32 = za ((puE (nE ((ahE sd) ++ (lm)))) ++ (lb 32 (zS sd lm))) := (by first | (simp; done) | (simp [(zE _)]; omega) | (simp; omega) | omega)
  rw [ehz677] at En680
  have hb684 : 0 < za ((puE (nE ((ahE sd) ++ (lm)))) ++ (lb 32 (zS sd lm))) := by omega
  obtain ⟨adr682, had683⟩ := some_of (bys_vnz Hv681.heap (k := 7) rfl) hb684
  refine q_g 3 (s := Instr.arrayAt 29 (.slice ao675 (za ((puE (nE ((ahE sd) ++ (lm)))) ++ (lb 32 (zS sd lm)))) cp676)) (v := .pointer (some adr682)) En680 (fun _ => Go.Dbr.run_toarr2 (e := 5) (m := 64) (by kernel_rfl) had683 (by omega) _) fun _ En686 => ?_
  refine q_u 4 ?_
  have hb687 : 64 ≤ za ((puE (nE ((ahE sd) ++ (lm)))) ++ (lb 32 (zS sd lm))) := by first | omega | (simp; done) | (simp; omega)
  refine op_loadaggat (d := some 44) (t := 29) (ad := adr682) (ao := ao675) (ys := bys ((puE (nE ((ahE sd) ++ (lm)))) ++ (lb 32 (zS sd lm)))) (o := 0) (m := 64) (xs := bys (zk 64 ((puE (nE ((ahE sd) ++ (lm)))) ++ (lb 32 (zS sd lm))))) En686 (by kernel_rfl) (add0 _) (Hv681.heap.reads (k := 7) rfl) had683 bys_pre (bys_prel hb687) (by kernel_rfl) (by kernel_rfl) ?_
  intro _ En689
  refine q_u 5 ?_
  refine m_g 0 0 64 (bys (zk 64 ((puE (nE ((ahE sd) ++ (lm)))) ++ (lb 32 (zS sd lm))))) _ [.box bk6 (bys (zk 64 ((puE (nE ((ahE sd) ++ (lm)))) ++ (lb 32 (zS sd lm))))) 29, .box bk23 (zh (nd (sE sd))) 34, .box bk70 (bys (puE (sE sd))) 22, .box bk97 (zh (nd (nE ((ahE sd) ++ (lm))))) 34, .box bk142 (bys (puE (nE ((ahE sd) ++ (lm))))) 22, .box bk297 (zh (nd (nE ((puE (nE ((ahE sd) ++ (lm)))) ++ ((puE (sE sd)) ++ (lm)))))) 34, .box bk625 (bys (lb 32 (zS sd lm))) 22, .vec ao675 cp676 1 (bys ((puE (nE ((ahE sd) ++ (lm)))) ++ (lb 32 (zS sd lm)))) 5] En689 Hv681 rfl (zC (by first | (simp; done) | (simp; omega) | (rw [zp]; omega))) (by rw [(zC (zf))]; first | decide | (simp; done)) (ZD _) (zs (zC (zf))) rfl fun _ _ En692 Hv693 => ?_
  exact a_e ⟨En692.sb, Hv693.pk [0, 1, 2, 3, 4, 5, 6]⟩
 rintro _ _ ⟨En696, Hv697⟩
 refine zg <| wp_ret <| d_cell1 (v := .agg (zi (bys (zk 64 ((puE (nE ((ahE sd) ++ (lm)))) ++ (lb 32 (zS sd lm))))))) (t := 4) (T := 29) (ad := ⟨bk6, 0, none⟩) En696 (by kernel_rfl) (by kernel_rfl) (Ev.cellAgg (t := 29) (k := 0) (off := 0) (m := 64) (xs := bys (zk 64 ((puE (nE ((ahE sd) ++ (lm)))) ++ (lb 32 (zS sd lm))))) Hv697 rfl (zq (zC (by first | (simp; done) | (simp; omega) | (rw [zp]; omega)))) (zC (by first | (simp; done) | (simp; omega) | (rw [zp]; omega))) (by kernel_rfl) (by kernel_rfl)) ?_
 have es : zk 64 ((puE (nE ((ahE sd) ++ (lm)))) ++ (lb 32 (zS sd lm))) = siE sd lm := (congrArg (zk 64) (show _ = siE sd lm from rfl)).trans (Zk (JV (siE_len _ _)))
 exact ⟨congrArg (fun l : List UInt8 => Ending.returned (Value.agg (bys l).toArray)) es, Hv697.pk []⟩

theorem verify_go (w : World) (pb : List UInt8) (hpb : za pb = 32) (am : Option Addr) (nm cm : Nat) (lm : List UInt8) (em : nm = za lm) (im : InB w [] am cm lm) (sg : List UInt8) (hsg : za sg = 64) (gk32 : InU32 w [] (some ⟨0, 0, none⟩) 64 Sh.K32) (gk64 : InU64 w [] (some ⟨1, 0, none⟩) 80 Sh.K64) : Calls Tryd.prog 9 #[.agg (zi (bys pb)), .slice am nm cm, .agg (zi (bys sg))] w fun e w' => e = .returned (.bool (verB pb lm sg)) ∧ Ev w [] w' [] := by
 subst em
 have hs := im.small
 have hc2 := im.cap
 refine d_0 [(0, .agg (zi (bys pb))), (1, .slice am (za lm) cm), (2, .agg (zi (bys sg)))] 54 Go.Proofs.Tryd.func9 Go.Proofs.Tryd.ntmps9 (Heap.nil _) fun act0 En0 Hv0 => ?_
 refine wp_seq <| zm <| f_o <| m_m 22 (bys pb) En0 Hv0 fun _ _ bk1 En4 Hv5 => ?_
 refine f_o <| m_m 29 (bys sg) En4 Hv5 fun _ _ bk6 En9 Hv10 => ?_
 refine d_e [1,3,5,6] [] En9 fun _ En12 => ?_
 refine zg <| wp_seq <| zm <| f_o <| m_a 0 0 32 (bys pb) En12 Hv10 rfl (zq (zC hpb)) (zC hpb) fun _ En14 => ?_
 refine f_o <| c_p En14 Hv10 (told_go _ pb hpb) fun _ _ En20 Hv21 => ?_
 refine d_k [1,3,5,6,16,17] [] 5 En20 fun _ En23 => ?_
 refine f_o <| m_z 43 ((zh (ze 4 0)) ++ ((zh (ze 4 0)) ++ ((zh (ze 4 0)) ++ (zh (ze 4 0))))) En23 Hv21 fun _ _ bk24 En27 Hv28 => ?_
 refine f_o <| m_g 2 0 16 (zh (toL pb)) _ [.box bk1 (bys pb) 22, .box bk6 (bys sg) 29, .box bk24 (zh (toL pb)) 43] En27 Hv28 rfl (zc (Jv _)) (by rw [(zD (zc (zf)) (zD (zc (zf)) (zD (zc (zf)) (zc (zf)))))]; first | decide | (simp; done)) (zv _) (zs (zD (zc (zf)) (zD (zc (zf)) (zD (zc (zf)) (zc (zf)))))) rfl fun _ _ En31 Hv32 => ?_
 refine d_e [1,3,5,6,7,8] [] En31 fun _ En34 => ?_
 refine zg <| wp_seq <| zm <| f_o <| Zp (d := some 19) (t := 29) (e := 5) (sz := 1) (m := 64) (lo := 0) (hi := 32) (b := bk6) (off := 0) (lov := none) (hiv := (some (.int .i64 32))) (o := 0) En34 (by kernel_rfl) (by kernel_rfl) (by kernel_rfl) (by omega) (by omega) (by omega) (.inl ⟨rfl, rfl⟩) (.inr ⟨.i64, rfl⟩) (by omega) ?_
 intro _ En36
 refine f_o <| q_v (x := Instr.arrayAt 22 (.slice (some ⟨bk6, 0, none⟩) 32 64)) (v := pt bk6) En36 (Go.Dbr.run_toarr (e := 5) (m := 32) (by kernel_rfl) (by omega) _) fun _ En38 => ?_
 refine f_o <| m_a 1 0 32 (bys (zk 32 sg)) En38 Hv32 rfl (by simp [bys, QG]) (zC (by rw [zp, hsg]; decide)) fun _ En40 => ?_
 refine f_o <| c_p En40 Hv32 (told_go _ (zk 32 sg) (by rw [zp, hsg]; decide)) fun _ _ En46 Hv47 => ?_
 refine d_k [1,3,5,6,7,8,23,24] [] 7 En46 fun _ En49 => ?_
 refine f_o <| m_z 43 ((zh (ze 4 0)) ++ ((zh (ze 4 0)) ++ ((zh (ze 4 0)) ++ (zh (ze 4 0))))) En49 Hv47 fun _ _ bk50 En53 Hv54 => ?_
 refine f_o <| m_g 3 0 16 (zh (toL (zk 32 sg))) _ [.box bk1 (bys pb) 22, .box bk6 (bys sg) 29, .box bk24 (zh (toL pb)) 43, .box bk50 (zh (toL (zk 32 sg))) 43] En53 Hv54 rfl (zc (Jv _)) (by rw [(zD (zc (zf)) (zD (zc (zf)) (zD (zc (zf)) (zc (zf)))))]; first | decide | (simp; done)) (zv _) (zs (zD (zc (zf)) (zD (zc (zf)) (zD (zc (zf)) (zc (zf)))))) rfl fun _ _ En57 Hv58 => ?_
 refine d_e [1,3,5,6,7,8,9,10] [] En57 fun _ En60 => ?_
 refine zg <| wp_seq <| zm <| f_o <| Zp (d := some 25) (t := 29) (e := 5) (sz := 1) (m := 64) (lo := 32) (hi := 64) (b := bk6) (off := 0) (lov := (some (.int .i64 32))) (hiv := none) (o := 32) En60 (by kernel_rfl) (by kernel_rfl) (by kernel_rfl) (by omega) (by omega) (by omega) (.inr ⟨.i64, rfl⟩) (.inl ⟨rfl, rfl⟩) (by omega) ?_
 intro _ En62
 refine f_o <| q_v (x := Instr.arrayAt 22 (.slice (some ⟨bk6, 32, none⟩) 32 32)) (v := .pointer (some ⟨bk6, 32, none⟩)) En62 (Go.Dbr.run_toarr (e := 5) (m := 32) (by kernel_rfl) (by omega) _) fun _ En64 => ?_
 refine f_o <| m_a 1 32 32 (bys (zk 32 (zo 32 sg))) En64 Hv58 rfl (bys_sub _ _ _) (zC (sub_len hsg (by omega))) fun _ En66 => ?_
 refine f_o <| c_p En66 Hv58 (fromle_go _ (zk 32 (zo 32 sg)) (sub_len hsg (by omega))) fun _ _ En72 Hv73 => ?_
 refine f_o <| m_z 34 (zh (ze 4 0)) En72 Hv73 fun _ _ bk74 En77 Hv78 => ?_
 refine f_o <| m_g 4 0 4 (zh (nd (lv (zk 32 (zo 32 sg))))) _ [.box bk1 (bys pb) 22, .box bk6 (bys sg) 29, .box bk24 (zh (toL pb)) 43, .box bk50 (zh (toL (zk 32 sg))) 43, .box bk74 (zh (nd (lv (zk 32 (zo 32 sg))))) 34] En77 Hv78 rfl (zc (zl _ _)) (by rw [(zc (zf))]; first | decide | (simp; done)) (zv _) (zs (zc (zf))) rfl fun _ _ En81 Hv82 => ?_
 refine f_e <| zg <| wp_seq <| wp_seq <| zm <| d_k [1,3,5,6,7,9,10,11,31] [] 3 En81 fun _ En84 => ?_
 rcases ZC (!(isE pb)) with hb85 | hb85
 ·
  have En86 := En84.fx (t := 31) (congrArg Value.bool hb85)
  have hp87 : ¬ (isE pb = true) := by simpa using hb85
  refine d_e [1,3,5,6,7,9,11,39] [] En86 fun _ En89 => ?_
  refine zg <| c_t En89 ?_
  refine d_s [1,3,5,6,7,9,11] [] En89 fun _ En91 => ?_
  refine wp_ret <| Z0 <| Qb (t := 6) (v := .bool false) En91 (by kernel_rfl) (by kernel_rfl) ?_
  exact ⟨by rw [ver_no1 (Q6.2 hp87)], Hv82.pk []⟩
 have En92 := En84.fx (t := 31) (congrArg Value.bool hb85)
 have hp93 : isE pb = true := by simpa using hb85
 refine d_k [1,3,5,6,7,9,11,35] [] 7 En92 fun _ En95 => ?_
 rcases ZC (!(isE (zk 32 sg))) with hb96 | hb96
 ·
  have En97 := En95.fx (t := 35) (congrArg Value.bool hb96)
  have hp98 : ¬ (isE (zk 32 sg) = true) := by simpa using hb96
  refine d_e [1,3,5,6,7,9,11,39] [] En97 fun _ En100 => ?_
  refine zg <| c_t En100 ?_
  refine d_s [1,3,5,6,7,9,11] [] En100 fun _ En102 => ?_
  refine wp_ret <| Z0 <| Qb (t := 6) (v := .bool false) En102 (by kernel_rfl) (by kernel_rfl) ?_
  exact ⟨by rw [ver_no2 (Q6.2 hp98)], Hv82.pk []⟩
 have En103 := En95.fx (t := 35) (congrArg Value.bool hb96)
 have hp104 : isE (zk 32 sg) = true := by simpa using hb96
 refine f_o <| m_a 4 0 4 (zh (nd (lv (zk 32 (zo 32 sg))))) En103 Hv82 rfl (zq (zc (zl _ _))) (zc (zl _ _)) fun _ En106 => ?_
 refine f_o <| c_p En106 Hv82 (rightq_go _ 4 (nd (lv (zk 32 (zo 32 sg)))) (zl _ _)) fun _ _ En112 Hv113 => ?_
 refine d_e [1,3,5,6,7,9,11,39] [] En112 fun _ En115 => ?_
 refine zg <| cond_at En115 (t := !(decide (nv (nd (lv (zk 32 (zo 32 sg)))) < mF 4))) (by kernel_rfl) (fun hc116 => ?_) (fun hc116 => ?_)
 ·
  replace hc116 : ¬ (nv (nd (lv (zk 32 (zo 32 sg)))) < mF 4) := by simpa using hc116
  refine d_s [1,3,5,6,7,9,11] [] En115 fun _ En118 => ?_
  refine wp_ret <| Z0 <| Qb (t := 6) (v := .bool false) En118 (by kernel_rfl) (by kernel_rfl) ?_
  have hn : ¬ lv (hS sg) < mF 4 := (by have h := hc116; have e : nv (nd (lv (hS sg))) = lv (hS sg) := Qd (lv_w (hS_len hsg)); unfold hS at e ⊢; rw [e] at h; simpa using h)
  exact ⟨by rw [ver_no3 hn], Hv113.pk []⟩
 replace hc116 : nv (nd (lv (zk 32 (zo 32 sg)))) < mF 4 := by simpa using hc116
 refine wp_skip <| zg <| wp_seq <| r_c (fun ac wo => ∃ (bk261 : Nat), Env ac 54 [(3, pt bk1), (5, pt bk6), (6, .bool false), (7, pt bk24), (9, pt bk50), (11, pt bk74), (12, pt bk261)] ∧ Ev w [] wo [.box bk1 (bys pb) 22, .box bk6 (bys sg) 29, .box bk24 (zh (toL pb)) 43, .box bk50 (zh (toL (zk 32 sg))) 43, .box bk74 (zh (nd (lv (zk 32 (zo 32 sg))))) 34, .box bk261 (zh (nd (nE ((zk 32 sg) ++ (pb ++ (lm)))))) 34]) ?_ ?_
 ·
  refine h_s (fun wv => Ev w [] wv [.box bk1 (bys pb) 22, .box bk6 (bys sg) 29]) [] 7 ?_
  have wo119 := Hv113.trans (z4 Hv113.heap)
  refine h_name fun G hG => ?_
  have nd366 : ∀ (ac : Act) (wo : World), Env ac 54 [(3, pt bk1), (5, pt bk6), (6, .bool false), (7, pt bk24), (9, pt bk50), (11, pt bk74), (44, .agg (zi (zh (nd (nE ((zk 32 sg) ++ (pb ++ (lm))))))))] → Ev w [] wo [.box bk1 (bys pb) 22, .box bk6 (bys sg) 29, .box bk24 (zh (toL pb)) 43, .box bk50 (zh (toL (zk 32 sg))) 43, .box bk74 (zh (nd (lv (zk 32 (zo 32 sg))))) 34] → G 2 #[true, true, true, true, true, false, false] ac wo := by
   intro _ _ En369 Hv370
   refine Zi hG ?_
   refine q_t 5 ?_
   refine m_z 34 (zh (ze 4 0)) En369 Hv370 fun _ _ bk371 En374 Hv375 => ?_
   refine ⟨fun _ => Hv375.pk [0, 1], ?_⟩
   refine q_t 6 ?_
   refine m_g 5 0 4 (zh (nd (nE ((zk 32 sg) ++ (pb ++ (lm)))))) _ [.box bk1 (bys pb) 22, .box bk6 (bys sg) 29, .box bk24 (zh (toL pb)) 43, .box bk50 (zh (toL (zk 32 sg))) 43, .box bk74 (zh (nd (lv (zk 32 (zo 32 sg))))) 34, .box bk371 (zh (nd (nE ((zk 32 sg) ++ (pb ++ (lm)))))) 34] En374 Hv375 rfl (zc (zl _ _)) (by rw [(zc (zf))]; first | decide | (simp; done)) (zv _) (zs (zc (zf))) rfl fun _ _ En378 Hv379 => ?_
   refine ⟨fun _ => Hv379.pk [0, 1], ?_⟩
   exact h_e ⟨bk371, En378.sb, Hv379.pk [0, 1, 2, 3, 4, 5]⟩
  have nd380 : ∀ (ac : Act) (wo : World) (bk249 : Nat) (bk270 : Nat), Env ac 54 [(3, pt bk1), (5, pt bk6), (6, .bool false), (7, pt bk24), (9, pt bk50), (11, pt bk74), (12, pt bk270), (43, .slice (some ⟨bk249, 0, none⟩) 3 3)] → Ev w [] wo [.box bk1 (bys pb) 22, .box bk6 (bys sg) 29, .box bk24 (zh (toL pb)) 43, .box bk50 (zh (toL (zk 32 sg))) 43, .box bk74 (zh (nd (lv (zk 32 (zo 32 sg))))) 34, .vec (some ⟨bk249, 0, none⟩) 3 1 [.slice (some ⟨bk6, 0, none⟩) 32 64, .slice (some ⟨bk1, 0, none⟩) 32 32, .slice am (za lm) cm] 26, .box bk270 (zh (ze 4 0)) 34] → G 2 #[true, true, true, true, false, true, false] ac wo := by
   intro _ _ bk249 bk270 En383 Hv384
   refine Zi hG ?_
   refine q_t 4 ?_
   rw [show (.slice (some ⟨bk6, 0, none⟩) 32 64 : Value) = .slice (some ⟨bk6, 0, none⟩) (za (zk 32 sg)) 64 from by rw [show za (zk 32 sg) = 32 from by first | omega | (simp only [zE, zJ, zQ, zp, zr, zG, hpb, hsg]; omega) | (simp only [zE, zJ, zQ, zp, zr, zG, hpb, hsg])]] at Hv384
   rw [show (.slice (some ⟨bk1, 0, none⟩) 32 32 : Value) = .slice (some ⟨bk1, 0, none⟩) (za pb) 32 from by rw [show za pb = 32 from by first | omega | (simp only [zE, zJ, zQ, zp, zr, zG, hpb, hsg]; omega) | (simp only [zE, zJ, zQ, zp, zr, zG, hpb, hsg])]] at Hv384
   refine c_p En383 Hv384 (QT _ (some ⟨bk249, 0, none⟩) 3 3 ([⟨some ⟨bk6, 0, none⟩, 64, zk 32 sg⟩, ⟨some ⟨bk1, 0, none⟩, 32, pb⟩, ⟨am, cm, lm⟩] : List (Sl UInt8)) (by first | rfl | (simp; done) | (simp; omega) | omega) ⟨Hv384.heap.ro (k := 5) rfl [] (by kernel_rfl) rfl, (fun e => by cases e), (by simp), (by simp), (zu.2 ⟨((ZX (Hv384.heap.roBox (k := 1) (m := 64) rfl (zq (zC hsg)) [] (by kernel_rfl) rfl) hsg (by first | decide | (dsimp only; decide))).take 32), (zu.2 ⟨(ZX (Hv384.heap.roBox (k := 0) (m := 32) rfl (zq (zC hpb)) [] (by kernel_rfl) rfl) hpb (by first | decide | (dsimp only; decide))), (zu.2 ⟨((im.ev Hv384).pick [] (by kernel_rfl)), (fun x h => absurd h z3)⟩)⟩)⟩)⟩ (zu.2 ⟨(show za (zk 32 sg) ≤ 140737488353280 from (by first | omega | (simp only [zE, zJ, zQ, zp, zr, zG, hpb, hsg]; omega) | (simp only [zE, zJ, zQ, zp, zr, zG, hpb, hsg]; decide))), (zu.2 ⟨(show za pb ≤ 140737488353280 from (by first | omega | (simp only [zE, zJ, zQ, zp, zr, zG, hpb, hsg]; omega) | (simp only [zE, zJ, zQ, zp, zr, zG, hpb, hsg]; decide))), (zu.2 ⟨(show za lm ≤ 140737488353280 from (by first | omega | (simp only [zE, zJ, zQ, zp, zr, zG, hpb, hsg]; omega) | (simp only [zE, zJ, zQ, zp, zr, zG, hpb, hsg]; decide))), (fun x h => absurd h z3)⟩)⟩)⟩) (b := (zk 32 sg) ++ (pb ++ (lm))) (by simp only [Zq, ZQ, Zw]) ((gk32.ev Hv384).pick [] (by kernel_rfl)) ((gk64.ev Hv384).pick [] (by kernel_rfl))) fun _ _ En390 Hv391 => ?_
   refine ⟨fun _ => Hv391.pk [0, 1], ?_⟩
   refine q_t 6 ?_
   refine m_g 6 0 4 (zh (nd (nE ((zk 32 sg) ++ (pb ++ (lm)))))) _ [.box bk1 (bys pb) 22, .box bk6 (bys sg) 29, .box bk24 (zh (toL pb)) 43, .box bk50 (zh (toL (zk 32 sg))) 43, .box bk74 (zh (nd (lv (zk 32 (zo 32 sg))))) 34, .vec (some ⟨bk249, 0, none⟩) 3 1 [.slice (some ⟨bk6, 0, none⟩) (za (zk 32 sg)) 64, .slice (some ⟨bk1, 0, none⟩) (za pb) 32, .slice am (za lm) cm] 26, .box bk270 (zh (nd (nE ((zk 32 sg) ++ (pb ++ (lm)))))) 34] En390 Hv391 rfl (zc (zl _ _)) (by rw [(zc (zf))]; first | decide | (simp; done)) (zv _) (zs (zc (zf))) rfl fun _ _ En394 Hv395 => ?_
   refine ⟨fun _ => Hv395.pk [0, 1], ?_⟩
   exact h_e ⟨bk270, En394.sb, Hv395.pk [0, 1, 2, 3, 4, 6]⟩
  have nd396 : ∀ (ac : Act) (wo : World) (bk249 : Nat), Env ac 54 [(3, pt bk1), (5, pt bk6), (6, .bool false), (7, pt bk24), (9, pt bk50), (11, pt bk74), (43, .slice (some ⟨bk249, 0, none⟩) 3 3)] → Ev w [] wo [.box bk1 (bys pb) 22, .box bk6 (bys sg) 29, .box bk24 (zh (toL pb)) 43, .box bk50 (zh (toL (zk 32 sg))) 43, .box bk74 (zh (nd (lv (zk 32 (zo 32 sg))))) 34, .vec (some ⟨bk249, 0, none⟩) 3 1 [.slice (some ⟨bk6, 0, none⟩) 32 64, .slice (some ⟨bk1, 0, none⟩) 32 32, .slice am (za lm) cm] 26] → G 3 #[true, true, true, true, false, false, false] ac wo := by
   intro _ _ bk249 En399 Hv400
   refine Zi hG ?_
   refine Qc [4, 5] (by kernel_rfl) rfl ?_
   refine ⟨?_, ?_, trivial⟩
   ·
    rintro _ rfl
    rw [show (.slice (some ⟨bk6, 0, none⟩) 32 64 : Value) = .slice (some ⟨bk6, 0, none⟩) (za (zk 32 sg)) 64 from by rw [show za (zk 32 sg) = 32 from by first | omega | (simp only [zE, zJ, zQ, zp, zr, zG, hpb, hsg]; omega) | (simp only [zE, zJ, zQ, zp, zr, zG, hpb, hsg])]] at Hv400
    rw [show (.slice (some ⟨bk1, 0, none⟩) 32 32 : Value) = .slice (some ⟨bk1, 0, none⟩) (za pb) 32 from by rw [show za pb = 32 from by first | omega | (simp only [zE, zJ, zQ, zp, zr, zG, hpb, hsg]; omega) | (simp only [zE, zJ, zQ, zp, zr, zG, hpb, hsg])]] at Hv400
    refine c_p En399 Hv400 (QT _ (some ⟨bk249, 0, none⟩) 3 3 ([⟨some ⟨bk6, 0, none⟩, 64, zk 32 sg⟩, ⟨some ⟨bk1, 0, none⟩, 32, pb⟩, ⟨am, cm, lm⟩] : List (Sl UInt8)) (by first | rfl | (simp; done) | (simp; omega) | omega) ⟨Hv400.heap.ro (k := 5) rfl [] (by kernel_rfl) rfl, (fun e => by cases e), (by simp), (by simp), (zu.2 ⟨((ZX (Hv400.heap.roBox (k := 1) (m := 64) rfl (zq (zC hsg)) [] (by kernel_rfl) rfl) hsg (by first | decide | (dsimp only; decide))).take 32), (zu.2 ⟨(ZX (Hv400.heap.roBox (k := 0) (m := 32) rfl (zq (zC hpb)) [] (by kernel_rfl) rfl) hpb (by first | decide | (dsimp only; decide))), (zu.2 ⟨((im.ev Hv400).pick [] (by kernel_rfl)), (fun x h => absurd h z3)⟩)⟩)⟩)⟩ (zu.2 ⟨(show za (zk 32 sg) ≤ 140737488353280 from (by first | omega | (simp only [zE, zJ, zQ, zp, zr, zG, hpb, hsg]; omega) | (simp only [zE, zJ, zQ, zp, zr, zG, hpb, hsg]; decide))), (zu.2 ⟨(show za pb ≤ 140737488353280 from (by first | omega | (simp only [zE, zJ, zQ, zp, zr, zG, hpb, hsg]; omega) | (simp only [zE, zJ, zQ, zp, zr, zG, hpb, hsg]; decide))), (zu.2 ⟨(show za lm ≤ 140737488353280 from (by first | omega | (simp only [zE, zJ, zQ, zp, zr, zG, hpb, hsg]; omega) | (simp only [zE, zJ, zQ, zp, zr, zG, hpb, hsg]; decide))), (fun x h => absurd h z3)⟩)⟩)⟩) (b := (zk 32 sg) ++ (pb ++ (lm))) (by simp only [Zq, ZQ, Zw]) ((gk32.ev Hv400).pick [] (by kernel_rfl)) ((gk64.ev Hv400).pick [] (by kernel_rfl))) fun _ _ En406 Hv407 => ?_
    refine ⟨fun _ => Hv407.pk [0, 1], ?_⟩
    exact Qe hG (by kernel_rfl) (nd366 _ _ (En406.sb) (Hv407.pk [0, 1, 2, 3, 4]))
   rintro _ rfl
   refine m_z 34 (zh (ze 4 0)) En399 Hv400 fun _ _ bk408 En411 Hv412 => ?_
   refine ⟨fun _ => Hv412.pk [0, 1], ?_⟩
   exact Qe hG (by kernel_rfl) (nd380 _ _ bk249 bk408 (En411.sb) (Hv412.pk [0, 1, 2, 3, 4, 5, 6]))
  have nd413 : ∀ (ac : Act) (wo : World) (bk286 : Nat), Env ac 54 [(3, pt bk1), (5, pt bk6), (6, .bool false), (7, pt bk24), (9, pt bk50), (11, pt bk74), (12, pt bk286), (40, .slice (some ⟨bk6, 0, none⟩) 32 64), (41, .slice (some ⟨bk1, 0, none⟩) 32 32), (42, .slice am (za lm) cm)] → Ev w [] wo [.box bk1 (bys pb) 22, .box bk6 (bys sg) 29, .box bk24 (zh (toL pb)) 43, .box bk50 (zh (toL (zk 32 sg))) 43, .box bk74 (zh (nd (lv (zk 32 (zo 32 sg))))) 34, .box bk286 (zh (ze 4 0)) 34] → G 3 #[true, true, true, false, false, true, false] ac wo := by
   intro _ _ bk286 En416 Hv417
   refine Zi hG ?_
   refine q_t 3 ?_
   refine Qu (d := some 43) (t := 71) (T := 26) (m := 3) (parts := #[(0, .slice (some ⟨bk6, 0, none⟩) 32 64), (1, .slice (some ⟨bk1, 0, none⟩) 32 32), (2, .slice am (za lm) cm)]) (xs := [.slice (some ⟨bk6, 0, none⟩) 32 64, .slice (some ⟨bk1, 0, none⟩) 32 32, .slice am (za lm) cm]) (sz := 1) En416 (by kernel_rfl) (by kernel_rfl) rfl (by decide) Hv417 ?_
   intro _ _ bk418 En421 Hv422
   refine ⟨fun _ => Hv422.pk [0, 1], ?_⟩
   refine q_t 4 ?_
   rw [show (.slice (some ⟨bk6, 0, none⟩) 32 64 : Value) = .slice (some ⟨bk6, 0, none⟩) (za (zk 32 sg)) 64 from by rw [show za (zk 32 sg) = 32 from by first | omega | (simp only [zE, zJ, zQ, zp, zr, zG, hpb, hsg]; omega) | (simp only [zE, zJ, zQ, zp, zr, zG, hpb, hsg])]] at Hv422
   rw [show (.slice (some ⟨bk1, 0, none⟩) 32 32 : Value) = .slice (some ⟨bk1, 0, none⟩) (za pb) 32 from by rw [show za pb = 32 from by first | omega | (simp only [zE, zJ, zQ, zp, zr, zG, hpb, hsg]; omega) | (simp only [zE, zJ, zQ, zp, zr, zG, hpb, hsg])]] at Hv422
   refine c_p En421 Hv422 (QT _ (some ⟨bk418, 0, none⟩) 3 3 ([⟨some ⟨bk6, 0, none⟩, 64, zk 32 sg⟩, ⟨some ⟨bk1, 0, none⟩, 32, pb⟩, ⟨am, cm, lm⟩] : List (Sl UInt8)) (by first | rfl | (simp; done) | (simp; omega) | omega) ⟨Hv422.heap.ro (k := 6) rfl [] (by kernel_rfl) rfl, (fun e => by cases e), (by simp), (by simp), (zu.2 ⟨((ZX (Hv422.heap.roBox (k := 1) (m := 64) rfl (zq (zC hsg)) [] (by kernel_rfl) rfl) hsg (by first | decide | (dsimp only; decide))).take 32), (zu.2 ⟨(ZX (Hv422.heap.roBox (k := 0) (m := 32) rfl (zq (zC hpb)) [] (by kernel_rfl) rfl) hpb (by first | decide | (dsimp only; decide))), (zu.2 ⟨((im.ev Hv422).pick [] (by kernel_rfl)), (fun x h => absurd h z3)⟩)⟩)⟩)⟩ (zu.2 ⟨(show za (zk 32 sg) ≤ 140737488353280 from (by first | omega | (simp only [zE, zJ, zQ, zp, zr, zG, hpb, hsg]; omega) | (simp only [zE, zJ, zQ, zp, zr, zG, hpb, hsg]; decide))), (zu.2 ⟨(show za pb ≤ 140737488353280 from (by first | omega | (simp only [zE, zJ, zQ, zp, zr, zG, hpb, hsg]; omega) | (simp only [zE, zJ, zQ, zp, zr, zG, hpb, hsg]; decide))), (zu.2 ⟨(show za lm ≤ 140737488353280 from (by first | omega | (simp only [zE, zJ, zQ, zp, zr, zG, hpb, hsg]; omega) | (simp only [zE, zJ, zQ, zp, zr, zG, hpb, hsg]; decide))), (fun x h => absurd h z3)⟩)⟩)⟩) (b := (zk 32 sg) ++ (pb ++ (lm))) (by simp only [Zq, ZQ, Zw]) ((gk32.ev Hv422).pick [] (by kernel_rfl)) ((gk64.ev Hv422).pick [] (by kernel_rfl))) fun _ _ En428 Hv429 => ?_
   refine ⟨fun _ => Hv429.pk [0, 1], ?_⟩
   refine q_t 6 ?_
   refine m_g 5 0 4 (zh (nd (nE ((zk 32 sg) ++ (pb ++ (lm)))))) _ [.box bk1 (bys pb) 22, .box bk6 (bys sg) 29, .box bk24 (zh (toL pb)) 43, .box bk50 (zh (toL (zk 32 sg))) 43, .box bk74 (zh (nd (lv (zk 32 (zo 32 sg))))) 34, .box bk286 (zh (nd (nE ((zk 32 sg) ++ (pb ++ (lm)))))) 34, .vec (some ⟨bk418, 0, none⟩) 3 1 [.slice (some ⟨bk6, 0, none⟩) (za (zk 32 sg)) 64, .slice (some ⟨bk1, 0, none⟩) (za pb) 32, .slice am (za lm) cm] 26] En428 Hv429 rfl (zc (zl _ _)) (by rw [(zc (zf))]; first | decide | (simp; done)) (zv _) (zs (zc (zf))) rfl fun _ _ En432 Hv433 => ?_
   refine ⟨fun _ => Hv433.pk [0, 1], ?_⟩
   exact h_e ⟨bk286, En432.sb, Hv433.pk [0, 1, 2, 3, 4, 5]⟩
  have nd434 : ∀ (ac : Act) (wo : World), Env ac 54 [(3, pt bk1), (5, pt bk6), (6, .bool false), (7, pt bk24), (9, pt bk50), (11, pt bk74), (40, .slice (some ⟨bk6, 0, none⟩) 32 64), (41, .slice (some ⟨bk1, 0, none⟩) 32 32), (42, .slice am (za lm) cm)] → Ev w [] wo [.box bk1 (bys pb) 22, .box bk6 (bys sg) 29, .box bk24 (zh (toL pb)) 43, .box bk50 (zh (toL (zk 32 sg))) 43, .box bk74 (zh (nd (lv (zk 32 (zo 32 sg))))) 34] → G 4 #[true, true, true, false, false, false, false] ac wo := by
   intro _ _ En437 Hv438
   refine Zi hG ?_
   refine Qc [3, 5] (by kernel_rfl) rfl ?_
   refine ⟨?_, ?_, trivial⟩
   ·
    rintro _ rfl
    refine Qu (d := some 43) (t := 71) (T := 26) (m := 3) (parts := #[(0, .slice (some ⟨bk6, 0, none⟩) 32 64), (1, .slice (some ⟨bk1, 0, none⟩) 32 32), (2, .slice am (za lm) cm)]) (xs := [.slice (some ⟨bk6, 0, none⟩) 32 64, .slice (some ⟨bk1, 0, none⟩) 32 32, .slice am (za lm) cm]) (sz := 1) En437 (by kernel_rfl) (by kernel_rfl) rfl (by decide) Hv438 ?_
    intro _ _ bk439 En442 Hv443
    refine ⟨fun _ => Hv443.pk [0, 1], ?_⟩
    exact Qe hG (by kernel_rfl) (nd396 _ _ bk439 (En442.sb) (Hv443.pk [0, 1, 2, 3, 4, 5]))
   rintro _ rfl
   refine m_z 34 (zh (ze 4 0)) En437 Hv438 fun _ _ bk444 En447 Hv448 => ?_
   refine ⟨fun _ => Hv448.pk [0, 1], ?_⟩
   exact Qe hG (by kernel_rfl) (nd413 _ _ bk444 (En447.sb) (Hv448.pk [0, 1, 2, 3, 4, 5]))
  have nd449 : ∀ (ac : Act) (wo : World) (bk307 : Nat), Env ac 54 [(3, pt bk1), (5, pt bk6), (6, .bool false), (7, pt bk24), (9, pt bk50), (11, pt bk74), (12, pt bk307), (40, .slice (some ⟨bk6, 0, none⟩) 32 64), (42, .slice am (za lm) cm)] → Ev w [] wo [.box bk1 (bys pb) 22, .box bk6 (bys sg) 29, .box bk24 (zh (toL pb)) 43, .box bk50 (zh (toL (zk 32 sg))) 43, .box bk74 (zh (nd (lv (zk 32 (zo 32 sg))))) 34, .box bk307 (zh (ze 4 0)) 34] → G 4 #[true, false, true, false, false, true, false] ac wo := by
   intro _ _ bk307 En452 Hv453
   refine Zi hG ?_
   refine q_t 1 ?_
   refine Zp (d := some 41) (t := 22) (e := 5) (sz := 1) (m := 32) (lo := 0) (hi := 32) (b := bk1) (off := 0) (lov := none) (hiv := none) (o := 0) En452 (by kernel_rfl) (by kernel_rfl) (by kernel_rfl) (by omega) (by omega) (by omega) (.inl ⟨rfl, rfl⟩) (.inl ⟨rfl, rfl⟩) (by omega) ?_
   intro _ En455
   refine ⟨fun _ => Hv453.pk [0, 1], ?_⟩
   refine q_t 3 ?_
   refine Qu (d := some 43) (t := 71) (T := 26) (m := 3) (parts := #[(0, .slice (some ⟨bk6, 0, none⟩) 32 64), (1, .slice (some ⟨bk1, 0, none⟩) 32 32), (2, .slice am (za lm) cm)]) (xs := [.slice (some ⟨bk6, 0, none⟩) 32 64, .slice (some ⟨bk1, 0, none⟩) 32 32, .slice am (za lm) cm]) (sz := 1) En455 (by kernel_rfl) (by kernel_rfl) rfl (by decide) Hv453 ?_
   intro _ _ bk456 En459 Hv460
   refine ⟨fun _ => Hv460.pk [0, 1], ?_⟩
   refine q_t 4 ?_
   rw [show (.slice (some ⟨bk6, 0, none⟩) 32 64 : Value) = .slice (some ⟨bk6, 0, none⟩) (za (zk 32 sg)) 64 from by rw [show za (zk 32 sg) = 32 from by first | omega | (simp only [zE, zJ, zQ, zp, zr, zG, hpb, hsg]; omega) | (simp only [zE, zJ, zQ, zp, zr, zG, hpb, hsg])]] at Hv460
   rw [show (.slice (some ⟨bk1, 0, none⟩) 32 32 : Value) = .slice (some ⟨bk1, 0, none⟩) (za pb) 32 from by rw [show za pb = 32 from by first | omega | (simp only [zE, zJ, zQ, zp, zr, zG, hpb, hsg]; omega) | (simp only [zE, zJ, zQ, zp, zr, zG, hpb, hsg])]] at Hv460
   refine c_p En459 Hv460 (QT _ (some ⟨bk456, 0, none⟩) 3 3 ([⟨some ⟨bk6, 0, none⟩, 64, zk 32 sg⟩, ⟨some ⟨bk1, 0, none⟩, 32, pb⟩, ⟨am, cm, lm⟩] : List (Sl UInt8)) (by first | rfl | (simp; done) | (simp; omega) | omega) ⟨Hv460.heap.ro (k := 6) rfl [] (by kernel_rfl) rfl, (fun e => by cases e), (by simp), (by simp), (zu.2 ⟨((ZX (Hv460.heap.roBox (k := 1) (m := 64) rfl (zq (zC hsg)) [] (by kernel_rfl) rfl) hsg (by first | decide | (dsimp only; decide))).take 32), (zu.2 ⟨(ZX (Hv460.heap.roBox (k := 0) (m := 32) rfl (zq (zC hpb)) [] (by kernel_rfl) rfl) hpb (by first | decide | (dsimp only; decide))), (zu.2 ⟨((im.ev Hv460).pick [] (by kernel_rfl)), (fun x h => absurd h z3)⟩)⟩)⟩)⟩ (zu.2 ⟨(show za (zk 32 sg) ≤ 140737488353280 from (by first | omega | (simp only [zE, zJ, zQ, zp, zr, zG, hpb, hsg]; omega) | (simp only [zE, zJ, zQ, zp, zr, zG, hpb, hsg]; decide))), (zu.2 ⟨(show za pb ≤ 140737488353280 from (by first | omega | (simp only [zE, zJ, zQ, zp, zr, zG, hpb, hsg]; omega) | (simp only [zE, zJ, zQ, zp, zr, zG, hpb, hsg]; decide))), (zu.2 ⟨(show za lm ≤ 140737488353280 from (by first | omega | (simp only [zE, zJ, zQ, zp, zr, zG, hpb, hsg]; omega) | (simp only [zE, zJ, zQ, zp, zr, zG, hpb, hsg]; decide))), (fun x h => absurd h z3)⟩)⟩)⟩) (b := (zk 32 sg) ++ (pb ++ (lm))) (by simp only [Zq, ZQ, Zw]) ((gk32.ev Hv460).pick [] (by kernel_rfl)) ((gk64.ev Hv460).pick [] (by kernel_rfl))) fun _ _ En466 Hv467 => ?_
   refine ⟨fun _ => Hv467.pk [0, 1], ?_⟩
   refine q_t 6 ?_
   refine m_g 5 0 4 (zh (nd (nE ((zk 32 sg) ++ (pb ++ (lm)))))) _ [.box bk1 (bys pb) 22, .box bk6 (bys sg) 29, .box bk24 (zh (toL pb)) 43, .box bk50 (zh (toL (zk 32 sg))) 43, .box bk74 (zh (nd (lv (zk 32 (zo 32 sg))))) 34, .box bk307 (zh (nd (nE ((zk 32 sg) ++ (pb ++ (lm)))))) 34, .vec (some ⟨bk456, 0, none⟩) 3 1 [.slice (some ⟨bk6, 0, none⟩) (za (zk 32 sg)) 64, .slice (some ⟨bk1, 0, none⟩) (za pb) 32, .slice am (za lm) cm] 26] En466 Hv467 rfl (zc (zl _ _)) (by rw [(zc (zf))]; first | decide | (simp; done)) (zv _) (zs (zc (zf))) rfl fun _ _ En470 Hv471 => ?_
   refine ⟨fun _ => Hv471.pk [0, 1], ?_⟩
   exact h_e ⟨bk307, En470.sb, Hv471.pk [0, 1, 2, 3, 4, 5]⟩
  have nd472 : ∀ (ac : Act) (wo : World) (bk334 : Nat), Env ac 54 [(3, pt bk1), (5, pt bk6), (6, .bool false), (7, pt bk24), (9, pt bk50), (11, pt bk74), (12, pt bk334), (41, .slice (some ⟨bk1, 0, none⟩) 32 32), (42, .slice am (za lm) cm)] → Ev w [] wo [.box bk1 (bys pb) 22, .box bk6 (bys sg) 29, .box bk24 (zh (toL pb)) 43, .box bk50 (zh (toL (zk 32 sg))) 43, .box bk74 (zh (nd (lv (zk 32 (zo 32 sg))))) 34, .box bk334 (zh (ze 4 0)) 34] → G 4 #[false, true, true, false, false, true, false] ac wo := by
   intro _ _ bk334 En475 Hv476
   refine Zi hG ?_
   refine q_t 0 ?_
   refine Zp (d := some 40) (t := 29) (e := 5) (sz := 1) (m := 64) (lo := 0) (hi := 32) (b := bk6) (off := 0) (lov := none) (hiv := (some (.int .i64 32))) (o := 0) En475 (by kernel_rfl) (by kernel_rfl) (by kernel_rfl) (by omega) (by omega) (by omega) (.inl ⟨rfl, rfl⟩) (.inr ⟨.i64, rfl⟩) (by omega) ?_
   intro _ En478
   refine ⟨fun _ => Hv476.pk [0, 1], ?_⟩
   refine q_t 3 ?_
   refine Qu (d := some 43) (t := 71) (T := 26) (m := 3) (parts := #[(0, .slice (some ⟨bk6, 0, none⟩) 32 64), (1, .slice (some ⟨bk1, 0, none⟩) 32 32), (2, .slice am (za lm) cm)]) (xs := [.slice (some ⟨bk6, 0, none⟩) 32 64, .slice (some ⟨bk1, 0, none⟩) 32 32, .slice am (za lm) cm]) (sz := 1) En478 (by kernel_rfl) (by kernel_rfl) rfl (by decide) Hv476 ?_
   intro _ _ bk479 En482 Hv483
   refine ⟨fun _ => Hv483.pk [0, 1], ?_⟩
   refine q_t 4 ?_
   rw [show (.slice (some ⟨bk6, 0, none⟩) 32 64 : Value) = .slice (some ⟨bk6, 0, none⟩) (za (zk 32 sg)) 64 from by rw [show za (zk 32 sg) = 32 from by first | omega | (simp only [zE, zJ, zQ, zp, zr, zG, hpb, hsg]; omega) | (simp only [zE, zJ, zQ, zp, zr, zG, hpb, hsg])]] at Hv483
   rw [show (.slice (some ⟨bk1, 0, none⟩) 32 32 : Value) = .slice (some ⟨bk1, 0, none⟩) (za pb) 32 from by rw [show za pb = 32 from by first | omega | (simp only [zE, zJ, zQ, zp, zr, zG, hpb, hsg]; omega) | (simp only [zE, zJ, zQ, zp, zr, zG, hpb, hsg])]] at Hv483
   refine c_p En482 Hv483 (QT _ (some ⟨bk479, 0, none⟩) 3 3 ([⟨some ⟨bk6, 0, none⟩, 64, zk 32 sg⟩, ⟨some ⟨bk1, 0, none⟩, 32, pb⟩, ⟨am, cm, lm⟩] : List (Sl UInt8)) (by first | rfl | (simp; done) | (simp; omega) | omega) ⟨Hv483.heap.ro (k := 6) rfl [] (by kernel_rfl) rfl, (fun e => by cases e), (by simp), (by simp), (zu.2 ⟨((ZX (Hv483.heap.roBox (k := 1) (m := 64) rfl (zq (zC hsg)) [] (by kernel_rfl) rfl) hsg (by first | decide | (dsimp only; decide))).take 32), (zu.2 ⟨(ZX (Hv483.heap.roBox (k := 0) (m := 32) rfl (zq (zC hpb)) [] (by kernel_rfl) rfl) hpb (by first | decide | (dsimp only; decide))), (zu.2 ⟨((im.ev Hv483).pick [] (by kernel_rfl)), (fun x h => absurd h z3)⟩)⟩)⟩)⟩ (zu.2 ⟨(show za (zk 32 sg) ≤ 140737488353280 from (by first | omega | (simp only [zE, zJ, zQ, zp, zr, zG, hpb, hsg]; omega) | (simp only [zE, zJ, zQ, zp, zr, zG, hpb, hsg]; decide))), (zu.2 ⟨(show za pb ≤ 140737488353280 from (by first | omega | (simp only [zE, zJ, zQ, zp, zr, zG, hpb, hsg]; omega) | (simp only [zE, zJ, zQ, zp, zr, zG, hpb, hsg]; decide))), (zu.2 ⟨(show za lm ≤ 140737488353280 from (by first | omega | (simp only [zE, zJ, zQ, zp, zr, zG, hpb, hsg]; omega) | (simp only [zE, zJ, zQ, zp, zr, zG, hpb, hsg]; decide))), (fun x h => absurd h z3)⟩)⟩)⟩) (b := (zk 32 sg) ++ (pb ++ (lm))) (by simp only [Zq, ZQ, Zw]) ((gk32.ev Hv483).pick [] (by kernel_rfl)) ((gk64.ev Hv483).pick [] (by kernel_rfl))) fun _ _ En489 Hv490 => ?_
   refine ⟨fun _ => Hv490.pk [0, 1], ?_⟩
   refine q_t 6 ?_
   refine m_g 5 0 4 (zh (nd (nE ((zk 32 sg) ++ (pb ++ (lm)))))) _ [.box bk1 (bys pb) 22, .box bk6 (bys sg) 29, .box bk24 (zh (toL pb)) 43, .box bk50 (zh (toL (zk 32 sg))) 43, .box bk74 (zh (nd (lv (zk 32 (zo 32 sg))))) 34, .box bk334 (zh (nd (nE ((zk 32 sg) ++ (pb ++ (lm)))))) 34, .vec (some ⟨bk479, 0, none⟩) 3 1 [.slice (some ⟨bk6, 0, none⟩) (za (zk 32 sg)) 64, .slice (some ⟨bk1, 0, none⟩) (za pb) 32, .slice am (za lm) cm] 26] En489 Hv490 rfl (zc (zl _ _)) (by rw [(zc (zf))]; first | decide | (simp; done)) (zv _) (zs (zc (zf))) rfl fun _ _ En493 Hv494 => ?_
   refine ⟨fun _ => Hv494.pk [0, 1], ?_⟩
   exact h_e ⟨bk334, En493.sb, Hv494.pk [0, 1, 2, 3, 4, 5]⟩
  have nd495 : ∀ (ac : Act) (wo : World), Env ac 54 [(3, pt bk1), (5, pt bk6), (6, .bool false), (7, pt bk24), (9, pt bk50), (11, pt bk74), (40, .slice (some ⟨bk6, 0, none⟩) 32 64), (42, .slice am (za lm) cm)] → Ev w [] wo [.box bk1 (bys pb) 22, .box bk6 (bys sg) 29, .box bk24 (zh (toL pb)) 43, .box bk50 (zh (toL (zk 32 sg))) 43, .box bk74 (zh (nd (lv (zk 32 (zo 32 sg))))) 34] → G 5 #[true, false, true, false, false, false, false] ac wo := by
   intro _ _ En498 Hv499
   refine Zi hG ?_
   refine Qc [1, 5] (by kernel_rfl) rfl ?_
   refine ⟨?_, ?_, trivial⟩
   ·
    rintro _ rfl
    refine Zp (d := some 41) (t := 22) (e := 5) (sz := 1) (m := 32) (lo := 0) (hi := 32) (b := bk1) (off := 0) (lov := none) (hiv := none) (o := 0) En498 (by kernel_rfl) (by kernel_rfl) (by kernel_rfl) (by omega) (by omega) (by omega) (.inl ⟨rfl, rfl⟩) (.inl ⟨rfl, rfl⟩) (by omega) ?_
    intro _ En501
    refine ⟨fun _ => Hv499.pk [0, 1], ?_⟩
    exact Qe hG (by kernel_rfl) (nd434 _ _ (En501.sb) (Hv499.pk [0, 1, 2, 3, 4]))
   rintro _ rfl
   refine m_z 34 (zh (ze 4 0)) En498 Hv499 fun _ _ bk502 En505 Hv506 => ?_
   refine ⟨fun _ => Hv506.pk [0, 1], ?_⟩
   exact Qe hG (by kernel_rfl) (nd449 _ _ bk502 (En505.sb) (Hv506.pk [0, 1, 2, 3, 4, 5]))
  have nd507 : ∀ (ac : Act) (wo : World), Env ac 54 [(3, pt bk1), (5, pt bk6), (6, .bool false), (7, pt bk24), (9, pt bk50), (11, pt bk74), (41, .slice (some ⟨bk1, 0, none⟩) 32 32), (42, .slice am (za lm) cm)] → Ev w [] wo [.box bk1 (bys pb) 22, .box bk6 (bys sg) 29, .box bk24 (zh (toL pb)) 43, .box bk50 (zh (toL (zk 32 sg))) 43, .box bk74 (zh (nd (lv (zk 32 (zo 32 sg))))) 34] → G 5 #[false, true, true, false, false, false, false] ac wo := by
   intro _ _ En510 Hv511
   refine Zi hG ?_
   refine Qc [0, 5] (by kernel_rfl) rfl ?_
   refine ⟨?_, ?_, trivial⟩
   ·
    rintro _ rfl
    refine Zp (d := some 40) (t := 29) (e := 5) (sz := 1) (m := 64) (lo := 0) (hi := 32) (b := bk6) (off := 0) (lov := none) (hiv := (some (.int .i64 32))) (o := 0) En510 (by kernel_rfl) (by kernel_rfl) (by kernel_rfl) (by omega) (by omega) (by omega) (.inl ⟨rfl, rfl⟩) (.inr ⟨.i64, rfl⟩) (by omega) ?_
    intro _ En513
    refine ⟨fun _ => Hv511.pk [0, 1], ?_⟩
    exact Qe hG (by kernel_rfl) (nd434 _ _ (En513.sb) (Hv511.pk [0, 1, 2, 3, 4]))
   rintro _ rfl
   refine m_z 34 (zh (ze 4 0)) En510 Hv511 fun _ _ bk514 En517 Hv518 => ?_
   refine ⟨fun _ => Hv518.pk [0, 1], ?_⟩
   exact Qe hG (by kernel_rfl) (nd472 _ _ bk514 (En517.sb) (Hv518.pk [0, 1, 2, 3, 4, 5]))
  have nd519 : ∀ (ac : Act) (wo : World) (bk357 : Nat), Env ac 54 [(3, pt bk1), (5, pt bk6), (6, .bool false), (7, pt bk24), (9, pt bk50), (11, pt bk74), (12, pt bk357), (42, .slice am (za lm) cm)] → Ev w [] wo [.box bk1 (bys pb) 22, .box bk6 (bys sg) 29, .box bk24 (zh (toL pb)) 43, .box bk50 (zh (toL (zk 32 sg))) 43, .box bk74 (zh (nd (lv (zk 32 (zo 32 sg))))) 34, .box bk357 (zh (ze 4 0)) 34] → G 5 #[false, false, true, false, false, true, false] ac wo := by
   intro _ _ bk357 En522 Hv523
   refine Zi hG ?_
   refine Qc [0, 1] (by kernel_rfl) rfl ?_
   refine ⟨?_, ?_, trivial⟩
   ·
    rintro _ rfl
    refine Zp (d := some 40) (t := 29) (e := 5) (sz := 1) (m := 64) (lo := 0) (hi := 32) (b := bk6) (off := 0) (lov := none) (hiv := (some (.int .i64 32))) (o := 0) En522 (by kernel_rfl) (by kernel_rfl) (by kernel_rfl) (by omega) (by omega) (by omega) (.inl ⟨rfl, rfl⟩) (.inr ⟨.i64, rfl⟩) (by omega) ?_
    intro _ En525
    refine ⟨fun _ => Hv523.pk [0, 1], ?_⟩
    exact Qe hG (by kernel_rfl) (nd449 _ _ bk357 (En525.sb) (Hv523.pk [0, 1, 2, 3, 4, 5]))
   rintro _ rfl
   refine Zp (d := some 41) (t := 22) (e := 5) (sz := 1) (m := 32) (lo := 0) (hi := 32) (b := bk1) (off := 0) (lov := none) (hiv := none) (o := 0) En522 (by kernel_rfl) (by kernel_rfl) (by kernel_rfl) (by omega) (by omega) (by omega) (.inl ⟨rfl, rfl⟩) (.inl ⟨rfl, rfl⟩) (by omega) ?_
   intro _ En527
   refine ⟨fun _ => Hv523.pk [0, 1], ?_⟩
   exact Qe hG (by kernel_rfl) (nd472 _ _ bk357 (En527.sb) (Hv523.pk [0, 1, 2, 3, 4, 5]))
  refine Zi hG ?_
  refine q_s [2] [] 6 En115 (wo119.pk [0, 1]) fun _ En529 => ?_
  refine Qc [0, 1, 5] (by kernel_rfl) rfl ?_
  refine ⟨?_, ?_, ?_, trivial⟩
  ·
   rintro _ rfl
   refine Zp (d := some 40) (t := 29) (e := 5) (sz := 1) (m := 64) (lo := 0) (hi := 32) (b := bk6) (off := 0) (lov := none) (hiv := (some (.int .i64 32))) (o := 0) En529 (by kernel_rfl) (by kernel_rfl) (by kernel_rfl) (by omega) (by omega) (by omega) (.inl ⟨rfl, rfl⟩) (.inr ⟨.i64, rfl⟩) (by omega) ?_
   intro _ En531
   refine ⟨fun _ => wo119.pk [0, 1], ?_⟩
   exact Qe hG (by kernel_rfl) (nd495 _ _ (En531.sb) (wo119.pk [0, 1, 2, 3, 4]))
  ·
   rintro _ rfl
   refine Zp (d := some 41) (t := 22) (e := 5) (sz := 1) (m := 32) (lo := 0) (hi := 32) (b := bk1) (off := 0) (lov := none) (hiv := none) (o := 0) En529 (by kernel_rfl) (by kernel_rfl) (by kernel_rfl) (by omega) (by omega) (by omega) (.inl ⟨rfl, rfl⟩) (.inl ⟨rfl, rfl⟩) (by omega) ?_
   intro _ En533
   refine ⟨fun _ => wo119.pk [0, 1], ?_⟩
   exact Qe hG (by kernel_rfl) (nd507 _ _ (En533.sb) (wo119.pk [0, 1, 2, 3, 4]))
  rintro _ rfl
  refine m_z 34 (zh (ze 4 0)) En529 wo119 fun _ _ bk534 En537 Hv538 => ?_
  refine ⟨fun _ => Hv538.pk [0, 1], ?_⟩
  exact Qe hG (by kernel_rfl) (nd519 _ _ bk534 (En537.sb) (Hv538.pk [0, 1, 2, 3, 4, 5]))
 rintro _ _ ⟨bk261, En541, Hv542⟩
 refine zg <| wp_seq <| r_c (fun ac wo => Env ac 54 [(3, pt bk1), (5, pt bk6), (6, .bool (J3 (k1 (tmF Z7 (nv (nd (lv (zk 32 (zo 32 sg))))) 64)) (k2 (tmF Z7 (nv (nd (lv (zk 32 (zo 32 sg))))) 64)) (k3 (tmF Z7 (nv (nd (lv (zk 32 (zo 32 sg))))) 64)) (k1 (wtE (toL (zk 32 sg)) (tmF (toL pb) (nv (nd (nE ((zk 32 sg) ++ (pb ++ (lm)))))) 64))) (k2 (wtE (toL (zk 32 sg)) (tmF (toL pb) (nv (nd (nE ((zk 32 sg) ++ (pb ++ (lm)))))) 64))) (k3 (wtE (toL (zk 32 sg)) (tmF (toL pb) (nv (nd (nE ((zk 32 sg) ++ (pb ++ (lm)))))) 64))))), (7, pt bk24), (9, pt bk50), (11, pt bk74), (12, pt bk261)] ∧ Ev w [] wo [.box bk1 (bys pb) 22, .box bk6 (bys sg) 29, .box bk24 (zh (toL pb)) 43, .box bk50 (zh (toL (zk 32 sg))) 43, .box bk74 (zh (nd (lv (zk 32 (zo 32 sg))))) 34, .box bk261 (zh (nd (nE ((zk 32 sg) ++ (pb ++ (lm)))))) 34]) ?_ ?_
 ·
  refine s_g0 [(3, pt bk1), (5, pt bk6), (7, pt bk24), (9, pt bk50), (11, pt bk74), (12, pt bk261)] [0,1,2,3,4,5,6,7,8,9] [(6, .bool (J3 (k1 (tmF Z7 (nv (nd (lv (zk 32 (zo 32 sg))))) 64)) (k2 (tmF Z7 (nv (nd (lv (zk 32 (zo 32 sg))))) 64)) (k3 (tmF Z7 (nv (nd (lv (zk 32 (zo 32 sg))))) 64)) (k1 (wtE (toL (zk 32 sg)) (tmF (toL pb) (nv (nd (nE ((zk 32 sg) ++ (pb ++ (lm)))))) 64))) (k2 (wtE (toL (zk 32 sg)) (tmF (toL pb) (nv (nd (nE ((zk 32 sg) ++ (pb ++ (lm)))))) 64))) (k3 (wtE (toL (zk 32 sg)) (tmF (toL pb) (nv (nd (nE ((zk 32 sg) ++ (pb ++ (lm)))))) 64))))), (45, .agg (zi (zh Z7))), (46, .agg (zi (zh (nd (lv (zk 32 (zo 32 sg))))))), (47, .agg (zi (zh (tmF Z7 (nv (nd (lv (zk 32 (zo 32 sg))))) 64)))), (48, .agg (zi (zh (toL (zk 32 sg))))), (49, .agg (zi (zh (toL pb)))), (50, .agg (zi (zh (nd (nE ((zk 32 sg) ++ (pb ++ (lm)))))))), (51, .agg (zi (zh (tmF (toL pb) (nv (nd (nE ((zk 32 sg) ++ (pb ++ (lm)))))) 64)))), (52, .agg (zi (zh (wtE (toL (zk 32 sg)) (tmF (toL pb) (nv (nd (nE ((zk 32 sg) ++ (pb ++ (lm)))))) 64))))), (53, .bool (J3 (k1 (tmF Z7 (nv (nd (lv (zk 32 (zo 32 sg))))) 64)) (k2 (tmF Z7 (nv (nd (lv (zk 32 (zo 32 sg))))) 64)) (k3 (tmF Z7 (nv (nd (lv (zk 32 (zo 32 sg))))) 64)) (k1 (wtE (toL (zk 32 sg)) (tmF (toL pb) (nv (nd (nE ((zk 32 sg) ++ (pb ++ (lm)))))) 64))) (k2 (wtE (toL (zk 32 sg)) (tmF (toL pb) (nv (nd (nE ((zk 32 sg) ++ (pb ++ (lm)))))) 64))) (k3 (wtE (toL (zk 32 sg)) (tmF (toL pb) (nv (nd (nE ((zk 32 sg) ++ (pb ++ (lm)))))) 64)))))] 0 [(3, pt bk1), (5, pt bk6), (6, .bool (J3 (k1 (tmF Z7 (nv (nd (lv (zk 32 (zo 32 sg))))) 64)) (k2 (tmF Z7 (nv (nd (lv (zk 32 (zo 32 sg))))) 64)) (k3 (tmF Z7 (nv (nd (lv (zk 32 (zo 32 sg))))) 64)) (k1 (wtE (toL (zk 32 sg)) (tmF (toL pb) (nv (nd (nE ((zk 32 sg) ++ (pb ++ (lm)))))) 64))) (k2 (wtE (toL (zk 32 sg)) (tmF (toL pb) (nv (nd (nE ((zk 32 sg) ++ (pb ++ (lm)))))) 64))) (k3 (wtE (toL (zk 32 sg)) (tmF (toL pb) (nv (nd (nE ((zk 32 sg) ++ (pb ++ (lm)))))) 64))))), (7, pt bk24), (9, pt bk50), (11, pt bk74), (12, pt bk261)] (En541.sb) (Hv542.trans (z4 Hv542.heap)) ?_ fun _ _ En610 Hv611 => ?_
  ·
   refine s_f (fun _ => XK _) ?_
   refine s_a 4 0 4 (zh (nd (lv (zk 32 (zo 32 sg))))) rfl (zq (zc (zl _ _))) (zc (zl _ _)) ?_
   refine s_f (fun _ => JB _ Z7 (nd (lv (zk 32 (zo 32 sg)))) (Ja _ _) (zl _ _)) ?_
   refine s_a 3 0 16 (zh (toL (zk 32 sg))) rfl (zq (zc (Jv _))) (zc (Jv _)) ?_
   refine s_a 2 0 16 (zh (toL pb)) rfl (zq (zc (Jv _))) (zc (Jv _)) ?_
   refine s_a 5 0 4 (zh (nd (nE ((zk 32 sg) ++ (pb ++ (lm)))))) rfl (zq (zc (zl _ _))) (zc (zl _ _)) ?_
   refine s_f (fun _ => JB _ (toL pb) (nd (nE ((zk 32 sg) ++ (pb ++ (lm))))) (Jv _) (zl _ _)) ?_
   refine s_f (fun _ => with16_go _ (toL (zk 32 sg)) (tmF (toL pb) (nv (nd (nE ((zk 32 sg) ++ (pb ++ (lm)))))) 64) (Jv _) (tmF_len _ _ _)) ?_
   refine s_f (fun _ => same16_go _ (tmF Z7 (nv (nd (lv (zk 32 (zo 32 sg))))) 64) (wtE (toL (zk 32 sg)) (tmF (toL pb) (nv (nd (nE ((zk 32 sg) ++ (pb ++ (lm)))))) 64)) (tmF_len _ _ _) (wtE_len _ _)) ?_
   refine s_p [] ?_
   exact s_n
  exact a_e ⟨En610.sb, Hv611.pk [0, 1, 2, 3, 4, 5]⟩
 rintro _ _ ⟨En614, Hv615⟩
 refine zg <| wp_ret <| Qb (t := 6) (v := .bool (J3 (k1 (tmF Z7 (nv (nd (lv (zk 32 (zo 32 sg))))) 64)) (k2 (tmF Z7 (nv (nd (lv (zk 32 (zo 32 sg))))) 64)) (k3 (tmF Z7 (nv (nd (lv (zk 32 (zo 32 sg))))) 64)) (k1 (wtE (toL (zk 32 sg)) (tmF (toL pb) (nv (nd (nE ((zk 32 sg) ++ (pb ++ (lm)))))) 64))) (k2 (wtE (toL (zk 32 sg)) (tmF (toL pb) (nv (nd (nE ((zk 32 sg) ++ (pb ++ (lm)))))) 64))) (k3 (wtE (toL (zk 32 sg)) (tmF (toL pb) (nv (nd (nE ((zk 32 sg) ++ (pb ++ (lm)))))) 64))))) En614 (by kernel_rfl) (by kernel_rfl) ?_
 have hy : lv (hS sg) < mF 4 := (by have h := hc116; have e : nv (nd (lv (hS sg))) = lv (hS sg) := Qd (lv_w (hS_len hsg)); unfold hS at e ⊢; rw [e] at h; simpa using h)
 exact ⟨congrArg (fun t : Bool => Ending.returned (.bool t)) (ver_yes hsg hp93 hp104 hy rfl rfl), Hv615.pk []⟩

end Go.Proofs.YtlnogkmnklfjlaaDoor

/- Layer 12: a live question. -/

namespace Go.Proofs.YtlnogkmnklfjlaaDoor
open Go.Dbr
set_option maxRecDepth 100000
set_option maxHeartbeats 2000000
set_option linter.unusedVariables false
set_option linter.unusedSimpArgs false

def seedH : List UInt8 := [157, 97, 177, 157, 239, 253, 90, 96, 186, 132, 74, 244, 146, 236, 44, 196, 68, 73, 197, 105, 123, 50, 105, 25, 112, 59, 172, 3, 28, 174, 127, 96]
def pubH : List UInt8 := [215, 90, 152, 1, 130, 177, 10, 183, 213, 75, 254, 211, 201, 100, 7, 58, 14, 225, 114, 243, 218, 166, 35, 37, 175, 2, 26, 104, 247, 7, 81, 26]
theorem sE_head : sE seedH = 36144925721603087658594284515452164870581325872720374094707712194495455132720 := by decide +kernel
theorem puN {n f : Nat} (h : n < 2 ^ f) : outN (zt 1 (mulG f n (BX, BY_, 1, zt 1 BX BY_)).1 (ivE (mulG f n (BX, BY_, 1, zt 1 BX BY_)).2.2.1)) (zt 1 (mulG f n (BX, BY_, 1, zt 1 BX BY_)).2.1 (ivE (mulG f n (BX, BY_, 1, zt 1 BX BY_)).2.2.1)) = puE n := by
  have r := repN_mul f n _ gB h repB
  rw [puE, outE, aff_x r.1 r.2.1, aff_x r.1 r.2.2.1]
theorem pu_head : puE (sE seedH) = pubH := by
  rw [sE_head, ← puN (n := 36144925721603087658594284515452164870581325872720374094707712194495455132720) (f := 255) (by decide), ivE_pw]
  decide +kernel

theorem public_head (w : World) (gk32 : InU32 w [] (some ⟨0, 0, none⟩) 64 Sh.K32) (gk64 : InU64 w [] (some ⟨1, 0, none⟩) 80 Sh.K64) : Calls Tryd.prog 10 #[.agg #[.int .u8 157, .int .u8 97, .int .u8 177, .int .u8 157, .int .u8 239, .int .u8 253, .int .u8 90, .int .u8 96, .int .u8 186, .int .u8 132, .int .u8 74, .int .u8 244, .int .u8 146, .int .u8 236, .int .u8 44, .int .u8 196, .int .u8 68, .int .u8 73, .int .u8 197, .int .u8 105, .int .u8 123, .int .u8 50, .int .u8 105, .int .u8 25, .int .u8 112, .int .u8 59, .int .u8 172, .int .u8 3, .int .u8 28, .int .u8 174, .int .u8 127, .int .u8 96]] w fun e w' => e = .returned (.agg (zi (bys pubH))) ∧ Ev w [] w' [] := by
  have h := public_go w seedH rfl gk32 gk64
  rw [pu_head] at h
  exact h

theorem head_ok (w : World) (gk32 : InU32 w [] (some ⟨0, 0, none⟩) 64 Sh.K32) (gk64 : InU64 w [] (some ⟨1, 0, none⟩) 80 Sh.K64) : Calls Tryd.prog 6 #[] w fun e w' => e = .returned (.bool true) ∧ Ev w [] w' [] := by
 have hpH : za pubH = 32 := rfl
 refine d_0 [] 24 Go.Proofs.Tryd.func6 Go.Proofs.Tryd.ntmps6 (Heap.nil _) fun act0 En0 Hv0 => ?_
 refine d_s [0] [] En0 fun _ En2 => ?_
 refine wp_seq <| zm <| d_k [0,3] [] 1 En2 fun _ En4 => ?_
 refine f_o <| m_z 22 (bys (ze 32 0)) En4 Hv0 fun _ _ bk5 En8 Hv9 => ?_
 refine f_o <| m_g 0 0 32 (bys ([157, 97, 177, 157, 239, 253, 90, 96, 186, 132, 74, 244, 146, 236, 44, 196, 68, 73, 197, 105, 123, 50, 105, 25, 112, 59, 172, 3, 28, 174, 127, 96] : List UInt8)) _ [.box bk5 (bys ([157, 97, 177, 157, 239, 253, 90, 96, 186, 132, 74, 244, 146, 236, 44, 196, 68, 73, 197, 105, 123, 50, 105, 25, 112, 59, 172, 3, 28, 174, 127, 96] : List UInt8)) 22] En8 Hv9 rfl (zC (show za ([157, 97, 177, 157, 239, 253, 90, 96, 186, 132, 74, 244, 146, 236, 44, 196, 68, 73, 197, 105, 123, 50, 105, 25, 112, 59, 172, 3, 28, 174, 127, 96] : List UInt8) = 32 from rfl)) (by rw [(zC (zf))]; first | decide | (simp; done)) (ZD _) (zs (zC (zf))) rfl fun _ _ En12 Hv13 => ?_
 refine f_e <| zg <| wp_seq <| zm <| f_o <| m_a 0 0 32 (bys ([157, 97, 177, 157, 239, 253, 90, 96, 186, 132, 74, 244, 146, 236, 44, 196, 68, 73, 197, 105, 123, 50, 105, 25, 112, 59, 172, 3, 28, 174, 127, 96] : List UInt8)) En12 Hv13 rfl (zq (zC (show za ([157, 97, 177, 157, 239, 253, 90, 96, 186, 132, 74, 244, 146, 236, 44, 196, 68, 73, 197, 105, 123, 50, 105, 25, 112, 59, 172, 3, 28, 174, 127, 96] : List UInt8) = 32 from rfl))) (zC (show za ([157, 97, 177, 157, 239, 253, 90, 96, 186, 132, 74, 244, 146, 236, 44, 196, 68, 73, 197, 105, 123, 50, 105, 25, 112, 59, 172, 3, 28, 174, 127, 96] : List UInt8) = 32 from rfl)) fun _ En15 => ?_
 refine f_o <| c_p En15 Hv13 (public_head _ ((gk32.ev Hv13).pick [] (by kernel_rfl)) ((gk64.ev Hv13).pick [] (by kernel_rfl))) fun _ _ En21 Hv22 => ?_
 refine f_o <| m_z 22 (bys (ze 32 0)) En21 Hv22 fun _ _ bk23 En26 Hv27 => ?_
 refine f_o <| m_g 1 0 32 (bys pubH) _ [.box bk5 (bys ([157, 97, 177, 157, 239, 253, 90, 96, 186, 132, 74, 244, 146, 236, 44, 196, 68, 73, 197, 105, 123, 50, 105, 25, 112, 59, 172, 3, 28, 174, 127, 96] : List UInt8)) 22, .box bk23 (bys pubH) 22] En26 Hv27 rfl (zC hpH) (by rw [(zC (zf))]; first | decide | (simp; done)) (ZD _) (zs (zC (zf))) rfl fun _ _ En30 Hv31 => ?_
 refine f_e <| zg <| wp_seq <| zm <| d_k [0,1,2,6] [] 1 En30 fun _ En33 => ?_
 refine f_o ?_
 have hb34 : 0 < za pubH := by rw [hpH]; omega
 refine m_v 1 0 (bv (zb pubH 0 0)) En33 Hv31 rfl (Qa hb34) fun _ En36 => ?_
 refine d_k [0,1,2,9,10] [(2, g_b (show (((Zn (zb pubH 0 0) : Nat) : Int) == (215 : Int)) = true from (by decide)))] 5 En36 fun _ En38 => ?_
 refine f_o ?_
 have hb39 : 1 < za pubH := by rw [hpH]; omega
 refine m_v 1 1 (bv (zb pubH 1 0)) En38 Hv31 rfl (Qa hb39) fun _ En41 => ?_
 refine d_k [0,1,2,14,15] [(6, g_b (show (((Zn (zb pubH 1 0) : Nat) : Int) == (90 : Int)) = true from (by decide)))] 10 En41 fun _ En43 => ?_
 refine f_o ?_
 have hb44 : 30 < za pubH := by rw [hpH]; omega
 refine m_v 1 30 (bv (zb pubH 30 0)) En43 Hv31 rfl (Qa hb44) fun _ En46 => ?_
 refine d_k [0,1,2,19,20] [(11, g_b (show (((Zn (zb pubH 30 0) : Nat) : Int) == (81 : Int)) = true from (by decide)))] 15 En46 fun _ En48 => ?_
 refine f_o ?_
 have hb49 : 31 < za pubH := by rw [hpH]; omega
 refine m_v 1 31 (bv (zb pubH 31 0)) En48 Hv31 rfl (Qa hb49) fun _ En51 => ?_
 refine d_e [0,1,2] [(16, g_b (show (((Zn (zb pubH 31 0) : Nat) : Int) == (26 : Int)) = true from (by decide)))] En51 fun _ En53 => ?_
 refine zg <| wp_ret <| Qb (t := 0) (v := .bool true) En53 (by kernel_rfl) (by kernel_rfl) ?_
 exact ⟨rfl, Hv31.pk []⟩

end Go.Proofs.YtlnogkmnklfjlaaDoor

/- Layer 12: what the statements ask, walked: points, own. -/


namespace Go.Proofs.YtlnogkmnklfjlaaDoor
open Go.Dbr
set_option maxRecDepth 100000
set_option maxHeartbeats 2000000
set_option linter.unusedVariables false
set_option linter.unusedSimpArgs false

theorem lvM {z : Nat} (h : z < mF 4) : lv (lb 32 z) = z := by
  rw [lb_val, Nat.mod_eq_of_lt (show z < 256 ^ 32 from Nat.lt_trans h (by decide))]
theorem zS_ltM (sd tx : List UInt8) : zS sd tx < mF 4 := Nat.mod_lt _ (by decide)
theorem si_take (sd tx : List UInt8) : zk 32 (siE sd tx) = puE (rS sd tx) := by rw [siE, List.take_left' (zE _)]
theorem half2 {a b : List UInt8} (ha : a.length = 32) (hb : b.length = 32) : hS (a ++ b) = b := by rw [hS, List.drop_left' ha, Zk (JV hb)]
theorem si_drop (sd tx : List UInt8) : hS (siE sd tx) = lb 32 (zS sd tx) := half2 (zE _) (zG _ _)
/-- a signature is its text's -/
theorem own_ver (sd tx : List UInt8) : verB (puE (sE sd)) tx (siE sd tx) = true := by
  rw [verB, si_take, si_drop, lvM (zS_ltM _ _), pu_is, pu_is, decide_eq_true (zS_ltM _ _), pu_pt, pu_pt, ← kS, zS, own_sum, decide_eq_true rfl]
  rfl

theorem own_walk (sd : List UInt8) (a_m : Option Addr) (c_m : Nat) (m : List UInt8) (w : World) (n_sd : (za sd = 32)) (i_m : InB w [] a_m c_m m) (gk32 : InU32 w [] (some ⟨0, 0, none⟩) 64 Sh.K32) (gk64 : InU64 w [] (some ⟨1, 0, none⟩) 80 Sh.K64) : Calls Tryd.prog 4 #[.agg (zi (bys sd)), .slice a_m (za m) c_m] w fun e w' => e = .returned (.bool true) ∧ Ev w [] w' [] := by
 have hs := i_m.small
 have hc2 := i_m.cap
 refine d_0 [(0, .agg (zi (bys sd))), (1, .slice a_m (za m) c_m)] 17 Go.Proofs.Tryd.func4 Go.Proofs.Tryd.ntmps4 (Heap.nil _) fun act0 En0 Hv0 => ?_
 refine wp_seq <| zm <| f_o <| m_m 22 (bys sd) En0 Hv0 fun _ _ bk1 En4 Hv5 => ?_
 refine d_e [1,2,4] [] En4 fun _ En7 => ?_
 refine zg <| wp_seq <| zm <| f_o <| c_p En7 Hv5 (head_ok _ ((gk32.ev Hv5).pick [] (by kernel_rfl)) ((gk64.ev Hv5).pick [] (by kernel_rfl))) fun _ _ En13 Hv14 => ?_
 refine d_e [1,2,4,5] [] En13 fun _ En16 => ?_
 refine zg <| wp_seq <| r_c (fun ac wo => Env ac 17 [(4, .bool (verB (puE (sE sd)) m (siE sd m)))] ∧ Ev w [] wo []) ?_ ?_
 ·
  refine s_g0 [(1, .slice a_m (za m) c_m), (2, pt bk1), (5, .bool true)] [0,1,2,3,4,5,6,7,8,9,10] [(4, .bool (verB (puE (sE sd)) m (siE sd m))), (7, .bool true), (8, .bool true), (9, .agg (zi (bys sd))), (10, .agg (zi (bys (puE (sE sd))))), (11, .slice a_m (za m) c_m), (12, .agg (zi (bys sd))), (13, .slice a_m (za m) c_m), (14, .agg (zi (bys (siE sd m)))), (15, .bool (verB (puE (sE sd)) m (siE sd m))), (16, .bool (verB (puE (sE sd)) m (siE sd m)))] 0 [(4, .bool (verB (puE (sE sd)) m (siE sd m)))] (En16.sb) (Hv14.trans (z4 Hv14.heap)) ?_ fun _ _ En68 Hv69 => ?_
  ·
   refine s_p [] ?_
   refine s_p [] ?_
   refine s_a 0 0 32 (bys sd) rfl (zq (zC n_sd)) (zC n_sd) ?_
   refine s_c (fun Mx22 _ _ En25 Hv26 => ?_) ?_
   ·
    refine c_p En25 Hv26 (public_go _ sd n_sd ((gk32.ev Hv26).pick [] (by kernel_rfl)) ((gk64.ev Hv26).pick [] (by kernel_rfl))) fun _ _ En33 Hv34 => ?_
    exact s_e En33 Hv34
   refine s_p [] ?_
   refine s_a 0 0 32 (bys sd) rfl (zq (zC n_sd)) (zC n_sd) ?_
   refine s_p [] ?_
   refine s_c (fun Mx40 _ _ En43 Hv44 => ?_) ?_
   ·
    refine c_p En43 Hv44 (sign_go _ sd n_sd a_m (za m) c_m m (by first | rfl | (simp; done) | (simp; omega) | omega) ((i_m.ev Hv44).pick [] (by kernel_rfl)) ((gk32.ev Hv44).pick [] (by kernel_rfl)) ((gk64.ev Hv44).pick [] (by kernel_rfl))) fun _ _ En51 Hv52 => ?_
    exact s_e En51 Hv52
   refine s_c (fun Mx53 _ _ En56 Hv57 => ?_) ?_
   ·
    refine c_p En56 Hv57 (verify_go _ (puE (sE sd)) (zE _) a_m (za m) c_m m (by first | rfl | (simp; done) | (simp; omega) | omega) ((i_m.ev Hv57).pick [] (by kernel_rfl)) (siE sd m) (siE_len _ _) ((gk32.ev Hv57).pick [] (by kernel_rfl)) ((gk64.ev Hv57).pick [] (by kernel_rfl))) fun _ _ En64 Hv65 => ?_
    exact s_e En64 Hv65
   refine s_p [] ?_
   refine s_p [] ?_
   exact s_n
  exact a_e ⟨En68.sb, Hv69.pk []⟩
 rintro _ _ ⟨En72, Hv73⟩
 refine zg <| wp_ret <| Qb (t := 4) (v := .bool (verB (puE (sE sd)) m (siE sd m))) En72 (by kernel_rfl) (by kernel_rfl) ?_
 exact ⟨by rw [own_ver], Hv73.pk []⟩

end Go.Proofs.YtlnogkmnklfjlaaDoor
