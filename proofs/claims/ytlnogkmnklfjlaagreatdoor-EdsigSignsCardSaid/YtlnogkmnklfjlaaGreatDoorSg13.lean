import Derived.Test.YtlnogkmnklfjlaaGreatDoorSg12
import Derived.Test.YtlnogkmnklfjlaaGreatDoorSg10
open List renaming getD → za, length → zb, replicate → zd, toArray → zg, length_replicate → zi, take → zn, set → zp, length_take → zs, length_drop → zu, forall_mem_cons → zA, length_append → zC, drop_append → z4, take_append → z5, flatMap_cons → Zn, append_nil → Zr, not_mem_nil → Zs, take_of_length_le → Zt, flatMap_nil → ZF, map_append → ZI, take_append_drop → Qv
open UInt64 renaming ofNat → zc, toNat → zw
open Go.Dbr renaming then_normal → ze, u64s_lenh → zf, u64s → zh, region_from → zk, load_whole → zq, u64s_one → zt, len_app → zE, bys_lenh → zH, m_gw → zQ, d_cell1 → z9, bys_one → Zj, h_from → Zl, m_aw → Zp, op_lit → ZO, op_slicearr → ZQ, h_ways → Qk, h_to → Ql, bys_inbox → Qo
open Go.Proofs.YtlnogkmnklfjlaaGreatDoor renaming nds_len → zl, mulM → zr, puE_len → zD, powM → zJ, lb_len → zY, ahE_len → z3, subM → z7, addM → Zh, s3_len → Zi, nv_nd → Qw, dmul_go → QP, baseD → Yb, baseL → YD, ptD_len → JD, enumber_go → JI, outN → JY, plD_len → Xh, nv_m1 → XA, times16_go → X8, nv_iv → Kh, dadd_go → Ki
open Go.Dbr.Ev renaming cellAgg → zB, drew → zO
namespace Go.Proofs.YtlnogkmnklfjlaaGreatDoor
open Go.Dbr
set_option maxRecDepth 100000
set_option maxHeartbeats 2000000
set_option linter.unusedVariables false
set_option linter.unusedSimpArgs false
theorem bytesB_go (w : World) (k : Nat) (hk : k < W256) : Calls Tryz.prog 15 #[.agg (zg (zh (tmF YD (nv (nd k)) 64)))] w fun e w' => e = .returned (.agg (zg (bys (puE k)))) ∧ Ev w [] w' [] := by
  have h := bytes16_go w (tmF YD (nv (nd k)) 64) (tmF_len _ _ _)
  rw [Qw hk, pu_L hk] at h
  rw [Qw hk]
  exact h
def rS (sd tx : List UInt8) : Nat := nE (ahE sd ++ tx)
noncomputable def kS (sd tx : List UInt8) : Nat := nE (puE (rS sd tx) ++ (puE (sE sd) ++ tx))
noncomputable def zS (sd tx : List UInt8) : Nat := Zh 4 (rS sd tx) (zr 4 (kS sd tx) (sE sd))
noncomputable def siE (sd tx : List UInt8) : List UInt8 := puE (rS sd tx) ++ lb 32 (zS sd tx)
theorem siE_len (sd tx : List UInt8) : (siE sd tx).length = 64 := by rw [siE, zC, zD, zY]
theorem nv_m4 (x y : Nat) : nv (nd (zr 4 x y)) = zr 4 x y := Qw (mulM_lt h4f x y)
theorem nv_a4 (x y : Nat) : nv (nd (Zh 4 x y)) = Zh 4 x y := Qw (addM_lt h4f x y)
theorem nv_nE (b : List UInt8) : nv (nd (nE b)) = nE b := Qw (nE_lt b)
theorem nv_sE (b : List UInt8) : nv (nd (sE b)) = sE b := Qw (sE_lt b)
theorem zS_txt (sd tx : List UInt8) : lb 32 (nv (nd (Zh 4 (nv (nd (nE (ahE sd ++ tx)))) (nv (nd (zr 4 (nv (nd (nE (puE (nE (ahE sd ++ tx)) ++ (puE (sE sd) ++ tx))))) (nv (nd (sE sd))))))))) = lb 32 (zS sd tx) := by
  rw [nv_a4, nv_m4, nv_nE, nv_nE, nv_sE]
  rfl
theorem public_go (w : World) (sd : List UInt8) (hsd : zb sd = 32) (gk32 : InU32 w [] (some ⟨0, 0, none⟩) 64 Sh.K32) (gk64 : InU64 w [] (some ⟨1, 0, none⟩) 80 Sh.K64) : Calls Tryz.prog 6 #[.agg (zg (bys sd))] w fun e w' => e = .returned (.agg (zg (bys (puE (sE sd))))) ∧ Ev w [] w' [] := by
 refine d_0 [(0, .agg (zg (bys sd)))] 14 Go.Proofs.Tryz.func6 Go.Proofs.Tryz.ntmps6 (Heap.nil _) fun Ew Ex Ey => wp_seq <| zk <| f_o <| m_m 22 (bys sd) Ex Ey fun _ _ Ez EA EB => f_o <| m_z 22 (bys (zd 32 0)) EA EB fun _ _ Ec EC Eb => f_e <| ze <| wp_seq <| zk <| f_o <| Zp 0 32 (bys sd) EC Eb rfl (zH hsd) fun _ Eh => ?_
 refine f_o <| c_0 Eh Eb (secret_go _ sd hsd ((gk32.ev Eb).pick [] (by kernel_rfl)) ((gk64.ev Eb).pick [] (by kernel_rfl))) ?_
 rintro _ _ ⟨Ed, Ee, rfl, Ei⟩
 refine ⟨_, _, _, rfl, Ei, rfl, fun _ Ej Ek => ?_⟩
 refine d_k [2,8,9] [] 5 Ej fun _ El => f_o <| m_z 33 (zh (zd 4 0)) El Ek fun _ _ Ea Em En => f_o <| zQ 3 4 (zh (nd (sE sd))) _ Em En rfl (zf (zl _ _)) (zf (zi)) (zt _) rfl fun _ _ Eo Ef => d_e [2,3] [] Eo fun _ Ep => ?_
 refine ze <| wp_seq <| r_c (fun ac wo => Env ac 14 [(2, pt Ec), (3, pt Ea)] ∧ Ev w [] wo [.box Ec (bys (puE (sE sd))) 22, .box Ea (zh (nd (sE sd))) 33]) ?_ ?_
 ·
  refine s_g0 [(2, pt Ec), (3, pt Ea)] [0,1,2,3] [(10, .agg (zg (zh YD))), (11, .agg (zg (zh (nd (sE sd))))), (12, .agg (zg (zh (tmF YD (nv (nd (sE sd))) 64)))), (13, .agg (zg (bys (puE (sE sd)))))] 1 [(2, pt Ec), (3, pt Ea), (13, .agg (zg (bys (puE (sE sd)))))] (Ep.sb) (Ef.trans (zO Ef.heap)) ?_ fun _ _ Eq Er => ?_
  ·
   refine s_f (fun _ => base_go _) ?_
   refine s_a 3 0 4 (zh (nd (sE sd))) rfl (zq (zf (zl _ _))) (zf (zl _ _)) ?_
   refine s_f (fun _ => X8 _ YD (nd (sE sd)) (ptL_len _ _) (zl _ _)) ?_
   refine s_f (fun _ => bytesB_go _ (sE sd) (sE_lt _)) ?_
   exact s_n
  refine q_u 4 ?_
  refine zQ 2 32 (bys (puE (sE sd))) [.vec Ed Ee 1 (bys (ahE sd)) 5, .box Ez (bys sd) 22, .box Ec (bys (puE (sE sd))) 22, .box Ea (zh (nd (sE sd))) 33] Eq Er rfl (zH (zD _)) (zH (zi)) (Zj _) rfl fun _ _ Es Et => ?_
  exact a_e ⟨Es.sb, Et.pk [2, 3]⟩
 rintro _ _ ⟨Eu, Eg⟩
 refine ze <| wp_ret <| z9 (v := .agg (zg (bys (puE (sE sd))))) (t := 2) (T := 22) (ad := ⟨Ec, 0, none⟩) Eu (by kernel_rfl) (by kernel_rfl) (zB (t := 22) (k := 0) (off := 0) (m := 32) (xs := bys (puE (sE sd))) Eg rfl (zq (zH (zD _))) (zH (zD _)) (by kernel_rfl) (by kernel_rfl)) ?_
 exact ⟨rfl, Eg.pk []⟩
theorem sign_go (w : World) (sd : List UInt8) (hsd : zb sd = 32) (am : Option Addr) (nm cm : Nat) (lm : List UInt8) (em : nm = zb lm) (im : InB w [] am cm lm) (gk32 : InU32 w [] (some ⟨0, 0, none⟩) 64 Sh.K32) (gk64 : InU64 w [] (some ⟨1, 0, none⟩) 80 Sh.K64) : Calls Tryz.prog 8 #[.agg (zg (bys sd)), .slice am nm cm] w fun e w' => e = .returned (.agg (zg (bys (siE sd lm)))) ∧ Ev w [] w' [] := by
 have hah := z3 sd
 subst em
 have hs := im.small
 have aX := im.cap
 refine d_0 [(0, .agg (zg (bys sd))), (1, .slice am (zb lm) cm)] 45 Go.Proofs.Tryz.func8 Go.Proofs.Tryz.ntmps8 (Heap.nil _) fun aQ aR aS => wp_seq <| zk <| f_o <| m_m 22 (bys sd) aR aS fun _ _ aT aU aV => f_o <| m_z 26 (bys (zd 64 0)) aU aV fun _ _ Ee aW EF => f_e <| ze <| wp_seq <| zk <| f_o <| Zp 0 32 (bys sd) aW EF rfl (zH hsd) fun _ ax => ?_
 refine f_o <| c_0 ax EF (secret_go _ sd hsd ((gk32.ev EF).pick [] (by kernel_rfl)) ((gk64.ev EF).pick [] (by kernel_rfl))) ?_
 rintro _ _ ⟨Ei, Ej, rfl, ay⟩
 refine ⟨_, _, _, rfl, ay, rfl, fun _ az aA => ?_⟩
 refine d_k [1,4,15,16] [] 5 az fun _ aB => f_o <| m_z 33 (zh (zd 4 0)) aB aA fun _ _ Ec aC aD => f_o <| zQ 3 4 (zh (nd (sE sd))) _ aC aD rfl (zf (zl _ _)) (zf (zi)) (zt _) rfl fun _ _ aE He => d_e [1,4,5,6] [] aE fun _ aF => ?_
 refine ze <| wp_seq <| r_c (fun ac wo => ∃ (Eb : Nat), Env ac 45 [(1, .slice am (zb lm) cm), (4, pt Ee), (5, pt Ec), (6, .slice Ei (zb (ahE sd)) Ej), (7, pt Eb)] ∧ Ev w [] wo [.vec Ei Ej 1 (bys (ahE sd)) 5, .box Ee (bys (zd 64 0)) 26, .box Ec (zh (nd (sE sd))) 33, .box Eb (bys (puE (sE sd))) 22]) ?_ ?_
 ·
  refine s_g1 [(1, .slice am (zb lm) cm), (4, pt Ee), (5, pt Ec), (6, .slice Ei (zb (ahE sd)) Ej)] [0,1,2,3] [(17, .agg (zg (zh YD))), (18, .agg (zg (zh (nd (sE sd))))), (19, .agg (zg (zh (tmF YD (nv (nd (sE sd))) 64)))), (20, .agg (zg (bys (puE (sE sd)))))] 1 [(1, .slice am (zb lm) cm), (4, pt Ee), (5, pt Ec), (6, .slice Ei (zb (ahE sd)) Ej), (20, .agg (zg (bys (puE (sE sd)))))] 4 (bys (zd 32 0)) (aF.sb) (He.trans (zO He.heap)) ?_ fun _ _ Eb aG aH => ?_
  ·
   refine s_f (fun _ => base_go _) ?_
   refine s_a 3 0 4 (zh (nd (sE sd))) rfl (zq (zf (zl _ _))) (zf (zl _ _)) ?_
   refine s_f (fun _ => X8 _ YD (nd (sE sd)) (ptL_len _ _) (zl _ _)) ?_
   refine s_f (fun _ => bytesB_go _ (sE sd) (sE_lt _)) ?_
   exact s_n
  refine q_u 5 ?_
  refine zQ 4 32 (bys (puE (sE sd))) [.vec Ei Ej 1 (bys (ahE sd)) 5, .box aT (bys sd) 22, .box Ee (bys (zd 64 0)) 26, .box Ec (zh (nd (sE sd))) 33, .box Eb (bys (puE (sE sd))) 22] aG aH rfl (zH (zD _)) (zH (zi)) (Zj _) rfl fun _ _ aI aJ => ?_
  exact a_e ⟨Eb, aI.sb, aJ.pk [0, 2, 3, 4]⟩
 rintro _ _ ⟨Eb, aK, aL⟩
 refine ze <| wp_seq <| zk <| d_k [1,4,5,7,21,22] [] 2 aK fun _ aM => f_o <| ZO (d := some 23) (t := 72) (T := 23) (m := 2) (parts := #[(0, .slice Ei (zb (ahE sd)) Ej), (1, .slice am (zb lm) cm)]) (xs := [.slice Ei (zb (ahE sd)) Ej, .slice am (zb lm) cm]) (sz := 1) aM (by kernel_rfl) (by kernel_rfl) rfl (by decide) aL ?_
 intro _ _ Hf aN Ey
 refine f_o <| c_p aN Ey (JI _ (some ⟨Hf, 0, none⟩) 2 2 ([⟨Ei, Ej, ahE sd⟩, ⟨am, cm, lm⟩] : List (Sl UInt8)) (by first | rfl | (simp; done) | (simp; omega) | omega) ⟨Ey.heap.ro (k := 4) rfl [] (by kernel_rfl) rfl, (fun e => by cases e), (by simp), (by simp), (zA.2 ⟨(bys_in Ey.heap (k := 0) rfl [] (by kernel_rfl) rfl (by first | decide | (dsimp only; omega) | (simp; done) | (simp; omega) | omega)), (zA.2 ⟨((im.ev Ey).pick [] (by kernel_rfl)), (fun x h => absurd h Zs)⟩)⟩)⟩ (zA.2 ⟨(show zb (ahE sd) ≤ 140737488353280 from (by first | omega | (simp only [zD, z3, Zi, zs, zu, zY, hsd]; omega) | (simp only [zD, z3, Zi, zs, zu, zY, hsd]; decide))), (zA.2 ⟨(show zb lm ≤ 140737488353280 from (by first | omega | (simp only [zD, z3, Zi, zs, zu, zY, hsd]; omega) | (simp only [zD, z3, Zi, zs, zu, zY, hsd]; decide))), (fun x h => absurd h Zs)⟩)⟩) (b := (ahE sd) ++ (lm)) (by simp only [Zn, ZF, Zr]) ((gk32.ev Ey).pick [] (by kernel_rfl)) ((gk64.ev Ey).pick [] (by kernel_rfl))) fun _ _ aO aP => f_o <| m_z 33 (zh (zd 4 0)) aO aP fun _ _ Ed Hg Hh => f_o <| zQ 5 4 (zh (nd (nE ((ahE sd) ++ (lm))))) _ Hg Hh rfl (zf (zl _ _)) (zf (zi)) (zt _) rfl fun _ _ Hi EG => ?_
 refine f_e <| ze <| wp_seq <| r_c (fun ac wo => ∃ (Ea : Nat), Env ac 45 [(1, .slice am (zb lm) cm), (4, pt Ee), (5, pt Ec), (7, pt Eb), (8, pt Ed), (9, pt Ea)] ∧ Ev w [] wo [.box Ee (bys (zd 64 0)) 26, .box Ec (zh (nd (sE sd))) 33, .box Eb (bys (puE (sE sd))) 22, .box Ed (zh (nd (nE ((ahE sd) ++ (lm))))) 33, .box Ea (bys (puE (nE ((ahE sd) ++ (lm))))) 22]) ?_ ?_
 ·
  refine s_g1 [(1, .slice am (zb lm) cm), (4, pt Ee), (5, pt Ec), (7, pt Eb), (8, pt Ed)] [0,1,2,3] [(25, .agg (zg (zh YD))), (26, .agg (zg (zh (nd (nE ((ahE sd) ++ (lm))))))), (27, .agg (zg (zh (tmF YD (nv (nd (nE ((ahE sd) ++ (lm))))) 64)))), (28, .agg (zg (bys (puE (nE ((ahE sd) ++ (lm)))))))] 1 [(1, .slice am (zb lm) cm), (4, pt Ee), (5, pt Ec), (7, pt Eb), (8, pt Ed), (28, .agg (zg (bys (puE (nE ((ahE sd) ++ (lm)))))))] 4 (bys (zd 32 0)) (Hi.sb) (EG.trans (zO EG.heap)) ?_ fun _ _ Ea Hj Hk => ?_
  ·
   refine s_f (fun _ => base_go _) ?_
   refine s_a 5 0 4 (zh (nd (nE ((ahE sd) ++ (lm))))) rfl (zq (zf (zl _ _))) (zf (zl _ _)) ?_
   refine s_f (fun _ => X8 _ YD (nd (nE ((ahE sd) ++ (lm)))) (ptL_len _ _) (zl _ _)) ?_
   refine s_f (fun _ => bytesB_go _ (nE ((ahE sd) ++ (lm))) (nE_lt _)) ?_
   exact s_n
  refine q_u 5 ?_
  refine zQ 6 32 (bys (puE (nE ((ahE sd) ++ (lm))))) [.vec Ei Ej 1 (bys (ahE sd)) 5, .box Ee (bys (zd 64 0)) 26, .box Ec (zh (nd (sE sd))) 33, .box Eb (bys (puE (sE sd))) 22, .vec (some ⟨Hf, 0, none⟩) 2 1 [.slice Ei (zb (ahE sd)) Ej, .slice am (zb lm) cm] 23, .box Ed (zh (nd (nE ((ahE sd) ++ (lm))))) 33, .box Ea (bys (puE (nE ((ahE sd) ++ (lm))))) 22] Hj Hk rfl (zH (zD _)) (zH (zi)) (Zj _) rfl fun _ _ Hl Hm => ?_
  exact a_e ⟨Ea, Hl.sb, Hm.pk [1, 2, 3, 5, 6]⟩
 rintro _ _ ⟨Ea, Hn, EH⟩
 refine ze <| wp_seq <| r_c (fun ac wo => ∃ (Eg : Nat), Env ac 45 [(1, .slice am (zb lm) cm), (4, pt Ee), (5, pt Ec), (7, pt Eb), (8, pt Ed), (9, pt Ea), (10, pt Eg)] ∧ Ev w [] wo [.box Ee (bys (zd 64 0)) 26, .box Ec (zh (nd (sE sd))) 33, .box Eb (bys (puE (sE sd))) 22, .box Ed (zh (nd (nE ((ahE sd) ++ (lm))))) 33, .box Ea (bys (puE (nE ((ahE sd) ++ (lm))))) 22, .box Eg (zh (nd (nE ((puE (nE ((ahE sd) ++ (lm)))) ++ ((puE (sE sd)) ++ (lm)))))) 33]) ?_ ?_
 ·
  refine h_s (fun wv => Ev w [] wv [.box Eb (bys (puE (sE sd))) 22, .box Ea (bys (puE (nE ((ahE sd) ++ (lm))))) 22]) [] 7 ?_
  have Ep := EH.trans (zO EH.heap)
  refine h_name fun G hG => ?_
  have nd402 : ∀ (ac : Act) (wo : World), Env ac 45 [(1, .slice am (zb lm) cm), (4, pt Ee), (5, pt Ec), (7, pt Eb), (8, pt Ed), (9, pt Ea), (33, .agg (zg (zh (nd (nE ((puE (nE ((ahE sd) ++ (lm)))) ++ ((puE (sE sd)) ++ (lm))))))))] → Ev w [] wo [.box Ee (bys (zd 64 0)) 26, .box Ec (zh (nd (sE sd))) 33, .box Eb (bys (puE (sE sd))) 22, .box Ed (zh (nd (nE ((ahE sd) ++ (lm))))) 33, .box Ea (bys (puE (nE ((ahE sd) ++ (lm))))) 22] → G 2 #[true, true, true, true, true, false, false] ac wo := by
   intro _ _ Ho Hp
   refine Zl hG ?_
   refine q_t 5 ?_
   refine m_z 33 (zh (zd 4 0)) Ho Hp fun _ _ Hq Hr EI => ⟨fun _ => EI.pk [2, 4], ?_⟩
   refine q_t 6 ?_
   refine zQ 5 4 (zh (nd (nE ((puE (nE ((ahE sd) ++ (lm)))) ++ ((puE (sE sd)) ++ (lm)))))) _ Hr EI rfl (zf (zl _ _)) (zf (zi)) (zt _) rfl fun _ _ Hs EJ => ⟨fun _ => EJ.pk [2, 4], ?_⟩
   exact h_e ⟨Hq, Hs.sb, EJ.pk [0, 1, 2, 3, 4, 5]⟩
  have nd416 : ∀ (ac : Act) (wo : World) (Eh : Nat) (Eq : Nat), Env ac 45 [(1, .slice am (zb lm) cm), (4, pt Ee), (5, pt Ec), (7, pt Eb), (8, pt Ed), (9, pt Ea), (10, pt Eq), (32, .slice (some ⟨Eh, 0, none⟩) 3 3)] → Ev w [] wo [.box Ee (bys (zd 64 0)) 26, .box Ec (zh (nd (sE sd))) 33, .box Eb (bys (puE (sE sd))) 22, .box Ed (zh (nd (nE ((ahE sd) ++ (lm))))) 33, .box Ea (bys (puE (nE ((ahE sd) ++ (lm))))) 22, .vec (some ⟨Eh, 0, none⟩) 3 1 [.slice (some ⟨Ea, 0, none⟩) 32 32, .slice (some ⟨Eb, 0, none⟩) 32 32, .slice am (zb lm) cm] 23, .box Eq (zh (zd 4 0)) 33] → G 2 #[true, true, true, true, false, true, false] ac wo := by
   intro _ _ Eh Eq Ht Eo
   refine Zl hG ?_
   refine q_t 4 ?_
   rw [show (.slice (some ⟨Ea, 0, none⟩) 32 32 : Value) = .slice (some ⟨Ea, 0, none⟩) (zb (puE (nE ((ahE sd) ++ (lm))))) 32 from by rw [show zb (puE (nE ((ahE sd) ++ (lm)))) = 32 from by first | omega | (simp only [zD, z3, Zi, zs, zu, zY, hsd]; omega) | (simp only [zD, z3, Zi, zs, zu, zY, hsd])]] at Eo
   rw [show (.slice (some ⟨Eb, 0, none⟩) 32 32 : Value) = .slice (some ⟨Eb, 0, none⟩) (zb (puE (sE sd))) 32 from by rw [show zb (puE (sE sd)) = 32 from by first | omega | (simp only [zD, z3, Zi, zs, zu, zY, hsd]; omega) | (simp only [zD, z3, Zi, zs, zu, zY, hsd])]] at Eo
   refine c_p Ht Eo (JI _ (some ⟨Eh, 0, none⟩) 3 3 ([⟨some ⟨Ea, 0, none⟩, 32, puE (nE ((ahE sd) ++ (lm)))⟩, ⟨some ⟨Eb, 0, none⟩, 32, puE (sE sd)⟩, ⟨am, cm, lm⟩] : List (Sl UInt8)) (by first | rfl | (simp; done) | (simp; omega) | omega) ⟨Eo.heap.ro (k := 5) rfl [] (by kernel_rfl) rfl, (fun e => by cases e), (by simp), (by simp), (zA.2 ⟨(Qo (Eo.heap.roBox (k := 4) (m := 32) rfl (zq (zH (zD _))) [] (by kernel_rfl) rfl) (zD _) (by first | decide | (dsimp only; decide))), (zA.2 ⟨(Qo (Eo.heap.roBox (k := 2) (m := 32) rfl (zq (zH (zD _))) [] (by kernel_rfl) rfl) (zD _) (by first | decide | (dsimp only; decide))), (zA.2 ⟨((im.ev Eo).pick [] (by kernel_rfl)), (fun x h => absurd h Zs)⟩)⟩)⟩)⟩ (zA.2 ⟨(show zb (puE (nE ((ahE sd) ++ (lm)))) ≤ 140737488353280 from (by first | omega | (simp only [zD, z3, Zi, zs, zu, zY, hsd]; omega) | (simp only [zD, z3, Zi, zs, zu, zY, hsd]; decide))), (zA.2 ⟨(show zb (puE (sE sd)) ≤ 140737488353280 from (by first | omega | (simp only [zD, z3, Zi, zs, zu, zY, hsd]; omega) | (simp only [zD, z3, Zi, zs, zu, zY, hsd]; decide))), (zA.2 ⟨(show zb lm ≤ 140737488353280 from (by first | omega | (simp only [zD, z3, Zi, zs, zu, zY, hsd]; omega) | (simp only [zD, z3, Zi, zs, zu, zY, hsd]; decide))), (fun x h => absurd h Zs)⟩)⟩)⟩) (b := (puE (nE ((ahE sd) ++ (lm)))) ++ ((puE (sE sd)) ++ (lm))) (by simp only [Zn, ZF, Zr]) ((gk32.ev Eo).pick [] (by kernel_rfl)) ((gk64.ev Eo).pick [] (by kernel_rfl))) fun _ _ Hu EK => ⟨fun _ => EK.pk [2, 4], ?_⟩
   refine q_t 6 ?_
   refine zQ 6 4 (zh (nd (nE ((puE (nE ((ahE sd) ++ (lm)))) ++ ((puE (sE sd)) ++ (lm)))))) [.box Ee (bys (zd 64 0)) 26, .box Ec (zh (nd (sE sd))) 33, .box Eb (bys (puE (sE sd))) 22, .box Ed (zh (nd (nE ((ahE sd) ++ (lm))))) 33, .box Ea (bys (puE (nE ((ahE sd) ++ (lm))))) 22, .vec (some ⟨Eh, 0, none⟩) 3 1 [.slice (some ⟨Ea, 0, none⟩) (zb (puE (nE ((ahE sd) ++ (lm))))) 32, .slice (some ⟨Eb, 0, none⟩) (zb (puE (sE sd))) 32, .slice am (zb lm) cm] 23, .box Eq (zh (nd (nE ((puE (nE ((ahE sd) ++ (lm)))) ++ ((puE (sE sd)) ++ (lm)))))) 33] Hu EK rfl (zf (zl _ _)) (zf (zi)) (zt _) rfl fun _ _ Hv EL => ⟨fun _ => EL.pk [2, 4], ?_⟩
   exact h_e ⟨Eq, Hv.sb, EL.pk [0, 1, 2, 3, 4, 6]⟩
  have nd432 : ∀ (ac : Act) (wo : World) (Eh : Nat), Env ac 45 [(1, .slice am (zb lm) cm), (4, pt Ee), (5, pt Ec), (7, pt Eb), (8, pt Ed), (9, pt Ea), (32, .slice (some ⟨Eh, 0, none⟩) 3 3)] → Ev w [] wo [.box Ee (bys (zd 64 0)) 26, .box Ec (zh (nd (sE sd))) 33, .box Eb (bys (puE (sE sd))) 22, .box Ed (zh (nd (nE ((ahE sd) ++ (lm))))) 33, .box Ea (bys (puE (nE ((ahE sd) ++ (lm))))) 22, .vec (some ⟨Eh, 0, none⟩) 3 1 [.slice (some ⟨Ea, 0, none⟩) 32 32, .slice (some ⟨Eb, 0, none⟩) 32 32, .slice am (zb lm) cm] 23] → G 3 #[true, true, true, true, false, false, false] ac wo := by
   intro _ _ Eh EM Ek
   refine Zl hG ?_
   refine Qk [4, 5] (by kernel_rfl) rfl ?_
   refine ⟨?_, ?_, trivial⟩
   ·
    rintro _ rfl
    rw [show (.slice (some ⟨Ea, 0, none⟩) 32 32 : Value) = .slice (some ⟨Ea, 0, none⟩) (zb (puE (nE ((ahE sd) ++ (lm))))) 32 from by rw [show zb (puE (nE ((ahE sd) ++ (lm)))) = 32 from by first | omega | (simp only [zD, z3, Zi, zs, zu, zY, hsd]; omega) | (simp only [zD, z3, Zi, zs, zu, zY, hsd])]] at Ek
    rw [show (.slice (some ⟨Eb, 0, none⟩) 32 32 : Value) = .slice (some ⟨Eb, 0, none⟩) (zb (puE (sE sd))) 32 from by rw [show zb (puE (sE sd)) = 32 from by first | omega | (simp only [zD, z3, Zi, zs, zu, zY, hsd]; omega) | (simp only [zD, z3, Zi, zs, zu, zY, hsd])]] at Ek
    refine c_p EM Ek (JI _ (some ⟨Eh, 0, none⟩) 3 3 ([⟨some ⟨Ea, 0, none⟩, 32, puE (nE ((ahE sd) ++ (lm)))⟩, ⟨some ⟨Eb, 0, none⟩, 32, puE (sE sd)⟩, ⟨am, cm, lm⟩] : List (Sl UInt8)) (by first | rfl | (simp; done) | (simp; omega) | omega) ⟨Ek.heap.ro (k := 5) rfl [] (by kernel_rfl) rfl, (fun e => by cases e), (by simp), (by simp), (zA.2 ⟨(Qo (Ek.heap.roBox (k := 4) (m := 32) rfl (zq (zH (zD _))) [] (by kernel_rfl) rfl) (zD _) (by first | decide | (dsimp only; decide))), (zA.2 ⟨(Qo (Ek.heap.roBox (k := 2) (m := 32) rfl (zq (zH (zD _))) [] (by kernel_rfl) rfl) (zD _) (by first | decide | (dsimp only; decide))), (zA.2 ⟨((im.ev Ek).pick [] (by kernel_rfl)), (fun x h => absurd h Zs)⟩)⟩)⟩)⟩ (zA.2 ⟨(show zb (puE (nE ((ahE sd) ++ (lm)))) ≤ 140737488353280 from (by first | omega | (simp only [zD, z3, Zi, zs, zu, zY, hsd]; omega) | (simp only [zD, z3, Zi, zs, zu, zY, hsd]; decide))), (zA.2 ⟨(show zb (puE (sE sd)) ≤ 140737488353280 from (by first | omega | (simp only [zD, z3, Zi, zs, zu, zY, hsd]; omega) | (simp only [zD, z3, Zi, zs, zu, zY, hsd]; decide))), (zA.2 ⟨(show zb lm ≤ 140737488353280 from (by first | omega | (simp only [zD, z3, Zi, zs, zu, zY, hsd]; omega) | (simp only [zD, z3, Zi, zs, zu, zY, hsd]; decide))), (fun x h => absurd h Zs)⟩)⟩)⟩) (b := (puE (nE ((ahE sd) ++ (lm)))) ++ ((puE (sE sd)) ++ (lm))) (by simp only [Zn, ZF, Zr]) ((gk32.ev Ek).pick [] (by kernel_rfl)) ((gk64.ev Ek).pick [] (by kernel_rfl))) fun _ _ Hw EN => ⟨fun _ => EN.pk [2, 4], ?_⟩
    exact Ql hG (by kernel_rfl) (nd402 _ _ (Hw.sb) (EN.pk [0, 1, 2, 3, 4]))
   rintro _ rfl
   refine m_z 33 (zh (zd 4 0)) EM Ek fun _ _ Hx Hy EO => ⟨fun _ => EO.pk [2, 4], ?_⟩
   exact Ql hG (by kernel_rfl) (nd416 _ _ Eh Hx (Hy.sb) (EO.pk [0, 1, 2, 3, 4, 5, 6]))
  have nd449 : ∀ (ac : Act) (wo : World) (Et : Nat), Env ac 45 [(1, .slice am (zb lm) cm), (4, pt Ee), (5, pt Ec), (7, pt Eb), (8, pt Ed), (9, pt Ea), (10, pt Et), (29, .slice (some ⟨Ea, 0, none⟩) 32 32), (30, .slice (some ⟨Eb, 0, none⟩) 32 32), (31, .slice am (zb lm) cm)] → Ev w [] wo [.box Ee (bys (zd 64 0)) 26, .box Ec (zh (nd (sE sd))) 33, .box Eb (bys (puE (sE sd))) 22, .box Ed (zh (nd (nE ((ahE sd) ++ (lm))))) 33, .box Ea (bys (puE (nE ((ahE sd) ++ (lm))))) 22, .box Et (zh (zd 4 0)) 33] → G 3 #[true, true, true, false, false, true, false] ac wo := by
   intro _ _ Et Hz HA
   refine Zl hG ?_
   refine q_t 3 ?_
   refine ZO (d := some 32) (t := 72) (T := 23) (m := 3) (parts := #[(0, .slice (some ⟨Ea, 0, none⟩) 32 32), (1, .slice (some ⟨Eb, 0, none⟩) 32 32), (2, .slice am (zb lm) cm)]) (xs := [.slice (some ⟨Ea, 0, none⟩) 32 32, .slice (some ⟨Eb, 0, none⟩) 32 32, .slice am (zb lm) cm]) (sz := 1) Hz (by kernel_rfl) (by kernel_rfl) rfl (by decide) HA ?_
   intro _ _ HB HC El
   refine ⟨fun _ => El.pk [2, 4], ?_⟩
   refine q_t 4 ?_
   rw [show (.slice (some ⟨Ea, 0, none⟩) 32 32 : Value) = .slice (some ⟨Ea, 0, none⟩) (zb (puE (nE ((ahE sd) ++ (lm))))) 32 from by rw [show zb (puE (nE ((ahE sd) ++ (lm)))) = 32 from by first | omega | (simp only [zD, z3, Zi, zs, zu, zY, hsd]; omega) | (simp only [zD, z3, Zi, zs, zu, zY, hsd])]] at El
   rw [show (.slice (some ⟨Eb, 0, none⟩) 32 32 : Value) = .slice (some ⟨Eb, 0, none⟩) (zb (puE (sE sd))) 32 from by rw [show zb (puE (sE sd)) = 32 from by first | omega | (simp only [zD, z3, Zi, zs, zu, zY, hsd]; omega) | (simp only [zD, z3, Zi, zs, zu, zY, hsd])]] at El
   refine c_p HC El (JI _ (some ⟨HB, 0, none⟩) 3 3 ([⟨some ⟨Ea, 0, none⟩, 32, puE (nE ((ahE sd) ++ (lm)))⟩, ⟨some ⟨Eb, 0, none⟩, 32, puE (sE sd)⟩, ⟨am, cm, lm⟩] : List (Sl UInt8)) (by first | rfl | (simp; done) | (simp; omega) | omega) ⟨El.heap.ro (k := 6) rfl [] (by kernel_rfl) rfl, (fun e => by cases e), (by simp), (by simp), (zA.2 ⟨(Qo (El.heap.roBox (k := 4) (m := 32) rfl (zq (zH (zD _))) [] (by kernel_rfl) rfl) (zD _) (by first | decide | (dsimp only; decide))), (zA.2 ⟨(Qo (El.heap.roBox (k := 2) (m := 32) rfl (zq (zH (zD _))) [] (by kernel_rfl) rfl) (zD _) (by first | decide | (dsimp only; decide))), (zA.2 ⟨((im.ev El).pick [] (by kernel_rfl)), (fun x h => absurd h Zs)⟩)⟩)⟩)⟩ (zA.2 ⟨(show zb (puE (nE ((ahE sd) ++ (lm)))) ≤ 140737488353280 from (by first | omega | (simp only [zD, z3, Zi, zs, zu, zY, hsd]; omega) | (simp only [zD, z3, Zi, zs, zu, zY, hsd]; decide))), (zA.2 ⟨(show zb (puE (sE sd)) ≤ 140737488353280 from (by first | omega | (simp only [zD, z3, Zi, zs, zu, zY, hsd]; omega) | (simp only [zD, z3, Zi, zs, zu, zY, hsd]; decide))), (zA.2 ⟨(show zb lm ≤ 140737488353280 from (by first | omega | (simp only [zD, z3, Zi, zs, zu, zY, hsd]; omega) | (simp only [zD, z3, Zi, zs, zu, zY, hsd]; decide))), (fun x h => absurd h Zs)⟩)⟩)⟩) (b := (puE (nE ((ahE sd) ++ (lm)))) ++ ((puE (sE sd)) ++ (lm))) (by simp only [Zn, ZF, Zr]) ((gk32.ev El).pick [] (by kernel_rfl)) ((gk64.ev El).pick [] (by kernel_rfl))) fun _ _ HD EP => ⟨fun _ => EP.pk [2, 4], ?_⟩
   refine q_t 6 ?_
   refine zQ 5 4 (zh (nd (nE ((puE (nE ((ahE sd) ++ (lm)))) ++ ((puE (sE sd)) ++ (lm)))))) _ HD EP rfl (zf (zl _ _)) (zf (zi)) (zt _) rfl fun _ _ HE EQ => ⟨fun _ => EQ.pk [2, 4], ?_⟩
   exact h_e ⟨Et, HE.sb, EQ.pk [0, 1, 2, 3, 4, 5]⟩
  have nd470 : ∀ (ac : Act) (wo : World), Env ac 45 [(1, .slice am (zb lm) cm), (4, pt Ee), (5, pt Ec), (7, pt Eb), (8, pt Ed), (9, pt Ea), (29, .slice (some ⟨Ea, 0, none⟩) 32 32), (30, .slice (some ⟨Eb, 0, none⟩) 32 32), (31, .slice am (zb lm) cm)] → Ev w [] wo [.box Ee (bys (zd 64 0)) 26, .box Ec (zh (nd (sE sd))) 33, .box Eb (bys (puE (sE sd))) 22, .box Ed (zh (nd (nE ((ahE sd) ++ (lm))))) 33, .box Ea (bys (puE (nE ((ahE sd) ++ (lm))))) 22] → G 4 #[true, true, true, false, false, false, false] ac wo := by
   intro _ _ ER ES
   refine Zl hG ?_
   refine Qk [3, 5] (by kernel_rfl) rfl ?_
   refine ⟨?_, ?_, trivial⟩
   ·
    rintro _ rfl
    refine ZO (d := some 32) (t := 72) (T := 23) (m := 3) (parts := #[(0, .slice (some ⟨Ea, 0, none⟩) 32 32), (1, .slice (some ⟨Eb, 0, none⟩) 32 32), (2, .slice am (zb lm) cm)]) (xs := [.slice (some ⟨Ea, 0, none⟩) 32 32, .slice (some ⟨Eb, 0, none⟩) 32 32, .slice am (zb lm) cm]) (sz := 1) ER (by kernel_rfl) (by kernel_rfl) rfl (by decide) ES ?_
    intro _ _ HF HG ET
    refine ⟨fun _ => ET.pk [2, 4], ?_⟩
    exact Ql hG (by kernel_rfl) (nd432 _ _ HF (HG.sb) (ET.pk [0, 1, 2, 3, 4, 5]))
   rintro _ rfl
   refine m_z 33 (zh (zd 4 0)) ER ES fun _ _ HH HI EU => ⟨fun _ => EU.pk [2, 4], ?_⟩
   exact Ql hG (by kernel_rfl) (nd449 _ _ HH (HI.sb) (EU.pk [0, 1, 2, 3, 4, 5]))
  have nd485 : ∀ (ac : Act) (wo : World) (Er : Nat), Env ac 45 [(1, .slice am (zb lm) cm), (4, pt Ee), (5, pt Ec), (7, pt Eb), (8, pt Ed), (9, pt Ea), (10, pt Er), (29, .slice (some ⟨Ea, 0, none⟩) 32 32), (31, .slice am (zb lm) cm)] → Ev w [] wo [.box Ee (bys (zd 64 0)) 26, .box Ec (zh (nd (sE sd))) 33, .box Eb (bys (puE (sE sd))) 22, .box Ed (zh (nd (nE ((ahE sd) ++ (lm))))) 33, .box Ea (bys (puE (nE ((ahE sd) ++ (lm))))) 22, .box Er (zh (zd 4 0)) 33] → G 4 #[true, false, true, false, false, true, false] ac wo := by
   intro _ _ Er HJ EV
   refine Zl hG ?_
   refine q_t 1 ?_
   refine ZQ (d := some 30) (t := 22) (e := 5) (sz := 1) (m := 32) (lo := 0) (hi := 32) (b := Eb) (off := 0) (lov := none) (hiv := none) (o := 0) HJ (by kernel_rfl) (by kernel_rfl) (by kernel_rfl) (by omega) (by omega) (by omega) (.inl ⟨rfl, rfl⟩) (.inl ⟨rfl, rfl⟩) (by omega) ?_
   intro _ HK
   refine ⟨fun _ => EV.pk [2, 4], ?_⟩
   refine q_t 3 ?_
   refine ZO (d := some 32) (t := 72) (T := 23) (m := 3) (parts := #[(0, .slice (some ⟨Ea, 0, none⟩) 32 32), (1, .slice (some ⟨Eb, 0, none⟩) 32 32), (2, .slice am (zb lm) cm)]) (xs := [.slice (some ⟨Ea, 0, none⟩) 32 32, .slice (some ⟨Eb, 0, none⟩) 32 32, .slice am (zb lm) cm]) (sz := 1) HK (by kernel_rfl) (by kernel_rfl) rfl (by decide) EV ?_
   intro _ _ EW HL Em
   refine ⟨fun _ => Em.pk [2, 4], ?_⟩
   refine q_t 4 ?_
   rw [show (.slice (some ⟨Ea, 0, none⟩) 32 32 : Value) = .slice (some ⟨Ea, 0, none⟩) (zb (puE (nE ((ahE sd) ++ (lm))))) 32 from by rw [show zb (puE (nE ((ahE sd) ++ (lm)))) = 32 from by first | omega | (simp only [zD, z3, Zi, zs, zu, zY, hsd]; omega) | (simp only [zD, z3, Zi, zs, zu, zY, hsd])]] at Em
   rw [show (.slice (some ⟨Eb, 0, none⟩) 32 32 : Value) = .slice (some ⟨Eb, 0, none⟩) (zb (puE (sE sd))) 32 from by rw [show zb (puE (sE sd)) = 32 from by first | omega | (simp only [zD, z3, Zi, zs, zu, zY, hsd]; omega) | (simp only [zD, z3, Zi, zs, zu, zY, hsd])]] at Em
   refine c_p HL Em (JI _ (some ⟨EW, 0, none⟩) 3 3 ([⟨some ⟨Ea, 0, none⟩, 32, puE (nE ((ahE sd) ++ (lm)))⟩, ⟨some ⟨Eb, 0, none⟩, 32, puE (sE sd)⟩, ⟨am, cm, lm⟩] : List (Sl UInt8)) (by first | rfl | (simp; done) | (simp; omega) | omega) ⟨Em.heap.ro (k := 6) rfl [] (by kernel_rfl) rfl, (fun e => by cases e), (by simp), (by simp), (zA.2 ⟨(Qo (Em.heap.roBox (k := 4) (m := 32) rfl (zq (zH (zD _))) [] (by kernel_rfl) rfl) (zD _) (by first | decide | (dsimp only; decide))), (zA.2 ⟨(Qo (Em.heap.roBox (k := 2) (m := 32) rfl (zq (zH (zD _))) [] (by kernel_rfl) rfl) (zD _) (by first | decide | (dsimp only; decide))), (zA.2 ⟨((im.ev Em).pick [] (by kernel_rfl)), (fun x h => absurd h Zs)⟩)⟩)⟩)⟩ (zA.2 ⟨(show zb (puE (nE ((ahE sd) ++ (lm)))) ≤ 140737488353280 from (by first | omega | (simp only [zD, z3, Zi, zs, zu, zY, hsd]; omega) | (simp only [zD, z3, Zi, zs, zu, zY, hsd]; decide))), (zA.2 ⟨(show zb (puE (sE sd)) ≤ 140737488353280 from (by first | omega | (simp only [zD, z3, Zi, zs, zu, zY, hsd]; omega) | (simp only [zD, z3, Zi, zs, zu, zY, hsd]; decide))), (zA.2 ⟨(show zb lm ≤ 140737488353280 from (by first | omega | (simp only [zD, z3, Zi, zs, zu, zY, hsd]; omega) | (simp only [zD, z3, Zi, zs, zu, zY, hsd]; decide))), (fun x h => absurd h Zs)⟩)⟩)⟩) (b := (puE (nE ((ahE sd) ++ (lm)))) ++ ((puE (sE sd)) ++ (lm))) (by simp only [Zn, ZF, Zr]) ((gk32.ev Em).pick [] (by kernel_rfl)) ((gk64.ev Em).pick [] (by kernel_rfl))) fun _ _ HM EX => ⟨fun _ => EX.pk [2, 4], ?_⟩
   refine q_t 6 ?_
   refine zQ 5 4 (zh (nd (nE ((puE (nE ((ahE sd) ++ (lm)))) ++ ((puE (sE sd)) ++ (lm)))))) [.box Ee (bys (zd 64 0)) 26, .box Ec (zh (nd (sE sd))) 33, .box Eb (bys (puE (sE sd))) 22, .box Ed (zh (nd (nE ((ahE sd) ++ (lm))))) 33, .box Ea (bys (puE (nE ((ahE sd) ++ (lm))))) 22, .box Er (zh (nd (nE ((puE (nE ((ahE sd) ++ (lm)))) ++ ((puE (sE sd)) ++ (lm)))))) 33, .vec (some ⟨EW, 0, none⟩) 3 1 [.slice (some ⟨Ea, 0, none⟩) (zb (puE (nE ((ahE sd) ++ (lm))))) 32, .slice (some ⟨Eb, 0, none⟩) (zb (puE (sE sd))) 32, .slice am (zb lm) cm] 23] HM EX rfl (zf (zl _ _)) (zf (zi)) (zt _) rfl fun _ _ HN EY => ⟨fun _ => EY.pk [2, 4], ?_⟩
   exact h_e ⟨Er, HN.sb, EY.pk [0, 1, 2, 3, 4, 5]⟩
  have nd508 : ∀ (ac : Act) (wo : World) (Eu : Nat), Env ac 45 [(1, .slice am (zb lm) cm), (4, pt Ee), (5, pt Ec), (7, pt Eb), (8, pt Ed), (9, pt Ea), (10, pt Eu), (30, .slice (some ⟨Eb, 0, none⟩) 32 32), (31, .slice am (zb lm) cm)] → Ev w [] wo [.box Ee (bys (zd 64 0)) 26, .box Ec (zh (nd (sE sd))) 33, .box Eb (bys (puE (sE sd))) 22, .box Ed (zh (nd (nE ((ahE sd) ++ (lm))))) 33, .box Ea (bys (puE (nE ((ahE sd) ++ (lm))))) 22, .box Eu (zh (zd 4 0)) 33] → G 4 #[false, true, true, false, false, true, false] ac wo := by
   intro _ _ Eu HO EZ
   refine Zl hG ?_
   refine q_t 0 ?_
   refine ZQ (d := some 29) (t := 22) (e := 5) (sz := 1) (m := 32) (lo := 0) (hi := 32) (b := Ea) (off := 0) (lov := none) (hiv := none) (o := 0) HO (by kernel_rfl) (by kernel_rfl) (by kernel_rfl) (by omega) (by omega) (by omega) (.inl ⟨rfl, rfl⟩) (.inl ⟨rfl, rfl⟩) (by omega) ?_
   intro _ HP
   refine ⟨fun _ => EZ.pk [2, 4], ?_⟩
   refine q_t 3 ?_
   refine ZO (d := some 32) (t := 72) (T := 23) (m := 3) (parts := #[(0, .slice (some ⟨Ea, 0, none⟩) 32 32), (1, .slice (some ⟨Eb, 0, none⟩) 32 32), (2, .slice am (zb lm) cm)]) (xs := [.slice (some ⟨Ea, 0, none⟩) 32 32, .slice (some ⟨Eb, 0, none⟩) 32 32, .slice am (zb lm) cm]) (sz := 1) HP (by kernel_rfl) (by kernel_rfl) rfl (by decide) EZ ?_
   intro _ _ HQ HR En
   refine ⟨fun _ => En.pk [2, 4], ?_⟩
   refine q_t 4 ?_
   rw [show (.slice (some ⟨Ea, 0, none⟩) 32 32 : Value) = .slice (some ⟨Ea, 0, none⟩) (zb (puE (nE ((ahE sd) ++ (lm))))) 32 from by rw [show zb (puE (nE ((ahE sd) ++ (lm)))) = 32 from by first | omega | (simp only [zD, z3, Zi, zs, zu, zY, hsd]; omega) | (simp only [zD, z3, Zi, zs, zu, zY, hsd])]] at En
   rw [show (.slice (some ⟨Eb, 0, none⟩) 32 32 : Value) = .slice (some ⟨Eb, 0, none⟩) (zb (puE (sE sd))) 32 from by rw [show zb (puE (sE sd)) = 32 from by first | omega | (simp only [zD, z3, Zi, zs, zu, zY, hsd]; omega) | (simp only [zD, z3, Zi, zs, zu, zY, hsd])]] at En
   refine c_p HR En (JI _ (some ⟨HQ, 0, none⟩) 3 3 ([⟨some ⟨Ea, 0, none⟩, 32, puE (nE ((ahE sd) ++ (lm)))⟩, ⟨some ⟨Eb, 0, none⟩, 32, puE (sE sd)⟩, ⟨am, cm, lm⟩] : List (Sl UInt8)) (by first | rfl | (simp; done) | (simp; omega) | omega) ⟨En.heap.ro (k := 6) rfl [] (by kernel_rfl) rfl, (fun e => by cases e), (by simp), (by simp), (zA.2 ⟨(Qo (En.heap.roBox (k := 4) (m := 32) rfl (zq (zH (zD _))) [] (by kernel_rfl) rfl) (zD _) (by first | decide | (dsimp only; decide))), (zA.2 ⟨(Qo (En.heap.roBox (k := 2) (m := 32) rfl (zq (zH (zD _))) [] (by kernel_rfl) rfl) (zD _) (by first | decide | (dsimp only; decide))), (zA.2 ⟨((im.ev En).pick [] (by kernel_rfl)), (fun x h => absurd h Zs)⟩)⟩)⟩)⟩ (zA.2 ⟨(show zb (puE (nE ((ahE sd) ++ (lm)))) ≤ 140737488353280 from (by first | omega | (simp only [zD, z3, Zi, zs, zu, zY, hsd]; omega) | (simp only [zD, z3, Zi, zs, zu, zY, hsd]; decide))), (zA.2 ⟨(show zb (puE (sE sd)) ≤ 140737488353280 from (by first | omega | (simp only [zD, z3, Zi, zs, zu, zY, hsd]; omega) | (simp only [zD, z3, Zi, zs, zu, zY, hsd]; decide))), (zA.2 ⟨(show zb lm ≤ 140737488353280 from (by first | omega | (simp only [zD, z3, Zi, zs, zu, zY, hsd]; omega) | (simp only [zD, z3, Zi, zs, zu, zY, hsd]; decide))), (fun x h => absurd h Zs)⟩)⟩)⟩) (b := (puE (nE ((ahE sd) ++ (lm)))) ++ ((puE (sE sd)) ++ (lm))) (by simp only [Zn, ZF, Zr]) ((gk32.ev En).pick [] (by kernel_rfl)) ((gk64.ev En).pick [] (by kernel_rfl))) fun _ _ HS E0 => ⟨fun _ => E0.pk [2, 4], ?_⟩
   refine q_t 6 ?_
   refine zQ 5 4 (zh (nd (nE ((puE (nE ((ahE sd) ++ (lm)))) ++ ((puE (sE sd)) ++ (lm)))))) _ HS E0 rfl (zf (zl _ _)) (zf (zi)) (zt _) rfl fun _ _ HT E1 => ⟨fun _ => E1.pk [2, 4], ?_⟩
   exact h_e ⟨Eu, HT.sb, E1.pk [0, 1, 2, 3, 4, 5]⟩
  have nd531 : ∀ (ac : Act) (wo : World), Env ac 45 [(1, .slice am (zb lm) cm), (4, pt Ee), (5, pt Ec), (7, pt Eb), (8, pt Ed), (9, pt Ea), (29, .slice (some ⟨Ea, 0, none⟩) 32 32), (31, .slice am (zb lm) cm)] → Ev w [] wo [.box Ee (bys (zd 64 0)) 26, .box Ec (zh (nd (sE sd))) 33, .box Eb (bys (puE (sE sd))) 22, .box Ed (zh (nd (nE ((ahE sd) ++ (lm))))) 33, .box Ea (bys (puE (nE ((ahE sd) ++ (lm))))) 22] → G 5 #[true, false, true, false, false, false, false] ac wo := by
   intro _ _ E2 Ez
   refine Zl hG ?_
   refine Qk [1, 5] (by kernel_rfl) rfl ?_
   refine ⟨?_, ?_, trivial⟩
   ·
    rintro _ rfl
    refine ZQ (d := some 30) (t := 22) (e := 5) (sz := 1) (m := 32) (lo := 0) (hi := 32) (b := Eb) (off := 0) (lov := none) (hiv := none) (o := 0) E2 (by kernel_rfl) (by kernel_rfl) (by kernel_rfl) (by omega) (by omega) (by omega) (.inl ⟨rfl, rfl⟩) (.inl ⟨rfl, rfl⟩) (by omega) ?_
    intro _ HU
    refine ⟨fun _ => Ez.pk [2, 4], ?_⟩
    exact Ql hG (by kernel_rfl) (nd470 _ _ (HU.sb) (Ez.pk [0, 1, 2, 3, 4]))
   rintro _ rfl
   refine m_z 33 (zh (zd 4 0)) E2 Ez fun _ _ HV HW E3 => ⟨fun _ => E3.pk [2, 4], ?_⟩
   exact Ql hG (by kernel_rfl) (nd485 _ _ HV (HW.sb) (E3.pk [0, 1, 2, 3, 4, 5]))
  have nd543 : ∀ (ac : Act) (wo : World), Env ac 45 [(1, .slice am (zb lm) cm), (4, pt Ee), (5, pt Ec), (7, pt Eb), (8, pt Ed), (9, pt Ea), (30, .slice (some ⟨Eb, 0, none⟩) 32 32), (31, .slice am (zb lm) cm)] → Ev w [] wo [.box Ee (bys (zd 64 0)) 26, .box Ec (zh (nd (sE sd))) 33, .box Eb (bys (puE (sE sd))) 22, .box Ed (zh (nd (nE ((ahE sd) ++ (lm))))) 33, .box Ea (bys (puE (nE ((ahE sd) ++ (lm))))) 22] → G 5 #[false, true, true, false, false, false, false] ac wo := by
   intro _ _ E4 EA
   refine Zl hG ?_
   refine Qk [0, 5] (by kernel_rfl) rfl ?_
   refine ⟨?_, ?_, trivial⟩
   ·
    rintro _ rfl
    refine ZQ (d := some 29) (t := 22) (e := 5) (sz := 1) (m := 32) (lo := 0) (hi := 32) (b := Ea) (off := 0) (lov := none) (hiv := none) (o := 0) E4 (by kernel_rfl) (by kernel_rfl) (by kernel_rfl) (by omega) (by omega) (by omega) (.inl ⟨rfl, rfl⟩) (.inl ⟨rfl, rfl⟩) (by omega) ?_
    intro _ HX
    refine ⟨fun _ => EA.pk [2, 4], ?_⟩
    exact Ql hG (by kernel_rfl) (nd470 _ _ (HX.sb) (EA.pk [0, 1, 2, 3, 4]))
   rintro _ rfl
   refine m_z 33 (zh (zd 4 0)) E4 EA fun _ _ HY HZ E5 => ⟨fun _ => E5.pk [2, 4], ?_⟩
   exact Ql hG (by kernel_rfl) (nd508 _ _ HY (HZ.sb) (E5.pk [0, 1, 2, 3, 4, 5]))
  have nd555 : ∀ (ac : Act) (wo : World) (Es : Nat), Env ac 45 [(1, .slice am (zb lm) cm), (4, pt Ee), (5, pt Ec), (7, pt Eb), (8, pt Ed), (9, pt Ea), (10, pt Es), (31, .slice am (zb lm) cm)] → Ev w [] wo [.box Ee (bys (zd 64 0)) 26, .box Ec (zh (nd (sE sd))) 33, .box Eb (bys (puE (sE sd))) 22, .box Ed (zh (nd (nE ((ahE sd) ++ (lm))))) 33, .box Ea (bys (puE (nE ((ahE sd) ++ (lm))))) 22, .box Es (zh (zd 4 0)) 33] → G 5 #[false, false, true, false, false, true, false] ac wo := by
   intro _ _ Es E6 Ew
   refine Zl hG ?_
   refine Qk [0, 1] (by kernel_rfl) rfl ?_
   refine ⟨?_, ?_, trivial⟩
   ·
    rintro _ rfl
    refine ZQ (d := some 29) (t := 22) (e := 5) (sz := 1) (m := 32) (lo := 0) (hi := 32) (b := Ea) (off := 0) (lov := none) (hiv := none) (o := 0) E6 (by kernel_rfl) (by kernel_rfl) (by kernel_rfl) (by omega) (by omega) (by omega) (.inl ⟨rfl, rfl⟩) (.inl ⟨rfl, rfl⟩) (by omega) ?_
    intro _ H0
    refine ⟨fun _ => Ew.pk [2, 4], ?_⟩
    exact Ql hG (by kernel_rfl) (nd485 _ _ Es (H0.sb) (Ew.pk [0, 1, 2, 3, 4, 5]))
   rintro _ rfl
   refine ZQ (d := some 30) (t := 22) (e := 5) (sz := 1) (m := 32) (lo := 0) (hi := 32) (b := Eb) (off := 0) (lov := none) (hiv := none) (o := 0) E6 (by kernel_rfl) (by kernel_rfl) (by kernel_rfl) (by omega) (by omega) (by omega) (.inl ⟨rfl, rfl⟩) (.inl ⟨rfl, rfl⟩) (by omega) ?_
   intro _ H1
   refine ⟨fun _ => Ew.pk [2, 4], ?_⟩
   exact Ql hG (by kernel_rfl) (nd508 _ _ Es (H1.sb) (Ew.pk [0, 1, 2, 3, 4, 5]))
  refine Zl hG ?_
  refine q_s [2] [] 6 Hn (Ep.pk [2, 4]) fun _ EB => Qk [0, 1, 5] (by kernel_rfl) rfl ?_
  refine ⟨?_, ?_, ?_, trivial⟩
  ·
   rintro _ rfl
   refine ZQ (d := some 29) (t := 22) (e := 5) (sz := 1) (m := 32) (lo := 0) (hi := 32) (b := Ea) (off := 0) (lov := none) (hiv := none) (o := 0) EB (by kernel_rfl) (by kernel_rfl) (by kernel_rfl) (by omega) (by omega) (by omega) (.inl ⟨rfl, rfl⟩) (.inl ⟨rfl, rfl⟩) (by omega) ?_
   intro _ H2
   refine ⟨fun _ => Ep.pk [2, 4], ?_⟩
   exact Ql hG (by kernel_rfl) (nd531 _ _ (H2.sb) (Ep.pk [0, 1, 2, 3, 4]))
  ·
   rintro _ rfl
   refine ZQ (d := some 30) (t := 22) (e := 5) (sz := 1) (m := 32) (lo := 0) (hi := 32) (b := Eb) (off := 0) (lov := none) (hiv := none) (o := 0) EB (by kernel_rfl) (by kernel_rfl) (by kernel_rfl) (by omega) (by omega) (by omega) (.inl ⟨rfl, rfl⟩) (.inl ⟨rfl, rfl⟩) (by omega) ?_
   intro _ H3
   refine ⟨fun _ => Ep.pk [2, 4], ?_⟩
   exact Ql hG (by kernel_rfl) (nd543 _ _ (H3.sb) (Ep.pk [0, 1, 2, 3, 4]))
  rintro _ rfl
  refine m_z 33 (zh (zd 4 0)) EB Ep fun _ _ H4 H5 E7 => ⟨fun _ => E7.pk [2, 4], ?_⟩
  exact Ql hG (by kernel_rfl) (nd555 _ _ H4 (H5.sb) (E7.pk [0, 1, 2, 3, 4, 5]))
 rintro _ _ ⟨Eg, H6, E8⟩
 refine ze <| wp_seq <| r_c (fun ac wo => ∃ (Ef : Nat), Env ac 45 [(1, .slice am (zb lm) cm), (4, pt Ee), (5, pt Ec), (7, pt Eb), (8, pt Ed), (9, pt Ea), (10, pt Eg), (11, pt Ef)] ∧ Ev w [] wo [.box Ee (bys (zd 64 0)) 26, .box Ec (zh (nd (sE sd))) 33, .box Eb (bys (puE (sE sd))) 22, .box Ed (zh (nd (nE ((ahE sd) ++ (lm))))) 33, .box Ea (bys (puE (nE ((ahE sd) ++ (lm))))) 22, .box Eg (zh (nd (nE ((puE (nE ((ahE sd) ++ (lm)))) ++ ((puE (sE sd)) ++ (lm)))))) 33, .box Ef (bys (lb 32 (nv (nd (Zh 4 (nv (nd (nE ((ahE sd) ++ (lm))))) (nv (nd (zr 4 (nv (nd (nE ((puE (nE ((ahE sd) ++ (lm)))) ++ ((puE (sE sd)) ++ (lm)))))) (nv (nd (sE sd))))))))))) 22]) ?_ ?_
 ·
  refine s_g1 [(1, .slice am (zb lm) cm), (4, pt Ee), (5, pt Ec), (7, pt Eb), (8, pt Ed), (9, pt Ea), (10, pt Eg)] [0,1,2,3,4,5] [(34, .agg (zg (zh (nd (nE ((ahE sd) ++ (lm))))))), (35, .agg (zg (zh (nd (nE ((puE (nE ((ahE sd) ++ (lm)))) ++ ((puE (sE sd)) ++ (lm)))))))), (36, .agg (zg (zh (nd (sE sd))))), (37, .agg (zg (zh (nd (zr 4 (nv (nd (nE ((puE (nE ((ahE sd) ++ (lm)))) ++ ((puE (sE sd)) ++ (lm)))))) (nv (nd (sE sd)))))))), (38, .agg (zg (zh (nd (Zh 4 (nv (nd (nE ((ahE sd) ++ (lm))))) (nv (nd (zr 4 (nv (nd (nE ((puE (nE ((ahE sd) ++ (lm)))) ++ ((puE (sE sd)) ++ (lm)))))) (nv (nd (sE sd))))))))))), (39, .agg (zg (bys (lb 32 (nv (nd (Zh 4 (nv (nd (nE ((ahE sd) ++ (lm))))) (nv (nd (zr 4 (nv (nd (nE ((puE (nE ((ahE sd) ++ (lm)))) ++ ((puE (sE sd)) ++ (lm)))))) (nv (nd (sE sd)))))))))))))] 1 [(1, .slice am (zb lm) cm), (4, pt Ee), (5, pt Ec), (7, pt Eb), (8, pt Ed), (9, pt Ea), (10, pt Eg), (39, .agg (zg (bys (lb 32 (nv (nd (Zh 4 (nv (nd (nE ((ahE sd) ++ (lm))))) (nv (nd (zr 4 (nv (nd (nE ((puE (nE ((ahE sd) ++ (lm)))) ++ ((puE (sE sd)) ++ (lm)))))) (nv (nd (sE sd)))))))))))))] 6 (bys (zd 32 0)) (H6.sb) (E8.trans (zO E8.heap)) ?_ fun _ _ Ef H7 H8 => ?_
  ·
   refine s_a 3 0 4 (zh (nd (nE ((ahE sd) ++ (lm))))) rfl (zq (zf (zl _ _))) (zf (zl _ _)) ?_
   refine s_a 5 0 4 (zh (nd (nE ((puE (nE ((ahE sd) ++ (lm)))) ++ ((puE (sE sd)) ++ (lm)))))) rfl (zq (zf (zl _ _))) (zf (zl _ _)) ?_
   refine s_a 1 0 4 (zh (nd (sE sd))) rfl (zq (zf (zl _ _))) (zf (zl _ _)) ?_
   refine s_f (fun _ => hM4 _ (nd (nE ((puE (nE ((ahE sd) ++ (lm)))) ++ ((puE (sE sd)) ++ (lm))))) (nd (sE sd)) (zl _ _) (zl _ _)) ?_
   refine s_f (fun _ => add_go _ 4 h4f (nd (nE ((ahE sd) ++ (lm)))) (nd (zr 4 (nv (nd (nE ((puE (nE ((ahE sd) ++ (lm)))) ++ ((puE (sE sd)) ++ (lm)))))) (nv (nd (sE sd))))) (zl _ _) (zl _ _)) ?_
   refine s_f (fun _ => tole_go _ (nd (Zh 4 (nv (nd (nE ((ahE sd) ++ (lm))))) (nv (nd (zr 4 (nv (nd (nE ((puE (nE ((ahE sd) ++ (lm)))) ++ ((puE (sE sd)) ++ (lm)))))) (nv (nd (sE sd)))))))) (zl _ _)) ?_
   exact s_n
  refine q_u 7 ?_
  refine zQ 6 32 (bys (lb 32 (nv (nd (Zh 4 (nv (nd (nE ((ahE sd) ++ (lm))))) (nv (nd (zr 4 (nv (nd (nE ((puE (nE ((ahE sd) ++ (lm)))) ++ ((puE (sE sd)) ++ (lm)))))) (nv (nd (sE sd))))))))))) [.box Ee (bys (zd 64 0)) 26, .box Ec (zh (nd (sE sd))) 33, .box Eb (bys (puE (sE sd))) 22, .box Ed (zh (nd (nE ((ahE sd) ++ (lm))))) 33, .box Ea (bys (puE (nE ((ahE sd) ++ (lm))))) 22, .box Eg (zh (nd (nE ((puE (nE ((ahE sd) ++ (lm)))) ++ ((puE (sE sd)) ++ (lm)))))) 33, .box Ef (bys (lb 32 (nv (nd (Zh 4 (nv (nd (nE ((ahE sd) ++ (lm))))) (nv (nd (zr 4 (nv (nd (nE ((puE (nE ((ahE sd) ++ (lm)))) ++ ((puE (sE sd)) ++ (lm)))))) (nv (nd (sE sd))))))))))) 22] H7 H8 rfl (zH (zY _ _)) (zH (zi)) (Zj _) rfl fun _ _ H9 aa => ?_
  exact a_e ⟨Ef, H9.sb, aa.pk [0, 1, 2, 3, 4, 5, 6]⟩
 rintro _ _ ⟨Ef, ab, EC⟩
 refine ze <| wp_seq ?_
 rw [show (lb 32 (nv (nd (Zh 4 (nv (nd (nE ((ahE sd) ++ (lm))))) (nv (nd (zr 4 (nv (nd (nE ((puE (nE ((ahE sd) ++ (lm)))) ++ ((puE (sE sd)) ++ (lm)))))) (nv (nd (sE sd)))))))))) = (lb 32 (zS sd lm)) from (zS_txt sd lm)] at EC
 have hll : zb (lb 32 (zS sd lm)) = 32 := zY _ _
 have hpl : zb (puE (nE (ahE sd ++ lm))) = 32 := zD _
 have hal : zb (puE (nE (ahE sd ++ lm)) ++ lb 32 (zS sd lm)) = 64 := by rw [zC, hll, hpl]
 refine r_c (fun ac wo => Env ac 45 [(1, .slice am (zb lm) cm), (4, pt Ee), (5, pt Ec), (7, pt Eb), (8, pt Ed), (9, pt Ea), (10, pt Eg), (11, pt Ef)] ∧ Ev w [] wo [.box Ee (bys (zn 64 ((puE (nE ((ahE sd) ++ (lm)))) ++ (lb 32 (zS sd lm))))) 26, .box Ec (zh (nd (sE sd))) 33, .box Eb (bys (puE (sE sd))) 22, .box Ed (zh (nd (nE ((ahE sd) ++ (lm))))) 33, .box Ea (bys (puE (nE ((ahE sd) ++ (lm))))) 22, .box Eg (zh (nd (nE ((puE (nE ((ahE sd) ++ (lm)))) ++ ((puE (sE sd)) ++ (lm)))))) 33, .box Ef (bys (lb 32 (zS sd lm))) 22]) ?_ ?_
 ·
  refine s_g0 [(1, .slice am (zb lm) cm), (4, pt Ee), (5, pt Ec), (7, pt Eb), (8, pt Ed), (9, pt Ea), (10, pt Eg), (11, pt Ef)] [0,1] [(40, .slice (some ⟨Ea, 0, none⟩) 32 32), (41, .slice (some ⟨Ef, 0, none⟩) 32 32)] 4 [(1, .slice am (zb lm) cm), (4, pt Ee), (5, pt Ec), (7, pt Eb), (8, pt Ed), (9, pt Ea), (10, pt Eg), (11, pt Ef), (40, .slice (some ⟨Ea, 0, none⟩) 32 32), (41, .slice (some ⟨Ef, 0, none⟩) 32 32)] (ab.sb) (EC.trans (zO EC.heap)) ?_ fun _ _ ae E9 => ?_
  ·
   refine s_c (fun Mx638 _ _ af ag => ?_) ?_
   ·
    refine ZQ (d := some 40) (t := 22) (e := 5) (sz := 1) (m := 32) (lo := 0) (hi := 32) (b := Ea) (off := 0) (lov := none) (hiv := none) (o := 0) af (by kernel_rfl) (by kernel_rfl) (by kernel_rfl) (by omega) (by omega) (by omega) (.inl ⟨rfl, rfl⟩) (.inl ⟨rfl, rfl⟩) (by omega) ?_
    intro _ ah
    exact s_e ah ag
   refine s_c (fun Mx645 _ _ ai aj => ?_) ?_
   ·
    refine ZQ (d := some 41) (t := 22) (e := 5) (sz := 1) (m := 32) (lo := 0) (hi := 32) (b := Ef) (off := 0) (lov := none) (hiv := none) (o := 0) ai (by kernel_rfl) (by kernel_rfl) (by kernel_rfl) (by omega) (by omega) (by omega) (.inl ⟨rfl, rfl⟩) (.inl ⟨rfl, rfl⟩) (by omega) ?_
    intro _ ak
    exact s_e ak aj
   exact s_n
  refine q_u 2 ?_
  refine op_appbox (d := some 42) (t := 23) (tx := 23) (ty := 23) (T := 5) (k := 4) (b := Ea) (p := 32) (m := 32) (x := .slice (some ⟨Ef, 0, none⟩) 32 32) (bytes := 1) (cs := bys (puE (nE ((ahE sd) ++ (lm))))) ae (by kernel_rfl) E9 rfl (bys_lenn (by first | (rw [(zD _)]) | (simp [(zD _)]; done) | (simp [(zD _)]; omega))) (Reads.src (size := 1) (tx := 23) (e' := 5) (by kernel_rfl) (E9.heap.readsBox (k := 6) (m := 32) rfl (zq (zH (zY _ _)))) (bys_lenn (by first | (rw [(zY _ _)]) | (simp [(zY _ _)]; done) | (simp [(zY _ _)]; omega))) (fun e => by cases e) (Zj _)) (by kernel_rfl) (z := .int .u8 0) (by kernel_rfl) rfl (by omega) (by omega) (by unfold maxLen; omega) ?_
  intro _ _ Ha al Hb Ex _
  rw [← bys_append] at Ex
  have Hd : 32 + 32 = zb ((puE (nE ((ahE sd) ++ (lm)))) ++ (lb 32 (zS sd lm))) := (by first | (simp; done) | (simp [(zD _)]; omega) | (simp; omega) | omega)
  rw [Hd] at Hb
  have an : 0 < zb ((puE (nE ((ahE sd) ++ (lm)))) ++ (lb 32 (zS sd lm))) := by omega
  obtain ⟨ED, EE⟩ := some_of (bys_vnz Ex.heap (k := 7) rfl) an
  refine q_g 3 (s := Instr.arrayAt 26 (.slice Ha (zb ((puE (nE ((ahE sd) ++ (lm)))) ++ (lb 32 (zS sd lm)))) al)) (v := .pointer (some ED)) Hb (fun _ => Go.Dbr.run_toarr2 (e := 5) (m := 64) (by kernel_rfl) EE (by omega) _) fun _ ap => q_u 4 ?_
  have aq : 64 ≤ zb ((puE (nE ((ahE sd) ++ (lm)))) ++ (lb 32 (zS sd lm))) := by first | omega | (simp; done) | (simp; omega)
  refine op_loadaggat (d := some 44) (t := 26) (ad := ED) (ao := Ha) (ys := bys ((puE (nE ((ahE sd) ++ (lm)))) ++ (lb 32 (zS sd lm)))) (o := 0) (m := 64) (xs := bys (zn 64 ((puE (nE ((ahE sd) ++ (lm)))) ++ (lb 32 (zS sd lm))))) ap (by kernel_rfl) (add0 _) (Ex.heap.reads (k := 7) rfl) EE bys_pre (bys_prel aq) (by kernel_rfl) (by kernel_rfl) ?_
  intro _ ar
  refine q_u 5 ?_
  refine zQ 0 64 (bys (zn 64 ((puE (nE ((ahE sd) ++ (lm)))) ++ (lb 32 (zS sd lm))))) _ ar Ex rfl (zH (by first | (simp; done) | (simp; omega) | (rw [zs]; omega))) (zH (zi)) (Zj _) rfl fun _ _ au av => ?_
  exact a_e ⟨au.sb, av.pk [0, 1, 2, 3, 4, 5, 6]⟩
 rintro _ _ ⟨aw, Hc⟩
 refine ze <| wp_ret <| z9 (v := .agg (zg (bys (zn 64 ((puE (nE ((ahE sd) ++ (lm)))) ++ (lb 32 (zS sd lm))))))) (t := 4) (T := 26) (ad := ⟨Ee, 0, none⟩) aw (by kernel_rfl) (by kernel_rfl) (zB (t := 26) (k := 0) (off := 0) (m := 64) (xs := bys (zn 64 ((puE (nE ((ahE sd) ++ (lm)))) ++ (lb 32 (zS sd lm))))) Hc rfl (zq (zH (by first | (simp; done) | (simp; omega) | (rw [zs]; omega)))) (zH (by first | (simp; done) | (simp; omega) | (rw [zs]; omega))) (by kernel_rfl) (by kernel_rfl)) ?_
 have es : zn 64 ((puE (nE ((ahE sd) ++ (lm)))) ++ (lb 32 (zS sd lm))) = siE sd lm := (congrArg (zn 64) (show _ = siE sd lm from rfl)).trans (Zt (Nat.le_of_eq (siE_len _ _)))
 exact ⟨congrArg (fun l : List UInt8 => Ending.returned (Value.agg (bys l).toArray)) es, Hc.pk []⟩
end Go.Proofs.YtlnogkmnklfjlaaGreatDoor

namespace Go.Proofs.YtlnogkmnklfjlaaGreatDoor
open Go.Dbr
set_option maxRecDepth 100000
set_option maxHeartbeats 2000000
set_option linter.unusedVariables false
set_option linter.unusedSimpArgs false
theorem cut12 (p : L4) : zh (p.take 4) ++ (zh ((p.drop 4).take 4) ++ zh (p.drop 8)) = zh p := by
  unfold zh
  rw [← ZI, ← ZI]
  congr 1
  have h : p.drop 8 = (p.drop 4).drop 4 := by rw [List.drop_drop]
  rw [h, Qv, Qv]
theorem ret3 {x y z x' y' z' : List UInt64} (h1 : x = x') (h2 : y = y') (h3 : z = z') : Ending.returned (.agg (zg ((zh x) ++ ((zh y) ++ (zh z))))) = Ending.returned (.agg (zg ((zh x') ++ ((zh y') ++ (zh z'))))) := by rw [h1, h2, h3]
theorem plus_go3 (w : World) (x1 y1 z1 x2 y2 z2 : List UInt64) (hx1 : zb x1 = 4) (hy1 : zb y1 = 4) (Eu : zb z1 = 4) (hx2 : zb x2 = 4) (hy2 : zb y2 = 4) (Ew : zb z2 = 4) : Calls Tryz.prog 39 #[.agg (zg ((zh x1) ++ ((zh y1) ++ (zh z1)))), .agg (zg ((zh x2) ++ ((zh y2) ++ (zh z2)))), .agg (zg (zh (nd DN)))] w fun e w' => e = .returned (.agg (zg ((zh (nd (zr 1 (qA (nv z1) (nv z2)) (zr 1 (qG (nv x1) (nv y1) (nv z1) (nv x2) (nv y2) (nv z2)) (qX (nv x1) (nv y1) (nv x2) (nv y2)))))) ++ ((zh (nd (zr 1 (qA (nv z1) (nv z2)) (zr 1 (qH (nv x1) (nv y1) (nv z1) (nv x2) (nv y2) (nv z2)) (Zh 1 (zr 1 (nv y1) (nv y2)) (zr 1 (nv x1) (nv x2))))))) ++ (zh (nd (zr 1 (qG (nv x1) (nv y1) (nv z1) (nv x2) (nv y2) (nv z2)) (qH (nv x1) (nv y1) (nv z1) (nv x2) (nv y2) (nv z2))))))))) ∧ Ev w [] w' [] := by
 refine d_0 [(0, .agg (zg ((zh x1) ++ ((zh y1) ++ (zh z1))))), (1, .agg (zg ((zh x2) ++ ((zh y2) ++ (zh z2))))), (2, .agg (zg (zh (nd DN))))] 75 Go.Proofs.Tryz.func39 Go.Proofs.Tryz.ntmps39 (Heap.nil _) fun HE HF HG => wp_seq <| zk <| f_o <| m_m 44 ((zh x1) ++ ((zh y1) ++ (zh z1))) HF HG fun _ _ Ej HH HI => f_o <| m_m 44 ((zh x2) ++ ((zh y2) ++ (zh z2))) HH HI fun _ _ Ek HJ E7 => f_o <| m_m 33 (zh (nd DN)) HJ E7 fun _ _ Ex E8 E9 => ?_
 refine f_o <| m_z 44 ((zh (zd 4 0)) ++ ((zh (zd 4 0)) ++ (zh (zd 4 0)))) E8 E9 fun _ _ Ec Ha Ey => f_e <| ze <| wp_seq <| zk <| d_k [3,4,5,6,15] [] 1 Ha fun _ Hb => f_o <| m_a 0 8 4 (zh z1) Hb Ey rfl (by simp [zf hx1, zf hy1, zf Eu, z4, z5, Zt]) (zf Eu) fun _ Hc => d_k [3,4,5,6,16,17] [] 3 Hc fun _ Hd => ?_
 refine f_o <| m_a 1 8 4 (zh z2) Hd Ey rfl (by simp [zf hx2, zf hy2, zf Ew, z4, z5, Zt]) (zf Ew) fun _ He => f_o <| c_p He Ey (QP _ z1 z2 Eu Ew) fun _ _ Hf Hg => f_o <| m_z 33 (zh (zd 4 0)) Hf Hg fun _ _ Ed Hh Hi => f_o <| zQ 4 4 (zh (nd (zr 1 (nv z1) (nv z2)))) _ Hh Hi rfl (zf (zl _ _)) (zf (zi)) (zt _) rfl fun _ _ Hj Eq => ?_
 refine f_e ?_
 obtain ⟨qa, h_qa⟩ : ∃ q : List UInt64, q = nd (zr 1 (nv z1) (nv z2)) := ⟨_, rfl⟩
 rw [← h_qa] at Eq
 have n_qa : zb qa = 4 := by rw [h_qa]; exact zl _ _
 refine ze <| wp_seq <| zk <| f_o <| Zp 4 4 (zh qa) Hj Eq rfl (zf n_qa) fun _ Hk => f_o <| Zp 4 4 (zh qa) Hk Eq rfl (zf n_qa) fun _ Hl => f_o <| c_p Hl Eq (QP _ qa qa n_qa n_qa) fun _ _ Hm Hn => f_o <| m_z 33 (zh (zd 4 0)) Hm Hn fun _ _ Ee Ho Hp => ?_
 refine f_o <| zQ 5 4 (zh (nd (zr 1 (nv qa) (nv qa)))) [.box Ej ((zh x1) ++ ((zh y1) ++ (zh z1))) 44, .box Ek ((zh x2) ++ ((zh y2) ++ (zh z2))) 44, .box Ex (zh (nd DN)) 33, .box Ec ((zh (zd 4 0)) ++ ((zh (zd 4 0)) ++ (zh (zd 4 0)))) 44, .box Ed (zh qa) 33, .box Ee (zh (nd (zr 1 (nv qa) (nv qa)))) 33] Ho Hp rfl (zf (zl _ _)) (zf (zi)) (zt _) rfl fun _ _ Hq Er => f_e ?_
 obtain ⟨qb, h_qb⟩ : ∃ q : List UInt64, q = nd (zr 1 (nv qa) (nv qa)) := ⟨_, rfl⟩
 rw [← h_qb] at Er
 have n_qb : zb qb = 4 := by rw [h_qb]; exact zl _ _
 refine ze <| wp_seq <| zk <| d_k [3,4,5,6,7,8,23] [] 1 Hq fun _ Hr => f_o <| m_a 0 0 4 (zh x1) Hr Er rfl (by simp [zf hx1, zf hy1, zf Eu, z4, z5]) (zf hx1) fun _ Hs => d_k [3,4,5,6,7,8,24,25] [] 3 Hs fun _ Ht => f_o <| m_a 1 0 4 (zh x2) Ht Er rfl (by simp [zf hx2, zf hy2, zf Ew, z4, z5]) (zf hx2) fun _ Hu => ?_
 refine f_o <| c_p Hu Er (QP _ x1 x2 hx1 hx2) fun _ _ Hv Hw => f_o <| m_z 33 (zh (zd 4 0)) Hv Hw fun _ _ Eh Hx Hy => f_o <| zQ 6 4 (zh (nd (zr 1 (nv x1) (nv x2)))) _ Hx Hy rfl (zf (zl _ _)) (zf (zi)) (zt _) rfl fun _ _ Hz Es => f_e ?_
 obtain ⟨qc, h_qc⟩ : ∃ q : List UInt64, q = nd (zr 1 (nv x1) (nv x2)) := ⟨_, rfl⟩
 rw [← h_qc] at Es
 have n_qc : zb qc = 4 := by rw [h_qc]; exact zl _ _
 refine ze <| wp_seq <| zk <| d_k [3,4,5,6,7,8,9,28] [] 1 Hz fun _ HA => f_o <| m_a 0 4 4 (zh y1) HA Es rfl (by simp [zf hx1, zf hy1, zf Eu, z4, z5]) (zf hy1) fun _ HB => d_k [3,4,5,6,7,8,9,29,30] [] 3 HB fun _ HC => f_o <| m_a 1 4 4 (zh y2) HC Es rfl (by simp [zf hx2, zf hy2, zf Ew, z4, z5]) (zf hy2) fun _ HD => ?_
 refine f_o <| c_p HD Es (QP _ y1 y2 hy1 hy2) fun _ _ Ez EA => f_o <| m_z 33 (zh (zd 4 0)) Ez EA fun _ _ Ea EB EC => f_o <| zQ 7 4 (zh (nd (zr 1 (nv y1) (nv y2)))) [.box Ej ((zh x1) ++ ((zh y1) ++ (zh z1))) 44, .box Ek ((zh x2) ++ ((zh y2) ++ (zh z2))) 44, .box Ex (zh (nd DN)) 33, .box Ec ((zh (zd 4 0)) ++ ((zh (zd 4 0)) ++ (zh (zd 4 0)))) 44, .box Ed (zh qa) 33, .box Ee (zh qb) 33, .box Eh (zh qc) 33, .box Ea (zh (nd (zr 1 (nv y1) (nv y2)))) 33] EB EC rfl (zf (zl _ _)) (zf (zi)) (zt _) rfl fun _ _ ED En => f_e ?_
 obtain ⟨qe, h_qe⟩ : ∃ q : List UInt64, q = nd (zr 1 (nv y1) (nv y2)) := ⟨_, rfl⟩
 rw [← h_qe] at En
 have n_qe : zb qe = 4 := by rw [h_qe]; exact zl _ _
 refine ze <| wp_seq <| r_c (fun ac wo => ∃ (Eb : Nat), Env ac 75 [(3, pt Ej), (4, pt Ek), (6, pt Ec), (7, pt Ed), (8, pt Ee), (9, pt Eh), (10, pt Ea), (11, pt Eb)] ∧ Ev w [] wo [.box Ej ((zh x1) ++ ((zh y1) ++ (zh z1))) 44, .box Ek ((zh x2) ++ ((zh y2) ++ (zh z2))) 44, .box Ec ((zh (zd 4 0)) ++ ((zh (zd 4 0)) ++ (zh (zd 4 0)))) 44, .box Ed (zh qa) 33, .box Ee (zh qb) 33, .box Eh (zh qc) 33, .box Ea (zh qe) 33, .box Eb (zh (nd (zr 1 (nv (nd DN)) (nv (nd (zr 1 (nv qc) (nv qe))))))) 33]) ?_ ?_
 ·
  refine s_g1 [(3, pt Ej), (4, pt Ek), (5, pt Ex), (6, pt Ec), (7, pt Ed), (8, pt Ee), (9, pt Eh), (10, pt Ea)] [0,1,2,3,4] [(33, .agg (zg (zh (nd DN)))), (34, .agg (zg (zh qc))), (35, .agg (zg (zh qe))), (36, .agg (zg (zh (nd (zr 1 (nv qc) (nv qe)))))), (37, .agg (zg (zh (nd (zr 1 (nv (nd DN)) (nv (nd (zr 1 (nv qc) (nv qe)))))))))] 1 [(3, pt Ej), (4, pt Ek), (6, pt Ec), (7, pt Ed), (8, pt Ee), (9, pt Eh), (10, pt Ea), (37, .agg (zg (zh (nd (zr 1 (nv (nd DN)) (nv (nd (zr 1 (nv qc) (nv qe)))))))))] 5 (zh (zd 4 0)) (ED.sb) (En.trans (zO En.heap)) ?_ fun _ _ Eb EE EF => ?_
  ·
   refine s_a 2 0 4 (zh (nd DN)) rfl (zq (zf (zl _ _))) (zf (zl _ _)) ?_
   refine s_a 6 0 4 (zh qc) rfl (zq (zf n_qc)) (zf n_qc) ?_
   refine s_a 7 0 4 (zh qe) rfl (zq (zf n_qe)) (zf n_qe) ?_
   refine s_f (fun _ => QP _ qc qe n_qc n_qe) ?_
   refine s_f (fun _ => QP _ (nd DN) (nd (zr 1 (nv qc) (nv qe))) (zl _ _) (zl _ _)) ?_
   exact s_n
  refine q_u 6 ?_
  refine zQ 8 4 (zh (nd (zr 1 (nv (nd DN)) (nv (nd (zr 1 (nv qc) (nv qe))))))) _ EE EF rfl (zf (zl _ _)) (zf (zi)) (zt _) rfl fun _ _ EG EH => ?_
  exact a_e ⟨Eb, EG.sb, EH.pk [0, 1, 3, 4, 5, 6, 7, 8]⟩
 rintro _ _ ⟨Eb, EI, El⟩
 obtain ⟨qf, h_qf⟩ : ∃ q : List UInt64, q = nd (zr 1 (nv (nd DN)) (nv (nd (zr 1 (nv qc) (nv qe))))) := ⟨_, rfl⟩
 rw [← h_qf] at El
 have n_qf : zb qf = 4 := by rw [h_qf]; exact zl _ _
 refine ze <| wp_seq <| zk <| f_o <| Zp 4 4 (zh qb) EI El rfl (zf n_qb) fun _ EJ => f_o <| Zp 7 4 (zh qf) EJ El rfl (zf n_qf) fun _ EK => f_o <| c_p EK El (dsub_go _ qb qf n_qb n_qf) fun _ _ EL EM => f_o <| m_z 33 (zh (zd 4 0)) EL EM fun _ _ Ef EN EO => ?_
 refine f_o <| zQ 8 4 (zh (nd (z7 1 (nv qb) (nv qf)))) [.box Ej ((zh x1) ++ ((zh y1) ++ (zh z1))) 44, .box Ek ((zh x2) ++ ((zh y2) ++ (zh z2))) 44, .box Ec ((zh (zd 4 0)) ++ ((zh (zd 4 0)) ++ (zh (zd 4 0)))) 44, .box Ed (zh qa) 33, .box Ee (zh qb) 33, .box Eh (zh qc) 33, .box Ea (zh qe) 33, .box Eb (zh qf) 33, .box Ef (zh (nd (z7 1 (nv qb) (nv qf)))) 33] EN EO rfl (zf (zl _ _)) (zf (zi)) (zt _) rfl fun _ _ EP Em => f_e ?_
 obtain ⟨qg, h_qg⟩ : ∃ q : List UInt64, q = nd (z7 1 (nv qb) (nv qf)) := ⟨_, rfl⟩
 rw [← h_qg] at Em
 have n_qg : zb qg = 4 := by rw [h_qg]; exact zl _ _
 refine ze <| wp_seq <| zk <| f_o <| Zp 4 4 (zh qb) EP Em rfl (zf n_qb) fun _ EQ => f_o <| Zp 7 4 (zh qf) EQ Em rfl (zf n_qf) fun _ ER => f_o <| c_p ER Em (Ki _ qb qf n_qb n_qf) fun _ _ ES ET => f_o <| m_z 33 (zh (zd 4 0)) ES ET fun _ _ Ei EU EV => ?_
 refine f_o <| zQ 9 4 (zh (nd (Zh 1 (nv qb) (nv qf)))) _ EU EV rfl (zf (zl _ _)) (zf (zi)) (zt _) rfl fun _ _ EW Eo => f_e ?_
 obtain ⟨qh, h_qh⟩ : ∃ q : List UInt64, q = nd (Zh 1 (nv qb) (nv qf)) := ⟨_, rfl⟩
 rw [← h_qh] at Eo
 have n_qh : zb qh = 4 := by rw [h_qh]; exact zl _ _
 refine ze <| wp_seq <| r_c (fun ac wo => ∃ (Eg : Nat), Env ac 75 [(3, pt Ej), (4, pt Ek), (6, pt Ec), (7, pt Ed), (8, pt Ee), (9, pt Eh), (10, pt Ea), (11, pt Eb), (12, pt Ef), (13, pt Ei), (14, pt Eg)] ∧ Ev w [] wo [.box Ej ((zh x1) ++ ((zh y1) ++ (zh z1))) 44, .box Ek ((zh x2) ++ ((zh y2) ++ (zh z2))) 44, .box Ec ((zh (zd 4 0)) ++ ((zh (zd 4 0)) ++ (zh (zd 4 0)))) 44, .box Ed (zh qa) 33, .box Ee (zh qb) 33, .box Eh (zh qc) 33, .box Ea (zh qe) 33, .box Eb (zh qf) 33, .box Ef (zh qg) 33, .box Ei (zh qh) 33, .box Eg (zh (nd (z7 1 (nv (nd (z7 1 (nv (nd (zr 1 (nv (nd (Zh 1 (nv x1) (nv y1)))) (nv (nd (Zh 1 (nv x2) (nv y2))))))) (nv qc)))) (nv qe)))) 33]) ?_ ?_
 ·
  refine s_g1 [(3, pt Ej), (4, pt Ek), (6, pt Ec), (7, pt Ed), (8, pt Ee), (9, pt Eh), (10, pt Ea), (11, pt Eb), (12, pt Ef), (13, pt Ei)] [0,1,2,3,4,5,6,7,8,9,10,11,12,13,14] [(44, pt Ej), (45, .agg (zg (zh x1))), (46, .pointer (some ⟨Ej, 4, none⟩)), (47, .agg (zg (zh y1))), (48, .agg (zg (zh (nd (Zh 1 (nv x1) (nv y1)))))), (49, pt Ek), (50, .agg (zg (zh x2))), (51, .pointer (some ⟨Ek, 4, none⟩)), (52, .agg (zg (zh y2))), (53, .agg (zg (zh (nd (Zh 1 (nv x2) (nv y2)))))), (54, .agg (zg (zh (nd (zr 1 (nv (nd (Zh 1 (nv x1) (nv y1)))) (nv (nd (Zh 1 (nv x2) (nv y2))))))))), (55, .agg (zg (zh qc))), (56, .agg (zg (zh (nd (z7 1 (nv (nd (zr 1 (nv (nd (Zh 1 (nv x1) (nv y1)))) (nv (nd (Zh 1 (nv x2) (nv y2))))))) (nv qc)))))), (57, .agg (zg (zh qe))), (58, .agg (zg (zh (nd (z7 1 (nv (nd (z7 1 (nv (nd (zr 1 (nv (nd (Zh 1 (nv x1) (nv y1)))) (nv (nd (Zh 1 (nv x2) (nv y2))))))) (nv qc)))) (nv qe))))))] 1 [(3, pt Ej), (4, pt Ek), (6, pt Ec), (7, pt Ed), (8, pt Ee), (9, pt Eh), (10, pt Ea), (11, pt Eb), (12, pt Ef), (13, pt Ei), (58, .agg (zg (zh (nd (z7 1 (nv (nd (z7 1 (nv (nd (zr 1 (nv (nd (Zh 1 (nv x1) (nv y1)))) (nv (nd (Zh 1 (nv x2) (nv y2))))))) (nv qc)))) (nv qe))))))] 15 (zh (zd 4 0)) (EW.sb) (Eo.trans (zO Eo.heap)) ?_ fun _ _ Eg EX EY => ?_
  ·
   refine s_p [] ?_
   refine s_a 0 0 4 (zh x1) rfl (by simp [zf hx1, zf hy1, zf Eu, z4, z5]) (zf hx1) ?_
   refine s_p [] ?_
   refine s_a 0 4 4 (zh y1) rfl (by simp [zf hx1, zf hy1, zf Eu, z4, z5]) (zf hy1) ?_
   refine s_f (fun _ => Ki _ x1 y1 hx1 hy1) ?_
   refine s_p [] ?_
   refine s_a 1 0 4 (zh x2) rfl (by simp [zf hx2, zf hy2, zf Ew, z4, z5]) (zf hx2) ?_
   refine s_p [] ?_
   refine s_a 1 4 4 (zh y2) rfl (by simp [zf hx2, zf hy2, zf Ew, z4, z5]) (zf hy2) ?_
   refine s_f (fun _ => Ki _ x2 y2 hx2 hy2) ?_
   refine s_f (fun _ => QP _ (nd (Zh 1 (nv x1) (nv y1))) (nd (Zh 1 (nv x2) (nv y2))) (zl _ _) (zl _ _)) ?_
   refine s_a 5 0 4 (zh qc) rfl (zq (zf n_qc)) (zf n_qc) ?_
   refine s_f (fun _ => dsub_go _ (nd (zr 1 (nv (nd (Zh 1 (nv x1) (nv y1)))) (nv (nd (Zh 1 (nv x2) (nv y2)))))) qc (zl _ _) n_qc) ?_
   refine s_a 6 0 4 (zh qe) rfl (zq (zf n_qe)) (zf n_qe) ?_
   refine s_f (fun _ => dsub_go _ (nd (z7 1 (nv (nd (zr 1 (nv (nd (Zh 1 (nv x1) (nv y1)))) (nv (nd (Zh 1 (nv x2) (nv y2))))))) (nv qc))) qe (zl _ _) n_qe) ?_
   exact s_n
  refine q_u 16 ?_
  refine zQ 10 4 (zh (nd (z7 1 (nv (nd (z7 1 (nv (nd (zr 1 (nv (nd (Zh 1 (nv x1) (nv y1)))) (nv (nd (Zh 1 (nv x2) (nv y2))))))) (nv qc)))) (nv qe)))) [.box Ej ((zh x1) ++ ((zh y1) ++ (zh z1))) 44, .box Ek ((zh x2) ++ ((zh y2) ++ (zh z2))) 44, .box Ec ((zh (zd 4 0)) ++ ((zh (zd 4 0)) ++ (zh (zd 4 0)))) 44, .box Ed (zh qa) 33, .box Ee (zh qb) 33, .box Eh (zh qc) 33, .box Ea (zh qe) 33, .box Eb (zh qf) 33, .box Ef (zh qg) 33, .box Ei (zh qh) 33, .box Eg (zh (nd (z7 1 (nv (nd (z7 1 (nv (nd (zr 1 (nv (nd (Zh 1 (nv x1) (nv y1)))) (nv (nd (Zh 1 (nv x2) (nv y2))))))) (nv qc)))) (nv qe)))) 33] EX EY rfl (zf (zl _ _)) (zf (zi)) (zt _) rfl fun _ _ EZ E0 => ?_
  exact a_e ⟨Eg, EZ.sb, E0.pk [0, 1, 2, 3, 4, 5, 6, 7, 8, 9, 10]⟩
 rintro _ _ ⟨Eg, E1, Ep⟩
 obtain ⟨qx, h_qx⟩ : ∃ q : List UInt64, q = nd (z7 1 (nv (nd (z7 1 (nv (nd (zr 1 (nv (nd (Zh 1 (nv x1) (nv y1)))) (nv (nd (Zh 1 (nv x2) (nv y2))))))) (nv qc)))) (nv qe)) := ⟨_, rfl⟩
 rw [← h_qx] at Ep
 have n_qx : zb qx = 4 := by rw [h_qx]; exact zl _ _
 refine ze <| wp_seq <| r_c (fun ac wo => Env ac 75 [(3, pt Ej), (4, pt Ek), (6, pt Ec), (7, pt Ed), (8, pt Ee), (9, pt Eh), (10, pt Ea), (11, pt Eb), (12, pt Ef), (13, pt Ei), (14, pt Eg)] ∧ Ev w [] wo [.box Ej ((zh x1) ++ ((zh y1) ++ (zh z1))) 44, .box Ek ((zh x2) ++ ((zh y2) ++ (zh z2))) 44, .box Ec ((zh (nd (zr 1 (nv qa) (nv (nd (zr 1 (nv qg) (nv qx))))))) ++ ((zh (nd (zr 1 (nv qa) (nv (nd (zr 1 (nv qh) (nv (nd (Zh 1 (nv qe) (nv qc)))))))))) ++ (zh (nd (zr 1 (nv qg) (nv qh)))))) 44, .box Ed (zh qa) 33, .box Ee (zh qb) 33, .box Eh (zh qc) 33, .box Ea (zh qe) 33, .box Eb (zh qf) 33, .box Ef (zh qg) 33, .box Ei (zh qh) 33, .box Eg (zh qx) 33]) ?_ ?_
 ·
  refine s_g0 [(3, pt Ej), (4, pt Ek), (6, pt Ec), (7, pt Ed), (8, pt Ee), (9, pt Eh), (10, pt Ea), (11, pt Eb), (12, pt Ef), (13, pt Ei), (14, pt Eg)] [0,1,2,3,4,5,6,7,8,9,10,11,12,13,14,15] [(59, .agg (zg (zh qa))), (60, .agg (zg (zh qg))), (61, .agg (zg (zh qx))), (62, .agg (zg (zh (nd (zr 1 (nv qg) (nv qx)))))), (63, .agg (zg (zh (nd (zr 1 (nv qa) (nv (nd (zr 1 (nv qg) (nv qx))))))))), (64, .agg (zg (zh qa))), (65, .agg (zg (zh qh))), (66, .agg (zg (zh qe))), (67, .agg (zg (zh qc))), (68, .agg (zg (zh (nd (Zh 1 (nv qe) (nv qc)))))), (69, .agg (zg (zh (nd (zr 1 (nv qh) (nv (nd (Zh 1 (nv qe) (nv qc))))))))), (70, .agg (zg (zh (nd (zr 1 (nv qa) (nv (nd (zr 1 (nv qh) (nv (nd (Zh 1 (nv qe) (nv qc)))))))))))), (71, .agg (zg (zh qg))), (72, .agg (zg (zh qh))), (73, .agg (zg (zh (nd (zr 1 (nv qg) (nv qh)))))), (74, .agg (zg ((zh (nd (zr 1 (nv qa) (nv (nd (zr 1 (nv qg) (nv qx))))))) ++ ((zh (nd (zr 1 (nv qa) (nv (nd (zr 1 (nv qh) (nv (nd (Zh 1 (nv qe) (nv qc)))))))))) ++ (zh (nd (zr 1 (nv qg) (nv qh))))))))] 1 [(3, pt Ej), (4, pt Ek), (6, pt Ec), (7, pt Ed), (8, pt Ee), (9, pt Eh), (10, pt Ea), (11, pt Eb), (12, pt Ef), (13, pt Ei), (14, pt Eg), (74, .agg (zg ((zh (nd (zr 1 (nv qa) (nv (nd (zr 1 (nv qg) (nv qx))))))) ++ ((zh (nd (zr 1 (nv qa) (nv (nd (zr 1 (nv qh) (nv (nd (Zh 1 (nv qe) (nv qc)))))))))) ++ (zh (nd (zr 1 (nv qg) (nv qh))))))))] (E1.sb) (Ep.trans (zO Ep.heap)) ?_ fun _ _ E2 E3 => ?_
  ·
   refine s_a 3 0 4 (zh qa) rfl (zq (zf n_qa)) (zf n_qa) ?_
   refine s_a 8 0 4 (zh qg) rfl (zq (zf n_qg)) (zf n_qg) ?_
   refine s_a 10 0 4 (zh qx) rfl (zq (zf n_qx)) (zf n_qx) ?_
   refine s_f (fun _ => QP _ qg qx n_qg n_qx) ?_
   refine s_f (fun _ => QP _ qa (nd (zr 1 (nv qg) (nv qx))) n_qa (zl _ _)) ?_
   refine s_a 3 0 4 (zh qa) rfl (zq (zf n_qa)) (zf n_qa) ?_
   refine s_a 9 0 4 (zh qh) rfl (zq (zf n_qh)) (zf n_qh) ?_
   refine s_a 6 0 4 (zh qe) rfl (zq (zf n_qe)) (zf n_qe) ?_
   refine s_a 5 0 4 (zh qc) rfl (zq (zf n_qc)) (zf n_qc) ?_
   refine s_f (fun _ => Ki _ qe qc n_qe n_qc) ?_
   refine s_f (fun _ => QP _ qh (nd (Zh 1 (nv qe) (nv qc))) n_qh (zl _ _)) ?_
   refine s_f (fun _ => QP _ qa (nd (zr 1 (nv qh) (nv (nd (Zh 1 (nv qe) (nv qc)))))) n_qa (zl _ _)) ?_
   refine s_a 8 0 4 (zh qg) rfl (zq (zf n_qg)) (zf n_qg) ?_
   refine s_a 9 0 4 (zh qh) rfl (zq (zf n_qh)) (zf n_qh) ?_
   refine s_f (fun _ => QP _ qg qh n_qg n_qh) ?_
   refine s_p [] ?_
   exact s_n
  refine q_u 16 ?_
  refine zQ 2 12 ((zh (nd (zr 1 (nv qa) (nv (nd (zr 1 (nv qg) (nv qx))))))) ++ ((zh (nd (zr 1 (nv qa) (nv (nd (zr 1 (nv qh) (nv (nd (Zh 1 (nv qe) (nv qc)))))))))) ++ (zh (nd (zr 1 (nv qg) (nv qh)))))) _ E2 E3 rfl (zE (zf (zl _ _)) (zE (zf (zl _ _)) (zf (zl _ _)))) (zE (zf (zi)) (zE (zf (zi)) (zf (zi)))) (one_app (zt _) (one_app (zt _) (zt _))) rfl fun _ _ E4 E5 => ?_
  exact a_e ⟨E4.sb, E5.pk [0, 1, 2, 3, 4, 5, 6, 7, 8, 9, 10]⟩
 rintro _ _ ⟨E6, Et⟩
 refine ze <| wp_ret <| z9 (v := .agg (zg ((zh (nd (zr 1 (nv qa) (nv (nd (zr 1 (nv qg) (nv qx))))))) ++ ((zh (nd (zr 1 (nv qa) (nv (nd (zr 1 (nv qh) (nv (nd (Zh 1 (nv qe) (nv qc)))))))))) ++ (zh (nd (zr 1 (nv qg) (nv qh)))))))) (t := 6) (T := 44) (ad := ⟨Ec, 0, none⟩) E6 (by kernel_rfl) (by kernel_rfl) (zB (t := 44) (k := 2) (off := 0) (m := 12) (xs := (zh (nd (zr 1 (nv qa) (nv (nd (zr 1 (nv qg) (nv qx))))))) ++ ((zh (nd (zr 1 (nv qa) (nv (nd (zr 1 (nv qh) (nv (nd (Zh 1 (nv qe) (nv qc)))))))))) ++ (zh (nd (zr 1 (nv qg) (nv qh)))))) Et rfl (zq (zE (zf (zl _ _)) (zE (zf (zl _ _)) (zf (zl _ _))))) (zE (zf (zl _ _)) (zE (zf (zl _ _)) (zf (zl _ _)))) (by kernel_rfl) (by kernel_rfl)) ?_
 have e0 : nd (zr 1 (nv qa) (nv (nd (zr 1 (nv qg) (nv qx))))) = nd (zr 1 (qA (nv z1) (nv z2)) (zr 1 (qG (nv x1) (nv y1) (nv z1) (nv x2) (nv y2) (nv z2)) (qX (nv x1) (nv y1) (nv x2) (nv y2)))) := by
  subst h_qx h_qh h_qg h_qf h_qe h_qc h_qb h_qa
  simp only [XA, nv_a1, nv_s1, nv_dn, qA, qG, qH, qF, qX]
 have e1 : nd (zr 1 (nv qa) (nv (nd (zr 1 (nv qh) (nv (nd (Zh 1 (nv qe) (nv qc)))))))) = nd (zr 1 (qA (nv z1) (nv z2)) (zr 1 (qH (nv x1) (nv y1) (nv z1) (nv x2) (nv y2) (nv z2)) (Zh 1 (zr 1 (nv y1) (nv y2)) (zr 1 (nv x1) (nv x2))))) := by
  subst h_qx h_qh h_qg h_qf h_qe h_qc h_qb h_qa
  simp only [XA, nv_a1, nv_s1, nv_dn, qA, qG, qH, qF, qX]
 have e2 : nd (zr 1 (nv qg) (nv qh)) = nd (zr 1 (qG (nv x1) (nv y1) (nv z1) (nv x2) (nv y2) (nv z2)) (qH (nv x1) (nv y1) (nv z1) (nv x2) (nv y2) (nv z2))) := by
  subst h_qx h_qh h_qg h_qf h_qe h_qc h_qb h_qa
  simp only [XA, nv_a1, nv_s1, nv_dn, qA, qG, qH, qF, qX]
 exact ⟨ret3 e0 e1 e2, Et.pk []⟩
theorem plus12_go (w : World) (p q : L4) (hp : p.length = 12) (hq : q.length = 12) : Calls Tryz.prog 39 #[.agg (zg (zh p)), .agg (zg (zh q)), .agg (zg (zh (nd DN)))] w fun e w' => e = .returned (.agg (zg (zh (plD p q)))) ∧ Ev w [] w' [] := by
  have h := plus_go3 w (p.take 4) ((p.drop 4).take 4) (p.drop 8) (q.take 4) ((q.drop 4).take 4) (q.drop 8) (by simp [hp]) (by simp [hp]) (by simp [hp]) (by simp [hq]) (by simp [hq]) (by simp [hq])
  rw [cut12, cut12, cat12] at h
  exact h
theorem ibeq (n : Nat) : (((n : Nat) : Int) == (1 : Int)) = (n == 1) := by
  rw [Bool.eq_iff_iff]
  simp only [beq_iff_eq]
  omega
theorem mn_yes {p k o : L4} {j : Nat} (he : o = mnF p (nv k) j) (hb : (nv k / 2 ^ (255 - j) % 2 == 1) = true) : plD (plD o o) p = mnF p (nv k) (j + 1) := by rw [he, mnF, hb, Bool.cond_true]
theorem mn_no {p k o : L4} {j : Nat} (he : o = mnF p (nv k) j) (hb : (nv k / 2 ^ (255 - j) % 2 == 1) = false) : plD o o = mnF p (nv k) (j + 1) := by rw [he, mnF, hb, Bool.cond_false]
theorem many12_go (w : World) (p k : List UInt64) (hp : zb p = 12) (hk : zb k = 4) : Calls Tryz.prog 19 #[.agg (zg (zh k)), .agg (zg (zh p)), .agg (zg (zh (nd DN)))] w fun e w' => e = .returned (.agg (zg (zh (mnF p (nv k) 256)))) ∧ Ev w [] w' [] := by
 refine d_0 [(0, .agg (zg (zh k))), (1, .agg (zg (zh p))), (2, .agg (zg (zh (nd DN))))] 34 Go.Proofs.Tryz.func19 Go.Proofs.Tryz.ntmps19 (Heap.nil _) fun EX EY EZ => wp_seq <| zk <| f_o <| m_m 33 (zh k) EY EZ fun _ _ Ej E0 E1 => f_o <| m_m 44 (zh p) E0 E1 fun _ _ El E2 Em => f_o <| m_m 33 (zh (nd DN)) E2 Em fun _ _ Ee En Eo => ?_
 refine f_o <| m_z 44 (zh (zd 12 0)) En Eo fun _ _ Ed Ep Eq => f_e <| ze <| wp_seq <| zk <| d_k [3,4,5,6,11] [] 3 Ep fun _ Er => f_o <| m_z 44 (zh (zd 12 0)) Er Eq fun _ _ Ef Es Et => f_o <| zQ 4 12 (zh zero12) _ Es Et rfl (zf (l3_len _ _ _)) (zf (zi)) (zt _) rfl fun _ _ Eu Ew => ?_
 refine f_e <| ze <| wp_seq <| wp_seq <| d_r [3,4,5,6,7,8] [] Eu fun _ Ex => ze <| wp_block <| loop_m (fun Ey ac wo => ∃ (j : Nat) (o : List UInt64), Ey = (256 - j : Nat) ∧ Env ac 34 [(3, pt Ej), (4, pt El), (5, pt Ee), (6, pt Ed), (7, pt Ef), (8, .int .i64 ((255 : Int) - ((j : Nat) : Int)))] ∧ Ev w [] wo [.box Ef (zh o) 44, .box Ej (zh k) 33, .box El (zh p) 44, .box Ee (zh (nd DN)) 33, .box Ed (zh (zd 12 0)) 44] ∧ (j ≤ 256) ∧ (zb o = 12) ∧ (o = mnF p (nv k) j)) ⟨_, 0, zero12, rfl, Ex.sb, Ew.pk [4, 0, 1, 2, 3], (by omega), (l3_len _ _ _), rfl⟩ ?_
 rintro E3 _ _ ⟨j, o, rfl, Ez, Eb, hj, ho, he⟩
 refine wp_seq <| wp_seq <| d_r [3,4,5,6,7,8,13] [] Ez fun _ Eh => ?_
 refine ze <| c_d ((255 : Int) - ((j : Nat) : Int) ≥ (0 : Int)) Eh (fun EA => ?_) (fun EA => ?_)
 ·
  refine wp_skip <| ze <| wp_seq <| wp_block <| wp_seq ?_
  have hj256 : j < 256 := by omega
  refine zk <| f_o <| Zp 0 12 (zh o) Eh Eb rfl (zf ho) fun _ EB => f_o <| Zp 0 12 (zh o) EB Eb rfl (zf ho) fun _ EC => f_o <| Zp 3 4 (zh (nd DN)) EC Eb rfl (zf (zl _ _)) fun _ ED => f_o <| c_p ED Eb (plus12_go _ o o ho ho) fun _ _ EE EF => ?_
  refine f_o <| zQ 0 12 (zh (plD o o)) [.box Ef (zh (plD o o)) 44, .box Ej (zh k) 33, .box El (zh p) 44, .box Ee (zh (nd DN)) 33, .box Ed (zh (zd 12 0)) 44] EE EF rfl (zf (Xh _ _)) (zf ho) (zt _) rfl fun _ _ EG Ec => f_e <| ze <| wp_seq <| zk <| d_k [3,4,5,6,7,8,21] [(0, g_i .i64 (show (255 : Int) - ((j : Nat) : Int) = ((255 - j : Nat) : Int) from by omega)), (1, g_i .i64 (show IntKind.wrap .i64 (Int.tdiv ((255 - j : Nat) : Int) (64 : Int)) = (((255 - j) / 64 : Nat) : Int) from Go.Dbr.i64_quo_nat (a := ((255 - j : Nat) : Int)) (n := 255 - j) (m := 64) rfl (by omega)))] 2 EG fun _ EH => f_o <| q_v (x := Instr.indexAt 33 (pt Ej) (ni ((255 - j) / 64))) (v := .pointer (some ⟨Ej, (255 - j) / 64, none⟩)) EH (Go.Dbr.run_indexarr (e := 31) (sz := 1) (m := 4) (j := (255 - j) / 64) (o := (255 - j) / 64) (by kernel_rfl) (by kernel_rfl) (by omega) (by omega) (by omega) _) fun _ EI => f_o ?_
  have EJ : (255 - j) / 64 < zb k := by rw [hk]; omega
  refine m_v 1 ((255 - j) / 64) (uv64 (za k ((255 - j) / 64) 0)) EI Ec rfl (u64s_getD EJ) fun _ EK => d_k [3,4,5,6,7,8,23,25] [(4, g_i .i64 (show (255 : Int) - ((j : Nat) : Int) = ((255 - j : Nat) : Int) from by omega)), (5, g_i .i64 (show Int.tmod ((255 - j : Nat) : Int) (64 : Int) = (((255 - j) % 64 : Nat) : Int) from Go.Dbr.i64_rem_nat (a := ((255 - j : Nat) : Int)) (n := 255 - j) (m := 64) rfl (by omega)))] 6 EK fun _ EL => f_o <| q_v EL (Go.Dbr.run_shr_u64 (za k ((255 - j) / 64) 0) .i64 ((255 - j) % 64) (by omega) _) fun _ EM => d_e [3,4,5,6,7,8,28] [(7, g_i .u64 (Go.Dbr.u64_and (x := (za k ((255 - j) / 64) 0) >>> zc ((255 - j) % 64)) (y := (1 : UInt64)) rfl rfl)), (8, g_b (show (((zw (((za k ((255 - j) / 64) 0) >>> zc ((255 - j) % 64)) &&& (1 : UInt64)) : Nat) : Int) == (1 : Int)) = (nv k / 2 ^ (255 - j) % 2 == 1) from by rw [bit_at]; exact ibeq _))] EM fun _ Ei => ?_
  refine ze <| cond_at Ei (t := nv k / 2 ^ (255 - j) % 2 == 1) (by kernel_rfl) (fun Ea => ?_) (fun Ea => ?_)
  ·
   replace Ea : (nv k / 2 ^ (255 - j) % 2 == 1) = true := by simpa using Ea
   refine zk <| f_o <| Zp 0 12 (zh (plD o o)) Ei Ec rfl (zf (Xh _ _)) fun _ EN => f_o <| Zp 2 12 (zh p) EN Ec rfl (zf hp) fun _ EO => f_o <| Zp 3 4 (zh (nd DN)) EO Ec rfl (zf (zl _ _)) fun _ EP => f_o <| c_p EP Ec (plus12_go _ (plD o o) p (Xh _ _) hp) fun _ _ EQ ER => ?_
   refine f_o <| zQ 0 12 (zh (plD (plD o o) p)) _ EQ ER rfl (zf (Xh _ _)) (zf (Xh _ _)) (zt _) rfl fun _ _ ES ET => f_e <| block_normal <| ze <| d_r [3,4,5,6,7,8] [(1, g_n (w_r (e := ((255 : Int) - ((j : Nat) : Int)) - (1 : Int)) (x := (255 : Int) - ((j + 1 : Nat) : Int)) (by omega)))] ES fun _ EU => ze <| ⟨_, ⟨j + 1, (plD (plD o o) p), rfl, EU.sb, ET.pk [0, 1, 2, 3, 4], (by omega), (Xh _ _), (mn_yes he (by simpa using Ea))⟩, ?_⟩
   omega
  replace Ea : ¬ ((nv k / 2 ^ (255 - j) % 2 == 1) = true) := by simpa using Ea
  refine wp_skip <| block_normal <| ze <| d_r [3,4,5,6,7,8] [(1, g_n (w_r (e := ((255 : Int) - ((j : Nat) : Int)) - (1 : Int)) (x := (255 : Int) - ((j + 1 : Nat) : Int)) (by omega)))] Ei fun _ EV => ze <| ⟨_, ⟨j + 1, (plD o o), rfl, EV.sb, Ec.pk [0, 1, 2, 3, 4], (by omega), (Xh _ _), (mn_no he (by simpa using Ea))⟩, ?_⟩
  omega
 refine wp_exit <| then_exit <| then_exit <| block_exit <| ze <| wp_seq <| zk <| f_o <| Zp 0 12 (zh o) Eh Eb rfl (zf ho) fun _ EW => f_o <| zQ 4 12 (zh o) [.box Ef (zh o) 44, .box Ej (zh k) 33, .box El (zh p) 44, .box Ee (zh (nd DN)) 33, .box Ed (zh o) 44] EW Eb rfl (zf ho) (zf (zi)) (zt _) rfl fun _ _ Ek Eg => f_e <| ze <| wp_ret <| z9 (v := .agg (zg (zh o))) (t := 6) (T := 44) (ad := ⟨Ed, 0, none⟩) Ek (by kernel_rfl) (by kernel_rfl) (zB (t := 44) (k := 4) (off := 0) (m := 12) (xs := zh o) Eg rfl (zq (zf ho)) (zf ho) (by kernel_rfl) (by kernel_rfl)) ?_
 have hj4 : j = 256 := by omega
 exact ⟨by rw [he, hj4], Eg.pk []⟩
theorem by_txt : nd (zr 1 (nv [4, 0, 0, 0]) (nv (nd (zJ 1 (nv [5, 0, 0, 0]) (mF 1 - 2))))) = nd BY_ := by
  rw [Kh, show nv [5, 0, 0, 0] = 5 from rfl, ivE_pw]
  exact congrArg nd (by decide +kernel)
theorem base_xok : xOkE BY_ false = true := by
  have h := is_x base_pt.1
  rwa [base_y.1, base_y.2] at h
theorem dwithB_go (w : World) {l : List UInt64} (hl : l = nd BY_) : Calls Tryz.prog 48 #[.agg (zg (zh l)), .bool false, .agg (zg (zh (nd DN)))] w fun e w' => e = .returned (.tuple #[.agg (zg (zh Yb)), .bool true]) ∧ Ev w [] w' [] := by
  subst hl
  have h := dwith_go w BY_ (nvE (by decide)) false
  rw [← wi_yes base_xok, base_xok] at h
  exact h
theorem dbase_go (w : World) : Calls Tryz.prog 20 #[.agg (zg (zh (nd DN)))] w fun e w' => e = .returned (.agg (zg (zh Yb))) ∧ Ev w [] w' [] := by
 refine d_0 [(0, .agg (zg (zh (nd DN))))] 15 Go.Proofs.Tryz.func20 Go.Proofs.Tryz.ntmps20 (Heap.nil _) fun Hm Hn Ho => wp_seq <| zk <| f_o <| m_m 33 (zh (nd DN)) Hn Ho fun _ _ Em Hp Hq => f_o <| m_z 44 ((zh (zd 4 0)) ++ ((zh (zd 4 0)) ++ (zh (zd 4 0)))) Hp Hq fun _ _ Ea Hr EH => ?_
 refine f_e <| ze <| wp_seq <| r_c (fun ac wo => ∃ (Ee : Nat), Env ac 15 [(2, pt Ea), (3, pt Ee)] ∧ Ev w [] wo [.box Ea ((zh (zd 4 0)) ++ ((zh (zd 4 0)) ++ (zh (zd 4 0)))) 44, .box Ee (zh Yb) 44]) ?_ ?_
 ·
  refine h_s (fun wv => Ev w [] wv [.box Em (zh (nd DN)) 33]) [] 12 ?_
  have En := EH.trans (zO EH.heap)
  refine h_name fun G hG => ?_
  have nd318 : ∀ (ac : Act) (wo : World), Env ac 15 [(2, pt Ea), (11, .tuple #[.agg (zg (zh Yb)), .bool true])] → Ev w [] wo [.box Em (zh (nd DN)) 33, .box Ea ((zh (zd 4 0)) ++ ((zh (zd 4 0)) ++ (zh (zd 4 0)))) 44] → G 6 #[true, true, true, true, true, true, false, false, false, false, false, false] ac wo := by
   intro _ _ EI Eo
   refine Zl hG ?_
   refine q_s [6,7,8] [] 3 EI (Eo.pk [0]) fun _ EJ => q_t 9 ?_
   refine m_z 44 ((zh (zd 4 0)) ++ ((zh (zd 4 0)) ++ (zh (zd 4 0)))) EJ Eo fun _ _ EK EL Ep => ⟨fun _ => Ep.pk [0], ?_⟩
   refine q_t 10 ?_
   refine zQ 2 12 (zh Yb) _ EL Ep rfl (zf (JD _ _)) (zE (zf (zi)) (zE (zf (zi)) (zf (zi)))) (zt _) rfl fun _ _ EM Ef => ⟨fun _ => Ef.pk [0], ?_⟩
   refine q_s [11] [] 0 EM (Ef.pk [0]) fun _ EN => ?_
   exact h_e ⟨EK, EN.sb, Ef.pk [1, 2]⟩
  have nd336 : ∀ (ac : Act) (wo : World) (Eb : Nat), Env ac 15 [(2, pt Ea), (3, pt Eb), (9, .agg (zg (zh (nd (zr 1 (nv ([4, 0, 0, 0] : List UInt64)) (nv (nd (zJ 1 (nv ([5, 0, 0, 0] : List UInt64)) (mF 1 - 2))))))))), (10, .agg (zg (zh (nd DN))))] → Ev w [] wo [.box Em (zh (nd DN)) 33, .box Ea ((zh (zd 4 0)) ++ ((zh (zd 4 0)) ++ (zh (zd 4 0)))) 44, .box Eb ((zh (zd 4 0)) ++ ((zh (zd 4 0)) ++ (zh (zd 4 0)))) 44] → G 6 #[true, true, true, true, true, false, false, false, false, true, false, false] ac wo := by
   intro _ _ Eb EO EP
   refine Zl hG ?_
   refine q_t 5 ?_
   refine c_p EO EP (dwithB_go _ by_txt) fun _ _ EQ Eg => ⟨fun _ => Eg.pk [0], ?_⟩
   refine q_s [6,7,8] [] 2 EQ (Eg.pk [0]) fun _ ER => q_t 10 ?_
   refine zQ 2 12 (zh Yb) [.box Em (zh (nd DN)) 33, .box Ea ((zh (zd 4 0)) ++ ((zh (zd 4 0)) ++ (zh (zd 4 0)))) 44, .box Eb (zh Yb) 44] ER Eg rfl (zf (JD _ _)) (zE (zf (zi)) (zE (zf (zi)) (zf (zi)))) (zt _) rfl fun _ _ ES Eh => ⟨fun _ => Eh.pk [0], ?_⟩
   refine q_s [11] [] 0 ES (Eh.pk [0]) fun _ ET => ?_
   exact h_e ⟨Eb, ET.sb, Eh.pk [1, 2]⟩
  have nd356 : ∀ (ac : Act) (wo : World), Env ac 15 [(2, pt Ea), (9, .agg (zg (zh (nd (zr 1 (nv ([4, 0, 0, 0] : List UInt64)) (nv (nd (zJ 1 (nv ([5, 0, 0, 0] : List UInt64)) (mF 1 - 2))))))))), (10, .agg (zg (zh (nd DN))))] → Ev w [] wo [.box Em (zh (nd DN)) 33, .box Ea ((zh (zd 4 0)) ++ ((zh (zd 4 0)) ++ (zh (zd 4 0)))) 44] → G 7 #[true, true, true, true, true, false, false, false, false, false, false, false] ac wo := by
   intro _ _ Eq Er
   refine Zl hG ?_
   refine Qk [5, 9] (by kernel_rfl) rfl ?_
   refine ⟨?_, ?_, trivial⟩
   ·
    rintro _ rfl
    refine c_p Eq Er (dwithB_go _ by_txt) fun _ _ EU Es => ⟨fun _ => Es.pk [0], ?_⟩
    exact Ql hG (by kernel_rfl) (nd318 _ _ (EU.sb) (Es.pk [0, 1]))
   rintro _ rfl
   refine m_z 44 ((zh (zd 4 0)) ++ ((zh (zd 4 0)) ++ (zh (zd 4 0)))) Eq Er fun _ _ EV EW Et => ⟨fun _ => Et.pk [0], ?_⟩
   exact Ql hG (by kernel_rfl) (nd336 _ _ EV (EW.sb) (Et.pk [0, 1, 2]))
  have nd373 : ∀ (ac : Act) (wo : World) (Ed : Nat), Env ac 15 [(2, pt Ea), (3, pt Ed), (6, .agg (zg (zh ([4, 0, 0, 0] : List UInt64)))), (8, .agg (zg (zh (nd (zJ 1 (nv ([5, 0, 0, 0] : List UInt64)) (mF 1 - 2)))))), (10, .agg (zg (zh (nd DN))))] → Ev w [] wo [.box Em (zh (nd DN)) 33, .box Ea ((zh (zd 4 0)) ++ ((zh (zd 4 0)) ++ (zh (zd 4 0)))) 44, .box Ed ((zh (zd 4 0)) ++ ((zh (zd 4 0)) ++ (zh (zd 4 0)))) 44] → G 7 #[true, true, true, false, true, false, false, false, false, true, false, false] ac wo := by
   intro _ _ Ed EX EY
   refine Zl hG ?_
   refine q_t 3 ?_
   refine c_p EX EY (QP _ ([4, 0, 0, 0] : List UInt64) (nd (zJ 1 (nv ([5, 0, 0, 0] : List UInt64)) (mF 1 - 2))) (show zb ([4, 0, 0, 0] : List UInt64) = 4 from rfl) (zl _ _)) fun _ _ EZ Eu => ⟨fun _ => Eu.pk [0], ?_⟩
   refine q_t 5 ?_
   refine c_p EZ Eu (dwithB_go _ by_txt) fun _ _ E0 Ei => ⟨fun _ => Ei.pk [0], ?_⟩
   refine q_s [6,7,8] [] 2 E0 (Ei.pk [0]) fun _ E1 => q_t 10 ?_
   refine zQ 2 12 (zh Yb) _ E1 Ei rfl (zf (JD _ _)) (zE (zf (zi)) (zE (zf (zi)) (zf (zi)))) (zt _) rfl fun _ _ E2 Ej => ⟨fun _ => Ej.pk [0], ?_⟩
   refine q_s [11] [] 0 E2 (Ej.pk [0]) fun _ E3 => ?_
   exact h_e ⟨Ed, E3.sb, Ej.pk [1, 2]⟩
  have nd400 : ∀ (ac : Act) (wo : World), Env ac 15 [(2, pt Ea), (6, .agg (zg (zh ([4, 0, 0, 0] : List UInt64)))), (8, .agg (zg (zh (nd (zJ 1 (nv ([5, 0, 0, 0] : List UInt64)) (mF 1 - 2)))))), (10, .agg (zg (zh (nd DN))))] → Ev w [] wo [.box Em (zh (nd DN)) 33, .box Ea ((zh (zd 4 0)) ++ ((zh (zd 4 0)) ++ (zh (zd 4 0)))) 44] → G 8 #[true, true, true, false, true, false, false, false, false, false, false, false] ac wo := by
   intro _ _ Ew Ex
   refine Zl hG ?_
   refine Qk [3, 9] (by kernel_rfl) rfl ?_
   refine ⟨?_, ?_, trivial⟩
   ·
    rintro _ rfl
    refine c_p Ew Ex (QP _ ([4, 0, 0, 0] : List UInt64) (nd (zJ 1 (nv ([5, 0, 0, 0] : List UInt64)) (mF 1 - 2))) (show zb ([4, 0, 0, 0] : List UInt64) = 4 from rfl) (zl _ _)) fun _ _ E4 Ey => ⟨fun _ => Ey.pk [0], ?_⟩
    exact Ql hG (by kernel_rfl) (nd356 _ _ (E4.sb) (Ey.pk [0, 1]))
   rintro _ rfl
   refine m_z 44 ((zh (zd 4 0)) ++ ((zh (zd 4 0)) ++ (zh (zd 4 0)))) Ew Ex fun _ _ E5 E6 Ez => ⟨fun _ => Ez.pk [0], ?_⟩
   exact Ql hG (by kernel_rfl) (nd373 _ _ E5 (E6.sb) (Ez.pk [0, 1, 2]))
  have nd417 : ∀ (ac : Act) (wo : World) (Ec : Nat), Env ac 15 [(2, pt Ea), (3, pt Ec), (6, .agg (zg (zh ([4, 0, 0, 0] : List UInt64)))), (7, .agg (zg (zh ([5, 0, 0, 0] : List UInt64)))), (10, .agg (zg (zh (nd DN))))] → Ev w [] wo [.box Em (zh (nd DN)) 33, .box Ea ((zh (zd 4 0)) ++ ((zh (zd 4 0)) ++ (zh (zd 4 0)))) 44, .box Ec ((zh (zd 4 0)) ++ ((zh (zd 4 0)) ++ (zh (zd 4 0)))) 44] → G 8 #[true, true, false, false, true, false, false, false, false, true, false, false] ac wo := by
   intro _ _ Ec E7 E8
   refine Zl hG ?_
   refine q_t 2 ?_
   refine c_p E7 E8 (dinv_go _ ([5, 0, 0, 0] : List UInt64) (show zb ([5, 0, 0, 0] : List UInt64) = 4 from rfl)) fun _ _ E9 EA => ⟨fun _ => EA.pk [0], ?_⟩
   refine q_t 3 ?_
   refine c_p E9 EA (QP _ ([4, 0, 0, 0] : List UInt64) (nd (zJ 1 (nv ([5, 0, 0, 0] : List UInt64)) (mF 1 - 2))) (show zb ([4, 0, 0, 0] : List UInt64) = 4 from rfl) (zl _ _)) fun _ _ Ha EB => ⟨fun _ => EB.pk [0], ?_⟩
   refine q_t 5 ?_
   refine c_p Ha EB (dwithB_go _ by_txt) fun _ _ Hb Ek => ⟨fun _ => Ek.pk [0], ?_⟩
   refine q_s [6,7,8] [] 2 Hb (Ek.pk [0]) fun _ Hc => q_t 10 ?_
   refine zQ 2 12 (zh Yb) [.box Em (zh (nd DN)) 33, .box Ea ((zh (zd 4 0)) ++ ((zh (zd 4 0)) ++ (zh (zd 4 0)))) 44, .box Ec (zh Yb) 44] Hc Ek rfl (zf (JD _ _)) (zE (zf (zi)) (zE (zf (zi)) (zf (zi)))) (zt _) rfl fun _ _ Hd El => ⟨fun _ => El.pk [0], ?_⟩
   refine q_s [11] [] 0 Hd (El.pk [0]) fun _ He => ?_
   exact h_e ⟨Ec, He.sb, El.pk [1, 2]⟩
  refine Zl hG ?_
  refine q_s [0,1] [] 10 Hr (En.pk [0]) fun _ Hf => q_r 4 (s := Instr.loadAt 33 (pt Em)) (v := .agg (zg (zh (nd DN)))) Hf (fun w hS => run_loadAgg2 (m := 4) (cs := zh (nd DN)) (zf (zl _ _)) (by kernel_rfl) (by kernel_rfl) (hS.heap.cells (k := 0) (off := 0) (m := 4) rfl (zq (zf (zl _ _))))) (En.pk [0]) fun _ EC => Qk [2, 9] (by kernel_rfl) rfl ?_
  refine ⟨?_, ?_, trivial⟩
  ·
   rintro _ rfl
   refine c_p EC En (dinv_go _ ([5, 0, 0, 0] : List UInt64) (show zb ([5, 0, 0, 0] : List UInt64) = 4 from rfl)) fun _ _ Hg ED => ⟨fun _ => ED.pk [0], ?_⟩
   exact Ql hG (by kernel_rfl) (nd400 _ _ (Hg.sb) (ED.pk [0, 1]))
  rintro _ rfl
  refine m_z 44 ((zh (zd 4 0)) ++ ((zh (zd 4 0)) ++ (zh (zd 4 0)))) EC En fun _ _ Hh Hi EE => ⟨fun _ => EE.pk [0], ?_⟩
  exact Ql hG (by kernel_rfl) (nd417 _ _ Hh (Hi.sb) (EE.pk [0, 1, 2]))
 rintro _ _ ⟨Ee, Hj, EF⟩
 refine ze <| wp_seq <| zk <| f_o <| Zp 1 12 (zh Yb) Hj EF rfl (zf (JD _ _)) fun _ Hk => f_o <| zQ 0 12 (zh Yb) _ Hk EF rfl (zf (JD _ _)) (zE (zf (zi)) (zE (zf (zi)) (zf (zi)))) (zt _) rfl fun _ _ Hl EG => f_e <| ze <| wp_ret <| z9 (v := .agg (zg (zh Yb))) (t := 2) (T := 44) (ad := ⟨Ea, 0, none⟩) Hl (by kernel_rfl) (by kernel_rfl) (zB (t := 44) (k := 0) (off := 0) (m := 12) (xs := zh Yb) EG rfl (zq (zf (JD _ _))) (zf (JD _ _)) (by kernel_rfl) (by kernel_rfl)) ?_
 exact ⟨rfl, EG.pk []⟩
theorem oddq (a : Nat) : (((zw (za (nd a) 0 0 &&& 1) : Nat) : Int) == (1 : Int)) = (a % 2 == 1) := by
  have e : (za (nd a) 0 0 &&& 1).toNat = a % 2 := by
    have e : za (nd a) 0 0 = zc a := rfl
    rw [e, UInt64.toNat_and, show (1 : UInt64).toNat = 1 from rfl, Nat.and_one_is_mod, ofNat_val]
    omega
  rw [e]
  exact ibeq _
theorem out_odd {x y : Nat} (h : (x % 2 == 1) = true) : zp (lb 32 y) 31 (za (lb 32 y) 31 0 ||| (128 : UInt8)) = JY x y := by
  rw [JY, of_decide_eq_true (p := x % 2 = 1) (by simpa using h)]
  rfl
theorem out_even {x y : Nat} (h : (x % 2 == 1) = false) : lb 32 y = JY x y := by
  have e : x % 2 = 0 := by
    have := Nat.mod_lt x (show 0 < 2 by decide)
    simp at h
    omega
  rw [JY, e, show (UInt8.ofNat 0 <<< 7) = (0 : UInt8) from rfl, UInt8.or_zero, set_getD (by rw [zY]; decide)]
theorem dbytes_go (w : World) (x1 y1 z1 : List UInt64) (hx1 : zb x1 = 4) (hy1 : zb y1 = 4) (Ek : zb z1 = 4) : Calls Tryz.prog 18 #[.agg (zg ((zh x1) ++ ((zh y1) ++ (zh z1))))] w fun e w' => e = .returned (.agg (zg (bys (JY (zr 1 (nv x1) (ivE (nv z1))) (zr 1 (nv y1) (ivE (nv z1))))))) ∧ Ev w [] w' [] := by
 refine d_0 [(0, .agg (zg ((zh x1) ++ ((zh y1) ++ (zh z1)))))] 27 Go.Proofs.Tryz.func18 Go.Proofs.Tryz.ntmps18 (Heap.nil _) fun E2 E3 E4 => wp_seq <| zk <| f_o <| m_m 44 ((zh x1) ++ ((zh y1) ++ (zh z1))) E3 E4 fun _ _ Et E5 E6 => f_o <| m_z 22 (bys (zd 32 0)) E5 E6 fun _ _ El E7 Em => f_e <| ze <| wp_seq <| zk <| d_k [1,2,6] [] 1 E7 fun _ Eu => ?_
 refine f_o <| m_a 0 8 4 (zh z1) Eu Em rfl (by simp [zf hx1, zf hy1, zf Ek, z4, z5, Zt]) (zf Ek) fun _ Ew => f_o <| c_p Ew Em (dinv_go _ z1 Ek) fun _ _ Ex Ey => f_o <| m_z 33 (zh (zd 4 0)) Ex Ey fun _ _ Ef Ez EA => f_o <| zQ 2 4 (zh (nd (zJ 1 (nv z1) (mF 1 - 2)))) _ Ez EA rfl (zf (zl _ _)) (zf (zi)) (zt _) rfl fun _ _ EB Eg => ?_
 refine f_e <| ze <| wp_seq <| zk <| d_k [1,2,3,9] [] 1 EB fun _ EC => f_o <| m_a 0 0 4 (zh x1) EC Eg rfl (by simp [zf hx1, zf hy1, zf Ek, z4, z5]) (zf hx1) fun _ ED => f_o <| Zp 2 4 (zh (nd (zJ 1 (nv z1) (mF 1 - 2)))) ED Eg rfl (zf (zl _ _)) fun _ EE => f_o <| c_p EE Eg (QP _ x1 (nd (zJ 1 (nv z1) (mF 1 - 2))) hx1 (zl _ _)) fun _ _ EF EG => ?_
 refine f_o <| m_z 33 (zh (zd 4 0)) EF EG fun _ _ Eh EH EI => f_o <| zQ 3 4 (zh (nd (zr 1 (nv x1) (nv (nd (zJ 1 (nv z1) (mF 1 - 2))))))) [.box Et ((zh x1) ++ ((zh y1) ++ (zh z1))) 44, .box El (bys (zd 32 0)) 22, .box Ef (zh (nd (zJ 1 (nv z1) (mF 1 - 2)))) 33, .box Eh (zh (nd (zr 1 (nv x1) (nv (nd (zJ 1 (nv z1) (mF 1 - 2))))))) 33] EH EI rfl (zf (zl _ _)) (zf (zi)) (zt _) rfl fun _ _ EJ Ei => f_e <| ze <| wp_seq <| zk <| d_k [1,2,3,4,13] [] 1 EJ fun _ EK => f_o <| m_a 0 4 4 (zh y1) EK Ei rfl (by simp [zf hx1, zf hy1, zf Ek, z4, z5]) (zf hy1) fun _ EL => ?_
 refine f_o <| Zp 2 4 (zh (nd (zJ 1 (nv z1) (mF 1 - 2)))) EL Ei rfl (zf (zl _ _)) fun _ EM => f_o <| c_p EM Ei (QP _ y1 (nd (zJ 1 (nv z1) (mF 1 - 2))) hy1 (zl _ _)) fun _ _ EN EO => f_o <| c_p EN EO (rtole_go _ (nd (zr 1 (nv y1) (nv (nd (zJ 1 (nv z1) (mF 1 - 2)))))) (zl _ _)) fun _ _ EP EQ => f_o <| m_z 22 (bys (zd 32 0)) EP EQ fun _ _ En ER ES => ?_
 refine f_o <| zQ 4 32 (bys (lb 32 (nv (nd (zr 1 (nv y1) (nv (nd (zJ 1 (nv z1) (mF 1 - 2))))))))) _ ER ES rfl (zH (zY _ _)) (zH (zi)) (Zj _) rfl fun _ _ ET Eb => f_e <| ze <| wp_seq <| wp_seq <| zk <| d_k [1,2,3,4,5,18] [] 1 ET fun _ EU => f_o ?_
 have EV : 0 < zb (nd (zr 1 (nv x1) (nv (nd (zJ 1 (nv z1) (mF 1 - 2)))))) := by rw [(zl _ _)]; omega
 refine m_v 3 0 (uv64 (za (nd (zr 1 (nv x1) (nv (nd (zJ 1 (nv z1) (mF 1 - 2)))))) 0 0)) EU Eb rfl (u64s_getD EV) fun _ EW => d_e [1,2,3,4,5,21] [(2, g_i .u64 (Go.Dbr.u64_and (x := za (nd (zr 1 (nv x1) (nv (nd (zJ 1 (nv z1) (mF 1 - 2)))))) 0 0) (y := (1 : UInt64)) rfl rfl)), (3, g_b (show (((zw ((za (nd (zr 1 (nv x1) (nv (nd (zJ 1 (nv z1) (mF 1 - 2)))))) 0 0) &&& (1 : UInt64)) : Nat) : Int) == (1 : Int)) = ((zr 1 (nv x1) (nv (nd (zJ 1 (nv z1) (mF 1 - 2))))) % 2 == 1) from oddq _))] EW fun _ Ej => ?_
 refine ze <| cond_at Ej (t := (zr 1 (nv x1) (nv (nd (zJ 1 (nv z1) (mF 1 - 2))))) % 2 == 1) (by kernel_rfl) (fun Ea => ?_) (fun Ea => ?_)
 ·
  replace Ea : ((zr 1 (nv x1) (nv (nd (zJ 1 (nv z1) (mF 1 - 2))))) % 2 == 1) = true := by simpa using Ea
  refine zk <| d_k [1,2,3,4,5,22] [] 1 Ej fun _ EX => f_o ?_
  have EY : 31 < zb (lb 32 (nv (nd (zr 1 (nv y1) (nv (nd (zJ 1 (nv z1) (mF 1 - 2)))))))) := by rw [(zY _ _)]; omega
  refine m_v 4 31 (bv (za (lb 32 (nv (nd (zr 1 (nv y1) (nv (nd (zJ 1 (nv z1) (mF 1 - 2)))))))) 31 0)) EX Eb rfl (bys_getD EY) fun _ EZ => d_k [1,2,3,4,5,24,25] [(2, g_i .u8 (Go.Dbr.u8_or (x := za (lb 32 (nv (nd (zr 1 (nv y1) (nv (nd (zJ 1 (nv z1) (mF 1 - 2)))))))) 31 0) (y := (128 : UInt8)) rfl rfl))] 4 EZ fun _ E0 => f_o ?_
  have E1 : 31 < zb (lb 32 (nv (nd (zr 1 (nv y1) (nv (nd (zJ 1 (nv z1) (mF 1 - 2)))))))) := by rw [(zY _ _)]; omega
  refine m_t 4 31 (bv ((za (lb 32 (nv (nd (zr 1 (nv y1) (nv (nd (zJ 1 (nv z1) (mF 1 - 2)))))))) 31 0) ||| (128 : UInt8))) [.box Et ((zh x1) ++ ((zh y1) ++ (zh z1))) 44, .box El (bys (zd 32 0)) 22, .box Ef (zh (nd (zJ 1 (nv z1) (mF 1 - 2)))) 33, .box Eh (zh (nd (zr 1 (nv x1) (nv (nd (zJ 1 (nv z1) (mF 1 - 2))))))) 33, .box En (bys (zp (lb 32 (nv (nd (zr 1 (nv y1) (nv (nd (zJ 1 (nv z1) (mF 1 - 2)))))))) 31 ((za (lb 32 (nv (nd (zr 1 (nv y1) (nv (nd (zJ 1 (nv z1) (mF 1 - 2)))))))) 31 0) ||| (128 : UInt8)))) 22] E0 Eb rfl (bys_getD E1) (bys_set _ _ _) rfl fun _ _ Eo Ec => f_e <| ze <| wp_seq <| zk <| f_o <| Zp 4 32 (bys (zp (lb 32 (nv (nd (zr 1 (nv y1) (nv (nd (zJ 1 (nv z1) (mF 1 - 2)))))))) 31 ((za (lb 32 (nv (nd (zr 1 (nv y1) (nv (nd (zJ 1 (nv z1) (mF 1 - 2)))))))) 31 0) ||| (128 : UInt8)))) Eo Ec rfl (zH (List.length_set.trans (zY _ _))) fun _ Ep => f_o <| zQ 1 32 (bys (zp (lb 32 (nv (nd (zr 1 (nv y1) (nv (nd (zJ 1 (nv z1) (mF 1 - 2)))))))) 31 ((za (lb 32 (nv (nd (zr 1 (nv y1) (nv (nd (zJ 1 (nv z1) (mF 1 - 2)))))))) 31 0) ||| (128 : UInt8)))) _ Ep Ec rfl (zH (List.length_set.trans (zY _ _))) (zH (zi)) (Zj _) rfl fun _ _ Eq Ed => f_e <| ze <| wp_ret <| z9 (v := .agg (zg (bys (zp (lb 32 (nv (nd (zr 1 (nv y1) (nv (nd (zJ 1 (nv z1) (mF 1 - 2)))))))) 31 ((za (lb 32 (nv (nd (zr 1 (nv y1) (nv (nd (zJ 1 (nv z1) (mF 1 - 2)))))))) 31 0) ||| (128 : UInt8)))))) (t := 2) (T := 22) (ad := ⟨El, 0, none⟩) Eq (by kernel_rfl) (by kernel_rfl) (zB (t := 22) (k := 1) (off := 0) (m := 32) (xs := bys (zp (lb 32 (nv (nd (zr 1 (nv y1) (nv (nd (zJ 1 (nv z1) (mF 1 - 2)))))))) 31 ((za (lb 32 (nv (nd (zr 1 (nv y1) (nv (nd (zJ 1 (nv z1) (mF 1 - 2)))))))) 31 0) ||| (128 : UInt8)))) Ed rfl (zq (zH (List.length_set.trans (zY _ _)))) (zH (List.length_set.trans (zY _ _))) (by kernel_rfl) (by kernel_rfl)) ?_
  have hq := Ea
  have e0 : zp (lb 32 (nv (nd (zr 1 (nv y1) (nv (nd (zJ 1 (nv z1) (mF 1 - 2)))))))) 31 ((za (lb 32 (nv (nd (zr 1 (nv y1) (nv (nd (zJ 1 (nv z1) (mF 1 - 2)))))))) 31 0) ||| (128 : UInt8)) = JY (zr 1 (nv x1) (ivE (nv z1))) (zr 1 (nv y1) (ivE (nv z1))) := by
   rw [Kh] at hq
   simp only [XA, Kh]
   exact out_odd (by simpa using hq)
  exact ⟨congrArg (fun l : List UInt8 => Ending.returned (Value.agg (bys l).toArray)) e0, Ed.pk []⟩
 replace Ea : ¬ (((zr 1 (nv x1) (nv (nd (zJ 1 (nv z1) (mF 1 - 2))))) % 2 == 1) = true) := by simpa using Ea
 refine wp_skip <| ze <| wp_seq <| zk <| f_o <| Zp 4 32 (bys (lb 32 (nv (nd (zr 1 (nv y1) (nv (nd (zJ 1 (nv z1) (mF 1 - 2))))))))) Ej Eb rfl (zH (zY _ _)) fun _ Er => f_o <| zQ 1 32 (bys (lb 32 (nv (nd (zr 1 (nv y1) (nv (nd (zJ 1 (nv z1) (mF 1 - 2))))))))) [.box Et ((zh x1) ++ ((zh y1) ++ (zh z1))) 44, .box El (bys (lb 32 (nv (nd (zr 1 (nv y1) (nv (nd (zJ 1 (nv z1) (mF 1 - 2))))))))) 22, .box Ef (zh (nd (zJ 1 (nv z1) (mF 1 - 2)))) 33, .box Eh (zh (nd (zr 1 (nv x1) (nv (nd (zJ 1 (nv z1) (mF 1 - 2))))))) 33, .box En (bys (lb 32 (nv (nd (zr 1 (nv y1) (nv (nd (zJ 1 (nv z1) (mF 1 - 2))))))))) 22] Er Eb rfl (zH (zY _ _)) (zH (zi)) (Zj _) rfl fun _ _ Es Ee => f_e <| ze <| wp_ret <| z9 (v := .agg (zg (bys (lb 32 (nv (nd (zr 1 (nv y1) (nv (nd (zJ 1 (nv z1) (mF 1 - 2))))))))))) (t := 2) (T := 22) (ad := ⟨El, 0, none⟩) Es (by kernel_rfl) (by kernel_rfl) (zB (t := 22) (k := 1) (off := 0) (m := 32) (xs := bys (lb 32 (nv (nd (zr 1 (nv y1) (nv (nd (zJ 1 (nv z1) (mF 1 - 2))))))))) Ee rfl (zq (zH (zY _ _))) (zH (zY _ _)) (by kernel_rfl) (by kernel_rfl)) ?_
 have hq := Ea
 have e0 : lb 32 (nv (nd (zr 1 (nv y1) (nv (nd (zJ 1 (nv z1) (mF 1 - 2))))))) = JY (zr 1 (nv x1) (ivE (nv z1))) (zr 1 (nv y1) (ivE (nv z1))) := by
  rw [Kh] at hq
  simp only [XA, Kh]
  exact out_even (by simpa using hq)
 exact ⟨congrArg (fun l : List UInt8 => Ending.returned (Value.agg (bys l).toArray)) e0, Ee.pk []⟩
theorem dbytesB_go (w : World) (k : Nat) (hk : k < W256) : Calls Tryz.prog 18 #[.agg (zg (zh (mnF Yb (nv (nd k)) 256)))] w fun e w' => e = .returned (.agg (zg (bys (puE k)))) ∧ Ev w [] w' [] := by
  have h := dbytes_go w ((mnF Yb (nv (nd k)) 256).take 4) (((mnF Yb (nv (nd k)) 256).drop 4).take 4) ((mnF Yb (nv (nd k)) 256).drop 8) (by simp [mnF_len]) (by simp [mnF_len]) (by simp [mnF_len]) 
  rw [cut12, Qw hk, pu_D hk] at h
  rw [Qw hk]
  exact h
end Go.Proofs.YtlnogkmnklfjlaaGreatDoor
