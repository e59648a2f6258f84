import Derived.Test.YtpfhmbbiadpbeaaGreatVp9
open Go.Dbr renaming u64s_lenh → za, then_normal → ze, u64s → zg, region_from → zj, load_whole → zn, len_app → zp, u64s_one → zq, d_cell1 → zU, m_gw → zW, then_ret → z9, one_app → Zd, m_aw → Zn, run_built → Zw, u64s_eqop → ZI, cond_at → Ql, one_all → QZ, fb_y → YS, eqOp → Jr, s_g1 → Xk, fb_n → Xl
open List renaming getD → zb, toArray → zc, replicate → zd, length → zf, length_replicate → zh, drop_append → zu, take_append → zv, take_of_length_le → zx, take → zD, drop → zG
open UInt64 renaming ofNat → zi, toNat → zk
open Go.Proofs.YtpfhmbbiadpbeaaGreat renaming nds_len → zl, mulM → zo, powM → zK, mulP → zV, subM → zZ, addM → z5, dmul_go → ZS, jtL_len → ZW, ofJ_len → ZZ, of12 → Qe, dsub_go → Ju, nv_m2 → JA, beq_f → J9, jpL_len → Xe, bitN → XW, beq_t → Kf, bX_len → Kl
open Go.Proofs.Tryz renaming prog → zB
open Go.Dbr.Ev renaming cellAgg → zC, drew → zN
open Nat renaming mod_eq_of_lt → zQ, pow_add → ZO
open Bool renaming cond_false → Zc, eq_false_iff → ZB, cond_true → ZF, true_or → Xz, or_true → XA
set_option maxRecDepth 100000
set_option maxHeartbeats 2000000
set_option linter.unusedVariables false
set_option linter.unusedSimpArgs false
namespace Go.Proofs.YtpfhmbbiadpbeaaGreat
open Go.Dbr
theorem dof_go (w : World) (z : Bool) (x y : List UInt64) (hx : zf x = 4) (hy : zf y = 4) : Calls zB 27 #[.agg (zc (([.bool z] : List Value) ++ ((zg x) ++ (zg y))))] w fun e w' => e = .returned (.agg (zc ((zg ((ofJ z x y).1)) ++ ((zg ((ofJ z x y).2.1)) ++ (zg ((ofJ z x y).2.2)))))) ∧ Ev w [] w' [] := by
 refine d_0 [(0, .agg (zc (([.bool z] : List Value) ++ ((zg x) ++ (zg y)))))] 14 Tryz.func27 Tryz.ntmps27 (Heap.nil _) fun Er Es Et => wp_seq <| zj <| f_o <| m_m 27 (([.bool z] : List Value) ++ ((zg x) ++ (zg y))) Es Et fun _ _ Eu Ew Ex => f_o <| m_z 51 ((zg (zd 4 0)) ++ ((zg (zd 4 0)) ++ (zg (zd 4 0)))) Ew Ex fun _ _ Ef Ey Eb => f_e <| ze <| wp_seq <| wp_seq <| zj <| d_k [1,2,3] [] 1 Ey fun _ Eg => f_o <| m_v 0 0 (.bool z) Eg Eb rfl (seg_in rfl) fun _ Ec => ?_
 refine f_e <| ze <| Ql Ec (t := z) (by kernel_rfl) (fun Ea => ?_) (fun Ea => ?_)
 ·
  replace Ea : z = true := Ea
  refine wp_seq <| zj <| d_k [1,2,5,6] [] 2 Ec fun _ Eh => f_o <| q_v (x := Instr.build 51 #[(0, .agg (zc (zg ([1, 0, 0, 0] : List UInt64)))), (1, .agg (zc (zg ([1, 0, 0, 0] : List UInt64))))]) (v := .agg (zc ((zg ([1, 0, 0, 0] : List UInt64)) ++ ((zg ([1, 0, 0, 0] : List UInt64)) ++ (zg (zd 4 0)))))) Eh (Zw [(0, 4), (4, 4), (8, 4)] [⟨4, zg (zd 4 0), some (0, .agg (zc (zg ([1, 0, 0, 0] : List UInt64))), zg ([1, 0, 0, 0] : List UInt64))⟩, ⟨4, zg (zd 4 0), some (1, .agg (zc (zg ([1, 0, 0, 0] : List UInt64))), zg ([1, 0, 0, 0] : List UInt64))⟩, ⟨4, zg (zd 4 0), none⟩] (YS (za (zh)) (za (show zf ([1, 0, 0, 0] : List UInt64) = 4 from rfl)) (YS (za (zh)) (za (show zf ([1, 0, 0, 0] : List UInt64) = 4 from rfl)) (Xl (za (zh)) trivial))) _) fun _ Ei => f_o <| zW 1 12 ((zg ([1, 0, 0, 0] : List UInt64)) ++ ((zg ([1, 0, 0, 0] : List UInt64)) ++ (zg (zd 4 0)))) _ Ei Eb rfl (zp (za (show zf ([1, 0, 0, 0] : List UInt64) = 4 from rfl)) (zp (za (show zf ([1, 0, 0, 0] : List UInt64) = 4 from rfl)) (za (zh)))) (zp (za (zh)) (zp (za (zh)) (za (zh)))) (Zd (zq _) (Zd (zq _) (zq _))) rfl fun _ _ Ej Ed => f_e <| ze <| wp_ret <| z9 <| zU (v := .agg (zc ((zg ([1, 0, 0, 0] : List UInt64)) ++ ((zg ([1, 0, 0, 0] : List UInt64)) ++ (zg (zd 4 0)))))) (t := 2) (T := 51) (ad := ⟨Ef, 0, none⟩) Ej (by kernel_rfl) (by kernel_rfl) (zC (t := 51) (k := 1) (off := 0) (m := 12) (xs := (zg ([1, 0, 0, 0] : List UInt64)) ++ ((zg ([1, 0, 0, 0] : List UInt64)) ++ (zg (zd 4 0)))) Ed rfl (zn (zp (za (show zf ([1, 0, 0, 0] : List UInt64) = 4 from rfl)) (zp (za (show zf ([1, 0, 0, 0] : List UInt64) = 4 from rfl)) (za (zh))))) (zp (za (show zf ([1, 0, 0, 0] : List UInt64) = 4 from rfl)) (zp (za (show zf ([1, 0, 0, 0] : List UInt64) = 4 from rfl)) (za (zh)))) (by kernel_rfl) (by kernel_rfl)) ?_
  have g0 : z = true := by simpa using Ea
  exact ⟨by rw [g0]; first | rfl | kernel_rfl, Ed.pk []⟩
 replace Ea : ¬ (z = true) := ZB.1 Ea
 refine wp_skip <| ze <| wp_seq <| zj <| d_k [1,2,8] [] 1 Ec fun _ Ek => f_o <| m_a 0 1 4 (zg x) Ek Eb rfl (by simp [za hx, za hy, zu, zv]) (za hx) fun _ El => d_k [1,2,9,10] [] 3 El fun _ Em => f_o <| m_a 0 5 4 (zg y) Em Eb rfl (by simp [za hx, za hy, zu, zv, zx]) (za hy) fun _ En => d_k [1,2,9,11,12] [] 5 En fun _ Eo => f_o <| q_v (x := Instr.build 51 #[(0, .agg (zc (zg x))), (1, .agg (zc (zg y))), (2, .agg (zc (zg ([1, 0, 0, 0] : List UInt64))))]) (v := .agg (zc ((zg x) ++ ((zg y) ++ (zg ([1, 0, 0, 0] : List UInt64)))))) Eo (Zw [(0, 4), (4, 4), (8, 4)] [⟨4, zg (zd 4 0), some (0, .agg (zc (zg x)), zg x)⟩, ⟨4, zg (zd 4 0), some (1, .agg (zc (zg y)), zg y)⟩, ⟨4, zg (zd 4 0), some (2, .agg (zc (zg ([1, 0, 0, 0] : List UInt64))), zg ([1, 0, 0, 0] : List UInt64))⟩] (YS (za (zh)) (za hx) (YS (za (zh)) (za hy) (YS (za (zh)) (za (show zf ([1, 0, 0, 0] : List UInt64) = 4 from rfl)) trivial))) _) fun _ Ep => ?_
 refine f_o <| zW 1 12 ((zg x) ++ ((zg y) ++ (zg ([1, 0, 0, 0] : List UInt64)))) [.box Eu (([.bool z] : List Value) ++ ((zg x) ++ (zg y))) 27, .box Ef ((zg x) ++ ((zg y) ++ (zg ([1, 0, 0, 0] : List UInt64)))) 51] Ep Eb rfl (zp (za hx) (zp (za hy) (za (show zf ([1, 0, 0, 0] : List UInt64) = 4 from rfl)))) (zp (za (zh)) (zp (za (zh)) (za (zh)))) (Zd (zq _) (Zd (zq _) (zq _))) rfl fun _ _ Eq Ee => f_e <| ze <| wp_ret <| zU (v := .agg (zc ((zg x) ++ ((zg y) ++ (zg ([1, 0, 0, 0] : List UInt64)))))) (t := 2) (T := 51) (ad := ⟨Ef, 0, none⟩) Eq (by kernel_rfl) (by kernel_rfl) (zC (t := 51) (k := 1) (off := 0) (m := 12) (xs := (zg x) ++ ((zg y) ++ (zg ([1, 0, 0, 0] : List UInt64)))) Ee rfl (zn (zp (za hx) (zp (za hy) (za (show zf ([1, 0, 0, 0] : List UInt64) = 4 from rfl))))) (zp (za hx) (zp (za hy) (za (show zf ([1, 0, 0, 0] : List UInt64) = 4 from rfl)))) (by kernel_rfl) (by kernel_rfl)) ?_
 have g0 : z = false := by simpa using Ea
 exact ⟨by rw [g0]; first | rfl | kernel_rfl, Ee.pk []⟩
theorem bkJ_len (t : T3) : (bkJ t).2.1.length = 4 ∧ (bkJ t).2.2.length = 4 := by
  unfold bkJ
  cases t.2.2 == z4 with
  | true => exact ⟨rfl, rfl⟩
  | false => exact ⟨zl _ _, zl _ _⟩
theorem ret_pz {a b : PZ} (h : a = b) : Ending.returned (.agg (zc (([.bool a.1] : List Value) ++ ((zg a.2.1) ++ (zg a.2.2))))) = Ending.returned (.agg (zc (([.bool b.1] : List Value) ++ ((zg b.2.1) ++ (zg b.2.2))))) := by rw [h]
theorem ret_t3 {a b : T3} (h : a = b) : Ending.returned (.agg (zc ((zg a.1) ++ ((zg a.2.1) ++ (zg a.2.2))))) = Ending.returned (.agg (zc ((zg b.1) ++ ((zg b.2.1) ++ (zg b.2.2))))) := by rw [h]
theorem dback_go (w : World) (x y z : List UInt64) (hx : zf x = 4) (hy : zf y = 4) (hz : zf z = 4) : Calls zB 29 #[.agg (zc ((zg x) ++ ((zg y) ++ (zg z))))] w fun e w' => e = .returned (.agg (zc (([.bool ((bkJ (x, y, z)).1)] : List Value) ++ ((zg ((bkJ (x, y, z)).2.1)) ++ (zg ((bkJ (x, y, z)).2.2)))))) ∧ Ev w [] w' [] := by
 refine d_0 [(0, .agg (zc ((zg x) ++ ((zg y) ++ (zg z)))))] 27 Tryz.func29 Tryz.ntmps29 (Heap.nil _) fun EN EO EP => wp_seq <| zj <| f_o <| m_m 51 ((zg x) ++ ((zg y) ++ (zg z))) EO EP fun _ _ Ef EQ ER => f_o <| m_z 27 (([.bool false] : List Value) ++ ((zg (zd 4 0)) ++ (zg (zd 4 0)))) EQ ER fun _ _ Eg ES Ed => f_e <| ze <| wp_seq <| wp_seq <| zj <| d_k [1,2,5] [] 1 ES fun _ Et => f_o <| m_a 0 8 4 (zg z) Et Ed rfl (by simp [za hx, za hy, za hz, zu, zv, zx]) (za hz) fun _ Eu => d_k [1,2,6,7] [] 3 Eu fun _ Ew => ?_
 refine f_o <| q_v (x := Jr .eql 24 (.tmp 6) (.tmp 7) (.agg (zc (zg z))) (.agg (zc (zg ([0, 0, 0, 0] : List UInt64))))) (v := .bool (z == ([0, 0, 0, 0] : List UInt64))) Ew (ZI (a := (.tmp 6)) (b := (.tmp 7)) (e := 22) (m := 4) (by kernel_rfl) (by kernel_rfl) (by kernel_rfl) (by kernel_rfl) (by kernel_rfl) hz (show zf ([0, 0, 0, 0] : List UInt64) = 4 from rfl) _) fun _ Ei => ?_
 refine f_e <| ze <| Ql Ei (t := z == ([0, 0, 0, 0] : List UInt64)) (by kernel_rfl) (fun Ea => ?_) (fun Ea => ?_)
 ·
  replace Ea : z = ([0, 0, 0, 0] : List UInt64) := eq_of_beq Ea
  refine wp_seq <| zj <| f_o <| q_v (x := Instr.build 27 #[(0, .bool true)]) (v := .agg (zc (([.bool true] : List Value) ++ ((zg (zd 4 0)) ++ (zg (zd 4 0)))))) Ei (Zw [(0, 1), (1, 4), (5, 4)] [⟨1, [.bool false], some (0, .bool true, [.bool true])⟩, ⟨4, zg (zd 4 0), none⟩, ⟨4, zg (zd 4 0), none⟩] (YS rfl rfl (Xl (za (zh)) (Xl (za (zh)) trivial))) _) fun _ Ex => f_o <| zW 1 9 (([.bool true] : List Value) ++ ((zg (zd 4 0)) ++ (zg (zd 4 0)))) _ Ex Ed rfl (zp rfl (zp (za (zh)) (za (zh)))) (zp rfl (zp (za (zh)) (za (zh)))) (Zd (QZ (by kernel_rfl)) (Zd (zq _) (zq _))) rfl fun _ _ Ey Ek => f_e <| ze <| wp_ret <| z9 <| zU (v := .agg (zc (([.bool true] : List Value) ++ ((zg (zd 4 0)) ++ (zg (zd 4 0)))))) (t := 2) (T := 27) (ad := ⟨Eg, 0, none⟩) Ey (by kernel_rfl) (by kernel_rfl) (zC (t := 27) (k := 1) (off := 0) (m := 9) (xs := ([.bool true] : List Value) ++ ((zg (zd 4 0)) ++ (zg (zd 4 0)))) Ek rfl (zn (zp rfl (zp (za (zh)) (za (zh))))) (zp rfl (zp (za (zh)) (za (zh)))) (by kernel_rfl) (by kernel_rfl)) ?_
  have gz : (z == z4) = true := Kf Ea
  exact ⟨ret_pz (a := (true, z4, z4)) (b := bkJ (x, y, z)) (by simp only [bkJ, gz, ZF]; rfl), Ek.pk []⟩
 replace Ea : ¬ (z = ([0, 0, 0, 0] : List UInt64)) := ne_of_beq_false Ea
 refine wp_skip <| ze <| wp_seq <| zj <| d_k [1,2,10] [] 1 Ei fun _ Ez => f_o <| m_a 0 8 4 (zg z) Ez Ed rfl (by simp [za hx, za hy, za hz, zu, zv, zx]) (za hz) fun _ EA => f_o <| c_p EA Ed (rinv_go _ 2 h2f hR2 z hz) fun _ _ EB EC => f_o <| m_z 24 (zg (zd 4 0)) EB EC fun _ _ Eb ED EE => f_o <| zW 2 4 (zg (nd (zK 2 (nv z) (mF 2 - 2)))) [.box Ef ((zg x) ++ ((zg y) ++ (zg z))) 51, .box Eg (([.bool false] : List Value) ++ ((zg (zd 4 0)) ++ (zg (zd 4 0)))) 27, .box Eb (zg (nd (zK 2 (nv z) (mF 2 - 2)))) 24] ED EE rfl (za (zl _ _)) (za (zh)) (zq _) rfl fun _ _ EF Ee => f_e ?_
 obtain ⟨ii, h_ii⟩ : ∃ q : List UInt64, q = nd (zK 2 (nv z) (mF 2 - 2)) := ⟨_, rfl⟩
 rw [← h_ii] at Ee
 have n_ii : zf ii = 4 := by rw [h_ii]; exact zl _ _
 refine ze <| wp_seq <| zj <| f_o <| Zn 2 4 (zg ii) EF Ee rfl (za n_ii) fun _ EG => f_o <| Zn 2 4 (zg ii) EG Ee rfl (za n_ii) fun _ EH => f_o <| c_p EH Ee (ZS _ ii ii n_ii n_ii) fun _ _ EI EJ => f_o <| m_z 24 (zg (zd 4 0)) EI EJ fun _ _ Ec EK EL => f_o <| zW 3 4 (zg (nd (zo 2 (nv ii) (nv ii)))) _ EK EL rfl (za (zl _ _)) (za (zh)) (zq _) rfl fun _ _ EM Ej => f_e ?_
 obtain ⟨jj, h_jj⟩ : ∃ q : List UInt64, q = nd (zo 2 (nv ii) (nv ii)) := ⟨_, rfl⟩
 rw [← h_jj] at Ej
 have n_jj : zf jj = 4 := by rw [h_jj]; exact zl _ _
 refine ze <| wp_seq <| r_c (fun ac wo => Env ac 27 [(1, pt Ef), (2, pt Eg), (3, pt Eb), (4, pt Ec)] ∧ Ev w [] wo [.box Ef ((zg x) ++ ((zg y) ++ (zg z))) 51, .box Eg (([.bool false] : List Value) ++ ((zg (nd (zo 2 (nv x) (nv jj)))) ++ (zg (nd (zo 2 (nv y) (nv (nd (zo 2 (nv jj) (nv ii))))))))) 27, .box Eb (zg ii) 24, .box Ec (zg jj) 24]) ?_ ?_
 ·
  refine s_g0 [(1, pt Ef), (2, pt Eg), (3, pt Eb), (4, pt Ec)] [0,1,2,3,4,5,6,7,8,9,10] [(16, pt Ef), (17, .agg (zc (zg x))), (18, .agg (zc (zg jj))), (19, .agg (zc (zg (nd (zo 2 (nv x) (nv jj)))))), (20, .pointer (some ⟨Ef, 4, none⟩)), (21, .agg (zc (zg y))), (22, .agg (zc (zg jj))), (23, .agg (zc (zg ii))), (24, .agg (zc (zg (nd (zo 2 (nv jj) (nv ii)))))), (25, .agg (zc (zg (nd (zo 2 (nv y) (nv (nd (zo 2 (nv jj) (nv ii))))))))), (26, .agg (zc (([.bool false] : List Value) ++ ((zg (nd (zo 2 (nv x) (nv jj)))) ++ (zg (nd (zo 2 (nv y) (nv (nd (zo 2 (nv jj) (nv ii)))))))))))] 1 [(1, pt Ef), (2, pt Eg), (3, pt Eb), (4, pt Ec), (26, .agg (zc (([.bool false] : List Value) ++ ((zg (nd (zo 2 (nv x) (nv jj)))) ++ (zg (nd (zo 2 (nv y) (nv (nd (zo 2 (nv jj) (nv ii)))))))))))] (EM.sb) (Ej.trans (zN Ej.heap)) ?_ fun _ _ El Em => ?_
  ·
   refine s_p [] <| s_a 0 0 4 (zg x) rfl (by simp [za hx, za hy, za hz, zu, zv]) (za hx) <| s_a 3 0 4 (zg jj) rfl (zn (za n_jj)) (za n_jj) <| s_f (fun _ => ZS _ x jj hx n_jj) ?_
   refine s_p [] <| s_a 0 4 4 (zg y) rfl (by simp [za hx, za hy, za hz, zu, zv]) (za hy) <| s_a 3 0 4 (zg jj) rfl (zn (za n_jj)) (za n_jj) <| s_a 2 0 4 (zg ii) rfl (zn (za n_ii)) (za n_ii) <| s_f (fun _ => ZS _ jj ii n_jj n_ii) ?_
   refine s_f (fun _ => ZS _ y (nd (zo 2 (nv jj) (nv ii))) hy (zl _ _)) ?_
   refine s_c (fun Mx118 _ _ En Eo => ?_) ?_
   ·
    refine q_v (x := Instr.build 27 #[(1, .agg (zc (zg (nd (zo 2 (nv x) (nv jj)))))), (2, .agg (zc (zg (nd (zo 2 (nv y) (nv (nd (zo 2 (nv jj) (nv ii)))))))))]) (v := .agg (zc (([.bool false] : List Value) ++ ((zg (nd (zo 2 (nv x) (nv jj)))) ++ (zg (nd (zo 2 (nv y) (nv (nd (zo 2 (nv jj) (nv ii))))))))))) En (Zw [(0, 1), (1, 4), (5, 4)] [⟨1, [.bool false], none⟩, ⟨4, zg (zd 4 0), some (1, .agg (zc (zg (nd (zo 2 (nv x) (nv jj))))), zg (nd (zo 2 (nv x) (nv jj))))⟩, ⟨4, zg (zd 4 0), some (2, .agg (zc (zg (nd (zo 2 (nv y) (nv (nd (zo 2 (nv jj) (nv ii)))))))), zg (nd (zo 2 (nv y) (nv (nd (zo 2 (nv jj) (nv ii)))))))⟩] (Xl rfl (YS (za (zh)) (za (zl _ _)) (YS (za (zh)) (za (zl _ _)) trivial))) _) fun _ Ep => ?_
    exact s_e Ep Eo
   exact s_n
  refine q_u 11 ?_
  refine zW 1 9 (([.bool false] : List Value) ++ ((zg (nd (zo 2 (nv x) (nv jj)))) ++ (zg (nd (zo 2 (nv y) (nv (nd (zo 2 (nv jj) (nv ii))))))))) [.box Ef ((zg x) ++ ((zg y) ++ (zg z))) 51, .box Eg (([.bool false] : List Value) ++ ((zg (nd (zo 2 (nv x) (nv jj)))) ++ (zg (nd (zo 2 (nv y) (nv (nd (zo 2 (nv jj) (nv ii))))))))) 27, .box Eb (zg ii) 24, .box Ec (zg jj) 24] El Em rfl (zp rfl (zp (za (zl _ _)) (za (zl _ _)))) (zp rfl (zp (za (zh)) (za (zh)))) (Zd (QZ (by kernel_rfl)) (Zd (zq _) (zq _))) rfl fun _ _ Eq Er => ?_
  exact a_e ⟨Eq.sb, Er.pk [0, 1, 2, 3]⟩
 rintro _ _ ⟨Es, Eh⟩
 refine ze <| wp_ret <| zU (v := .agg (zc (([.bool false] : List Value) ++ ((zg (nd (zo 2 (nv x) (nv jj)))) ++ (zg (nd (zo 2 (nv y) (nv (nd (zo 2 (nv jj) (nv ii))))))))))) (t := 2) (T := 27) (ad := ⟨Eg, 0, none⟩) Es (by kernel_rfl) (by kernel_rfl) (zC (t := 27) (k := 1) (off := 0) (m := 9) (xs := ([.bool false] : List Value) ++ ((zg (nd (zo 2 (nv x) (nv jj)))) ++ (zg (nd (zo 2 (nv y) (nv (nd (zo 2 (nv jj) (nv ii))))))))) Eh rfl (zn (zp rfl (zp (za (zl _ _)) (za (zl _ _))))) (zp rfl (zp (za (zl _ _)) (za (zl _ _)))) (by kernel_rfl) (by kernel_rfl)) ?_
 have gz : (z == z4) = false := J9 Ea
 subst h_jj h_ii
 exact ⟨ret_pz (a := (false, nd (zo 2 (nv x) (nv (nd (zo 2 (nv (nd (zK 2 (nv z) (mF 2 - 2)))) (nv (nd (zK 2 (nv z) (mF 2 - 2)))))))), nd (zo 2 (nv y) (nv (nd (zo 2 (nv (nd (zo 2 (nv (nd (zK 2 (nv z) (mF 2 - 2)))) (nv (nd (zK 2 (nv z) (mF 2 - 2))))))) (nv (nd (zK 2 (nv z) (mF 2 - 2)))))))))) (b := bkJ (x, y, z)) (by simp only [bkJ, gz, Zc, ivN, JA, nv_pow2]), Eh.pk []⟩
theorem dtwice_go (w : World) (x y z : List UInt64) (hx : zf x = 4) (hy : zf y = 4) (hz : zf z = 4) : Calls zB 61 #[.agg (zc ((zg x) ++ ((zg y) ++ (zg z))))] w fun e w' => e = .returned (.agg (zc ((zg ((jtL (x, y, z)).1)) ++ ((zg ((jtL (x, y, z)).2.1)) ++ (zg ((jtL (x, y, z)).2.2)))))) ∧ Ev w [] w' [] := by
 refine d_0 [(0, .agg (zc ((zg x) ++ ((zg y) ++ (zg z)))))] 77 Tryz.func61 Tryz.ntmps61 (Heap.nil _) fun HD HE HF => wp_seq <| zj <| f_o <| m_m 51 ((zg x) ++ ((zg y) ++ (zg z))) HE HF fun _ _ Eg HG HH => f_o <| m_z 51 ((zg (zd 4 0)) ++ ((zg (zd 4 0)) ++ (zg (zd 4 0)))) HG HH fun _ _ Eh HI Ei => f_e <| ze <| wp_seq <| wp_seq <| zj <| d_k [1,2,9] [] 1 HI fun _ He => f_o <| m_a 0 8 4 (zg z) He Ei rfl (by simp [za hx, za hy, za hz, zu, zv, zx]) (za hz) fun _ Hf => d_k [1,2,10,11] [] 3 Hf fun _ Hg => ?_
 refine f_o <| q_v (x := Jr .eql 24 (.tmp 10) (.tmp 11) (.agg (zc (zg z))) (.agg (zc (zg ([0, 0, 0, 0] : List UInt64))))) (v := .bool (z == ([0, 0, 0, 0] : List UInt64))) Hg (ZI (a := (.tmp 10)) (b := (.tmp 11)) (e := 22) (m := 4) (by kernel_rfl) (by kernel_rfl) (by kernel_rfl) (by kernel_rfl) (by kernel_rfl) hz (show zf ([0, 0, 0, 0] : List UInt64) = 4 from rfl) _) fun _ Hh => d_k [1,2,13] [] 5 Hh fun _ Et => ?_
 rcases Bool.eq_false_or_eq_true (z == ([0, 0, 0, 0] : List UInt64)) with Em | Em
 ·
  have Hi := Et.fx (t := 13) (congrArg Value.bool Em)
  have hp23 : z = ([0, 0, 0, 0] : List UInt64) := eq_of_beq Em
  refine d_e [1,2,18] [] Hi fun _ Eu => ze <| c_t Eu ?_
  refine wp_seq <| zj <| d_k [1,2,19,20] [] 2 Eu fun _ Hj => f_o <| q_v (x := Instr.build 51 #[(0, .agg (zc (zg ([1, 0, 0, 0] : List UInt64)))), (1, .agg (zc (zg ([1, 0, 0, 0] : List UInt64))))]) (v := .agg (zc ((zg ([1, 0, 0, 0] : List UInt64)) ++ ((zg ([1, 0, 0, 0] : List UInt64)) ++ (zg (zd 4 0)))))) Hj (Zw [(0, 4), (4, 4), (8, 4)] [⟨4, zg (zd 4 0), some (0, .agg (zc (zg ([1, 0, 0, 0] : List UInt64))), zg ([1, 0, 0, 0] : List UInt64))⟩, ⟨4, zg (zd 4 0), some (1, .agg (zc (zg ([1, 0, 0, 0] : List UInt64))), zg ([1, 0, 0, 0] : List UInt64))⟩, ⟨4, zg (zd 4 0), none⟩] (YS (za (zh)) (za (show zf ([1, 0, 0, 0] : List UInt64) = 4 from rfl)) (YS (za (zh)) (za (show zf ([1, 0, 0, 0] : List UInt64) = 4 from rfl)) (Xl (za (zh)) trivial))) _) fun _ Hk => f_o <| zW 1 12 ((zg ([1, 0, 0, 0] : List UInt64)) ++ ((zg ([1, 0, 0, 0] : List UInt64)) ++ (zg (zd 4 0)))) _ Hk Ei rfl (zp (za (show zf ([1, 0, 0, 0] : List UInt64) = 4 from rfl)) (zp (za (show zf ([1, 0, 0, 0] : List UInt64) = 4 from rfl)) (za (zh)))) (zp (za (zh)) (zp (za (zh)) (za (zh)))) (Zd (zq _) (Zd (zq _) (zq _))) rfl fun _ _ Hl Ew => f_e <| ze <| wp_ret <| z9 <| zU (v := .agg (zc ((zg ([1, 0, 0, 0] : List UInt64)) ++ ((zg ([1, 0, 0, 0] : List UInt64)) ++ (zg (zd 4 0)))))) (t := 2) (T := 51) (ad := ⟨Eh, 0, none⟩) Hl (by kernel_rfl) (by kernel_rfl) (zC (t := 51) (k := 1) (off := 0) (m := 12) (xs := (zg ([1, 0, 0, 0] : List UInt64)) ++ ((zg ([1, 0, 0, 0] : List UInt64)) ++ (zg (zd 4 0)))) Ew rfl (zn (zp (za (show zf ([1, 0, 0, 0] : List UInt64) = 4 from rfl)) (zp (za (show zf ([1, 0, 0, 0] : List UInt64) = 4 from rfl)) (za (zh))))) (zp (za (show zf ([1, 0, 0, 0] : List UInt64) = 4 from rfl)) (zp (za (show zf ([1, 0, 0, 0] : List UInt64) = 4 from rfl)) (za (zh)))) (by kernel_rfl) (by kernel_rfl)) ?_
  have gz : (z == z4) = true := Kf hp23
  exact ⟨ret_t3 (a := one3) (b := jtL (x, y, z)) (by simp only [jtL, gz, XA, Xz, ZF]), Ew.pk []⟩
 have Hm := Et.fx (t := 13) (congrArg Value.bool Em)
 have hp35 : ¬ (z = ([0, 0, 0, 0] : List UInt64)) := ne_of_beq_false Em
 refine d_k [1,2,13,14] [] 6 Hm fun _ Hn => f_o <| m_a 0 4 4 (zg y) Hn Ei rfl (by simp [za hx, za hy, za hz, zu, zv]) (za hy) fun _ Ho => d_k [1,2,13,15,16] [] 8 Ho fun _ Hp => f_o <| q_v (x := Jr .eql 24 (.tmp 15) (.tmp 16) (.agg (zc (zg y))) (.agg (zc (zg ([0, 0, 0, 0] : List UInt64))))) (v := .bool (y == ([0, 0, 0, 0] : List UInt64))) Hp (ZI (a := (.tmp 15)) (b := (.tmp 16)) (e := 22) (m := 4) (by kernel_rfl) (by kernel_rfl) (by kernel_rfl) (by kernel_rfl) (by kernel_rfl) hy (show zf ([0, 0, 0, 0] : List UInt64) = 4 from rfl) _) fun _ Hq => d_e [1,2,18] [] Hq fun _ Er => ?_
 refine ze <| Ql Er (t := y == ([0, 0, 0, 0] : List UInt64)) (by kernel_rfl) (fun Ej => ?_) (fun Ej => ?_)
 ·
  replace Ej : y = ([0, 0, 0, 0] : List UInt64) := eq_of_beq Ej
  refine wp_seq <| zj <| d_k [1,2,19,20] [] 2 Er fun _ Hr => f_o <| q_v (x := Instr.build 51 #[(0, .agg (zc (zg ([1, 0, 0, 0] : List UInt64)))), (1, .agg (zc (zg ([1, 0, 0, 0] : List UInt64))))]) (v := .agg (zc ((zg ([1, 0, 0, 0] : List UInt64)) ++ ((zg ([1, 0, 0, 0] : List UInt64)) ++ (zg (zd 4 0)))))) Hr (Zw [(0, 4), (4, 4), (8, 4)] [⟨4, zg (zd 4 0), some (0, .agg (zc (zg ([1, 0, 0, 0] : List UInt64))), zg ([1, 0, 0, 0] : List UInt64))⟩, ⟨4, zg (zd 4 0), some (1, .agg (zc (zg ([1, 0, 0, 0] : List UInt64))), zg ([1, 0, 0, 0] : List UInt64))⟩, ⟨4, zg (zd 4 0), none⟩] (YS (za (zh)) (za (show zf ([1, 0, 0, 0] : List UInt64) = 4 from rfl)) (YS (za (zh)) (za (show zf ([1, 0, 0, 0] : List UInt64) = 4 from rfl)) (Xl (za (zh)) trivial))) _) fun _ Hs => f_o <| zW 1 12 ((zg ([1, 0, 0, 0] : List UInt64)) ++ ((zg ([1, 0, 0, 0] : List UInt64)) ++ (zg (zd 4 0)))) [.box Eg ((zg x) ++ ((zg y) ++ (zg z))) 51, .box Eh ((zg ([1, 0, 0, 0] : List UInt64)) ++ ((zg ([1, 0, 0, 0] : List UInt64)) ++ (zg (zd 4 0)))) 51] Hs Ei rfl (zp (za (show zf ([1, 0, 0, 0] : List UInt64) = 4 from rfl)) (zp (za (show zf ([1, 0, 0, 0] : List UInt64) = 4 from rfl)) (za (zh)))) (zp (za (zh)) (zp (za (zh)) (za (zh)))) (Zd (zq _) (Zd (zq _) (zq _))) rfl fun _ _ Ht Ex => f_e <| ze <| wp_ret <| z9 <| zU (v := .agg (zc ((zg ([1, 0, 0, 0] : List UInt64)) ++ ((zg ([1, 0, 0, 0] : List UInt64)) ++ (zg (zd 4 0)))))) (t := 2) (T := 51) (ad := ⟨Eh, 0, none⟩) Ht (by kernel_rfl) (by kernel_rfl) (zC (t := 51) (k := 1) (off := 0) (m := 12) (xs := (zg ([1, 0, 0, 0] : List UInt64)) ++ ((zg ([1, 0, 0, 0] : List UInt64)) ++ (zg (zd 4 0)))) Ex rfl (zn (zp (za (show zf ([1, 0, 0, 0] : List UInt64) = 4 from rfl)) (zp (za (show zf ([1, 0, 0, 0] : List UInt64) = 4 from rfl)) (za (zh))))) (zp (za (show zf ([1, 0, 0, 0] : List UInt64) = 4 from rfl)) (zp (za (show zf ([1, 0, 0, 0] : List UInt64) = 4 from rfl)) (za (zh)))) (by kernel_rfl) (by kernel_rfl)) ?_
  have gz : (z == z4) = false := J9 hp35
  have gy : (y == z4) = true := Kf Ej
  exact ⟨ret_t3 (a := one3) (b := jtL (x, y, z)) (by simp only [jtL, gz, gy, XA, Xz, ZF]), Ex.pk []⟩
 replace Ej : ¬ (y = ([0, 0, 0, 0] : List UInt64)) := ne_of_beq_false Ej
 refine wp_skip <| ze <| wp_seq <| zj <| d_k [1,2,22] [] 1 Er fun _ Hu => f_o <| m_a 0 8 4 (zg z) Hu Ei rfl (by simp [za hx, za hy, za hz, zu, zv, zx]) (za hz) fun _ Hv => d_k [1,2,23,24] [] 3 Hv fun _ Hw => f_o <| m_a 0 8 4 (zg z) Hw Ei rfl (by simp [za hx, za hy, za hz, zu, zv, zx]) (za hz) fun _ Hx => f_o <| c_p Hx Ei (ZS _ z z hz hz) fun _ _ Hy Hz => f_o <| m_z 24 (zg (zd 4 0)) Hy Hz fun _ _ Ee HA HB => ?_
 refine f_o <| zW 2 4 (zg (nd (zo 2 (nv z) (nv z)))) _ HA HB rfl (za (zl _ _)) (za (zh)) (zq _) rfl fun _ _ HC Es => f_e ?_
 obtain ⟨zz, h_zz⟩ : ∃ q : List UInt64, q = nd (zo 2 (nv z) (nv z)) := ⟨_, rfl⟩
 rw [← h_zz] at Es
 have n_zz : zf zz = 4 := by rw [h_zz]; exact zl _ _
 refine ze <| wp_seq <| r_c (fun ac wo => ∃ (Ea : Nat), Env ac 77 [(1, pt Eg), (2, pt Eh), (3, pt Ee), (4, pt Ea)] ∧ Ev w [] wo [.box Eg ((zg x) ++ ((zg y) ++ (zg z))) 51, .box Eh ((zg (zd 4 0)) ++ ((zg (zd 4 0)) ++ (zg (zd 4 0)))) 51, .box Ee (zg zz) 24, .box Ea (zg (nd (zo 2 (nv ([3, 0, 0, 0] : List UInt64)) (nv (nd (zo 2 (nv (nd (zZ 2 (nv x) (nv zz)))) (nv (nd (z5 2 (nv x) (nv zz)))))))))) 24]) ?_ ?_
 ·
  refine Xk [(1, pt Eg), (2, pt Eh), (3, pt Ee)] [0,1,2,3,4,5,6,7,8,9,10] [(27, .agg (zc (zg ([3, 0, 0, 0] : List UInt64)))), (28, pt Eg), (29, .agg (zc (zg x))), (30, .agg (zc (zg zz))), (31, .agg (zc (zg (nd (zZ 2 (nv x) (nv zz)))))), (32, pt Eg), (33, .agg (zc (zg x))), (34, .agg (zc (zg zz))), (35, .agg (zc (zg (nd (z5 2 (nv x) (nv zz)))))), (36, .agg (zc (zg (nd (zo 2 (nv (nd (zZ 2 (nv x) (nv zz)))) (nv (nd (z5 2 (nv x) (nv zz))))))))), (37, .agg (zc (zg (nd (zo 2 (nv ([3, 0, 0, 0] : List UInt64)) (nv (nd (zo 2 (nv (nd (zZ 2 (nv x) (nv zz)))) (nv (nd (z5 2 (nv x) (nv zz))))))))))))] 1 [(1, pt Eg), (2, pt Eh), (3, pt Ee), (37, .agg (zc (zg (nd (zo 2 (nv ([3, 0, 0, 0] : List UInt64)) (nv (nd (zo 2 (nv (nd (zZ 2 (nv x) (nv zz)))) (nv (nd (z5 2 (nv x) (nv zz))))))))))))] 11 (zg (zd 4 0)) (HC.sb) (Es.trans (zN Es.heap)) ?_ fun _ _ Ea Ey Ez => ?_
  ·
   refine s_p [] <| s_p [] <| s_a 0 0 4 (zg x) rfl (by simp [za hx, za hy, za hz, zu, zv]) (za hx) <| s_a 2 0 4 (zg zz) rfl (zn (za n_zz)) (za n_zz) <| s_f (fun _ => Ju _ x zz hx n_zz) ?_
   refine s_p [] <| s_a 0 0 4 (zg x) rfl (by simp [za hx, za hy, za hz, zu, zv]) (za hx) <| s_a 2 0 4 (zg zz) rfl (zn (za n_zz)) (za n_zz) <| s_f (fun _ => dadd_go _ x zz hx n_zz) ?_
   refine s_f (fun _ => ZS _ (nd (zZ 2 (nv x) (nv zz))) (nd (z5 2 (nv x) (nv zz))) (zl _ _) (zl _ _)) ?_
   refine s_f (fun _ => ZS _ ([3, 0, 0, 0] : List UInt64) (nd (zo 2 (nv (nd (zZ 2 (nv x) (nv zz)))) (nv (nd (z5 2 (nv x) (nv zz)))))) (show zf ([3, 0, 0, 0] : List UInt64) = 4 from rfl) (zl _ _)) ?_
   exact s_n
  refine q_u 12 ?_
  refine zW 3 4 (zg (nd (zo 2 (nv ([3, 0, 0, 0] : List UInt64)) (nv (nd (zo 2 (nv (nd (zZ 2 (nv x) (nv zz)))) (nv (nd (z5 2 (nv x) (nv zz)))))))))) [.box Eg ((zg x) ++ ((zg y) ++ (zg z))) 51, .box Eh ((zg (zd 4 0)) ++ ((zg (zd 4 0)) ++ (zg (zd 4 0)))) 51, .box Ee (zg zz) 24, .box Ea (zg (nd (zo 2 (nv ([3, 0, 0, 0] : List UInt64)) (nv (nd (zo 2 (nv (nd (zZ 2 (nv x) (nv zz)))) (nv (nd (z5 2 (nv x) (nv zz)))))))))) 24] Ey Ez rfl (za (zl _ _)) (za (zh)) (zq _) rfl fun _ _ EA EB => ?_
  exact a_e ⟨Ea, EA.sb, EB.pk [0, 1, 2, 3]⟩
 rintro _ _ ⟨Ea, EC, Ek⟩
 obtain ⟨mm, h_mm⟩ : ∃ q : List UInt64, q = nd (zo 2 (nv ([3, 0, 0, 0] : List UInt64)) (nv (nd (zo 2 (nv (nd (zZ 2 (nv x) (nv zz)))) (nv (nd (z5 2 (nv x) (nv zz)))))))) := ⟨_, rfl⟩
 rw [← h_mm] at Ek
 have n_mm : zf mm = 4 := by rw [h_mm]; exact zl _ _
 refine ze <| wp_seq <| zj <| d_k [1,2,3,4,38] [] 1 EC fun _ ED => f_o <| m_a 0 4 4 (zg y) ED Ek rfl (by simp [za hx, za hy, za hz, zu, zv]) (za hy) fun _ EE => d_k [1,2,3,4,39,40] [] 3 EE fun _ EF => f_o <| m_a 0 4 4 (zg y) EF Ek rfl (by simp [za hx, za hy, za hz, zu, zv]) (za hy) fun _ EG => f_o <| c_p EG Ek (ZS _ y y hy hy) fun _ _ EH EI => f_o <| m_z 24 (zg (zd 4 0)) EH EI fun _ _ Eb EJ EK => ?_
 refine f_o <| zW 4 4 (zg (nd (zo 2 (nv y) (nv y)))) _ EJ EK rfl (za (zl _ _)) (za (zh)) (zq _) rfl fun _ _ EL El => f_e ?_
 obtain ⟨yy, h_yy⟩ : ∃ q : List UInt64, q = nd (zo 2 (nv y) (nv y)) := ⟨_, rfl⟩
 rw [← h_yy] at El
 have n_yy : zf yy = 4 := by rw [h_yy]; exact zl _ _
 refine ze <| wp_seq <| zj <| d_k [1,2,3,4,5,43,44] [] 2 EL fun _ EM => f_o <| m_a 0 0 4 (zg x) EM El rfl (by simp [za hx, za hy, za hz, zu, zv]) (za hx) fun _ EN => f_o <| Zn 4 4 (zg yy) EN El rfl (za n_yy) fun _ EO => f_o <| c_p EO El (ZS _ x yy hx n_yy) fun _ _ EP EQ => f_o <| c_p EP EQ (ZS _ ([4, 0, 0, 0] : List UInt64) (nd (zo 2 (nv x) (nv yy))) (show zf ([4, 0, 0, 0] : List UInt64) = 4 from rfl) (zl _ _)) fun _ _ ER ES => f_o <| m_z 24 (zg (zd 4 0)) ER ES fun _ _ Ec ET EU => ?_
 refine f_o <| zW 5 4 (zg (nd (zo 2 (nv ([4, 0, 0, 0] : List UInt64)) (nv (nd (zo 2 (nv x) (nv yy))))))) [.box Eg ((zg x) ++ ((zg y) ++ (zg z))) 51, .box Eh ((zg (zd 4 0)) ++ ((zg (zd 4 0)) ++ (zg (zd 4 0)))) 51, .box Ee (zg zz) 24, .box Ea (zg mm) 24, .box Eb (zg yy) 24, .box Ec (zg (nd (zo 2 (nv ([4, 0, 0, 0] : List UInt64)) (nv (nd (zo 2 (nv x) (nv yy))))))) 24] ET EU rfl (za (zl _ _)) (za (zh)) (zq _) rfl fun _ _ EV En => f_e ?_
 obtain ⟨ss, h_ss⟩ : ∃ q : List UInt64, q = nd (zo 2 (nv ([4, 0, 0, 0] : List UInt64)) (nv (nd (zo 2 (nv x) (nv yy))))) := ⟨_, rfl⟩
 rw [← h_ss] at En
 have n_ss : zf ss = 4 := by rw [h_ss]; exact zl _ _
 refine ze <| wp_seq <| r_c (fun ac wo => ∃ (Ed : Nat), Env ac 77 [(1, pt Eg), (2, pt Eh), (3, pt Ee), (4, pt Ea), (5, pt Eb), (6, pt Ec), (7, pt Ed)] ∧ Ev w [] wo [.box Eg ((zg x) ++ ((zg y) ++ (zg z))) 51, .box Eh ((zg (zd 4 0)) ++ ((zg (zd 4 0)) ++ (zg (zd 4 0)))) 51, .box Ee (zg zz) 24, .box Ea (zg mm) 24, .box Eb (zg yy) 24, .box Ec (zg ss) 24, .box Ed (zg (nd (zZ 2 (nv (nd (zo 2 (nv mm) (nv mm)))) (nv (nd (z5 2 (nv ss) (nv ss))))))) 24]) ?_ ?_
 ·
  refine Xk [(1, pt Eg), (2, pt Eh), (3, pt Ee), (4, pt Ea), (5, pt Eb), (6, pt Ec)] [0,1,2,3,4,5,6] [(49, .agg (zc (zg mm))), (50, .agg (zc (zg mm))), (51, .agg (zc (zg (nd (zo 2 (nv mm) (nv mm)))))), (52, .agg (zc (zg ss))), (53, .agg (zc (zg ss))), (54, .agg (zc (zg (nd (z5 2 (nv ss) (nv ss)))))), (55, .agg (zc (zg (nd (zZ 2 (nv (nd (zo 2 (nv mm) (nv mm)))) (nv (nd (z5 2 (nv ss) (nv ss)))))))))] 1 [(1, pt Eg), (2, pt Eh), (3, pt Ee), (4, pt Ea), (5, pt Eb), (6, pt Ec), (55, .agg (zc (zg (nd (zZ 2 (nv (nd (zo 2 (nv mm) (nv mm)))) (nv (nd (z5 2 (nv ss) (nv ss)))))))))] 7 (zg (zd 4 0)) (EV.sb) (En.trans (zN En.heap)) ?_ fun _ _ Ed EW EX => ?_
  ·
   refine s_a 3 0 4 (zg mm) rfl (zn (za n_mm)) (za n_mm) <| s_a 3 0 4 (zg mm) rfl (zn (za n_mm)) (za n_mm) <| s_f (fun _ => ZS _ mm mm n_mm n_mm) ?_
   refine s_a 5 0 4 (zg ss) rfl (zn (za n_ss)) (za n_ss) <| s_a 5 0 4 (zg ss) rfl (zn (za n_ss)) (za n_ss) <| s_f (fun _ => dadd_go _ ss ss n_ss n_ss) ?_
   refine s_f (fun _ => Ju _ (nd (zo 2 (nv mm) (nv mm))) (nd (z5 2 (nv ss) (nv ss))) (zl _ _) (zl _ _)) ?_
   exact s_n
  refine q_u 8 ?_
  refine zW 6 4 (zg (nd (zZ 2 (nv (nd (zo 2 (nv mm) (nv mm)))) (nv (nd (z5 2 (nv ss) (nv ss))))))) _ EW EX rfl (za (zl _ _)) (za (zh)) (zq _) rfl fun _ _ EY EZ => ?_
  exact a_e ⟨Ed, EY.sb, EZ.pk [0, 1, 2, 3, 4, 5, 6]⟩
 rintro _ _ ⟨Ed, E0, Eo⟩
 obtain ⟨x3, h_x3⟩ : ∃ q : List UInt64, q = nd (zZ 2 (nv (nd (zo 2 (nv mm) (nv mm)))) (nv (nd (z5 2 (nv ss) (nv ss))))) := ⟨_, rfl⟩
 rw [← h_x3] at Eo
 have n_x3 : zf x3 = 4 := by rw [h_x3]; exact zl _ _
 refine ze <| wp_seq <| r_c (fun ac wo => ∃ (Ef : Nat), Env ac 77 [(1, pt Eg), (2, pt Eh), (3, pt Ee), (4, pt Ea), (5, pt Eb), (6, pt Ec), (7, pt Ed), (8, pt Ef)] ∧ Ev w [] wo [.box Eg ((zg x) ++ ((zg y) ++ (zg z))) 51, .box Eh ((zg (zd 4 0)) ++ ((zg (zd 4 0)) ++ (zg (zd 4 0)))) 51, .box Ee (zg zz) 24, .box Ea (zg mm) 24, .box Eb (zg yy) 24, .box Ec (zg ss) 24, .box Ed (zg x3) 24, .box Ef (zg (nd (zZ 2 (nv (nd (zo 2 (nv mm) (nv (nd (zZ 2 (nv ss) (nv x3))))))) (nv (nd (zo 2 (nv ([8, 0, 0, 0] : List UInt64)) (nv (nd (zo 2 (nv yy) (nv yy)))))))))) 24]) ?_ ?_
 ·
  refine Xk [(1, pt Eg), (2, pt Eh), (3, pt Ee), (4, pt Ea), (5, pt Eb), (6, pt Ec), (7, pt Ed)] [0,1,2,3,4,5,6,7,8,9,10] [(56, .agg (zc (zg mm))), (57, .agg (zc (zg ss))), (58, .agg (zc (zg x3))), (59, .agg (zc (zg (nd (zZ 2 (nv ss) (nv x3)))))), (60, .agg (zc (zg (nd (zo 2 (nv mm) (nv (nd (zZ 2 (nv ss) (nv x3))))))))), (61, .agg (zc (zg ([8, 0, 0, 0] : List UInt64)))), (62, .agg (zc (zg yy))), (63, .agg (zc (zg yy))), (64, .agg (zc (zg (nd (zo 2 (nv yy) (nv yy)))))), (65, .agg (zc (zg (nd (zo 2 (nv ([8, 0, 0, 0] : List UInt64)) (nv (nd (zo 2 (nv yy) (nv yy))))))))), (66, .agg (zc (zg (nd (zZ 2 (nv (nd (zo 2 (nv mm) (nv (nd (zZ 2 (nv ss) (nv x3))))))) (nv (nd (zo 2 (nv ([8, 0, 0, 0] : List UInt64)) (nv (nd (zo 2 (nv yy) (nv yy))))))))))))] 1 [(1, pt Eg), (2, pt Eh), (3, pt Ee), (4, pt Ea), (5, pt Eb), (6, pt Ec), (7, pt Ed), (66, .agg (zc (zg (nd (zZ 2 (nv (nd (zo 2 (nv mm) (nv (nd (zZ 2 (nv ss) (nv x3))))))) (nv (nd (zo 2 (nv ([8, 0, 0, 0] : List UInt64)) (nv (nd (zo 2 (nv yy) (nv yy))))))))))))] 11 (zg (zd 4 0)) (E0.sb) (Eo.trans (zN Eo.heap)) ?_ fun _ _ Ef E1 E2 => ?_
  ·
   refine s_a 3 0 4 (zg mm) rfl (zn (za n_mm)) (za n_mm) <| s_a 5 0 4 (zg ss) rfl (zn (za n_ss)) (za n_ss) <| s_a 6 0 4 (zg x3) rfl (zn (za n_x3)) (za n_x3) <| s_f (fun _ => Ju _ ss x3 n_ss n_x3) ?_
   refine s_f (fun _ => ZS _ mm (nd (zZ 2 (nv ss) (nv x3))) n_mm (zl _ _)) ?_
   refine s_p [] <| s_a 4 0 4 (zg yy) rfl (zn (za n_yy)) (za n_yy) <| s_a 4 0 4 (zg yy) rfl (zn (za n_yy)) (za n_yy) <| s_f (fun _ => ZS _ yy yy n_yy n_yy) ?_
   refine s_f (fun _ => ZS _ ([8, 0, 0, 0] : List UInt64) (nd (zo 2 (nv yy) (nv yy))) (show zf ([8, 0, 0, 0] : List UInt64) = 4 from rfl) (zl _ _)) ?_
   refine s_f (fun _ => Ju _ (nd (zo 2 (nv mm) (nv (nd (zZ 2 (nv ss) (nv x3)))))) (nd (zo 2 (nv ([8, 0, 0, 0] : List UInt64)) (nv (nd (zo 2 (nv yy) (nv yy)))))) (zl _ _) (zl _ _)) ?_
   exact s_n
  refine q_u 12 ?_
  refine zW 7 4 (zg (nd (zZ 2 (nv (nd (zo 2 (nv mm) (nv (nd (zZ 2 (nv ss) (nv x3))))))) (nv (nd (zo 2 (nv ([8, 0, 0, 0] : List UInt64)) (nv (nd (zo 2 (nv yy) (nv yy)))))))))) [.box Eg ((zg x) ++ ((zg y) ++ (zg z))) 51, .box Eh ((zg (zd 4 0)) ++ ((zg (zd 4 0)) ++ (zg (zd 4 0)))) 51, .box Ee (zg zz) 24, .box Ea (zg mm) 24, .box Eb (zg yy) 24, .box Ec (zg ss) 24, .box Ed (zg x3) 24, .box Ef (zg (nd (zZ 2 (nv (nd (zo 2 (nv mm) (nv (nd (zZ 2 (nv ss) (nv x3))))))) (nv (nd (zo 2 (nv ([8, 0, 0, 0] : List UInt64)) (nv (nd (zo 2 (nv yy) (nv yy)))))))))) 24] E1 E2 rfl (za (zl _ _)) (za (zh)) (zq _) rfl fun _ _ E3 E4 => ?_
  exact a_e ⟨Ef, E3.sb, E4.pk [0, 1, 2, 3, 4, 5, 6, 7]⟩
 rintro _ _ ⟨Ef, E5, Ep⟩
 obtain ⟨y3, h_y3⟩ : ∃ q : List UInt64, q = nd (zZ 2 (nv (nd (zo 2 (nv mm) (nv (nd (zZ 2 (nv ss) (nv x3))))))) (nv (nd (zo 2 (nv ([8, 0, 0, 0] : List UInt64)) (nv (nd (zo 2 (nv yy) (nv yy)))))))) := ⟨_, rfl⟩
 rw [← h_y3] at Ep
 have n_y3 : zf y3 = 4 := by rw [h_y3]; exact zl _ _
 refine ze <| wp_seq <| r_c (fun ac wo => Env ac 77 [(1, pt Eg), (2, pt Eh), (3, pt Ee), (4, pt Ea), (5, pt Eb), (6, pt Ec), (7, pt Ed), (8, pt Ef)] ∧ Ev w [] wo [.box Eg ((zg x) ++ ((zg y) ++ (zg z))) 51, .box Eh ((zg x3) ++ ((zg y3) ++ (zg (nd (zo 2 (nv ([2, 0, 0, 0] : List UInt64)) (nv (nd (zo 2 (nv y) (nv z))))))))) 51, .box Ee (zg zz) 24, .box Ea (zg mm) 24, .box Eb (zg yy) 24, .box Ec (zg ss) 24, .box Ed (zg x3) 24, .box Ef (zg y3) 24]) ?_ ?_
 ·
  refine s_g0 [(1, pt Eg), (2, pt Eh), (3, pt Ee), (4, pt Ea), (5, pt Eb), (6, pt Ec), (7, pt Ed), (8, pt Ef)] [0,1,2,3,4,5,6,7,8,9] [(67, .agg (zc (zg x3))), (68, .agg (zc (zg y3))), (69, .agg (zc (zg ([2, 0, 0, 0] : List UInt64)))), (70, .pointer (some ⟨Eg, 4, none⟩)), (71, .agg (zc (zg y))), (72, .pointer (some ⟨Eg, 8, none⟩)), (73, .agg (zc (zg z))), (74, .agg (zc (zg (nd (zo 2 (nv y) (nv z)))))), (75, .agg (zc (zg (nd (zo 2 (nv ([2, 0, 0, 0] : List UInt64)) (nv (nd (zo 2 (nv y) (nv z))))))))), (76, .agg (zc ((zg x3) ++ ((zg y3) ++ (zg (nd (zo 2 (nv ([2, 0, 0, 0] : List UInt64)) (nv (nd (zo 2 (nv y) (nv z)))))))))))] 1 [(1, pt Eg), (2, pt Eh), (3, pt Ee), (4, pt Ea), (5, pt Eb), (6, pt Ec), (7, pt Ed), (8, pt Ef), (76, .agg (zc ((zg x3) ++ ((zg y3) ++ (zg (nd (zo 2 (nv ([2, 0, 0, 0] : List UInt64)) (nv (nd (zo 2 (nv y) (nv z)))))))))))] (E5.sb) (Ep.trans (zN Ep.heap)) ?_ fun _ _ E6 E7 => ?_
  ·
   refine s_a 6 0 4 (zg x3) rfl (zn (za n_x3)) (za n_x3) <| s_a 7 0 4 (zg y3) rfl (zn (za n_y3)) (za n_y3) <| s_p [] <| s_p [] <| s_a 0 4 4 (zg y) rfl (by simp [za hx, za hy, za hz, zu, zv]) (za hy) <| s_p [] ?_
   refine s_a 0 8 4 (zg z) rfl (by simp [za hx, za hy, za hz, zu, zv, zx]) (za hz) <| s_f (fun _ => ZS _ y z hy hz) ?_
   refine s_f (fun _ => ZS _ ([2, 0, 0, 0] : List UInt64) (nd (zo 2 (nv y) (nv z))) (show zf ([2, 0, 0, 0] : List UInt64) = 4 from rfl) (zl _ _)) ?_
   refine s_c (fun Mx394 _ _ E8 E9 => ?_) ?_
   ·
    refine q_v (x := Instr.build 51 #[(0, .agg (zc (zg x3))), (1, .agg (zc (zg y3))), (2, .agg (zc (zg (nd (zo 2 (nv ([2, 0, 0, 0] : List UInt64)) (nv (nd (zo 2 (nv y) (nv z)))))))))]) (v := .agg (zc ((zg x3) ++ ((zg y3) ++ (zg (nd (zo 2 (nv ([2, 0, 0, 0] : List UInt64)) (nv (nd (zo 2 (nv y) (nv z))))))))))) E8 (Zw [(0, 4), (4, 4), (8, 4)] [⟨4, zg (zd 4 0), some (0, .agg (zc (zg x3)), zg x3)⟩, ⟨4, zg (zd 4 0), some (1, .agg (zc (zg y3)), zg y3)⟩, ⟨4, zg (zd 4 0), some (2, .agg (zc (zg (nd (zo 2 (nv ([2, 0, 0, 0] : List UInt64)) (nv (nd (zo 2 (nv y) (nv z)))))))), zg (nd (zo 2 (nv ([2, 0, 0, 0] : List UInt64)) (nv (nd (zo 2 (nv y) (nv z)))))))⟩] (YS (za (zh)) (za n_x3) (YS (za (zh)) (za n_y3) (YS (za (zh)) (za (zl _ _)) trivial))) _) fun _ Ha => ?_
    exact s_e Ha E9
   exact s_n
  refine q_u 10 ?_
  refine zW 1 12 ((zg x3) ++ ((zg y3) ++ (zg (nd (zo 2 (nv ([2, 0, 0, 0] : List UInt64)) (nv (nd (zo 2 (nv y) (nv z))))))))) _ E6 E7 rfl (zp (za n_x3) (zp (za n_y3) (za (zl _ _)))) (zp (za (zh)) (zp (za (zh)) (za (zh)))) (Zd (zq _) (Zd (zq _) (zq _))) rfl fun _ _ Hb Hc => ?_
  exact a_e ⟨Hb.sb, Hc.pk [0, 1, 2, 3, 4, 5, 6, 7]⟩
 rintro _ _ ⟨Hd, Eq⟩
 refine ze <| wp_ret <| zU (v := .agg (zc ((zg x3) ++ ((zg y3) ++ (zg (nd (zo 2 (nv ([2, 0, 0, 0] : List UInt64)) (nv (nd (zo 2 (nv y) (nv z))))))))))) (t := 2) (T := 51) (ad := ⟨Eh, 0, none⟩) Hd (by kernel_rfl) (by kernel_rfl) (zC (t := 51) (k := 1) (off := 0) (m := 12) (xs := (zg x3) ++ ((zg y3) ++ (zg (nd (zo 2 (nv ([2, 0, 0, 0] : List UInt64)) (nv (nd (zo 2 (nv y) (nv z))))))))) Eq rfl (zn (zp (za n_x3) (zp (za n_y3) (za (zl _ _))))) (zp (za n_x3) (zp (za n_y3) (za (zl _ _)))) (by kernel_rfl) (by kernel_rfl)) ?_
 have gz : (z == z4) = false := J9 hp35
 have gy : (y == z4) = false := J9 Ej
 have e0 : (x3, y3, nd (zo 2 (nv ([2, 0, 0, 0] : List UInt64)) (nv (nd (zo 2 (nv y) (nv z)))))) = jtL (x, y, z) := by
  subst h_y3 h_x3 h_ss h_yy h_mm h_zz
  simp only [jtL, gz, gy, Bool.or_false, Zc, jxN, jyN, jzN, jmN, jsN, JA, nv_a2, nv_s2, show nv [3, 0, 0, 0] = 3 from rfl, show nv [4, 0, 0, 0] = 4 from rfl, show nv [8, 0, 0, 0] = 8 from rfl, show nv [2, 0, 0, 0] = 2 from rfl]
 exact ⟨ret_t3 e0, Eq.pk []⟩
theorem dplus_go (w : World) (x1 y1 z1 x2 y2 z2 : List UInt64) (hx1 : zf x1 = 4) (hy1 : zf y1 = 4) (Es : zf z1 = 4) (hx2 : zf x2 = 4) (hy2 : zf y2 = 4) (Eu : zf z2 = 4) : Calls zB 30 #[.agg (zc ((zg x1) ++ ((zg y1) ++ (zg z1)))), .agg (zc ((zg x2) ++ ((zg y2) ++ (zg z2))))] w fun e w' => e = .returned (.agg (zc ((zg ((jpL (x1, y1, z1) (x2, y2, z2)).1)) ++ ((zg ((jpL (x1, y1, z1) (x2, y2, z2)).2.1)) ++ (zg ((jpL (x1, y1, z1) (x2, y2, z2)).2.2)))))) ∧ Ev w [] w' [] := by
 refine d_0 [(0, .agg (zc ((zg x1) ++ ((zg y1) ++ (zg z1))))), (1, .agg (zc ((zg x2) ++ ((zg y2) ++ (zg z2)))))] 114 Tryz.func30 Tryz.ntmps30 (Heap.nil _) fun aU aV aW => wp_seq <| zj <| f_o <| m_m 51 ((zg x1) ++ ((zg y1) ++ (zg z1))) aV aW fun _ _ Eo aX aY => f_o <| m_m 51 ((zg x2) ++ ((zg y2) ++ (zg z2))) aX aY fun _ _ Ep aZ al => f_o <| m_z 51 ((zg (zd 4 0)) ++ ((zg (zd 4 0)) ++ (zg (zd 4 0)))) aZ al fun _ _ Ee am Ex => f_e <| ze <| wp_seq <| wp_seq <| zj <| d_k [2,3,4,18] [] 1 am fun _ an => f_o <| m_a 0 8 4 (zg z1) an Ex rfl (by simp [za hx1, za hy1, za Es, zu, zv, zx]) (za Es) fun _ ao => ?_
 refine d_k [2,3,4,19,20] [] 3 ao fun _ ap => f_o <| q_v (x := Jr .eql 24 (.tmp 19) (.tmp 20) (.agg (zc (zg z1))) (.agg (zc (zg ([0, 0, 0, 0] : List UInt64))))) (v := .bool (z1 == ([0, 0, 0, 0] : List UInt64))) ap (ZI (a := (.tmp 19)) (b := (.tmp 20)) (e := 22) (m := 4) (by kernel_rfl) (by kernel_rfl) (by kernel_rfl) (by kernel_rfl) (by kernel_rfl) Es (show zf ([0, 0, 0, 0] : List UInt64) = 4 from rfl) _) fun _ EQ => ?_
 refine f_e <| ze <| Ql EQ (t := z1 == ([0, 0, 0, 0] : List UInt64)) (by kernel_rfl) (fun Ew => ?_) (fun Ew => ?_)
 ·
  replace Ew : z1 = ([0, 0, 0, 0] : List UInt64) := eq_of_beq Ew
  refine wp_seq <| zj <| f_o <| Zn 1 12 ((zg x2) ++ ((zg y2) ++ (zg z2))) EQ Ex rfl (zp (za hx2) (zp (za hy2) (za Eu))) fun _ aq => f_o <| zW 2 12 ((zg x2) ++ ((zg y2) ++ (zg z2))) _ aq Ex rfl (zp (za hx2) (zp (za hy2) (za Eu))) (zp (za (zh)) (zp (za (zh)) (za (zh)))) (Zd (zq _) (Zd (zq _) (zq _))) rfl fun _ _ ar ES => f_e <| ze <| wp_ret <| z9 <| zU (v := .agg (zc ((zg x2) ++ ((zg y2) ++ (zg z2))))) (t := 4) (T := 51) (ad := ⟨Ee, 0, none⟩) ar (by kernel_rfl) (by kernel_rfl) (zC (t := 51) (k := 2) (off := 0) (m := 12) (xs := (zg x2) ++ ((zg y2) ++ (zg z2))) ES rfl (zn (zp (za hx2) (zp (za hy2) (za Eu)))) (zp (za hx2) (zp (za hy2) (za Eu))) (by kernel_rfl) (by kernel_rfl)) ?_
  have g1 : (z1 == z4) = true := Kf Ew
  exact ⟨ret_t3 (a := (x2, y2, z2)) (b := jpL (x1, y1, z1) (x2, y2, z2)) (by simp only [jpL, g1, ZF, Zc]), ES.pk []⟩
 replace Ew : ¬ (z1 = ([0, 0, 0, 0] : List UInt64)) := ne_of_beq_false Ew
 refine wp_skip <| ze <| wp_seq <| wp_seq <| zj <| d_k [2,3,4,23] [] 1 EQ fun _ au => f_o <| m_a 1 8 4 (zg z2) au Ex rfl (by simp [za hx2, za hy2, za Eu, zu, zv, zx]) (za Eu) fun _ av => d_k [2,3,4,24,25] [] 3 av fun _ aw => f_o <| q_v (x := Jr .eql 24 (.tmp 24) (.tmp 25) (.agg (zc (zg z2))) (.agg (zc (zg ([0, 0, 0, 0] : List UInt64))))) (v := .bool (z2 == ([0, 0, 0, 0] : List UInt64))) aw (ZI (a := (.tmp 24)) (b := (.tmp 25)) (e := 22) (m := 4) (by kernel_rfl) (by kernel_rfl) (by kernel_rfl) (by kernel_rfl) (by kernel_rfl) Eu (show zf ([0, 0, 0, 0] : List UInt64) = 4 from rfl) _) fun _ ER => ?_
 refine f_e <| ze <| Ql ER (t := z2 == ([0, 0, 0, 0] : List UInt64)) (by kernel_rfl) (fun Ey => ?_) (fun Ey => ?_)
 ·
  replace Ey : z2 = ([0, 0, 0, 0] : List UInt64) := eq_of_beq Ey
  refine wp_seq <| zj <| f_o <| Zn 0 12 ((zg x1) ++ ((zg y1) ++ (zg z1))) ER Ex rfl (zp (za hx1) (zp (za hy1) (za Es))) fun _ ax => f_o <| zW 2 12 ((zg x1) ++ ((zg y1) ++ (zg z1))) [.box Eo ((zg x1) ++ ((zg y1) ++ (zg z1))) 51, .box Ep ((zg x2) ++ ((zg y2) ++ (zg z2))) 51, .box Ee ((zg x1) ++ ((zg y1) ++ (zg z1))) 51] ax Ex rfl (zp (za hx1) (zp (za hy1) (za Es))) (zp (za (zh)) (zp (za (zh)) (za (zh)))) (Zd (zq _) (Zd (zq _) (zq _))) rfl fun _ _ ay ET => f_e <| ze <| wp_ret <| z9 <| zU (v := .agg (zc ((zg x1) ++ ((zg y1) ++ (zg z1))))) (t := 4) (T := 51) (ad := ⟨Ee, 0, none⟩) ay (by kernel_rfl) (by kernel_rfl) (zC (t := 51) (k := 2) (off := 0) (m := 12) (xs := (zg x1) ++ ((zg y1) ++ (zg z1))) ET rfl (zn (zp (za hx1) (zp (za hy1) (za Es)))) (zp (za hx1) (zp (za hy1) (za Es))) (by kernel_rfl) (by kernel_rfl)) ?_
  have g1 : (z1 == z4) = false := J9 Ew
  have g2 : (z2 == z4) = true := Kf Ey
  exact ⟨ret_t3 (a := (x1, y1, z1)) (b := jpL (x1, y1, z1) (x2, y2, z2)) (by simp only [jpL, g1, g2, ZF, Zc]), ET.pk []⟩
 replace Ey : ¬ (z2 = ([0, 0, 0, 0] : List UInt64)) := ne_of_beq_false Ey
 refine wp_skip <| ze <| wp_seq <| zj <| d_k [2,3,4,28] [] 1 ER fun _ az => f_o <| m_a 0 8 4 (zg z1) az Ex rfl (by simp [za hx1, za hy1, za Es, zu, zv, zx]) (za Es) fun _ aA => d_k [2,3,4,29,30] [] 3 aA fun _ aB => f_o <| m_a 0 8 4 (zg z1) aB Ex rfl (by simp [za hx1, za hy1, za Es, zu, zv, zx]) (za Es) fun _ aC => f_o <| c_p aC Ex (ZS _ z1 z1 Es Es) fun _ _ aD aE => f_o <| m_z 24 (zg (zd 4 0)) aD aE fun _ _ Ef aF aG => ?_
 refine f_o <| zW 3 4 (zg (nd (zo 2 (nv z1) (nv z1)))) _ aF aG rfl (za (zl _ _)) (za (zh)) (zq _) rfl fun _ _ aH EL => f_e ?_
 obtain ⟨pz, h_pz⟩ : ∃ q : List UInt64, q = nd (zo 2 (nv z1) (nv z1)) := ⟨_, rfl⟩
 rw [← h_pz] at EL
 have n_pz : zf pz = 4 := by rw [h_pz]; exact zl _ _
 refine ze <| wp_seq <| zj <| d_k [2,3,4,5,33] [] 1 aH fun _ aI => f_o <| m_a 1 8 4 (zg z2) aI EL rfl (by simp [za hx2, za hy2, za Eu, zu, zv, zx]) (za Eu) fun _ aJ => d_k [2,3,4,5,34,35] [] 3 aJ fun _ aK => f_o <| m_a 1 8 4 (zg z2) aK EL rfl (by simp [za hx2, za hy2, za Eu, zu, zv, zx]) (za Eu) fun _ aL => f_o <| c_p aL EL (ZS _ z2 z2 Eu Eu) fun _ _ aM aN => f_o <| m_z 24 (zg (zd 4 0)) aM aN fun _ _ Eg aO aP => ?_
 refine f_o <| zW 4 4 (zg (nd (zo 2 (nv z2) (nv z2)))) [.box Eo ((zg x1) ++ ((zg y1) ++ (zg z1))) 51, .box Ep ((zg x2) ++ ((zg y2) ++ (zg z2))) 51, .box Ee ((zg (zd 4 0)) ++ ((zg (zd 4 0)) ++ (zg (zd 4 0)))) 51, .box Ef (zg pz) 24, .box Eg (zg (nd (zo 2 (nv z2) (nv z2)))) 24] aO aP rfl (za (zl _ _)) (za (zh)) (zq _) rfl fun _ _ aQ EM => f_e ?_
 obtain ⟨qz, h_qz⟩ : ∃ q : List UInt64, q = nd (zo 2 (nv z2) (nv z2)) := ⟨_, rfl⟩
 rw [← h_qz] at EM
 have n_qz : zf qz = 4 := by rw [h_qz]; exact zl _ _
 refine ze <| wp_seq <| zj <| d_k [2,3,4,5,6,38] [] 1 aQ fun _ aR => f_o <| m_a 0 0 4 (zg x1) aR EM rfl (by simp [za hx1, za hy1, za Es, zu, zv]) (za hx1) fun _ aS => f_o <| Zn 4 4 (zg qz) aS EM rfl (za n_qz) fun _ aT => f_o <| c_p aT EM (ZS _ x1 qz hx1 n_qz) fun _ _ EU EV => f_o <| m_z 24 (zg (zd 4 0)) EU EV fun _ _ Ea EW EX => f_o <| zW 5 4 (zg (nd (zo 2 (nv x1) (nv qz)))) _ EW EX rfl (za (zl _ _)) (za (zh)) (zq _) rfl fun _ _ EY Ez => ?_
 refine f_e ?_
 obtain ⟨u, h_u⟩ : ∃ q : List UInt64, q = nd (zo 2 (nv x1) (nv qz)) := ⟨_, rfl⟩
 rw [← h_u] at Ez
 have n_u : zf u = 4 := by rw [h_u]; exact zl _ _
 refine ze <| wp_seq <| zj <| d_k [2,3,4,5,6,7,42] [] 1 EY fun _ EZ => f_o <| m_a 1 0 4 (zg x2) EZ Ez rfl (by simp [za hx2, za hy2, za Eu, zu, zv]) (za hx2) fun _ E0 => f_o <| Zn 3 4 (zg pz) E0 Ez rfl (za n_pz) fun _ E1 => f_o <| c_p E1 Ez (ZS _ x2 pz hx2 n_pz) fun _ _ E2 E3 => f_o <| m_z 24 (zg (zd 4 0)) E2 E3 fun _ _ Eb E4 E5 => f_o <| zW 6 4 (zg (nd (zo 2 (nv x2) (nv pz)))) [.box Eo ((zg x1) ++ ((zg y1) ++ (zg z1))) 51, .box Ep ((zg x2) ++ ((zg y2) ++ (zg z2))) 51, .box Ee ((zg (zd 4 0)) ++ ((zg (zd 4 0)) ++ (zg (zd 4 0)))) 51, .box Ef (zg pz) 24, .box Eg (zg qz) 24, .box Ea (zg u) 24, .box Eb (zg (nd (zo 2 (nv x2) (nv pz)))) 24] E4 E5 rfl (za (zl _ _)) (za (zh)) (zq _) rfl fun _ _ E6 EE => ?_
 refine f_e ?_
 obtain ⟨v, h_v⟩ : ∃ q : List UInt64, q = nd (zo 2 (nv x2) (nv pz)) := ⟨_, rfl⟩
 rw [← h_v] at EE
 have n_v : zf v = 4 := by rw [h_v]; exact zl _ _
 refine ze <| wp_seq <| r_c (fun ac wo => ∃ (Ec : Nat), Env ac 114 [(2, pt Eo), (3, pt Ep), (4, pt Ee), (5, pt Ef), (6, pt Eg), (7, pt Ea), (8, pt Eb), (9, pt Ec)] ∧ Ev w [] wo [.box Eo ((zg x1) ++ ((zg y1) ++ (zg z1))) 51, .box Ep ((zg x2) ++ ((zg y2) ++ (zg z2))) 51, .box Ee ((zg (zd 4 0)) ++ ((zg (zd 4 0)) ++ (zg (zd 4 0)))) 51, .box Ef (zg pz) 24, .box Eg (zg qz) 24, .box Ea (zg u) 24, .box Eb (zg v) 24, .box Ec (zg (nd (zo 2 (nv y1) (nv (nd (zo 2 (nv qz) (nv z2))))))) 24]) ?_ ?_
 ·
  refine Xk [(2, pt Eo), (3, pt Ep), (4, pt Ee), (5, pt Ef), (6, pt Eg), (7, pt Ea), (8, pt Eb)] [0,1,2,3,4,5,6] [(46, .pointer (some ⟨Eo, 4, none⟩)), (47, .agg (zc (zg y1))), (48, .agg (zc (zg qz))), (49, .pointer (some ⟨Ep, 8, none⟩)), (50, .agg (zc (zg z2))), (51, .agg (zc (zg (nd (zo 2 (nv qz) (nv z2)))))), (52, .agg (zc (zg (nd (zo 2 (nv y1) (nv (nd (zo 2 (nv qz) (nv z2)))))))))] 1 [(2, pt Eo), (3, pt Ep), (4, pt Ee), (5, pt Ef), (6, pt Eg), (7, pt Ea), (8, pt Eb), (52, .agg (zc (zg (nd (zo 2 (nv y1) (nv (nd (zo 2 (nv qz) (nv z2)))))))))] 7 (zg (zd 4 0)) (E6.sb) (EE.trans (zN EE.heap)) ?_ fun _ _ Ec E7 E8 => ?_
  ·
   refine s_p [] <| s_a 0 4 4 (zg y1) rfl (by simp [za hx1, za hy1, za Es, zu, zv]) (za hy1) <| s_a 4 0 4 (zg qz) rfl (zn (za n_qz)) (za n_qz) <| s_p [] <| s_a 1 8 4 (zg z2) rfl (by simp [za hx2, za hy2, za Eu, zu, zv, zx]) (za Eu) <| s_f (fun _ => ZS _ qz z2 n_qz Eu) ?_
   refine s_f (fun _ => ZS _ y1 (nd (zo 2 (nv qz) (nv z2))) hy1 (zl _ _)) ?_
   exact s_n
  refine q_u 8 ?_
  refine zW 7 4 (zg (nd (zo 2 (nv y1) (nv (nd (zo 2 (nv qz) (nv z2))))))) _ E7 E8 rfl (za (zl _ _)) (za (zh)) (zq _) rfl fun _ _ E9 Ha => ?_
  exact a_e ⟨Ec, E9.sb, Ha.pk [0, 1, 2, 3, 4, 5, 6, 7]⟩
 rintro _ _ ⟨Ec, Hb, EF⟩
 obtain ⟨s, h_s⟩ : ∃ q : List UInt64, q = nd (zo 2 (nv y1) (nv (nd (zo 2 (nv qz) (nv z2))))) := ⟨_, rfl⟩
 rw [← h_s] at EF
 have n_s : zf s = 4 := by rw [h_s]; exact zl _ _
 refine ze <| wp_seq <| r_c (fun ac wo => ∃ (Ed : Nat), Env ac 114 [(2, pt Eo), (3, pt Ep), (4, pt Ee), (5, pt Ef), (6, pt Eg), (7, pt Ea), (8, pt Eb), (9, pt Ec), (10, pt Ed)] ∧ Ev w [] wo [.box Eo ((zg x1) ++ ((zg y1) ++ (zg z1))) 51, .box Ep ((zg x2) ++ ((zg y2) ++ (zg z2))) 51, .box Ee ((zg (zd 4 0)) ++ ((zg (zd 4 0)) ++ (zg (zd 4 0)))) 51, .box Ef (zg pz) 24, .box Eg (zg qz) 24, .box Ea (zg u) 24, .box Eb (zg v) 24, .box Ec (zg s) 24, .box Ed (zg (nd (zo 2 (nv y2) (nv (nd (zo 2 (nv pz) (nv z1))))))) 24]) ?_ ?_
 ·
  refine Xk [(2, pt Eo), (3, pt Ep), (4, pt Ee), (5, pt Ef), (6, pt Eg), (7, pt Ea), (8, pt Eb), (9, pt Ec)] [0,1,2,3,4,5,6] [(53, .pointer (some ⟨Ep, 4, none⟩)), (54, .agg (zc (zg y2))), (55, .agg (zc (zg pz))), (56, .pointer (some ⟨Eo, 8, none⟩)), (57, .agg (zc (zg z1))), (58, .agg (zc (zg (nd (zo 2 (nv pz) (nv z1)))))), (59, .agg (zc (zg (nd (zo 2 (nv y2) (nv (nd (zo 2 (nv pz) (nv z1)))))))))] 1 [(2, pt Eo), (3, pt Ep), (4, pt Ee), (5, pt Ef), (6, pt Eg), (7, pt Ea), (8, pt Eb), (9, pt Ec), (59, .agg (zc (zg (nd (zo 2 (nv y2) (nv (nd (zo 2 (nv pz) (nv z1)))))))))] 7 (zg (zd 4 0)) (Hb.sb) (EF.trans (zN EF.heap)) ?_ fun _ _ Ed Hc Hd => ?_
  ·
   refine s_p [] <| s_a 1 4 4 (zg y2) rfl (by simp [za hx2, za hy2, za Eu, zu, zv]) (za hy2) <| s_a 3 0 4 (zg pz) rfl (zn (za n_pz)) (za n_pz) <| s_p [] <| s_a 0 8 4 (zg z1) rfl (by simp [za hx1, za hy1, za Es, zu, zv, zx]) (za Es) <| s_f (fun _ => ZS _ pz z1 n_pz Es) ?_
   refine s_f (fun _ => ZS _ y2 (nd (zo 2 (nv pz) (nv z1))) hy2 (zl _ _)) ?_
   exact s_n
  refine q_u 8 ?_
  refine zW 8 4 (zg (nd (zo 2 (nv y2) (nv (nd (zo 2 (nv pz) (nv z1))))))) [.box Eo ((zg x1) ++ ((zg y1) ++ (zg z1))) 51, .box Ep ((zg x2) ++ ((zg y2) ++ (zg z2))) 51, .box Ee ((zg (zd 4 0)) ++ ((zg (zd 4 0)) ++ (zg (zd 4 0)))) 51, .box Ef (zg pz) 24, .box Eg (zg qz) 24, .box Ea (zg u) 24, .box Eb (zg v) 24, .box Ec (zg s) 24, .box Ed (zg (nd (zo 2 (nv y2) (nv (nd (zo 2 (nv pz) (nv z1))))))) 24] Hc Hd rfl (za (zl _ _)) (za (zh)) (zq _) rfl fun _ _ He Hf => ?_
  exact a_e ⟨Ed, He.sb, Hf.pk [0, 1, 2, 3, 4, 5, 6, 7, 8]⟩
 rintro _ _ ⟨Ed, Hg, En⟩
 obtain ⟨t, h_t⟩ : ∃ q : List UInt64, q = nd (zo 2 (nv y2) (nv (nd (zo 2 (nv pz) (nv z1))))) := ⟨_, rfl⟩
 rw [← h_t] at En
 have n_t : zf t = 4 := by rw [h_t]; exact zl _ _
 refine ze <| wp_seq <| wp_seq <| zj <| f_o <| Zn 5 4 (zg u) Hg En rfl (za n_u) fun _ Hh => f_o <| Zn 6 4 (zg v) Hh En rfl (za n_v) fun _ Hi => f_o <| q_v (x := Jr .eql 24 (.tmp 60) (.tmp 61) (.agg (zc (zg u))) (.agg (zc (zg v)))) (v := .bool (u == v)) Hi (ZI (a := (.tmp 60)) (b := (.tmp 61)) (e := 22) (m := 4) (by kernel_rfl) (by kernel_rfl) (by kernel_rfl) (by kernel_rfl) (by kernel_rfl) n_u n_v _) fun _ EG => ?_
 refine f_e <| ze <| Ql EG (t := u == v) (by kernel_rfl) (fun Er => ?_) (fun Er => ?_)
 ·
  replace Er : u = v := eq_of_beq Er
  refine wp_seq <| wp_seq <| zj <| f_o <| Zn 7 4 (zg s) EG En rfl (za n_s) fun _ Hj => f_o <| Zn 8 4 (zg t) Hj En rfl (za n_t) fun _ Hk => f_o <| q_v (x := Jr .neq 24 (.tmp 63) (.tmp 64) (.agg (zc (zg s))) (.agg (zc (zg t)))) (v := .bool (!(s == t))) Hk (Go.Dbr.u64s_neop (a := (.tmp 63)) (b := (.tmp 64)) (e := 22) (m := 4) (by kernel_rfl) (by kernel_rfl) (by kernel_rfl) (by kernel_rfl) (by kernel_rfl) n_s n_t _) fun _ EH => ?_
  refine f_e <| ze <| Ql EH (t := !(s == t)) (by kernel_rfl) (fun Et => ?_) (fun Et => ?_)
  ·
   replace Et : ¬ (s = t) := by simpa using Et
   refine wp_seq <| zj <| d_k [2,3,4,5,6,7,8,9,10,66,67] [] 2 EH fun _ Hl => f_o <| q_v (x := Instr.build 51 #[(0, .agg (zc (zg ([1, 0, 0, 0] : List UInt64)))), (1, .agg (zc (zg ([1, 0, 0, 0] : List UInt64))))]) (v := .agg (zc ((zg ([1, 0, 0, 0] : List UInt64)) ++ ((zg ([1, 0, 0, 0] : List UInt64)) ++ (zg (zd 4 0)))))) Hl (Zw [(0, 4), (4, 4), (8, 4)] [⟨4, zg (zd 4 0), some (0, .agg (zc (zg ([1, 0, 0, 0] : List UInt64))), zg ([1, 0, 0, 0] : List UInt64))⟩, ⟨4, zg (zd 4 0), some (1, .agg (zc (zg ([1, 0, 0, 0] : List UInt64))), zg ([1, 0, 0, 0] : List UInt64))⟩, ⟨4, zg (zd 4 0), none⟩] (YS (za (zh)) (za (show zf ([1, 0, 0, 0] : List UInt64) = 4 from rfl)) (YS (za (zh)) (za (show zf ([1, 0, 0, 0] : List UInt64) = 4 from rfl)) (Xl (za (zh)) trivial))) _) fun _ Hm => f_o <| zW 2 12 ((zg ([1, 0, 0, 0] : List UInt64)) ++ ((zg ([1, 0, 0, 0] : List UInt64)) ++ (zg (zd 4 0)))) _ Hm En rfl (zp (za (show zf ([1, 0, 0, 0] : List UInt64) = 4 from rfl)) (zp (za (show zf ([1, 0, 0, 0] : List UInt64) = 4 from rfl)) (za (zh)))) (zp (za (zh)) (zp (za (zh)) (za (zh)))) (Zd (zq _) (Zd (zq _) (zq _))) rfl fun _ _ Hn EN => f_e <| ze <| wp_ret <| z9 <| z9 <| zU (v := .agg (zc ((zg ([1, 0, 0, 0] : List UInt64)) ++ ((zg ([1, 0, 0, 0] : List UInt64)) ++ (zg (zd 4 0)))))) (t := 4) (T := 51) (ad := ⟨Ee, 0, none⟩) Hn (by kernel_rfl) (by kernel_rfl) (zC (t := 51) (k := 2) (off := 0) (m := 12) (xs := (zg ([1, 0, 0, 0] : List UInt64)) ++ ((zg ([1, 0, 0, 0] : List UInt64)) ++ (zg (zd 4 0)))) EN rfl (zn (zp (za (show zf ([1, 0, 0, 0] : List UInt64) = 4 from rfl)) (zp (za (show zf ([1, 0, 0, 0] : List UInt64) = 4 from rfl)) (za (zh))))) (zp (za (show zf ([1, 0, 0, 0] : List UInt64) = 4 from rfl)) (zp (za (show zf ([1, 0, 0, 0] : List UInt64) = 4 from rfl)) (za (zh)))) (by kernel_rfl) (by kernel_rfl)) ?_
   have g1 : (z1 == z4) = false := J9 Ew
   have g2 : (z2 == z4) = false := J9 Ey
   have e0 : one3 = jpL (x1, y1, z1) (x2, y2, z2) := by
    subst h_t h_s h_v h_u h_qz h_pz
    have g3 : (nd (puN (nv x1) (nv z2)) == nd (puN (nv x2) (nv z1))) = true := by
     have k := Er
     simp only [JA] at k
     unfold puN
     exact Kf k
    have g4 : (nd (psN (nv y1) (nv z2)) == nd (psN (nv y2) (nv z1))) = false := by
     have k := Et
     simp only [JA] at k
     unfold psN
     exact J9 (by simpa using k)
    simp only [jpL, g1, g2, g3, g4, ZF, Zc]
   exact ⟨ret_t3 e0, EN.pk []⟩
  replace Et : s = t := by simpa using Et
  refine wp_skip <| ze <| wp_seq <| zj <| f_o <| Zn 0 12 ((zg x1) ++ ((zg y1) ++ (zg z1))) EH En rfl (zp (za hx1) (zp (za hy1) (za Es))) fun _ Ho => f_o <| c_p Ho En (dtwice_go _ x1 y1 z1 hx1 hy1 Es) fun _ _ Hp Hq => f_o <| zW 2 12 ((zg ((jtL (x1, y1, z1)).1)) ++ ((zg ((jtL (x1, y1, z1)).2.1)) ++ (zg ((jtL (x1, y1, z1)).2.2)))) [.box Eo ((zg x1) ++ ((zg y1) ++ (zg z1))) 51, .box Ep ((zg x2) ++ ((zg y2) ++ (zg z2))) 51, .box Ee ((zg ((jtL (x1, y1, z1)).1)) ++ ((zg ((jtL (x1, y1, z1)).2.1)) ++ (zg ((jtL (x1, y1, z1)).2.2)))) 51, .box Ef (zg pz) 24, .box Eg (zg qz) 24, .box Ea (zg u) 24, .box Eb (zg v) 24, .box Ec (zg s) 24, .box Ed (zg t) 24] Hp Hq rfl (zp (za (ZW (x1, y1, z1)).x) (zp (za (ZW (x1, y1, z1)).y) (za (ZW (x1, y1, z1)).z))) (zp (za (zh)) (zp (za (zh)) (za (zh)))) (Zd (zq _) (Zd (zq _) (zq _))) rfl fun _ _ Hr EO => f_e <| ze <| wp_ret <| z9 <| zU (v := .agg (zc ((zg ((jtL (x1, y1, z1)).1)) ++ ((zg ((jtL (x1, y1, z1)).2.1)) ++ (zg ((jtL (x1, y1, z1)).2.2)))))) (t := 4) (T := 51) (ad := ⟨Ee, 0, none⟩) Hr (by kernel_rfl) (by kernel_rfl) (zC (t := 51) (k := 2) (off := 0) (m := 12) (xs := (zg ((jtL (x1, y1, z1)).1)) ++ ((zg ((jtL (x1, y1, z1)).2.1)) ++ (zg ((jtL (x1, y1, z1)).2.2)))) EO rfl (zn (zp (za (ZW (x1, y1, z1)).x) (zp (za (ZW (x1, y1, z1)).y) (za (ZW (x1, y1, z1)).z)))) (zp (za (ZW (x1, y1, z1)).x) (zp (za (ZW (x1, y1, z1)).y) (za (ZW (x1, y1, z1)).z))) (by kernel_rfl) (by kernel_rfl)) ?_
  have g1 : (z1 == z4) = false := J9 Ew
  have g2 : (z2 == z4) = false := J9 Ey
  have e0 : jtL (x1, y1, z1) = jpL (x1, y1, z1) (x2, y2, z2) := by
   subst h_t h_s h_v h_u h_qz h_pz
   have g3 : (nd (puN (nv x1) (nv z2)) == nd (puN (nv x2) (nv z1))) = true := by
    have k := Er
    simp only [JA] at k
    unfold puN
    exact Kf k
   have g4 : (nd (psN (nv y1) (nv z2)) == nd (psN (nv y2) (nv z1))) = true := by
    have k := Et
    simp only [JA] at k
    unfold psN
    exact Kf (by simpa using k)
   simp only [jpL, g1, g2, g3, g4, ZF, Zc]
  exact ⟨ret_t3 e0, EO.pk []⟩
 replace Er : ¬ (u = v) := ne_of_beq_false Er
 refine wp_skip <| ze <| wp_seq <| zj <| f_o <| Zn 6 4 (zg v) EG En rfl (za n_v) fun _ Hs => f_o <| Zn 5 4 (zg u) Hs En rfl (za n_u) fun _ Ht => f_o <| c_p Ht En (Ju _ v u n_v n_u) fun _ _ Hu Hv => f_o <| m_z 24 (zg (zd 4 0)) Hu Hv fun _ _ Eh Hw Hx => f_o <| zW 9 4 (zg (nd (zZ 2 (nv v) (nv u)))) _ Hw Hx rfl (za (zl _ _)) (za (zh)) (zq _) rfl fun _ _ Hy EA => f_e ?_
 obtain ⟨h, h_h⟩ : ∃ q : List UInt64, q = nd (zZ 2 (nv v) (nv u)) := ⟨_, rfl⟩
 rw [← h_h] at EA
 have n_h : zf h = 4 := by rw [h_h]; exact zl _ _
 refine ze <| wp_seq <| zj <| f_o <| Zn 8 4 (zg t) Hy EA rfl (za n_t) fun _ Hz => f_o <| Zn 7 4 (zg s) Hz EA rfl (za n_s) fun _ HA => f_o <| c_p HA EA (Ju _ t s n_t n_s) fun _ _ HB HC => f_o <| m_z 24 (zg (zd 4 0)) HB HC fun _ _ Ei HD HE => f_o <| zW 10 4 (zg (nd (zZ 2 (nv t) (nv s)))) [.box Eo ((zg x1) ++ ((zg y1) ++ (zg z1))) 51, .box Ep ((zg x2) ++ ((zg y2) ++ (zg z2))) 51, .box Ee ((zg (zd 4 0)) ++ ((zg (zd 4 0)) ++ (zg (zd 4 0)))) 51, .box Ef (zg pz) 24, .box Eg (zg qz) 24, .box Ea (zg u) 24, .box Eb (zg v) 24, .box Ec (zg s) 24, .box Ed (zg t) 24, .box Eh (zg h) 24, .box Ei (zg (nd (zZ 2 (nv t) (nv s)))) 24] HD HE rfl (za (zl _ _)) (za (zh)) (zq _) rfl fun _ _ HF EB => f_e ?_
 obtain ⟨r, h_r⟩ : ∃ q : List UInt64, q = nd (zZ 2 (nv t) (nv s)) := ⟨_, rfl⟩
 rw [← h_r] at EB
 have n_r : zf r = 4 := by rw [h_r]; exact zl _ _
 refine ze <| wp_seq <| zj <| f_o <| Zn 9 4 (zg h) HF EB rfl (za n_h) fun _ HG => f_o <| Zn 9 4 (zg h) HG EB rfl (za n_h) fun _ HH => f_o <| c_p HH EB (ZS _ h h n_h n_h) fun _ _ HI HJ => f_o <| m_z 24 (zg (zd 4 0)) HI HJ fun _ _ Ej HK HL => f_o <| zW 11 4 (zg (nd (zo 2 (nv h) (nv h)))) _ HK HL rfl (za (zl _ _)) (za (zh)) (zq _) rfl fun _ _ HM EC => f_e ?_
 obtain ⟨hh, h_hh⟩ : ∃ q : List UInt64, q = nd (zo 2 (nv h) (nv h)) := ⟨_, rfl⟩
 rw [← h_hh] at EC
 have n_hh : zf hh = 4 := by rw [h_hh]; exact zl _ _
 refine ze <| wp_seq <| zj <| f_o <| Zn 11 4 (zg hh) HM EC rfl (za n_hh) fun _ HN => f_o <| Zn 9 4 (zg h) HN EC rfl (za n_h) fun _ HO => f_o <| c_p HO EC (ZS _ hh h n_hh n_h) fun _ _ HP HQ => f_o <| m_z 24 (zg (zd 4 0)) HP HQ fun _ _ Ek HR HS => f_o <| zW 12 4 (zg (nd (zo 2 (nv hh) (nv h)))) [.box Eo ((zg x1) ++ ((zg y1) ++ (zg z1))) 51, .box Ep ((zg x2) ++ ((zg y2) ++ (zg z2))) 51, .box Ee ((zg (zd 4 0)) ++ ((zg (zd 4 0)) ++ (zg (zd 4 0)))) 51, .box Ef (zg pz) 24, .box Eg (zg qz) 24, .box Ea (zg u) 24, .box Eb (zg v) 24, .box Ec (zg s) 24, .box Ed (zg t) 24, .box Eh (zg h) 24, .box Ei (zg r) 24, .box Ej (zg hh) 24, .box Ek (zg (nd (zo 2 (nv hh) (nv h)))) 24] HR HS rfl (za (zl _ _)) (za (zh)) (zq _) rfl fun _ _ HT ED => f_e ?_
 obtain ⟨hhh, h_hhh⟩ : ∃ q : List UInt64, q = nd (zo 2 (nv hh) (nv h)) := ⟨_, rfl⟩
 rw [← h_hhh] at ED
 have n_hhh : zf hhh = 4 := by rw [h_hhh]; exact zl _ _
 refine ze <| wp_seq <| zj <| f_o <| Zn 5 4 (zg u) HT ED rfl (za n_u) fun _ HU => f_o <| Zn 11 4 (zg hh) HU ED rfl (za n_hh) fun _ HV => f_o <| c_p HV ED (ZS _ u hh n_u n_hh) fun _ _ HW HX => f_o <| m_z 24 (zg (zd 4 0)) HW HX fun _ _ Em HY HZ => f_o <| zW 13 4 (zg (nd (zo 2 (nv u) (nv hh)))) _ HY HZ rfl (za (zl _ _)) (za (zh)) (zq _) rfl fun _ _ H0 EI => f_e ?_
 obtain ⟨ww, h_ww⟩ : ∃ q : List UInt64, q = nd (zo 2 (nv u) (nv hh)) := ⟨_, rfl⟩
 rw [← h_ww] at EI
 have n_ww : zf ww = 4 := by rw [h_ww]; exact zl _ _
 refine ze <| wp_seq <| r_c (fun ac wo => ∃ (El : Nat), Env ac 114 [(2, pt Eo), (3, pt Ep), (4, pt Ee), (5, pt Ef), (6, pt Eg), (7, pt Ea), (8, pt Eb), (9, pt Ec), (10, pt Ed), (11, pt Eh), (12, pt Ei), (13, pt Ej), (14, pt Ek), (15, pt Em), (16, pt El)] ∧ Ev w [] wo [.box Eo ((zg x1) ++ ((zg y1) ++ (zg z1))) 51, .box Ep ((zg x2) ++ ((zg y2) ++ (zg z2))) 51, .box Ee ((zg (zd 4 0)) ++ ((zg (zd 4 0)) ++ (zg (zd 4 0)))) 51, .box Ef (zg pz) 24, .box Eg (zg qz) 24, .box Ea (zg u) 24, .box Eb (zg v) 24, .box Ec (zg s) 24, .box Ed (zg t) 24, .box Eh (zg h) 24, .box Ei (zg r) 24, .box Ej (zg hh) 24, .box Ek (zg hhh) 24, .box Em (zg ww) 24, .box El (zg (nd (zZ 2 (nv (nd (zZ 2 (nv (nd (zo 2 (nv r) (nv r)))) (nv hhh)))) (nv (nd (z5 2 (nv ww) (nv ww))))))) 24]) ?_ ?_
 ·
  refine Xk [(2, pt Eo), (3, pt Ep), (4, pt Ee), (5, pt Ef), (6, pt Eg), (7, pt Ea), (8, pt Eb), (9, pt Ec), (10, pt Ed), (11, pt Eh), (12, pt Ei), (13, pt Ej), (14, pt Ek), (15, pt Em)] [0,1,2,3,4,5,6,7,8] [(86, .agg (zc (zg r))), (87, .agg (zc (zg r))), (88, .agg (zc (zg (nd (zo 2 (nv r) (nv r)))))), (89, .agg (zc (zg hhh))), (90, .agg (zc (zg (nd (zZ 2 (nv (nd (zo 2 (nv r) (nv r)))) (nv hhh)))))), (91, .agg (zc (zg ww))), (92, .agg (zc (zg ww))), (93, .agg (zc (zg (nd (z5 2 (nv ww) (nv ww)))))), (94, .agg (zc (zg (nd (zZ 2 (nv (nd (zZ 2 (nv (nd (zo 2 (nv r) (nv r)))) (nv hhh)))) (nv (nd (z5 2 (nv ww) (nv ww)))))))))] 1 [(2, pt Eo), (3, pt Ep), (4, pt Ee), (5, pt Ef), (6, pt Eg), (7, pt Ea), (8, pt Eb), (9, pt Ec), (10, pt Ed), (11, pt Eh), (12, pt Ei), (13, pt Ej), (14, pt Ek), (15, pt Em), (94, .agg (zc (zg (nd (zZ 2 (nv (nd (zZ 2 (nv (nd (zo 2 (nv r) (nv r)))) (nv hhh)))) (nv (nd (z5 2 (nv ww) (nv ww)))))))))] 9 (zg (zd 4 0)) (H0.sb) (EI.trans (zN EI.heap)) ?_ fun _ _ El H1 H2 => ?_
  ·
   refine s_a 10 0 4 (zg r) rfl (zn (za n_r)) (za n_r) <| s_a 10 0 4 (zg r) rfl (zn (za n_r)) (za n_r) <| s_f (fun _ => ZS _ r r n_r n_r) ?_
   refine s_a 12 0 4 (zg hhh) rfl (zn (za n_hhh)) (za n_hhh) <| s_f (fun _ => Ju _ (nd (zo 2 (nv r) (nv r))) hhh (zl _ _) n_hhh) ?_
   refine s_a 13 0 4 (zg ww) rfl (zn (za n_ww)) (za n_ww) <| s_a 13 0 4 (zg ww) rfl (zn (za n_ww)) (za n_ww) <| s_f (fun _ => dadd_go _ ww ww n_ww n_ww) ?_
   refine s_f (fun _ => Ju _ (nd (zZ 2 (nv (nd (zo 2 (nv r) (nv r)))) (nv hhh))) (nd (z5 2 (nv ww) (nv ww))) (zl _ _) (zl _ _)) ?_
   exact s_n
  refine q_u 10 ?_
  refine zW 14 4 (zg (nd (zZ 2 (nv (nd (zZ 2 (nv (nd (zo 2 (nv r) (nv r)))) (nv hhh)))) (nv (nd (z5 2 (nv ww) (nv ww))))))) [.box Eo ((zg x1) ++ ((zg y1) ++ (zg z1))) 51, .box Ep ((zg x2) ++ ((zg y2) ++ (zg z2))) 51, .box Ee ((zg (zd 4 0)) ++ ((zg (zd 4 0)) ++ (zg (zd 4 0)))) 51, .box Ef (zg pz) 24, .box Eg (zg qz) 24, .box Ea (zg u) 24, .box Eb (zg v) 24, .box Ec (zg s) 24, .box Ed (zg t) 24, .box Eh (zg h) 24, .box Ei (zg r) 24, .box Ej (zg hh) 24, .box Ek (zg hhh) 24, .box Em (zg ww) 24, .box El (zg (nd (zZ 2 (nv (nd (zZ 2 (nv (nd (zo 2 (nv r) (nv r)))) (nv hhh)))) (nv (nd (z5 2 (nv ww) (nv ww))))))) 24] H1 H2 rfl (za (zl _ _)) (za (zh)) (zq _) rfl fun _ _ H3 H4 => ?_
  exact a_e ⟨El, H3.sb, H4.pk [0, 1, 2, 3, 4, 5, 6, 7, 8, 9, 10, 11, 12, 13, 14]⟩
 rintro _ _ ⟨El, H5, EJ⟩
 obtain ⟨x3, h_x3⟩ : ∃ q : List UInt64, q = nd (zZ 2 (nv (nd (zZ 2 (nv (nd (zo 2 (nv r) (nv r)))) (nv hhh)))) (nv (nd (z5 2 (nv ww) (nv ww))))) := ⟨_, rfl⟩
 rw [← h_x3] at EJ
 have n_x3 : zf x3 = 4 := by rw [h_x3]; exact zl _ _
 refine ze <| wp_seq <| r_c (fun ac wo => ∃ (Eq : Nat), Env ac 114 [(2, pt Eo), (3, pt Ep), (4, pt Ee), (5, pt Ef), (6, pt Eg), (7, pt Ea), (8, pt Eb), (9, pt Ec), (10, pt Ed), (11, pt Eh), (12, pt Ei), (13, pt Ej), (14, pt Ek), (15, pt Em), (16, pt El), (17, pt Eq)] ∧ Ev w [] wo [.box Eo ((zg x1) ++ ((zg y1) ++ (zg z1))) 51, .box Ep ((zg x2) ++ ((zg y2) ++ (zg z2))) 51, .box Ee ((zg (zd 4 0)) ++ ((zg (zd 4 0)) ++ (zg (zd 4 0)))) 51, .box Ef (zg pz) 24, .box Eg (zg qz) 24, .box Ea (zg u) 24, .box Eb (zg v) 24, .box Ec (zg s) 24, .box Ed (zg t) 24, .box Eh (zg h) 24, .box Ei (zg r) 24, .box Ej (zg hh) 24, .box Ek (zg hhh) 24, .box Em (zg ww) 24, .box El (zg x3) 24, .box Eq (zg (nd (zZ 2 (nv (nd (zo 2 (nv r) (nv (nd (zZ 2 (nv ww) (nv x3))))))) (nv (nd (zo 2 (nv s) (nv hhh))))))) 24]) ?_ ?_
 ·
  refine Xk [(2, pt Eo), (3, pt Ep), (4, pt Ee), (5, pt Ef), (6, pt Eg), (7, pt Ea), (8, pt Eb), (9, pt Ec), (10, pt Ed), (11, pt Eh), (12, pt Ei), (13, pt Ej), (14, pt Ek), (15, pt Em), (16, pt El)] [0,1,2,3,4,5,6,7,8] [(95, .agg (zc (zg r))), (96, .agg (zc (zg ww))), (97, .agg (zc (zg x3))), (98, .agg (zc (zg (nd (zZ 2 (nv ww) (nv x3)))))), (99, .agg (zc (zg (nd (zo 2 (nv r) (nv (nd (zZ 2 (nv ww) (nv x3))))))))), (100, .agg (zc (zg s))), (101, .agg (zc (zg hhh))), (102, .agg (zc (zg (nd (zo 2 (nv s) (nv hhh)))))), (103, .agg (zc (zg (nd (zZ 2 (nv (nd (zo 2 (nv r) (nv (nd (zZ 2 (nv ww) (nv x3))))))) (nv (nd (zo 2 (nv s) (nv hhh)))))))))] 1 [(2, pt Eo), (3, pt Ep), (4, pt Ee), (5, pt Ef), (6, pt Eg), (7, pt Ea), (8, pt Eb), (9, pt Ec), (10, pt Ed), (11, pt Eh), (12, pt Ei), (13, pt Ej), (14, pt Ek), (15, pt Em), (16, pt El), (103, .agg (zc (zg (nd (zZ 2 (nv (nd (zo 2 (nv r) (nv (nd (zZ 2 (nv ww) (nv x3))))))) (nv (nd (zo 2 (nv s) (nv hhh)))))))))] 9 (zg (zd 4 0)) (H5.sb) (EJ.trans (zN EJ.heap)) ?_ fun _ _ Eq H6 H7 => ?_
  ·
   refine s_a 10 0 4 (zg r) rfl (zn (za n_r)) (za n_r) <| s_a 13 0 4 (zg ww) rfl (zn (za n_ww)) (za n_ww) <| s_a 14 0 4 (zg x3) rfl (zn (za n_x3)) (za n_x3) <| s_f (fun _ => Ju _ ww x3 n_ww n_x3) ?_
   refine s_f (fun _ => ZS _ r (nd (zZ 2 (nv ww) (nv x3))) n_r (zl _ _)) ?_
   refine s_a 7 0 4 (zg s) rfl (zn (za n_s)) (za n_s) <| s_a 12 0 4 (zg hhh) rfl (zn (za n_hhh)) (za n_hhh) <| s_f (fun _ => ZS _ s hhh n_s n_hhh) ?_
   refine s_f (fun _ => Ju _ (nd (zo 2 (nv r) (nv (nd (zZ 2 (nv ww) (nv x3)))))) (nd (zo 2 (nv s) (nv hhh))) (zl _ _) (zl _ _)) ?_
   exact s_n
  refine q_u 10 ?_
  refine zW 15 4 (zg (nd (zZ 2 (nv (nd (zo 2 (nv r) (nv (nd (zZ 2 (nv ww) (nv x3))))))) (nv (nd (zo 2 (nv s) (nv hhh))))))) _ H6 H7 rfl (za (zl _ _)) (za (zh)) (zq _) rfl fun _ _ H8 H9 => ?_
  exact a_e ⟨Eq, H8.sb, H9.pk [0, 1, 2, 3, 4, 5, 6, 7, 8, 9, 10, 11, 12, 13, 14, 15]⟩
 rintro _ _ ⟨Eq, aa, EK⟩
 obtain ⟨y3, h_y3⟩ : ∃ q : List UInt64, q = nd (zZ 2 (nv (nd (zo 2 (nv r) (nv (nd (zZ 2 (nv ww) (nv x3))))))) (nv (nd (zo 2 (nv s) (nv hhh))))) := ⟨_, rfl⟩
 rw [← h_y3] at EK
 have n_y3 : zf y3 = 4 := by rw [h_y3]; exact zl _ _
 refine ze <| wp_seq <| r_c (fun ac wo => Env ac 114 [(2, pt Eo), (3, pt Ep), (4, pt Ee), (5, pt Ef), (6, pt Eg), (7, pt Ea), (8, pt Eb), (9, pt Ec), (10, pt Ed), (11, pt Eh), (12, pt Ei), (13, pt Ej), (14, pt Ek), (15, pt Em), (16, pt El), (17, pt Eq)] ∧ Ev w [] wo [.box Eo ((zg x1) ++ ((zg y1) ++ (zg z1))) 51, .box Ep ((zg x2) ++ ((zg y2) ++ (zg z2))) 51, .box Ee ((zg x3) ++ ((zg y3) ++ (zg (nd (zo 2 (nv h) (nv (nd (zo 2 (nv z1) (nv z2))))))))) 51, .box Ef (zg pz) 24, .box Eg (zg qz) 24, .box Ea (zg u) 24, .box Eb (zg v) 24, .box Ec (zg s) 24, .box Ed (zg t) 24, .box Eh (zg h) 24, .box Ei (zg r) 24, .box Ej (zg hh) 24, .box Ek (zg hhh) 24, .box Em (zg ww) 24, .box El (zg x3) 24, .box Eq (zg y3) 24]) ?_ ?_
 ·
  refine s_g0 [(2, pt Eo), (3, pt Ep), (4, pt Ee), (5, pt Ef), (6, pt Eg), (7, pt Ea), (8, pt Eb), (9, pt Ec), (10, pt Ed), (11, pt Eh), (12, pt Ei), (13, pt Ej), (14, pt Ek), (15, pt Em), (16, pt El), (17, pt Eq)] [0,1,2,3,4,5,6,7,8,9] [(104, .agg (zc (zg x3))), (105, .agg (zc (zg y3))), (106, .agg (zc (zg h))), (107, .pointer (some ⟨Eo, 8, none⟩)), (108, .agg (zc (zg z1))), (109, .pointer (some ⟨Ep, 8, none⟩)), (110, .agg (zc (zg z2))), (111, .agg (zc (zg (nd (zo 2 (nv z1) (nv z2)))))), (112, .agg (zc (zg (nd (zo 2 (nv h) (nv (nd (zo 2 (nv z1) (nv z2))))))))), (113, .agg (zc ((zg x3) ++ ((zg y3) ++ (zg (nd (zo 2 (nv h) (nv (nd (zo 2 (nv z1) (nv z2)))))))))))] 1 [(2, pt Eo), (3, pt Ep), (4, pt Ee), (5, pt Ef), (6, pt Eg), (7, pt Ea), (8, pt Eb), (9, pt Ec), (10, pt Ed), (11, pt Eh), (12, pt Ei), (13, pt Ej), (14, pt Ek), (15, pt Em), (16, pt El), (17, pt Eq), (113, .agg (zc ((zg x3) ++ ((zg y3) ++ (zg (nd (zo 2 (nv h) (nv (nd (zo 2 (nv z1) (nv z2)))))))))))] (aa.sb) (EK.trans (zN EK.heap)) ?_ fun _ _ ab ae => ?_
  ·
   refine s_a 14 0 4 (zg x3) rfl (zn (za n_x3)) (za n_x3) <| s_a 15 0 4 (zg y3) rfl (zn (za n_y3)) (za n_y3) <| s_a 9 0 4 (zg h) rfl (zn (za n_h)) (za n_h) <| s_p [] <| s_a 0 8 4 (zg z1) rfl (by simp [za hx1, za hy1, za Es, zu, zv, zx]) (za Es) <| s_p [] ?_
   refine s_a 1 8 4 (zg z2) rfl (by simp [za hx2, za hy2, za Eu, zu, zv, zx]) (za Eu) <| s_f (fun _ => ZS _ z1 z2 Es Eu) ?_
   refine s_f (fun _ => ZS _ h (nd (zo 2 (nv z1) (nv z2))) n_h (zl _ _)) ?_
   refine s_c (fun Mx572 _ _ af ag => ?_) ?_
   ·
    refine q_v (x := Instr.build 51 #[(0, .agg (zc (zg x3))), (1, .agg (zc (zg y3))), (2, .agg (zc (zg (nd (zo 2 (nv h) (nv (nd (zo 2 (nv z1) (nv z2)))))))))]) (v := .agg (zc ((zg x3) ++ ((zg y3) ++ (zg (nd (zo 2 (nv h) (nv (nd (zo 2 (nv z1) (nv z2))))))))))) af (Zw [(0, 4), (4, 4), (8, 4)] [⟨4, zg (zd 4 0), some (0, .agg (zc (zg x3)), zg x3)⟩, ⟨4, zg (zd 4 0), some (1, .agg (zc (zg y3)), zg y3)⟩, ⟨4, zg (zd 4 0), some (2, .agg (zc (zg (nd (zo 2 (nv h) (nv (nd (zo 2 (nv z1) (nv z2)))))))), zg (nd (zo 2 (nv h) (nv (nd (zo 2 (nv z1) (nv z2)))))))⟩] (YS (za (zh)) (za n_x3) (YS (za (zh)) (za n_y3) (YS (za (zh)) (za (zl _ _)) trivial))) _) fun _ ah => ?_
    exact s_e ah ag
   exact s_n
  refine q_u 10 ?_
  refine zW 2 12 ((zg x3) ++ ((zg y3) ++ (zg (nd (zo 2 (nv h) (nv (nd (zo 2 (nv z1) (nv z2))))))))) [.box Eo ((zg x1) ++ ((zg y1) ++ (zg z1))) 51, .box Ep ((zg x2) ++ ((zg y2) ++ (zg z2))) 51, .box Ee ((zg x3) ++ ((zg y3) ++ (zg (nd (zo 2 (nv h) (nv (nd (zo 2 (nv z1) (nv z2))))))))) 51, .box Ef (zg pz) 24, .box Eg (zg qz) 24, .box Ea (zg u) 24, .box Eb (zg v) 24, .box Ec (zg s) 24, .box Ed (zg t) 24, .box Eh (zg h) 24, .box Ei (zg r) 24, .box Ej (zg hh) 24, .box Ek (zg hhh) 24, .box Em (zg ww) 24, .box El (zg x3) 24, .box Eq (zg y3) 24] ab ae rfl (zp (za n_x3) (zp (za n_y3) (za (zl _ _)))) (zp (za (zh)) (zp (za (zh)) (za (zh)))) (Zd (zq _) (Zd (zq _) (zq _))) rfl fun _ _ ai aj => ?_
  exact a_e ⟨ai.sb, aj.pk [0, 1, 2, 3, 4, 5, 6, 7, 8, 9, 10, 11, 12, 13, 14, 15]⟩
 rintro _ _ ⟨ak, EP⟩
 refine ze <| wp_ret <| zU (v := .agg (zc ((zg x3) ++ ((zg y3) ++ (zg (nd (zo 2 (nv h) (nv (nd (zo 2 (nv z1) (nv z2))))))))))) (t := 4) (T := 51) (ad := ⟨Ee, 0, none⟩) ak (by kernel_rfl) (by kernel_rfl) (zC (t := 51) (k := 2) (off := 0) (m := 12) (xs := (zg x3) ++ ((zg y3) ++ (zg (nd (zo 2 (nv h) (nv (nd (zo 2 (nv z1) (nv z2))))))))) EP rfl (zn (zp (za n_x3) (zp (za n_y3) (za (zl _ _))))) (zp (za n_x3) (zp (za n_y3) (za (zl _ _)))) (by kernel_rfl) (by kernel_rfl)) ?_
 have g1 : (z1 == z4) = false := J9 Ew
 have g2 : (z2 == z4) = false := J9 Ey
 have e0 : (x3, y3, nd (zo 2 (nv h) (nv (nd (zo 2 (nv z1) (nv z2)))))) = jpL (x1, y1, z1) (x2, y2, z2) := by
  subst h_y3 h_x3 h_ww h_hhh h_hh h_r h_h h_t h_s h_v h_u h_qz h_pz
  have g3 : (nd (puN (nv x1) (nv z2)) == nd (puN (nv x2) (nv z1))) = false := by
   have k := Er
   simp only [JA] at k
   unfold puN
   exact J9 k
  simp only [jpL, g1, g2, g3, Zc]
  simp only [pqL, pxN, pyN, pzN, puN, psN, JA, nv_a2, nv_s2]
 exact ⟨ret_t3 e0, EP.pk []⟩
theorem repN_with {s t : N3} {P Q : GP} (hs : Go.Wei.RepH (fP s.1, fP s.2.1, fP s.2.2) P.1) (ht : Go.Wei.RepH (fP t.1, fP t.2.1, fP t.2.2) Q.1) : Go.Wei.RepH (fP (wtN s t).1, fP (wtN s t).2.1, fP (wtN s t).2.2) (Go.Wei.Cv.add P Q).1 := by
  obtain ⟨x1, y1, z1⟩ := s
  obtain ⟨x2, y2, z2⟩ := t
  show Go.Wei.RepH (fP (wtA outX x1 y1 z1 x2 y2 z2), fP (wtA outY x1 y1 z1 x2 y2 z2), fP (wtA outZ x1 y1 z1 x2 y2 z2)) _
  rw [wtX, wtY, wtZ, eta3]
  exact wt_rep P Q hs ht
def mulG : Nat → Nat → N3 → N3
  | 0, _, _ => (0, 1, 0)
  | f + 1, e, g => cond (Nat.beq (e % 2) 1) (wtN (mulG f (e / 2) (wtN g g)) g) (mulG f (e / 2) (wtN g g))
theorem repN_mul : ∀ (f e : Nat) (g : N3) (P : GP), e < 2 ^ f → Go.Wei.RepH (fP g.1, fP g.2.1, fP g.2.2) P.1 → Go.Wei.RepH (fP (mulG f e g).1, fP (mulG f e g).2.1, fP (mulG f e g).2.2) (Go.Wei.Cv.mul e P).1
  | 0, e, g, P, he, _ => by
    have : e = 0 := by simp at he; exact he
    subst this
    exact ⟨rfl, rfl, by show fP 1 ≠ 0; rw [fP, Go.Wei.fn_one]; exact one_ne⟩
  | f + 1, e, g, P, he, h => by
    have ih := repN_mul f (e / 2) (wtN g g) (Go.Wei.Cv.add P P) (by rw [Nat.pow_succ] at he; omega) (repN_with h h)
    have e2 : Go.Wei.Cv.mul (e / 2) (Go.Wei.Cv.add P P) = Go.Wei.Cv.mul (e / 2 * 2) P := by
      rw [Go.Wei.Cv.mul_mul]
      congr 1
      show _ = Go.Wei.Cv.add (Go.Wei.Cv.add Go.Wei.Cv.zero P) P
      rw [Go.Wei.Cv.zero_add]
    rw [e2] at ih
    unfold mulG
    cases hb : Nat.beq (e % 2) 1 with
    | true =>
      have h1 : e % 2 = 1 := Nat.eq_of_beq_eq_true hb
      have : e = e / 2 * 2 + 1 := by omega
      have k := repN_with ih h
      rw [show Go.Wei.Cv.add (Go.Wei.Cv.mul (e / 2 * 2) P) P = Go.Wei.Cv.mul e P from (by
        conv => rhs; rw [this]
        rfl)] at k
      exact k
    | false =>
      have h1 : e % 2 ≠ 1 := Nat.ne_of_beq_eq_false hb
      have : e / 2 * 2 = e := by omega
      rw [this] at ih
      exact ih
def GX : Nat := 48439561293906451759052585252797914202762949526041747995844080717082404635286
def GY : Nat := 36134250956749795798585127919587881956611106672985015071877198253568414405109
def NN : Nat := 115792089210356248762697446949407573529996955224135760342422259061068512044369
theorem ord_1 : (mulG 256 NN (GX, GY, 1)).1 = 0 ∧ (mulG 256 NN (GX, GY, 1)).2.2 = 0 := by decide +kernel
def Gp : PZ := (false, nd GX, nd GY)
theorem on_G : onP Gp = true := by decide +kernel
noncomputable def gB : GP := gO Gp
theorem out_gB : outP gB.1 = Gp := out_gO rfl rfl on_G
theorem gB_is : gB.1 = .A (fP GX) (fP GY) := by
  rw [gB, gO_in on_G]
  show Go.Wei.Pt.A (fP (nv (nd GX))) (fP (nv (nd GY))) = _
  rw [nv_nd (show GX < W256 by decide), nv_nd (show GY < W256 by decide)]
theorem ord_G : Go.Wei.Cv.mul NN gB = Go.Wei.Cv.zero := by
  have h := repN_mul 256 NN (GX, GY, 1) gB (by decide) (by
    rw [gB_is]
    show Go.Wei.RepH (fP GX, fP GY, fP 1) _
    rw [show fP 1 = 1 from Go.Wei.fn_one]
    generalize fP GX = a
    generalize fP GY = b
    exact ⟨one_ne, by grind -lia, by grind -lia⟩)
  rw [ord_1.1, ord_1.2] at h
  apply Subtype.ext
  show _ = Go.Wei.Pt.O
  cases hP : (Go.Wei.Cv.mul NN gB).1 with
  | O => rfl
  | A x y =>
    rw [hP] at h
    exact absurd rfl h.1
theorem mul_mod (k : Nat) : Go.Wei.Cv.mul (k % NN) gB = Go.Wei.Cv.mul k gB := by
  conv => rhs; rw [← Nat.div_add_mod k NN, Nat.mul_comm, Go.Wei.Cv.mul_add, Go.Wei.Cv.mul_mul, ord_G, Go.Wei.Cv.mul_zero, Go.Wei.Cv.zero_add]
theorem mulG_out (k : Nat) : zV k Gp = outP (Go.Wei.Cv.mul k gB).1 := by rw [← out_gB, mulP_out]
theorem bit_shr (x : UInt64) (m : Nat) (hm : m < 64) : ((x >>> zi m) &&& 1).toNat = x.toNat / 2 ^ m % 2 := by
  rw [UInt64.toNat_and, UInt64.toNat_shiftRight, show (1 : UInt64).toNat = 2 ^ 1 - 1 from rfl, Nat.and_two_pow_sub_one_eq_mod, ofNat_val, zQ (show m < 18446744073709551616 by omega), zQ (show m < 64 by omega), Nat.shiftRight_eq_div_pow, Nat.pow_one]
theorem bit_u {k : L4} (hk : k.length = 4) {i : Nat} (hi : i < 256) : (((zk ((zb k (i / 64) 0 >>> zi (i % 64)) &&& 1) : Nat) : Int) == (1 : Int)) = (XW (nv k) i == 1) := by
  have e : (zk ((zb k (i / 64) 0 >>> zi (i % 64)) &&& 1)) = XW (nv k) i := by
    rw [bit_shr _ _ (by omega), dig_nv hk _ (by omega), XW]
    have e : (2 : Nat) ^ i = 18446744073709551616 ^ (i / 64) * 2 ^ (i % 64) := by
      rw [show (18446744073709551616 : Nat) = 2 ^ 64 from rfl, ← Nat.pow_mul, ← ZO]
      congr 1
      omega
    rw [e, ← Nat.div_div_eq_div_mul]
    generalize nv k / 18446744073709551616 ^ (i / 64) = q
    have e2 : (18446744073709551616 : Nat) = 2 ^ (i % 64) * (2 * 2 ^ (63 - i % 64)) := by
      rw [show (18446744073709551616 : Nat) = 2 ^ 64 from rfl, ← Nat.pow_succ', ← ZO]
      congr 1
      omega
    rw [e2, Nat.mod_mul_right_div_self, Nat.mod_mul_right_mod]
  rw [e]
  generalize XW (nv k) i = b
  by_cases h : b = 1
  · subst h; rfl
  · rw [beq_false_of_ne h, beq_false_of_ne (by omega)]
theorem mn_1 {p : T3} {k j : Nat} {o : T3} (he : o = mnF p k j) (h : XW k (255 - j) = 1) : jpL (jtL o) p = mnF p k (j + 1) := by
  unfold mnF
  rw [h, ← he]
  rfl
theorem mn_0 {p : T3} {k j : Nat} {o : T3} (he : o = mnF p k j) (h : ¬ XW k (255 - j) = 1) : jtL o = mnF p k (j + 1) := by
  unfold mnF
  rw [beq_false_of_ne h, ← he]
  rfl
theorem mulP_yes {k : Nat} {p : PZ} (h : onP p = true) : outP (Go.Wei.Cv.mul k (gO p)).1 = zV k p := by rw [zV, h]; rfl
theorem mulP_no {k : Nat} {p : PZ} (h : ¬ onP p = true) : zeroP = zV k p := by rw [zV, ZB.2 h]; rfl
theorem dmany_go (w : World) (k : List UInt64) (hk : zf k = 4) (x y z : List UInt64) (hx : zf x = 4) (hy : zf y = 4) (hz : zf z = 4) : Calls zB 24 #[.agg (zc (zg k)), .agg (zc ((zg x) ++ ((zg y) ++ (zg z))))] w fun e w' => e = .returned (.agg (zc ((zg ((mnF (x, y, z) (nv k) 256).1)) ++ ((zg ((mnF (x, y, z) (nv k) 256).2.1)) ++ (zg ((mnF (x, y, z) (nv k) 256).2.2)))))) ∧ Ev w [] w' [] := by
 refine d_0 [(0, .agg (zc (zg k))), (1, .agg (zc ((zg x) ++ ((zg y) ++ (zg z)))))] 29 Tryz.func24 Tryz.ntmps24 (Heap.nil _) fun ES ET EU => wp_seq <| zj <| f_o <| m_m 24 (zg k) ET EU fun _ _ Eh EV EW => f_o <| m_m 51 ((zg x) ++ ((zg y) ++ (zg z))) EV EW fun _ _ Ej EX Ek => f_o <| m_z 51 ((zg (zd 4 0)) ++ ((zg (zd 4 0)) ++ (zg (zd 4 0)))) EX Ek fun _ _ Eb El Em => f_e <| ze <| wp_seq <| zj <| d_k [2,3,4,7,8] [] 2 El fun _ En => f_o <| q_v (x := Instr.build 51 #[(0, .agg (zc (zg ([1, 0, 0, 0] : List UInt64)))), (1, .agg (zc (zg ([1, 0, 0, 0] : List UInt64))))]) (v := .agg (zc ((zg ([1, 0, 0, 0] : List UInt64)) ++ ((zg ([1, 0, 0, 0] : List UInt64)) ++ (zg (zd 4 0)))))) En (Zw [(0, 4), (4, 4), (8, 4)] [⟨4, zg (zd 4 0), some (0, .agg (zc (zg ([1, 0, 0, 0] : List UInt64))), zg ([1, 0, 0, 0] : List UInt64))⟩, ⟨4, zg (zd 4 0), some (1, .agg (zc (zg ([1, 0, 0, 0] : List UInt64))), zg ([1, 0, 0, 0] : List UInt64))⟩, ⟨4, zg (zd 4 0), none⟩] (YS (za (zh)) (za (show zf ([1, 0, 0, 0] : List UInt64) = 4 from rfl)) (YS (za (zh)) (za (show zf ([1, 0, 0, 0] : List UInt64) = 4 from rfl)) (Xl (za (zh)) trivial))) _) fun _ Eo => ?_
 refine f_o <| m_z 51 ((zg (zd 4 0)) ++ ((zg (zd 4 0)) ++ (zg (zd 4 0)))) Eo Em fun _ _ Ed Ep Eq => f_o <| zW 3 12 ((zg ([1, 0, 0, 0] : List UInt64)) ++ ((zg ([1, 0, 0, 0] : List UInt64)) ++ (zg (zd 4 0)))) _ Ep Eq rfl (zp (za (show zf ([1, 0, 0, 0] : List UInt64) = 4 from rfl)) (zp (za (show zf ([1, 0, 0, 0] : List UInt64) = 4 from rfl)) (za (zh)))) (zp (za (zh)) (zp (za (zh)) (za (zh)))) (Zd (zq _) (Zd (zq _) (zq _))) rfl fun _ _ Er Es => f_e <| ze <| wp_seq <| d_s [2,3,4,5,6] [] Er fun _ Et => ?_
 refine wp_block <| loop_m (fun Eu ac wo => ∃ (j : Nat) (o : T3), Eu = (256 - j : Nat) ∧ Env ac 29 [(2, pt Eh), (3, pt Ej), (4, pt Eb), (5, pt Ed), (6, .int .i64 ((255 : Int) - ((j : Nat) : Int)))] ∧ Ev w [] wo [.box Ed ((zg o.1) ++ ((zg o.2.1) ++ (zg o.2.2))) 51, .box Eh (zg k) 24, .box Ej ((zg x) ++ ((zg y) ++ (zg z))) 51, .box Eb ((zg (zd 4 0)) ++ ((zg (zd 4 0)) ++ (zg (zd 4 0)))) 51] ∧ (j ≤ 256) ∧ (Len3 o) ∧ (o = mnF (x, y, z) (nv k) j)) ⟨_, 0, one3, rfl, Et.sb, Es.pk [3, 0, 1, 2], (by omega), one3_len, rfl⟩ ?_
 rintro EY _ _ ⟨j, o, rfl, Ew, Ee, hj, ho, he⟩
 refine wp_seq <| d_s [2,3,4,5,6,11] [] Ew fun _ Ef => ?_
 refine c_d ((255 : Int) - ((j : Nat) : Int) ≥ (0 : Int)) Ef (fun Ex => ?_) (fun Ex => ?_)
 ·
  refine wp_skip <| ze <| wp_seq <| wp_block <| wp_seq <| zj <| f_o <| Zn 0 12 ((zg o.1) ++ ((zg o.2.1) ++ (zg o.2.2))) Ef Ee rfl (zp (za ho.x) (zp (za ho.y) (za ho.z))) fun _ Ey => f_o <| c_p Ey Ee (dtwice_go _ o.1 o.2.1 o.2.2 ho.x ho.y ho.z) fun _ _ Ez EA => f_o <| zW 0 12 ((zg ((jtL (o.1, o.2.1, o.2.2)).1)) ++ ((zg ((jtL (o.1, o.2.1, o.2.2)).2.1)) ++ (zg ((jtL (o.1, o.2.1, o.2.2)).2.2)))) [.box Ed ((zg ((jtL (o.1, o.2.1, o.2.2)).1)) ++ ((zg ((jtL (o.1, o.2.1, o.2.2)).2.1)) ++ (zg ((jtL (o.1, o.2.1, o.2.2)).2.2)))) 51, .box Eh (zg k) 24, .box Ej ((zg x) ++ ((zg y) ++ (zg z))) 51, .box Eb ((zg (zd 4 0)) ++ ((zg (zd 4 0)) ++ (zg (zd 4 0)))) 51] Ez EA rfl (zp (za (ZW (o.1, o.2.1, o.2.2)).x) (zp (za (ZW (o.1, o.2.1, o.2.2)).y) (za (ZW (o.1, o.2.1, o.2.2)).z))) (zp (za ho.x) (zp (za ho.y) (za ho.z))) (Zd (zq _) (Zd (zq _) (zq _))) rfl fun _ _ EB Ec => f_e <| ze <| wp_seq <| zj <| d_k [2,3,4,5,6,17] [(0, g_i .i64 (show (255 : Int) - ((j : Nat) : Int) = ((255 - j : Nat) : Int) from by omega)), (1, g_i .i64 (show IntKind.wrap .i64 (Int.tdiv ((255 - j : Nat) : Int) (64 : Int)) = (((255 - j) / 64 : Nat) : Int) from Go.Dbr.i64_quo_nat (a := ((255 - j : Nat) : Int)) (n := 255 - j) (m := 64) rfl (by omega)))] 2 EB fun _ EC => f_o <| q_v (x := Instr.indexAt 24 (pt Eh) (ni ((255 - j) / 64))) (v := .pointer (some ⟨Eh, (255 - j) / 64, none⟩)) EC (Go.Dbr.run_indexarr (e := 22) (sz := 1) (m := 4) (j := (255 - j) / 64) (o := (255 - j) / 64) (by kernel_rfl) (by kernel_rfl) (by omega) (by omega) (by omega) _) fun _ ED => f_o ?_
  have EE : (255 - j) / 64 < zf k := by rw [hk]; omega
  refine m_v 1 ((255 - j) / 64) (uv64 (zb k ((255 - j) / 64) 0)) ED Ec rfl (u64s_getD EE) fun _ EF => d_k [2,3,4,5,6,19,21] [(4, g_i .i64 (show (255 : Int) - ((j : Nat) : Int) = ((255 - j : Nat) : Int) from by omega)), (5, g_i .i64 (show Int.tmod ((255 - j : Nat) : Int) (64 : Int) = (((255 - j) % 64 : Nat) : Int) from Go.Dbr.i64_rem_nat (a := ((255 - j : Nat) : Int)) (n := 255 - j) (m := 64) rfl (by omega)))] 6 EF fun _ EG => f_o <| q_v EG (Go.Dbr.run_shr_u64 (zb k ((255 - j) / 64) 0) .i64 ((255 - j) % 64) (by omega) _) fun _ EH => d_e [2,3,4,5,6,24] [(7, g_i .u64 (Go.Dbr.u64_and (x := (zb k ((255 - j) / 64) 0) >>> zi ((255 - j) % 64)) (y := (1 : UInt64)) rfl rfl)), (8, g_b (show (((zk (((zb k ((255 - j) / 64) 0) >>> zi ((255 - j) % 64)) &&& (1 : UInt64)) : Nat) : Int) == (1 : Int)) = (XW (nv k) (255 - j) == 1) from bit_u hk (by omega)))] EH fun _ Eg => ?_
  refine ze <| Ql Eg (t := XW (nv k) (255 - j) == 1) (by kernel_rfl) (fun Ea => ?_) (fun Ea => ?_)
  ·
   replace Ea : XW (nv k) (255 - j) = 1 := eq_of_beq Ea
   refine zj <| f_o <| Zn 0 12 ((zg ((jtL (o.1, o.2.1, o.2.2)).1)) ++ ((zg ((jtL (o.1, o.2.1, o.2.2)).2.1)) ++ (zg ((jtL (o.1, o.2.1, o.2.2)).2.2)))) Eg Ec rfl (zp (za (ZW (o.1, o.2.1, o.2.2)).x) (zp (za (ZW (o.1, o.2.1, o.2.2)).y) (za (ZW (o.1, o.2.1, o.2.2)).z))) fun _ EI => f_o <| Zn 2 12 ((zg x) ++ ((zg y) ++ (zg z))) EI Ec rfl (zp (za hx) (zp (za hy) (za hz))) fun _ EJ => f_o <| c_p EJ Ec (dplus_go _ ((jtL (o.1, o.2.1, o.2.2)).1) ((jtL (o.1, o.2.1, o.2.2)).2.1) ((jtL (o.1, o.2.1, o.2.2)).2.2) x y z (ZW (o.1, o.2.1, o.2.2)).x (ZW (o.1, o.2.1, o.2.2)).y (ZW (o.1, o.2.1, o.2.2)).z hx hy hz) fun _ _ EK EL => f_o <| zW 0 12 ((zg ((jpL ((jtL (o.1, o.2.1, o.2.2)).1, (jtL (o.1, o.2.1, o.2.2)).2.1, (jtL (o.1, o.2.1, o.2.2)).2.2) (x, y, z)).1)) ++ ((zg ((jpL ((jtL (o.1, o.2.1, o.2.2)).1, (jtL (o.1, o.2.1, o.2.2)).2.1, (jtL (o.1, o.2.1, o.2.2)).2.2) (x, y, z)).2.1)) ++ (zg ((jpL ((jtL (o.1, o.2.1, o.2.2)).1, (jtL (o.1, o.2.1, o.2.2)).2.1, (jtL (o.1, o.2.1, o.2.2)).2.2) (x, y, z)).2.2)))) _ EK EL rfl (zp (za (Xe ⟨(ZW (o.1, o.2.1, o.2.2)).x, (ZW (o.1, o.2.1, o.2.2)).y, (ZW (o.1, o.2.1, o.2.2)).z⟩ ⟨hx, hy, hz⟩).x) (zp (za (Xe ⟨(ZW (o.1, o.2.1, o.2.2)).x, (ZW (o.1, o.2.1, o.2.2)).y, (ZW (o.1, o.2.1, o.2.2)).z⟩ ⟨hx, hy, hz⟩).y) (za (Xe ⟨(ZW (o.1, o.2.1, o.2.2)).x, (ZW (o.1, o.2.1, o.2.2)).y, (ZW (o.1, o.2.1, o.2.2)).z⟩ ⟨hx, hy, hz⟩).z))) (zp (za (ZW (o.1, o.2.1, o.2.2)).x) (zp (za (ZW (o.1, o.2.1, o.2.2)).y) (za (ZW (o.1, o.2.1, o.2.2)).z))) (Zd (zq _) (Zd (zq _) (zq _))) rfl fun _ _ EM EN => f_e <| block_normal <| ze <| d_r [2,3,4,5,6] [(1, g_n (w_r (e := ((255 : Int) - ((j : Nat) : Int)) - (1 : Int)) (x := (255 : Int) - ((j + 1 : Nat) : Int)) (by omega)))] EM fun _ EO => ze <| ⟨_, ⟨j + 1, jpL (jtL o) (x, y, z), rfl, EO.sb, EN.pk [0, 1, 2, 3], (by omega), (Xe (ZW _) ⟨hx, hy, hz⟩), (mn_1 he Ea)⟩, ?_⟩
   omega
  replace Ea : ¬ (XW (nv k) (255 - j) = 1) := ne_of_beq_false Ea
  refine wp_skip <| block_normal <| ze <| d_r [2,3,4,5,6] [(1, g_n (w_r (e := ((255 : Int) - ((j : Nat) : Int)) - (1 : Int)) (x := (255 : Int) - ((j + 1 : Nat) : Int)) (by omega)))] Eg fun _ EP => ze <| ⟨_, ⟨j + 1, jtL o, rfl, EP.sb, Ec.pk [0, 1, 2, 3], (by omega), (ZW _), (mn_0 he Ea)⟩, ?_⟩
  omega
 refine wp_exit <| then_exit <| then_exit <| block_exit <| ze <| wp_seq <| zj <| f_o <| Zn 0 12 ((zg o.1) ++ ((zg o.2.1) ++ (zg o.2.2))) Ef Ee rfl (zp (za ho.x) (zp (za ho.y) (za ho.z))) fun _ EQ => f_o <| zW 3 12 ((zg o.1) ++ ((zg o.2.1) ++ (zg o.2.2))) [.box Ed ((zg o.1) ++ ((zg o.2.1) ++ (zg o.2.2))) 51, .box Eh (zg k) 24, .box Ej ((zg x) ++ ((zg y) ++ (zg z))) 51, .box Eb ((zg o.1) ++ ((zg o.2.1) ++ (zg o.2.2))) 51] EQ Ee rfl (zp (za ho.x) (zp (za ho.y) (za ho.z))) (zp (za (zh)) (zp (za (zh)) (za (zh)))) (Zd (zq _) (Zd (zq _) (zq _))) rfl fun _ _ ER Ei => f_e <| ze <| wp_ret <| zU (v := .agg (zc ((zg o.1) ++ ((zg o.2.1) ++ (zg o.2.2))))) (t := 4) (T := 51) (ad := ⟨Eb, 0, none⟩) ER (by kernel_rfl) (by kernel_rfl) (zC (t := 51) (k := 3) (off := 0) (m := 12) (xs := (zg o.1) ++ ((zg o.2.1) ++ (zg o.2.2))) Ei rfl (zn (zp (za ho.x) (zp (za ho.y) (za ho.z)))) (zp (za ho.x) (zp (za ho.y) (za ho.z))) (by kernel_rfl) (by kernel_rfl)) ?_
 have hj4 : j = 256 := by omega
 exact ⟨by rw [he, hj4], Ei.pk []⟩
theorem pmult_go (w : World) (k : List UInt64) (hk : zf k = 4) (z : Bool) (x y : List UInt64) (hx : zf x = 4) (hy : zf y = 4) : Calls zB 10 #[.agg (zc (zg k)), .agg (zc (([.bool z] : List Value) ++ ((zg x) ++ (zg y))))] w fun e w' => e = .returned (.agg (zc (([.bool ((zV (nv k) (z, x, y)).1)] : List Value) ++ ((zg ((zV (nv k) (z, x, y)).2.1)) ++ (zg ((zV (nv k) (z, x, y)).2.2)))))) ∧ Ev w [] w' [] := by
 refine d_0 [(0, .agg (zc (zg k))), (1, .agg (zc (([.bool z] : List Value) ++ ((zg x) ++ (zg y)))))] 14 Tryz.func10 Tryz.ntmps10 (Heap.nil _) fun Eu Ew Ex => wp_seq <| zj <| f_o <| m_m 24 (zg k) Ew Ex fun _ _ Et Ey Ez => f_o <| m_m 27 (([.bool z] : List Value) ++ ((zg x) ++ (zg y))) Ey Ez fun _ _ Ee EA Ei => f_o <| m_z 27 (([.bool false] : List Value) ++ ((zg (zd 4 0)) ++ (zg (zd 4 0)))) EA Ei fun _ _ Eb Ej Ef => f_e <| ze <| wp_seq <| wp_seq <| zj <| f_o <| Zn 1 9 (([.bool z] : List Value) ++ ((zg x) ++ (zg y))) Ej Ef rfl (zp rfl (zp (za hx) (za hy))) fun _ Ek => f_o <| c_p Ek Ef (on_go _ z x y hx hy) fun _ _ El Ec => ?_
 refine d_e [2,3,4,7] [] El fun _ Ed => ?_
 refine ze <| Ql Ed (t := !(onN z x y)) (by kernel_rfl) (fun Ea => ?_) (fun Ea => ?_)
 ·
  replace Ea : ¬ (onN z x y = true) := by simpa using Ea
  refine wp_seq <| zj <| f_o <| q_v (x := Instr.build 27 #[(0, .bool true)]) (v := .agg (zc (([.bool true] : List Value) ++ ((zg (zd 4 0)) ++ (zg (zd 4 0)))))) Ed (Zw [(0, 1), (1, 4), (5, 4)] [⟨1, [.bool false], some (0, .bool true, [.bool true])⟩, ⟨4, zg (zd 4 0), none⟩, ⟨4, zg (zd 4 0), none⟩] (YS rfl rfl (Xl (za (zh)) (Xl (za (zh)) trivial))) _) fun _ Em => f_o <| zW 2 9 (([.bool true] : List Value) ++ ((zg (zd 4 0)) ++ (zg (zd 4 0)))) _ Em Ec rfl (zp rfl (zp (za (zh)) (za (zh)))) (zp rfl (zp (za (zh)) (za (zh)))) (Zd (QZ (by kernel_rfl)) (Zd (zq _) (zq _))) rfl fun _ _ En Eg => f_e <| ze <| wp_ret <| z9 <| zU (v := .agg (zc (([.bool true] : List Value) ++ ((zg (zd 4 0)) ++ (zg (zd 4 0)))))) (t := 4) (T := 27) (ad := ⟨Eb, 0, none⟩) En (by kernel_rfl) (by kernel_rfl) (zC (t := 27) (k := 2) (off := 0) (m := 9) (xs := ([.bool true] : List Value) ++ ((zg (zd 4 0)) ++ (zg (zd 4 0)))) Eg rfl (zn (zp rfl (zp (za (zh)) (za (zh))))) (zp rfl (zp (za (zh)) (za (zh)))) (by kernel_rfl) (by kernel_rfl)) ?_
  exact ⟨ret_pz (a := (true, z4, z4)) (b := zV (nv k) (z, x, y)) (mulP_no Ea), Eg.pk []⟩
 replace Ea : onN z x y = true := by simpa using Ea
 refine wp_skip <| ze <| wp_seq <| r_c (fun ac wo => Env ac 14 [(3, pt Ee), (4, pt Eb)] ∧ Ev w [] wo [.box Ee (([.bool z] : List Value) ++ ((zg x) ++ (zg y))) 27, .box Eb (([.bool (bZ (zG 8 (tmF (Qe z x y) (nv k) 64)))] : List Value) ++ ((zg (bX (zD 4 (tmF (Qe z x y) (nv k) 64)) (zG 8 (tmF (Qe z x y) (nv k) 64)))) ++ (zg (bX (zD 4 (zG 4 (tmF (Qe z x y) (nv k) 64))) (zG 8 (tmF (Qe z x y) (nv k) 64)))))) 27]) ?_ ?_
 ·
  refine s_g0 [(2, pt Et), (3, pt Ee), (4, pt Eb)] [0,1,2,3,4] [(9, .agg (zc (([.bool z] : List Value) ++ ((zg x) ++ (zg y))))), (10, .agg (zc (zg (Qe z x y)))), (11, .agg (zc (zg k))), (12, .agg (zc (zg (tmF (Qe z x y) (nv k) 64)))), (13, .agg (zc (([.bool (bZ (zG 8 (tmF (Qe z x y) (nv k) 64)))] : List Value) ++ ((zg (bX (zD 4 (tmF (Qe z x y) (nv k) 64)) (zG 8 (tmF (Qe z x y) (nv k) 64)))) ++ (zg (bX (zD 4 (zG 4 (tmF (Qe z x y) (nv k) 64))) (zG 8 (tmF (Qe z x y) (nv k) 64))))))))] 1 [(3, pt Ee), (4, pt Eb), (13, .agg (zc (([.bool (bZ (zG 8 (tmF (Qe z x y) (nv k) 64)))] : List Value) ++ ((zg (bX (zD 4 (tmF (Qe z x y) (nv k) 64)) (zG 8 (tmF (Qe z x y) (nv k) 64)))) ++ (zg (bX (zD 4 (zG 4 (tmF (Qe z x y) (nv k) 64))) (zG 8 (tmF (Qe z x y) (nv k) 64))))))))] (Ed.sb) (Ec.trans (zN Ec.heap)) ?_ fun _ _ Eo Ep => ?_
  ·
   refine s_a 1 0 9 (([.bool z] : List Value) ++ ((zg x) ++ (zg y))) rfl (zn (zp rfl (zp (za hx) (za hy)))) (zp rfl (zp (za hx) (za hy))) <| s_f (fun _ => of12_go _ z x y hx hy) ?_
   refine s_a 0 0 4 (zg k) rfl (zn (za hk)) (za hk) <| s_f (fun _ => times12_go _ (Qe z x y) k (of12_len hx hy) hk) ?_
   refine s_f (fun _ => back12_go _ (tmF (Qe z x y) (nv k) 64) (tmF_len _ _ _)) ?_
   exact s_n
  refine q_u 5 ?_
  refine zW 2 9 (([.bool (bZ (zG 8 (tmF (Qe z x y) (nv k) 64)))] : List Value) ++ ((zg (bX (zD 4 (tmF (Qe z x y) (nv k) 64)) (zG 8 (tmF (Qe z x y) (nv k) 64)))) ++ (zg (bX (zD 4 (zG 4 (tmF (Qe z x y) (nv k) 64))) (zG 8 (tmF (Qe z x y) (nv k) 64)))))) [.box Et (zg k) 24, .box Ee (([.bool z] : List Value) ++ ((zg x) ++ (zg y))) 27, .box Eb (([.bool (bZ (zG 8 (tmF (Qe z x y) (nv k) 64)))] : List Value) ++ ((zg (bX (zD 4 (tmF (Qe z x y) (nv k) 64)) (zG 8 (tmF (Qe z x y) (nv k) 64)))) ++ (zg (bX (zD 4 (zG 4 (tmF (Qe z x y) (nv k) 64))) (zG 8 (tmF (Qe z x y) (nv k) 64)))))) 27] Eo Ep rfl (zp rfl (zp (za Kl) (za Kl))) (zp rfl (zp (za (zh)) (za (zh)))) (Zd (QZ (by kernel_rfl)) (Zd (zq _) (zq _))) rfl fun _ _ Eq Er => ?_
  exact a_e ⟨Eq.sb, Er.pk [1, 2]⟩
 rintro _ _ ⟨Es, Eh⟩
 refine ze <| wp_ret <| zU (v := .agg (zc (([.bool (bZ (zG 8 (tmF (Qe z x y) (nv k) 64)))] : List Value) ++ ((zg (bX (zD 4 (tmF (Qe z x y) (nv k) 64)) (zG 8 (tmF (Qe z x y) (nv k) 64)))) ++ (zg (bX (zD 4 (zG 4 (tmF (Qe z x y) (nv k) 64))) (zG 8 (tmF (Qe z x y) (nv k) 64)))))))) (t := 4) (T := 27) (ad := ⟨Eb, 0, none⟩) Es (by kernel_rfl) (by kernel_rfl) (zC (t := 27) (k := 1) (off := 0) (m := 9) (xs := ([.bool (bZ (zG 8 (tmF (Qe z x y) (nv k) 64)))] : List Value) ++ ((zg (bX (zD 4 (tmF (Qe z x y) (nv k) 64)) (zG 8 (tmF (Qe z x y) (nv k) 64)))) ++ (zg (bX (zD 4 (zG 4 (tmF (Qe z x y) (nv k) 64))) (zG 8 (tmF (Qe z x y) (nv k) 64)))))) Eh rfl (zn (zp rfl (zp (za Kl) (za Kl)))) (zp rfl (zp (za Kl) (za Kl))) (by kernel_rfl) (by kernel_rfl)) ?_
 exact ⟨ret_pz (a := (bZ (zG 8 (tmF (Qe z x y) (nv k) 64)), bX (zD 4 (tmF (Qe z x y) (nv k) 64)) (zG 8 (tmF (Qe z x y) (nv k) 64)), bX (zD 4 (zG 4 (tmF (Qe z x y) (nv k) 64))) (zG 8 (tmF (Qe z x y) (nv k) 64)))) (b := zV (nv k) (z, x, y)) ((back_ok (rep_times (rep_of hx hy Ea) (nv_lt hk))).trans (mulP_yes Ea)), Eh.pk []⟩
theorem dpmult_go (w : World) (k : List UInt64) (hk : zf k = 4) (z : Bool) (x y : List UInt64) (hx : zf x = 4) (hy : zf y = 4) : Calls zB 34 #[.agg (zc (zg k)), .agg (zc (([.bool z] : List Value) ++ ((zg x) ++ (zg y))))] w fun e w' => e = .returned (.agg (zc (([.bool ((zV (nv k) (z, x, y)).1)] : List Value) ++ ((zg ((zV (nv k) (z, x, y)).2.1)) ++ (zg ((zV (nv k) (z, x, y)).2.2)))))) ∧ Ev w [] w' [] := by
 refine d_0 [(0, .agg (zc (zg k))), (1, .agg (zc (([.bool z] : List Value) ++ ((zg x) ++ (zg y)))))] 16 Tryz.func34 Tryz.ntmps34 (Heap.nil _) fun Ew Ex Ey => wp_seq <| zj <| f_o <| m_m 24 (zg k) Ex Ey fun _ _ Eu Ez EA => f_o <| m_m 27 (([.bool z] : List Value) ++ ((zg x) ++ (zg y))) Ez EA fun _ _ Ee EB Ei => f_o <| m_z 27 (([.bool false] : List Value) ++ ((zg (zd 4 0)) ++ (zg (zd 4 0)))) EB Ei fun _ _ Eb Ej Ef => f_e <| ze <| wp_seq <| zj <| f_o <| Zn 1 9 (([.bool z] : List Value) ++ ((zg x) ++ (zg y))) Ej Ef rfl (zp rfl (zp (za hx) (za hy))) fun _ Ek => f_o <| c_p Ek Ef (don_go _ z x y hx hy) fun _ _ El Ec => ?_
 refine d_e [2,3,4,5] [] El fun _ Em => ze <| wp_seq <| d_s [2,3,4,9] [] Em fun _ Ed => ?_
 refine Ql Ed (t := !(onN z x y)) (by kernel_rfl) (fun Ea => ?_) (fun Ea => ?_)
 ·
  replace Ea : ¬ (onN z x y = true) := by simpa using Ea
  refine wp_seq <| zj <| f_o <| q_v (x := Instr.build 27 #[(0, .bool true)]) (v := .agg (zc (([.bool true] : List Value) ++ ((zg (zd 4 0)) ++ (zg (zd 4 0)))))) Ed (Zw [(0, 1), (1, 4), (5, 4)] [⟨1, [.bool false], some (0, .bool true, [.bool true])⟩, ⟨4, zg (zd 4 0), none⟩, ⟨4, zg (zd 4 0), none⟩] (YS rfl rfl (Xl (za (zh)) (Xl (za (zh)) trivial))) _) fun _ En => f_o <| zW 2 9 (([.bool true] : List Value) ++ ((zg (zd 4 0)) ++ (zg (zd 4 0)))) _ En Ec rfl (zp rfl (zp (za (zh)) (za (zh)))) (zp rfl (zp (za (zh)) (za (zh)))) (Zd (QZ (by kernel_rfl)) (Zd (zq _) (zq _))) rfl fun _ _ Eo Eg => f_e <| ze <| wp_ret <| z9 <| zU (v := .agg (zc (([.bool true] : List Value) ++ ((zg (zd 4 0)) ++ (zg (zd 4 0)))))) (t := 4) (T := 27) (ad := ⟨Eb, 0, none⟩) Eo (by kernel_rfl) (by kernel_rfl) (zC (t := 27) (k := 2) (off := 0) (m := 9) (xs := ([.bool true] : List Value) ++ ((zg (zd 4 0)) ++ (zg (zd 4 0)))) Eg rfl (zn (zp rfl (zp (za (zh)) (za (zh))))) (zp rfl (zp (za (zh)) (za (zh)))) (by kernel_rfl) (by kernel_rfl)) ?_
  exact ⟨ret_pz (a := (true, z4, z4)) (b := zV (nv k) (z, x, y)) (mulP_no Ea), Eg.pk []⟩
 replace Ea : onN z x y = true := by simpa using Ea
 refine wp_skip <| ze <| wp_seq <| r_c (fun ac wo => Env ac 16 [(3, pt Ee), (4, pt Eb)] ∧ Ev w [] wo [.box Ee (([.bool z] : List Value) ++ ((zg x) ++ (zg y))) 27, .box Eb (([.bool ((bkJ ((mnF ((ofJ z x y).1, (ofJ z x y).2.1, (ofJ z x y).2.2) (nv k) 256).1, (mnF ((ofJ z x y).1, (ofJ z x y).2.1, (ofJ z x y).2.2) (nv k) 256).2.1, (mnF ((ofJ z x y).1, (ofJ z x y).2.1, (ofJ z x y).2.2) (nv k) 256).2.2)).1)] : List Value) ++ ((zg ((bkJ ((mnF ((ofJ z x y).1, (ofJ z x y).2.1, (ofJ z x y).2.2) (nv k) 256).1, (mnF ((ofJ z x y).1, (ofJ z x y).2.1, (ofJ z x y).2.2) (nv k) 256).2.1, (mnF ((ofJ z x y).1, (ofJ z x y).2.1, (ofJ z x y).2.2) (nv k) 256).2.2)).2.1)) ++ (zg ((bkJ ((mnF ((ofJ z x y).1, (ofJ z x y).2.1, (ofJ z x y).2.2) (nv k) 256).1, (mnF ((ofJ z x y).1, (ofJ z x y).2.1, (ofJ z x y).2.2) (nv k) 256).2.1, (mnF ((ofJ z x y).1, (ofJ z x y).2.1, (ofJ z x y).2.2) (nv k) 256).2.2)).2.2)))) 27]) ?_ ?_
 ·
  refine s_g0 [(2, pt Eu), (3, pt Ee), (4, pt Eb)] [0,1,2,3,4] [(11, .agg (zc (zg k))), (12, .agg (zc (([.bool z] : List Value) ++ ((zg x) ++ (zg y))))), (13, .agg (zc ((zg ((ofJ z x y).1)) ++ ((zg ((ofJ z x y).2.1)) ++ (zg ((ofJ z x y).2.2)))))), (14, .agg (zc ((zg ((mnF ((ofJ z x y).1, (ofJ z x y).2.1, (ofJ z x y).2.2) (nv k) 256).1)) ++ ((zg ((mnF ((ofJ z x y).1, (ofJ z x y).2.1, (ofJ z x y).2.2) (nv k) 256).2.1)) ++ (zg ((mnF ((ofJ z x y).1, (ofJ z x y).2.1, (ofJ z x y).2.2) (nv k) 256).2.2)))))), (15, .agg (zc (([.bool ((bkJ ((mnF ((ofJ z x y).1, (ofJ z x y).2.1, (ofJ z x y).2.2) (nv k) 256).1, (mnF ((ofJ z x y).1, (ofJ z x y).2.1, (ofJ z x y).2.2) (nv k) 256).2.1, (mnF ((ofJ z x y).1, (ofJ z x y).2.1, (ofJ z x y).2.2) (nv k) 256).2.2)).1)] : List Value) ++ ((zg ((bkJ ((mnF ((ofJ z x y).1, (ofJ z x y).2.1, (ofJ z x y).2.2) (nv k) 256).1, (mnF ((ofJ z x y).1, (ofJ z x y).2.1, (ofJ z x y).2.2) (nv k) 256).2.1, (mnF ((ofJ z x y).1, (ofJ z x y).2.1, (ofJ z x y).2.2) (nv k) 256).2.2)).2.1)) ++ (zg ((bkJ ((mnF ((ofJ z x y).1, (ofJ z x y).2.1, (ofJ z x y).2.2) (nv k) 256).1, (mnF ((ofJ z x y).1, (ofJ z x y).2.1, (ofJ z x y).2.2) (nv k) 256).2.1, (mnF ((ofJ z x y).1, (ofJ z x y).2.1, (ofJ z x y).2.2) (nv k) 256).2.2)).2.2))))))] 1 [(3, pt Ee), (4, pt Eb), (15, .agg (zc (([.bool ((bkJ ((mnF ((ofJ z x y).1, (ofJ z x y).2.1, (ofJ z x y).2.2) (nv k) 256).1, (mnF ((ofJ z x y).1, (ofJ z x y).2.1, (ofJ z x y).2.2) (nv k) 256).2.1, (mnF ((ofJ z x y).1, (ofJ z x y).2.1, (ofJ z x y).2.2) (nv k) 256).2.2)).1)] : List Value) ++ ((zg ((bkJ ((mnF ((ofJ z x y).1, (ofJ z x y).2.1, (ofJ z x y).2.2) (nv k) 256).1, (mnF ((ofJ z x y).1, (ofJ z x y).2.1, (ofJ z x y).2.2) (nv k) 256).2.1, (mnF ((ofJ z x y).1, (ofJ z x y).2.1, (ofJ z x y).2.2) (nv k) 256).2.2)).2.1)) ++ (zg ((bkJ ((mnF ((ofJ z x y).1, (ofJ z x y).2.1, (ofJ z x y).2.2) (nv k) 256).1, (mnF ((ofJ z x y).1, (ofJ z x y).2.1, (ofJ z x y).2.2) (nv k) 256).2.1, (mnF ((ofJ z x y).1, (ofJ z x y).2.1, (ofJ z x y).2.2) (nv k) 256).2.2)).2.2))))))] (Ed.sb) (Ec.trans (zN Ec.heap)) ?_ fun _ _ Ep Eq => ?_
  ·
   refine s_a 0 0 4 (zg k) rfl (zn (za hk)) (za hk) <| s_a 1 0 9 (([.bool z] : List Value) ++ ((zg x) ++ (zg y))) rfl (zn (zp rfl (zp (za hx) (za hy)))) (zp rfl (zp (za hx) (za hy))) <| s_f (fun _ => dof_go _ z x y hx hy) ?_
   refine s_f (fun _ => dmany_go _ k hk ((ofJ z x y).1) ((ofJ z x y).2.1) ((ofJ z x y).2.2) (ZZ hx hy).x (ZZ hx hy).y (ZZ hx hy).z) ?_
   refine s_f (fun _ => dback_go _ ((mnF ((ofJ z x y).1, (ofJ z x y).2.1, (ofJ z x y).2.2) (nv k) 256).1) ((mnF ((ofJ z x y).1, (ofJ z x y).2.1, (ofJ z x y).2.2) (nv k) 256).2.1) ((mnF ((ofJ z x y).1, (ofJ z x y).2.1, (ofJ z x y).2.2) (nv k) 256).2.2) (mnF_len ⟨(ZZ hx hy).x, (ZZ hx hy).y, (ZZ hx hy).z⟩ _ _).x (mnF_len ⟨(ZZ hx hy).x, (ZZ hx hy).y, (ZZ hx hy).z⟩ _ _).y (mnF_len ⟨(ZZ hx hy).x, (ZZ hx hy).y, (ZZ hx hy).z⟩ _ _).z) ?_
   exact s_n
  refine q_u 5 ?_
  refine zW 2 9 (([.bool ((bkJ ((mnF ((ofJ z x y).1, (ofJ z x y).2.1, (ofJ z x y).2.2) (nv k) 256).1, (mnF ((ofJ z x y).1, (ofJ z x y).2.1, (ofJ z x y).2.2) (nv k) 256).2.1, (mnF ((ofJ z x y).1, (ofJ z x y).2.1, (ofJ z x y).2.2) (nv k) 256).2.2)).1)] : List Value) ++ ((zg ((bkJ ((mnF ((ofJ z x y).1, (ofJ z x y).2.1, (ofJ z x y).2.2) (nv k) 256).1, (mnF ((ofJ z x y).1, (ofJ z x y).2.1, (ofJ z x y).2.2) (nv k) 256).2.1, (mnF ((ofJ z x y).1, (ofJ z x y).2.1, (ofJ z x y).2.2) (nv k) 256).2.2)).2.1)) ++ (zg ((bkJ ((mnF ((ofJ z x y).1, (ofJ z x y).2.1, (ofJ z x y).2.2) (nv k) 256).1, (mnF ((ofJ z x y).1, (ofJ z x y).2.1, (ofJ z x y).2.2) (nv k) 256).2.1, (mnF ((ofJ z x y).1, (ofJ z x y).2.1, (ofJ z x y).2.2) (nv k) 256).2.2)).2.2)))) [.box Eu (zg k) 24, .box Ee (([.bool z] : List Value) ++ ((zg x) ++ (zg y))) 27, .box Eb (([.bool ((bkJ ((mnF ((ofJ z x y).1, (ofJ z x y).2.1, (ofJ z x y).2.2) (nv k) 256).1, (mnF ((ofJ z x y).1, (ofJ z x y).2.1, (ofJ z x y).2.2) (nv k) 256).2.1, (mnF ((ofJ z x y).1, (ofJ z x y).2.1, (ofJ z x y).2.2) (nv k) 256).2.2)).1)] : List Value) ++ ((zg ((bkJ ((mnF ((ofJ z x y).1, (ofJ z x y).2.1, (ofJ z x y).2.2) (nv k) 256).1, (mnF ((ofJ z x y).1, (ofJ z x y).2.1, (ofJ z x y).2.2) (nv k) 256).2.1, (mnF ((ofJ z x y).1, (ofJ z x y).2.1, (ofJ z x y).2.2) (nv k) 256).2.2)).2.1)) ++ (zg ((bkJ ((mnF ((ofJ z x y).1, (ofJ z x y).2.1, (ofJ z x y).2.2) (nv k) 256).1, (mnF ((ofJ z x y).1, (ofJ z x y).2.1, (ofJ z x y).2.2) (nv k) 256).2.1, (mnF ((ofJ z x y).1, (ofJ z x y).2.1, (ofJ z x y).2.2) (nv k) 256).2.2)).2.2)))) 27] Ep Eq rfl (zp rfl (zp (za (bkJ_len ((mnF ((ofJ z x y).1, (ofJ z x y).2.1, (ofJ z x y).2.2) (nv k) 256).1, (mnF ((ofJ z x y).1, (ofJ z x y).2.1, (ofJ z x y).2.2) (nv k) 256).2.1, (mnF ((ofJ z x y).1, (ofJ z x y).2.1, (ofJ z x y).2.2) (nv k) 256).2.2)).1) (za (bkJ_len ((mnF ((ofJ z x y).1, (ofJ z x y).2.1, (ofJ z x y).2.2) (nv k) 256).1, (mnF ((ofJ z x y).1, (ofJ z x y).2.1, (ofJ z x y).2.2) (nv k) 256).2.1, (mnF ((ofJ z x y).1, (ofJ z x y).2.1, (ofJ z x y).2.2) (nv k) 256).2.2)).2))) (zp rfl (zp (za (zh)) (za (zh)))) (Zd (QZ (by kernel_rfl)) (Zd (zq _) (zq _))) rfl fun _ _ Er Es => ?_
  exact a_e ⟨Er.sb, Es.pk [1, 2]⟩
 rintro _ _ ⟨Et, Eh⟩
 refine ze <| wp_ret <| zU (v := .agg (zc (([.bool ((bkJ ((mnF ((ofJ z x y).1, (ofJ z x y).2.1, (ofJ z x y).2.2) (nv k) 256).1, (mnF ((ofJ z x y).1, (ofJ z x y).2.1, (ofJ z x y).2.2) (nv k) 256).2.1, (mnF ((ofJ z x y).1, (ofJ z x y).2.1, (ofJ z x y).2.2) (nv k) 256).2.2)).1)] : List Value) ++ ((zg ((bkJ ((mnF ((ofJ z x y).1, (ofJ z x y).2.1, (ofJ z x y).2.2) (nv k) 256).1, (mnF ((ofJ z x y).1, (ofJ z x y).2.1, (ofJ z x y).2.2) (nv k) 256).2.1, (mnF ((ofJ z x y).1, (ofJ z x y).2.1, (ofJ z x y).2.2) (nv k) 256).2.2)).2.1)) ++ (zg ((bkJ ((mnF ((ofJ z x y).1, (ofJ z x y).2.1, (ofJ z x y).2.2) (nv k) 256).1, (mnF ((ofJ z x y).1, (ofJ z x y).2.1, (ofJ z x y).2.2) (nv k) 256).2.1, (mnF ((ofJ z x y).1, (ofJ z x y).2.1, (ofJ z x y).2.2) (nv k) 256).2.2)).2.2)))))) (t := 4) (T := 27) (ad := ⟨Eb, 0, none⟩) Et (by kernel_rfl) (by kernel_rfl) (zC (t := 27) (k := 1) (off := 0) (m := 9) (xs := ([.bool ((bkJ ((mnF ((ofJ z x y).1, (ofJ z x y).2.1, (ofJ z x y).2.2) (nv k) 256).1, (mnF ((ofJ z x y).1, (ofJ z x y).2.1, (ofJ z x y).2.2) (nv k) 256).2.1, (mnF ((ofJ z x y).1, (ofJ z x y).2.1, (ofJ z x y).2.2) (nv k) 256).2.2)).1)] : List Value) ++ ((zg ((bkJ ((mnF ((ofJ z x y).1, (ofJ z x y).2.1, (ofJ z x y).2.2) (nv k) 256).1, (mnF ((ofJ z x y).1, (ofJ z x y).2.1, (ofJ z x y).2.2) (nv k) 256).2.1, (mnF ((ofJ z x y).1, (ofJ z x y).2.1, (ofJ z x y).2.2) (nv k) 256).2.2)).2.1)) ++ (zg ((bkJ ((mnF ((ofJ z x y).1, (ofJ z x y).2.1, (ofJ z x y).2.2) (nv k) 256).1, (mnF ((ofJ z x y).1, (ofJ z x y).2.1, (ofJ z x y).2.2) (nv k) 256).2.1, (mnF ((ofJ z x y).1, (ofJ z x y).2.1, (ofJ z x y).2.2) (nv k) 256).2.2)).2.2)))) Eh rfl (zn (zp rfl (zp (za (bkJ_len ((mnF ((ofJ z x y).1, (ofJ z x y).2.1, (ofJ z x y).2.2) (nv k) 256).1, (mnF ((ofJ z x y).1, (ofJ z x y).2.1, (ofJ z x y).2.2) (nv k) 256).2.1, (mnF ((ofJ z x y).1, (ofJ z x y).2.1, (ofJ z x y).2.2) (nv k) 256).2.2)).1) (za (bkJ_len ((mnF ((ofJ z x y).1, (ofJ z x y).2.1, (ofJ z x y).2.2) (nv k) 256).1, (mnF ((ofJ z x y).1, (ofJ z x y).2.1, (ofJ z x y).2.2) (nv k) 256).2.1, (mnF ((ofJ z x y).1, (ofJ z x y).2.1, (ofJ z x y).2.2) (nv k) 256).2.2)).2)))) (zp rfl (zp (za (bkJ_len ((mnF ((ofJ z x y).1, (ofJ z x y).2.1, (ofJ z x y).2.2) (nv k) 256).1, (mnF ((ofJ z x y).1, (ofJ z x y).2.1, (ofJ z x y).2.2) (nv k) 256).2.1, (mnF ((ofJ z x y).1, (ofJ z x y).2.1, (ofJ z x y).2.2) (nv k) 256).2.2)).1) (za (bkJ_len ((mnF ((ofJ z x y).1, (ofJ z x y).2.1, (ofJ z x y).2.2) (nv k) 256).1, (mnF ((ofJ z x y).1, (ofJ z x y).2.1, (ofJ z x y).2.2) (nv k) 256).2.1, (mnF ((ofJ z x y).1, (ofJ z x y).2.1, (ofJ z x y).2.2) (nv k) 256).2.2)).2))) (by kernel_rfl) (by kernel_rfl)) ?_
 exact ⟨ret_pz (a := ((bkJ ((mnF ((ofJ z x y).1, (ofJ z x y).2.1, (ofJ z x y).2.2) (nv k) 256).1, (mnF ((ofJ z x y).1, (ofJ z x y).2.1, (ofJ z x y).2.2) (nv k) 256).2.1, (mnF ((ofJ z x y).1, (ofJ z x y).2.1, (ofJ z x y).2.2) (nv k) 256).2.2)).1, (bkJ ((mnF ((ofJ z x y).1, (ofJ z x y).2.1, (ofJ z x y).2.2) (nv k) 256).1, (mnF ((ofJ z x y).1, (ofJ z x y).2.1, (ofJ z x y).2.2) (nv k) 256).2.1, (mnF ((ofJ z x y).1, (ofJ z x y).2.1, (ofJ z x y).2.2) (nv k) 256).2.2)).2.1, (bkJ ((mnF ((ofJ z x y).1, (ofJ z x y).2.1, (ofJ z x y).2.2) (nv k) 256).1, (mnF ((ofJ z x y).1, (ofJ z x y).2.1, (ofJ z x y).2.2) (nv k) 256).2.1, (mnF ((ofJ z x y).1, (ofJ z x y).2.1, (ofJ z x y).2.2) (nv k) 256).2.2)).2.2)) (b := zV (nv k) (z, x, y)) ((bkJ_ok (rep_many (rep_ofJ hx hy Ea) (nv_lt hk))).trans (mulP_yes Ea)), Eh.pk []⟩
theorem pbase_go (w : World) : Calls zB 11 #[] w fun e w' => e = .returned (.agg (zc (([.bool false] : List Value) ++ ((zg (nd GX)) ++ (zg (nd GY)))))) ∧ Ev w [] w' [] := by
 refine d_0 [] 4 Tryz.func11 Tryz.ntmps11 (Heap.nil _) fun Ec Ed Ee => wp_seq <| zj <| f_o <| m_z 27 (([.bool false] : List Value) ++ ((zg (zd 4 0)) ++ (zg (zd 4 0)))) Ed Ee fun _ _ Ef Eg Eh => f_e <| ze <| wp_seq <| zj <| d_k [0,1,2] [] 2 Eg fun _ Ei => f_o <| q_v (x := Instr.build 27 #[(1, .agg (zc (zg ([17627433388654248598, 8575836109218198432, 17923454489921339634, 7716867327612699207] : List UInt64)))), (2, .agg (zc (zg ([14678990851816772085, 3156516839386865358, 10297457778147434006, 5756518291402817435] : List UInt64))))]) (v := .agg (zc (([.bool false] : List Value) ++ ((zg ([17627433388654248598, 8575836109218198432, 17923454489921339634, 7716867327612699207] : List UInt64)) ++ (zg ([14678990851816772085, 3156516839386865358, 10297457778147434006, 5756518291402817435] : List UInt64)))))) Ei (Zw [(0, 1), (1, 4), (5, 4)] [⟨1, [.bool false], none⟩, ⟨4, zg (zd 4 0), some (1, .agg (zc (zg ([17627433388654248598, 8575836109218198432, 17923454489921339634, 7716867327612699207] : List UInt64))), zg ([17627433388654248598, 8575836109218198432, 17923454489921339634, 7716867327612699207] : List UInt64))⟩, ⟨4, zg (zd 4 0), some (2, .agg (zc (zg ([14678990851816772085, 3156516839386865358, 10297457778147434006, 5756518291402817435] : List UInt64))), zg ([14678990851816772085, 3156516839386865358, 10297457778147434006, 5756518291402817435] : List UInt64))⟩] (Xl rfl (YS (za (zh)) (za (show zf ([17627433388654248598, 8575836109218198432, 17923454489921339634, 7716867327612699207] : List UInt64) = 4 from rfl)) (YS (za (zh)) (za (show zf ([14678990851816772085, 3156516839386865358, 10297457778147434006, 5756518291402817435] : List UInt64) = 4 from rfl)) trivial))) _) fun _ Ej => f_o <| zW 0 9 (([.bool false] : List Value) ++ ((zg ([17627433388654248598, 8575836109218198432, 17923454489921339634, 7716867327612699207] : List UInt64)) ++ (zg ([14678990851816772085, 3156516839386865358, 10297457778147434006, 5756518291402817435] : List UInt64)))) _ Ej Eh rfl (zp rfl (zp (za (show zf ([17627433388654248598, 8575836109218198432, 17923454489921339634, 7716867327612699207] : List UInt64) = 4 from rfl)) (za (show zf ([14678990851816772085, 3156516839386865358, 10297457778147434006, 5756518291402817435] : List UInt64) = 4 from rfl)))) (zp rfl (zp (za (zh)) (za (zh)))) (Zd (QZ (by kernel_rfl)) (Zd (zq _) (zq _))) rfl fun _ _ Eb Ea => f_e <| ze <| wp_ret <| zU (v := .agg (zc (([.bool false] : List Value) ++ ((zg ([17627433388654248598, 8575836109218198432, 17923454489921339634, 7716867327612699207] : List UInt64)) ++ (zg ([14678990851816772085, 3156516839386865358, 10297457778147434006, 5756518291402817435] : List UInt64)))))) (t := 0) (T := 27) (ad := ⟨Ef, 0, none⟩) Eb (by kernel_rfl) (by kernel_rfl) (zC (t := 27) (k := 0) (off := 0) (m := 9) (xs := ([.bool false] : List Value) ++ ((zg ([17627433388654248598, 8575836109218198432, 17923454489921339634, 7716867327612699207] : List UInt64)) ++ (zg ([14678990851816772085, 3156516839386865358, 10297457778147434006, 5756518291402817435] : List UInt64)))) Ea rfl (zn (zp rfl (zp (za (show zf ([17627433388654248598, 8575836109218198432, 17923454489921339634, 7716867327612699207] : List UInt64) = 4 from rfl)) (za (show zf ([14678990851816772085, 3156516839386865358, 10297457778147434006, 5756518291402817435] : List UInt64) = 4 from rfl))))) (zp rfl (zp (za (show zf ([17627433388654248598, 8575836109218198432, 17923454489921339634, 7716867327612699207] : List UInt64) = 4 from rfl)) (za (show zf ([14678990851816772085, 3156516839386865358, 10297457778147434006, 5756518291402817435] : List UInt64) = 4 from rfl)))) (by kernel_rfl) (by kernel_rfl)) ?_
 exact ⟨by kernel_rfl, Ea.pk []⟩
theorem dbase_go (w : World) : Calls zB 28 #[] w fun e w' => e = .returned (.agg (zc (([.bool false] : List Value) ++ ((zg (nd GX)) ++ (zg (nd GY)))))) ∧ Ev w [] w' [] := by
 refine d_0 [] 4 Tryz.func28 Tryz.ntmps28 (Heap.nil _) fun Ec Ed Ee => wp_seq <| zj <| f_o <| m_z 27 (([.bool false] : List Value) ++ ((zg (zd 4 0)) ++ (zg (zd 4 0)))) Ed Ee fun _ _ Ef Eg Eh => f_e <| ze <| wp_seq <| zj <| d_k [0,1,2] [] 2 Eg fun _ Ei => f_o <| q_v (x := Instr.build 27 #[(1, .agg (zc (zg ([17627433388654248598, 8575836109218198432, 17923454489921339634, 7716867327612699207] : List UInt64)))), (2, .agg (zc (zg ([14678990851816772085, 3156516839386865358, 10297457778147434006, 5756518291402817435] : List UInt64))))]) (v := .agg (zc (([.bool false] : List Value) ++ ((zg ([17627433388654248598, 8575836109218198432, 17923454489921339634, 7716867327612699207] : List UInt64)) ++ (zg ([14678990851816772085, 3156516839386865358, 10297457778147434006, 5756518291402817435] : List UInt64)))))) Ei (Zw [(0, 1), (1, 4), (5, 4)] [⟨1, [.bool false], none⟩, ⟨4, zg (zd 4 0), some (1, .agg (zc (zg ([17627433388654248598, 8575836109218198432, 17923454489921339634, 7716867327612699207] : List UInt64))), zg ([17627433388654248598, 8575836109218198432, 17923454489921339634, 7716867327612699207] : List UInt64))⟩, ⟨4, zg (zd 4 0), some (2, .agg (zc (zg ([14678990851816772085, 3156516839386865358, 10297457778147434006, 5756518291402817435] : List UInt64))), zg ([14678990851816772085, 3156516839386865358, 10297457778147434006, 5756518291402817435] : List UInt64))⟩] (Xl rfl (YS (za (zh)) (za (show zf ([17627433388654248598, 8575836109218198432, 17923454489921339634, 7716867327612699207] : List UInt64) = 4 from rfl)) (YS (za (zh)) (za (show zf ([14678990851816772085, 3156516839386865358, 10297457778147434006, 5756518291402817435] : List UInt64) = 4 from rfl)) trivial))) _) fun _ Ej => f_o <| zW 0 9 (([.bool false] : List Value) ++ ((zg ([17627433388654248598, 8575836109218198432, 17923454489921339634, 7716867327612699207] : List UInt64)) ++ (zg ([14678990851816772085, 3156516839386865358, 10297457778147434006, 5756518291402817435] : List UInt64)))) _ Ej Eh rfl (zp rfl (zp (za (show zf ([17627433388654248598, 8575836109218198432, 17923454489921339634, 7716867327612699207] : List UInt64) = 4 from rfl)) (za (show zf ([14678990851816772085, 3156516839386865358, 10297457778147434006, 5756518291402817435] : List UInt64) = 4 from rfl)))) (zp rfl (zp (za (zh)) (za (zh)))) (Zd (QZ (by kernel_rfl)) (Zd (zq _) (zq _))) rfl fun _ _ Eb Ea => f_e <| ze <| wp_ret <| zU (v := .agg (zc (([.bool false] : List Value) ++ ((zg ([17627433388654248598, 8575836109218198432, 17923454489921339634, 7716867327612699207] : List UInt64)) ++ (zg ([14678990851816772085, 3156516839386865358, 10297457778147434006, 5756518291402817435] : List UInt64)))))) (t := 0) (T := 27) (ad := ⟨Ef, 0, none⟩) Eb (by kernel_rfl) (by kernel_rfl) (zC (t := 27) (k := 0) (off := 0) (m := 9) (xs := ([.bool false] : List Value) ++ ((zg ([17627433388654248598, 8575836109218198432, 17923454489921339634, 7716867327612699207] : List UInt64)) ++ (zg ([14678990851816772085, 3156516839386865358, 10297457778147434006, 5756518291402817435] : List UInt64)))) Ea rfl (zn (zp rfl (zp (za (show zf ([17627433388654248598, 8575836109218198432, 17923454489921339634, 7716867327612699207] : List UInt64) = 4 from rfl)) (za (show zf ([14678990851816772085, 3156516839386865358, 10297457778147434006, 5756518291402817435] : List UInt64) = 4 from rfl))))) (zp rfl (zp (za (show zf ([17627433388654248598, 8575836109218198432, 17923454489921339634, 7716867327612699207] : List UInt64) = 4 from rfl)) (za (show zf ([14678990851816772085, 3156516839386865358, 10297457778147434006, 5756518291402817435] : List UInt64) = 4 from rfl)))) (by kernel_rfl) (by kernel_rfl)) ?_
 exact ⟨by kernel_rfl, Ea.pk []⟩
end Go.Proofs.YtpfhmbbiadpbeaaGreat
