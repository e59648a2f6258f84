import Derived.Test.YtpfhmbbiadpbeaaGreatVp12
open Go.Dbr renaming u64s_lenh → za, then_normal → ze, u64s → zg, region_from → zj, load_whole → zn, len_app → zp, u64s_one → zq, run_indexarr → zs, block_normal → zw, run_indexsl → zy, then_exit → zF, u64s_getD → zO, m_gw → zW, block_exit → zX, then_ret → z9, one_app → Zd, bys_lenh → Zi, m_aw → Zn, op_append → ZA, bys_one → ZG, d_ret1 → ZH, bys_append → ZM, i64_quo_nat → ZN, i64_rem_nat → ZQ, loop_m → ZT, op_slicearr → ZU, bys_len → Z9, h_from → Qd, bys_nil_append → QG, bys_lenn → Q7, bys_in → Ye, bys_vnz → Yk, op_lit → Yn, u64s_neop → Yx, h_ways → YB, h_to → YK, u64_xor → YV, run_shl_u64 → Jj
open List renaming getD → zb, toArray → zc, replicate → zd, length → zf, length_replicate → zh, reverse → zr, set → zt, length_append → zE, length_cons → zL, length_nil → Zb
open UInt64 renaming ofNat → zi
open Go.Proofs.YtpfhmbbiadpbeaaGreat renaming nds_len → zl, mulM → zo, powM → zK, mulP → zV, addM → z5, mulP_len → Zk, rev_len → Yd, lb_len → Yv, verP → Jo, codeW_go → Jx, pverify_go → XD, dverify_go → XE, point_go → Kx
open Go.Proofs.Tryz renaming prog → zB
open Go.Dbr.Ev renaming cellAgg → zC, drew → zN
open Nat renaming mul_one → zI
open Bool renaming eq_false_or_eq_true → zM
open Go.Dbr.Reads renaming src → Zz
open UInt8 renaming ofNat → Qx
open Int renaming tdiv → Yj, tmod → YG
set_option maxRecDepth 100000
set_option maxHeartbeats 2000000
set_option linter.unusedVariables false
set_option linter.unusedSimpArgs false
namespace Go.Proofs.YtpfhmbbiadpbeaaGreat
open Go.Dbr
end Go.Proofs.YtpfhmbbiadpbeaaGreat
namespace Go.Dbr
theorem d_cell_ct {P : Program} {fn : Func} {R : Ending → World → Prop} {n : Nat} {l : List (Nat × Value)} {a : Act} {w : World} (E : Env a n l) {t u s : Nat} {T U : TypeId} {ad bd : Addr} {v x y : Value} (hr : fn.results = #[.cell t T, .cell u U, .tmp s]) (ht : look l t = some (.pointer (some ad))) (hv : (loadVar T ad).run P w = .ok v w) (hu : look l u = some (.pointer (some bd))) (hx : (loadVar U bd).run P w = .ok x w) (hy : look l s = some y) (h : R (.returned (.tuple #[v, x, y])) w) : bodyPost P fn R .ret a w := by
  refine bodyPost_ret (v := .tuple #[v, x, y]) ?_ E.defers h
  simp [results, hr, E.getQ ht, E.getQ hu, E.getQ hy, asAddr, hv, hx]
end Go.Dbr
namespace Go.Proofs.YtpfhmbbiadpbeaaGreat
open Go.Dbr
theorem signW_go (w : World) (d : List UInt64) (hd : zf d = 4) (am : Option Addr) (nm cm : Nat) (lm : List UInt8) (em : nm = zf lm) (im : InB w [] am cm lm) : Calls zB 7 #[.agg (zc (zg d)), .slice am nm cm] w fun e w' => ∃ a b er, e = .returned (.tuple #[.agg (zc (zg a)), .agg (zc (zg b)), .int .i64 er]) ∧ Ev w [] w' [] ∧ zf a = 4 ∧ zf b = 4 := by
 subst em
 have hs := im.small
 have hcm := im.cap
 refine d_0 [(0, .agg (zc (zg d))), (1, .slice am (zf lm) cm)] 130 Tryz.func7 Tryz.ntmps7 (Heap.nil _) fun eY eZ e0 => wp_seq <| zj <| f_o <| m_m 24 (zg d) eZ e0 fun _ _ Em e1 e2 => f_o <| m_z 24 (zg (zd 4 0)) e1 e2 fun _ _ Ek e3 d1 => f_o <| m_z 24 (zg (zd 4 0)) e3 d1 fun _ _ Ec d2 bk => d_e [1,2,4,5,6] [] d2 fun _ d3 => ze <| wp_seq <| zj <| f_o <| Zn 0 4 (zg d) d3 bk rfl (za hd) fun _ d4 => ?_
 refine f_o <| c_p d4 bk (dmay_go _ d hd) fun _ _ d5 HC => d_e [1,2,4,5,6,7] [] d5 fun _ d6 => ze <| wp_seq <| wp_seq <| zj <| d_k [1,2,4,5,6,27] [] 3 d6 fun _ bm => ?_
 rcases zM (!(mayN d)) with EU | EU
 ·
  have d7 := bm.fx (t := 27) (congrArg Value.bool EU)
  have hp33 : ¬ (mayN d = true) := by simpa using EU
  refine d_e [1,2,4,5,6,31] [] d7 fun _ bn => ze <| c_t bn ?_
  refine wp_seq <| zj <| d_k [1,2,4,5,6,32,33] [] 2 bn fun _ d8 => f_o <| zW 1 4 (zg ([0, 0, 0, 0] : List UInt64)) _ d8 HC rfl (za (show zf ([0, 0, 0, 0] : List UInt64) = 4 from rfl)) (za (zh)) (zq _) rfl fun _ _ d9 ea => f_o <| zW 2 4 (zg ([0, 0, 0, 0] : List UInt64)) [.box Em (zg d) 24, .box Ek (zg ([0, 0, 0, 0] : List UInt64)) 24, .box Ec (zg ([0, 0, 0, 0] : List UInt64)) 24] d9 ea rfl (za (show zf ([0, 0, 0, 0] : List UInt64) = 4 from rfl)) (za (zh)) (zq _) rfl fun _ _ eb an => d_e [1,2,4,5,6] [] eb fun _ ec => ze <| wp_ret <| z9 <| d_cell_ct (v := .agg (zc (zg ([0, 0, 0, 0] : List UInt64)))) (x := .agg (zc (zg ([0, 0, 0, 0] : List UInt64)))) (y := .int .i64 132) (t := 4) (T := 24) (ad := ⟨Ek, 0, none⟩) (u := 5) (U := 24) (bd := ⟨Ec, 0, none⟩) (s := 6) ec (by kernel_rfl) (by kernel_rfl) (zC (t := 24) (k := 1) (off := 0) (m := 4) (xs := zg ([0, 0, 0, 0] : List UInt64)) an rfl (zn (za (show zf ([0, 0, 0, 0] : List UInt64) = 4 from rfl))) (za (show zf ([0, 0, 0, 0] : List UInt64) = 4 from rfl)) (by kernel_rfl) (by kernel_rfl)) (by kernel_rfl) (zC (t := 24) (k := 2) (off := 0) (m := 4) (xs := zg ([0, 0, 0, 0] : List UInt64)) an rfl (zn (za (show zf ([0, 0, 0, 0] : List UInt64) = 4 from rfl))) (za (show zf ([0, 0, 0, 0] : List UInt64) = 4 from rfl)) (by kernel_rfl) (by kernel_rfl)) (by kernel_rfl) ?_
  exact ⟨_, _, _, rfl, an.pk [], (show zf ([0, 0, 0, 0] : List UInt64) = 4 from rfl), (show zf ([0, 0, 0, 0] : List UInt64) = 4 from rfl)⟩
 have ed := bm.fx (t := 27) (congrArg Value.bool EU)
 have hp49 : mayN d = true := by simpa using EU
 refine d_e [1,2,4,5,6,31] [] ed fun _ ap => ?_
 refine ze <| c_n ((zf lm : Nat) : Int) (32 : Int) ap (fun ee => ?_) (fun ee => ?_)
 ·
  refine wp_seq <| zj <| d_k [1,2,4,5,6,32,33] [] 2 ap fun _ ef => f_o <| zW 1 4 (zg ([0, 0, 0, 0] : List UInt64)) _ ef HC rfl (za (show zf ([0, 0, 0, 0] : List UInt64) = 4 from rfl)) (za (zh)) (zq _) rfl fun _ _ eg eh => f_o <| zW 2 4 (zg ([0, 0, 0, 0] : List UInt64)) [.box Em (zg d) 24, .box Ek (zg ([0, 0, 0, 0] : List UInt64)) 24, .box Ec (zg ([0, 0, 0, 0] : List UInt64)) 24] eg eh rfl (za (show zf ([0, 0, 0, 0] : List UInt64) = 4 from rfl)) (za (zh)) (zq _) rfl fun _ _ ei aq => d_e [1,2,4,5,6] [] ei fun _ ej => ze <| wp_ret <| z9 <| d_cell_ct (v := .agg (zc (zg ([0, 0, 0, 0] : List UInt64)))) (x := .agg (zc (zg ([0, 0, 0, 0] : List UInt64)))) (y := .int .i64 132) (t := 4) (T := 24) (ad := ⟨Ek, 0, none⟩) (u := 5) (U := 24) (bd := ⟨Ec, 0, none⟩) (s := 6) ej (by kernel_rfl) (by kernel_rfl) (zC (t := 24) (k := 1) (off := 0) (m := 4) (xs := zg ([0, 0, 0, 0] : List UInt64)) aq rfl (zn (za (show zf ([0, 0, 0, 0] : List UInt64) = 4 from rfl))) (za (show zf ([0, 0, 0, 0] : List UInt64) = 4 from rfl)) (by kernel_rfl) (by kernel_rfl)) (by kernel_rfl) (zC (t := 24) (k := 2) (off := 0) (m := 4) (xs := zg ([0, 0, 0, 0] : List UInt64)) aq rfl (zn (za (show zf ([0, 0, 0, 0] : List UInt64) = 4 from rfl))) (za (show zf ([0, 0, 0, 0] : List UInt64) = 4 from rfl)) (by kernel_rfl) (by kernel_rfl)) (by kernel_rfl) ?_
  exact ⟨_, _, _, rfl, aq.pk [], (show zf ([0, 0, 0, 0] : List UInt64) = 4 from rfl), (show zf ([0, 0, 0, 0] : List UInt64) = 4 from rfl)⟩
 refine wp_skip <| ze <| wp_seq <| zj <| d_k [1,2,4,5,6,34] [] 1 ap fun _ ek => f_o <| c_p ek HC (dnumber_go _ am (zf lm) cm lm (by first | rfl | (simp; done) | (simp; omega) | omega) ((im.ev HC).pick [] (by kernel_rfl)) (by omega)) fun _ _ el en => f_o <| m_z 24 (zg (zd 4 0)) el en fun _ _ Ef eo ep => f_o <| zW 3 4 (zg (nd (nuV lm))) _ eo ep rfl (za (zl _ _)) (za (zh)) (zq _) rfl fun _ _ eq bp => f_e <| ze <| wp_seq <| zj <| f_o <| Zn 0 4 (zg d) eq bp rfl (za hd) fun _ es => f_o <| c_p es bp (rtobe_go _ d hd) fun _ _ et eu => ?_
 refine f_o <| m_z 56 (bys (zd 32 0)) et eu fun _ _ Eb ew ex => f_o <| zW 4 32 (bys (zr (lb 32 (nv d)))) [.box Em (zg d) 24, .box Ek (zg (zd 4 0)) 24, .box Ec (zg (zd 4 0)) 24, .box Ef (zg (nd (nuV lm))) 24, .box Eb (bys (zr (lb 32 (nv d)))) 56] ew ex rfl (Zi (Yd (Yv _ _))) (Zi (zh)) (ZG _) rfl fun _ _ ey EV => f_e ?_
 obtain ⟨qx, h_qx⟩ : ∃ q : List UInt8, q = zr (lb 32 (nv d)) := ⟨_, rfl⟩
 rw [← h_qx] at EV
 have n_qx : zf qx = 32 := by rw [h_qx]; exact (Yd (Yv _ _))
 refine ze <| wp_seq <| zj <| f_o <| Zn 3 4 (zg (nd (nuV lm))) ey EV rfl (za (zl _ _)) fun _ bq => f_o <| c_p bq EV (rtobe_go _ (nd (nuV lm)) (zl _ _)) fun _ _ br bs => f_o <| m_z 56 (bys (zd 32 0)) br bs fun _ _ Ea bt bu => f_o <| zW 5 32 (bys (zr (lb 32 (nv (nd (nuV lm)))))) _ bt bu rfl (Zi (Yd (Yv _ _))) (Zi (zh)) (ZG _) rfl fun _ _ EW EX => f_e ?_
 obtain ⟨qy, h_qy⟩ : ∃ q : List UInt8, q = zr (lb 32 (nv (nd (nuV lm)))) := ⟨_, rfl⟩
 rw [← h_qy] at EX
 have n_qy : zf qy = 32 := by rw [h_qy]; exact (Yd (Yv _ _))
 refine ze <| wp_seq <| r_c (fun ac wo => ∃ (Eg : Option Addr) (Eh : Nat), Env ac 130 [(1, .slice am (zf lm) cm), (2, pt Em), (4, pt Ek), (5, pt Ec), (6, .int .i64 0), (8, pt Ef), (9, pt Eb), (10, pt Ea), (11, .slice Eg (zf (qx ++ qy)) Eh)] ∧ Ev w [] wo [.box Em (zg d) 24, .box Ek (zg (zd 4 0)) 24, .box Ec (zg (zd 4 0)) 24, .box Ef (zg (nd (nuV lm))) 24, .box Eb (bys qx) 56, .box Ea (bys qy) 56, .vec Eg Eh 1 (bys (qx ++ qy)) 5]) ?_ ?_
 ·
  refine h_s (fun wv => Ev w [] wv [.box Eb (bys qx) 56, .box Ea (bys qy) 56]) [] 6 ?_
  have Et := EX.trans (zN EX.heap)
  refine h_name fun G hG => ?_
  have nd340 : ∀ (ac : Act) (wo : World) (EY : Option Addr) (EZ : Nat), Env ac 130 [(1, .slice am (zf lm) cm), (2, pt Em), (4, pt Ek), (5, pt Ec), (6, .int .i64 0), (8, pt Ef), (9, pt Eb), (10, pt Ea), (42, .slice EY (zf qx) EZ)] → Ev w [] wo [.box Em (zg d) 24, .box Ek (zg (zd 4 0)) 24, .box Ec (zg (zd 4 0)) 24, .box Ef (zg (nd (nuV lm))) 24, .box Eb (bys qx) 56, .box Ea (bys qy) 56, .vec EY EZ 1 (bys qx) 5] → G 3 #[true, true, true, false, false, false] ac wo := by
   intro _ _ EY EZ bw E0
   refine Qd hG ?_
   refine q_t 3 ?_
   refine ZU (d := some 43) (t := 56) (e := 5) (sz := 1) (m := 32) (lo := 0) (hi := 32) (b := Ea) (off := 0) (lov := none) (hiv := none) (o := 0) bw (by kernel_rfl) (by kernel_rfl) (by kernel_rfl) (by omega) (by omega) (by omega) (.inl ⟨rfl, rfl⟩) (.inl ⟨rfl, rfl⟩) (by omega) ?_
   intro _ bx
   refine ⟨fun _ => E0.pk [4, 5], ?_⟩
   refine q_t 4 ?_
   refine ZA (d := some 44) (t := 25) (tx := 25) (ty := 25) (k := 6) (p := zf qx) (m := 32) (x := .slice (some ⟨Ea, 0, none⟩) 32 32) (bytes := 1) bx (by kernel_rfl) E0 rfl (Z9 _) (Zz (size := 1) (tx := 25) (e' := 5) (by kernel_rfl) (E0.heap.readsBox (k := 5) (m := 32) rfl (zn (Zi n_qy))) (Q7 (by first | (rw [n_qy]) | (simp [n_qy]; done) | (simp [n_qy]; omega))) (fun e => by cases e) (ZG _)) (by kernel_rfl) (z := .int .u8 0) (by kernel_rfl) rfl (by decide) (by first | omega | (simp; done) | (simp; omega)) (by unfold maxLen; first | omega | (simp; done) | (simp; omega)) ?_
   intro _ _ bz bA HK ED hnz _
   clear hnz
   rw [← ZM] at ED
   have ar : (zf qx) + 32 = zf (qx ++ qy) := (by first | (simp; done) | (simp; omega) | omega)
   rw [ar] at HK
   refine ⟨fun _ => ED.pk [4, 5], ?_⟩
   refine q_s [5] [] 0 HK (ED.pk [4, 5]) fun _ bB => ?_
   exact h_e ⟨bz, bA, bB.sb, ED.pk [0, 1, 2, 3, 4, 5, 6]⟩
  have nd357 : ∀ (ac : Act) (wo : World) (Ei : Nat), Env ac 130 [(1, .slice am (zf lm) cm), (2, pt Em), (4, pt Ek), (5, pt Ec), (6, .int .i64 0), (8, pt Ef), (9, pt Eb), (10, pt Ea), (40, .slice (some ⟨Ei, 0, none⟩) 0 0), (41, .slice (some ⟨Eb, 0, none⟩) 32 32), (43, .slice (some ⟨Ea, 0, none⟩) 32 32)] → Ev w [] wo [.box Em (zg d) 24, .box Ek (zg (zd 4 0)) 24, .box Ec (zg (zd 4 0)) 24, .box Ef (zg (nd (nuV lm))) 24, .box Eb (bys qx) 56, .box Ea (bys qy) 56, .vec (some ⟨Ei, 0, none⟩) 0 1 (bys []) 5] → G 3 #[true, true, false, true, false, false] ac wo := by
   intro _ _ Ei bC HL
   refine Qd hG ?_
   refine q_t 2 ?_
   refine ZA (d := some 42) (t := 25) (tx := 25) (ty := 25) (k := 6) (p := 0) (m := 32) (x := .slice (some ⟨Eb, 0, none⟩) 32 32) (bytes := 1) bC (by kernel_rfl) HL rfl rfl (Zz (size := 1) (tx := 25) (e' := 5) (by kernel_rfl) (HL.heap.readsBox (k := 4) (m := 32) rfl (zn (Zi n_qx))) (Q7 (by first | (rw [n_qx]) | (simp [n_qx]; done) | (simp [n_qx]; omega))) (fun e => by cases e) (ZG _)) (by kernel_rfl) (z := .int .u8 0) (by kernel_rfl) rfl (by decide) (by first | omega | (simp; done) | (simp; omega)) (by unfold maxLen; first | omega | (simp; done) | (simp; omega)) ?_
   intro _ _ eC eD HM EE hnz _
   clear hnz
   rw [QG] at EE
   have au : 0 + 32 = zf qx := (by first | (simp; done) | (simp; omega) | omega)
   rw [au] at HM
   refine ⟨fun _ => EE.pk [4, 5], ?_⟩
   refine q_t 4 ?_
   refine ZA (d := some 44) (t := 25) (tx := 25) (ty := 25) (k := 6) (p := zf qx) (m := 32) (x := .slice (some ⟨Ea, 0, none⟩) 32 32) (bytes := 1) HM (by kernel_rfl) EE rfl (Z9 _) (Zz (size := 1) (tx := 25) (e' := 5) (by kernel_rfl) (EE.heap.readsBox (k := 5) (m := 32) rfl (zn (Zi n_qy))) (Q7 (by first | (rw [n_qy]) | (simp [n_qy]; done) | (simp [n_qy]; omega))) (fun e => by cases e) (ZG _)) (by kernel_rfl) (z := .int .u8 0) (by kernel_rfl) rfl (by decide) (by first | omega | (simp; done) | (simp; omega)) (by unfold maxLen; first | omega | (simp; done) | (simp; omega)) ?_
   intro _ _ bD bE HN EF hnz _
   clear hnz
   rw [← ZM] at EF
   have av : (zf qx) + 32 = zf (qx ++ qy) := (by first | (simp; done) | (simp; omega) | omega)
   rw [av] at HN
   refine ⟨fun _ => EF.pk [4, 5], ?_⟩
   refine q_s [5] [] 0 HN (EF.pk [4, 5]) fun _ bF => ?_
   exact h_e ⟨bD, bE, bF.sb, EF.pk [0, 1, 2, 3, 4, 5, 6]⟩
  have nd380 : ∀ (ac : Act) (wo : World) (Ei : Nat), Env ac 130 [(1, .slice am (zf lm) cm), (2, pt Em), (4, pt Ek), (5, pt Ec), (6, .int .i64 0), (8, pt Ef), (9, pt Eb), (10, pt Ea), (40, .slice (some ⟨Ei, 0, none⟩) 0 0), (41, .slice (some ⟨Eb, 0, none⟩) 32 32)] → Ev w [] wo [.box Em (zg d) 24, .box Ek (zg (zd 4 0)) 24, .box Ec (zg (zd 4 0)) 24, .box Ef (zg (nd (nuV lm))) 24, .box Eb (bys qx) 56, .box Ea (bys qy) 56, .vec (some ⟨Ei, 0, none⟩) 0 1 (bys []) 5] → G 4 #[true, true, false, false, false, false] ac wo := by
   intro _ _ Ei HO EG
   refine Qd hG ?_
   refine YB [2, 3] (by kernel_rfl) rfl ?_
   refine ⟨?_, ?_, trivial⟩
   ·
    rintro _ rfl
    refine ZA (d := some 42) (t := 25) (tx := 25) (ty := 25) (k := 6) (p := 0) (m := 32) (x := .slice (some ⟨Eb, 0, none⟩) 32 32) (bytes := 1) HO (by kernel_rfl) EG rfl rfl (Zz (size := 1) (tx := 25) (e' := 5) (by kernel_rfl) (EG.heap.readsBox (k := 4) (m := 32) rfl (zn (Zi n_qx))) (Q7 (by first | (rw [n_qx]) | (simp [n_qx]; done) | (simp [n_qx]; omega))) (fun e => by cases e) (ZG _)) (by kernel_rfl) (z := .int .u8 0) (by kernel_rfl) rfl (by decide) (by first | omega | (simp; done) | (simp; omega)) (by unfold maxLen; first | omega | (simp; done) | (simp; omega)) ?_
    intro _ _ bG bH HP E1 hnz _
    clear hnz
    rw [QG] at E1
    have aw : 0 + 32 = zf qx := (by first | (simp; done) | (simp; omega) | omega)
    rw [aw] at HP
    refine ⟨fun _ => E1.pk [4, 5], ?_⟩
    exact YK hG (by kernel_rfl) (nd340 _ _ bG bH (HP.sb) (E1.pk [0, 1, 2, 3, 4, 5, 6]))
   rintro _ rfl
   refine ZU (d := some 43) (t := 56) (e := 5) (sz := 1) (m := 32) (lo := 0) (hi := 32) (b := Ea) (off := 0) (lov := none) (hiv := none) (o := 0) HO (by kernel_rfl) (by kernel_rfl) (by kernel_rfl) (by omega) (by omega) (by omega) (.inl ⟨rfl, rfl⟩) (.inl ⟨rfl, rfl⟩) (by omega) ?_
   intro _ bI
   refine ⟨fun _ => EG.pk [4, 5], ?_⟩
   exact YK hG (by kernel_rfl) (nd357 _ _ Ei (bI.sb) (EG.pk [0, 1, 2, 3, 4, 5, 6]))
  have nd395 : ∀ (ac : Act) (wo : World) (Ei : Nat), Env ac 130 [(1, .slice am (zf lm) cm), (2, pt Em), (4, pt Ek), (5, pt Ec), (6, .int .i64 0), (8, pt Ef), (9, pt Eb), (10, pt Ea), (40, .slice (some ⟨Ei, 0, none⟩) 0 0), (43, .slice (some ⟨Ea, 0, none⟩) 32 32)] → Ev w [] wo [.box Em (zg d) 24, .box Ek (zg (zd 4 0)) 24, .box Ec (zg (zd 4 0)) 24, .box Ef (zg (nd (nuV lm))) 24, .box Eb (bys qx) 56, .box Ea (bys qy) 56, .vec (some ⟨Ei, 0, none⟩) 0 1 (bys []) 5] → G 4 #[true, false, false, true, false, false] ac wo := by
   intro _ _ Ei bJ E2
   refine Qd hG ?_
   refine q_t 1 ?_
   refine ZU (d := some 41) (t := 56) (e := 5) (sz := 1) (m := 32) (lo := 0) (hi := 32) (b := Eb) (off := 0) (lov := none) (hiv := none) (o := 0) bJ (by kernel_rfl) (by kernel_rfl) (by kernel_rfl) (by omega) (by omega) (by omega) (.inl ⟨rfl, rfl⟩) (.inl ⟨rfl, rfl⟩) (by omega) ?_
   intro _ bK
   refine ⟨fun _ => E2.pk [4, 5], ?_⟩
   refine q_t 2 ?_
   refine ZA (d := some 42) (t := 25) (tx := 25) (ty := 25) (k := 6) (p := 0) (m := 32) (x := .slice (some ⟨Eb, 0, none⟩) 32 32) (bytes := 1) bK (by kernel_rfl) E2 rfl rfl (Zz (size := 1) (tx := 25) (e' := 5) (by kernel_rfl) (E2.heap.readsBox (k := 4) (m := 32) rfl (zn (Zi n_qx))) (Q7 (by first | (rw [n_qx]) | (simp [n_qx]; done) | (simp [n_qx]; omega))) (fun e => by cases e) (ZG _)) (by kernel_rfl) (z := .int .u8 0) (by kernel_rfl) rfl (by decide) (by first | omega | (simp; done) | (simp; omega)) (by unfold maxLen; first | omega | (simp; done) | (simp; omega)) ?_
   intro _ _ eE eF HQ EH hnz _
   clear hnz
   rw [QG] at EH
   have ax : 0 + 32 = zf qx := (by first | (simp; done) | (simp; omega) | omega)
   rw [ax] at HQ
   refine ⟨fun _ => EH.pk [4, 5], ?_⟩
   refine q_t 4 ?_
   refine ZA (d := some 44) (t := 25) (tx := 25) (ty := 25) (k := 6) (p := zf qx) (m := 32) (x := .slice (some ⟨Ea, 0, none⟩) 32 32) (bytes := 1) HQ (by kernel_rfl) EH rfl (Z9 _) (Zz (size := 1) (tx := 25) (e' := 5) (by kernel_rfl) (EH.heap.readsBox (k := 5) (m := 32) rfl (zn (Zi n_qy))) (Q7 (by first | (rw [n_qy]) | (simp [n_qy]; done) | (simp [n_qy]; omega))) (fun e => by cases e) (ZG _)) (by kernel_rfl) (z := .int .u8 0) (by kernel_rfl) rfl (by decide) (by first | omega | (simp; done) | (simp; omega)) (by unfold maxLen; first | omega | (simp; done) | (simp; omega)) ?_
   intro _ _ bL bM HR EI hnz _
   clear hnz
   rw [← ZM] at EI
   have ay : (zf qx) + 32 = zf (qx ++ qy) := (by first | (simp; done) | (simp; omega) | omega)
   rw [ay] at HR
   refine ⟨fun _ => EI.pk [4, 5], ?_⟩
   refine q_s [5] [] 0 HR (EI.pk [4, 5]) fun _ bN => ?_
   exact h_e ⟨bL, bM, bN.sb, EI.pk [0, 1, 2, 3, 4, 5, 6]⟩
  have nd420 : ∀ (ac : Act) (wo : World), Env ac 130 [(1, .slice am (zf lm) cm), (2, pt Em), (4, pt Ek), (5, pt Ec), (6, .int .i64 0), (8, pt Ef), (9, pt Eb), (10, pt Ea), (41, .slice (some ⟨Eb, 0, none⟩) 32 32), (43, .slice (some ⟨Ea, 0, none⟩) 32 32)] → Ev w [] wo [.box Em (zg d) 24, .box Ek (zg (zd 4 0)) 24, .box Ec (zg (zd 4 0)) 24, .box Ef (zg (nd (nuV lm))) 24, .box Eb (bys qx) 56, .box Ea (bys qy) 56] → G 4 #[false, true, false, true, false, false] ac wo := by
   intro _ _ bO bP
   refine Qd hG ?_
   refine q_t 0 ?_
   refine Yn (d := some 40) (t := 25) (T := 5) (m := 0) (parts := #[]) (xs := bys []) (sz := 1) bO (by kernel_rfl) (by kernel_rfl) rfl (by decide) bP ?_
   intro _ _ eG bQ E3
   refine ⟨fun _ => E3.pk [4, 5], ?_⟩
   refine q_t 2 ?_
   refine ZA (d := some 42) (t := 25) (tx := 25) (ty := 25) (k := 6) (p := 0) (m := 32) (x := .slice (some ⟨Eb, 0, none⟩) 32 32) (bytes := 1) bQ (by kernel_rfl) E3 rfl rfl (Zz (size := 1) (tx := 25) (e' := 5) (by kernel_rfl) (E3.heap.readsBox (k := 4) (m := 32) rfl (zn (Zi n_qx))) (Q7 (by first | (rw [n_qx]) | (simp [n_qx]; done) | (simp [n_qx]; omega))) (fun e => by cases e) (ZG _)) (by kernel_rfl) (z := .int .u8 0) (by kernel_rfl) rfl (by decide) (by first | omega | (simp; done) | (simp; omega)) (by unfold maxLen; first | omega | (simp; done) | (simp; omega)) ?_
   intro _ _ eH eI HS EJ hnz _
   clear hnz
   rw [QG] at EJ
   have az : 0 + 32 = zf qx := (by first | (simp; done) | (simp; omega) | omega)
   rw [az] at HS
   refine ⟨fun _ => EJ.pk [4, 5], ?_⟩
   refine q_t 4 ?_
   refine ZA (d := some 44) (t := 25) (tx := 25) (ty := 25) (k := 6) (p := zf qx) (m := 32) (x := .slice (some ⟨Ea, 0, none⟩) 32 32) (bytes := 1) HS (by kernel_rfl) EJ rfl (Z9 _) (Zz (size := 1) (tx := 25) (e' := 5) (by kernel_rfl) (EJ.heap.readsBox (k := 5) (m := 32) rfl (zn (Zi n_qy))) (Q7 (by first | (rw [n_qy]) | (simp [n_qy]; done) | (simp [n_qy]; omega))) (fun e => by cases e) (ZG _)) (by kernel_rfl) (z := .int .u8 0) (by kernel_rfl) rfl (by decide) (by first | omega | (simp; done) | (simp; omega)) (by unfold maxLen; first | omega | (simp; done) | (simp; omega)) ?_
   intro _ _ bR bS HT EK hnz _
   clear hnz
   rw [← ZM] at EK
   have aA : (zf qx) + 32 = zf (qx ++ qy) := (by first | (simp; done) | (simp; omega) | omega)
   rw [aA] at HT
   refine ⟨fun _ => EK.pk [4, 5], ?_⟩
   refine q_s [5] [] 0 HT (EK.pk [4, 5]) fun _ bT => ?_
   exact h_e ⟨bR, bS, bT.sb, EK.pk [0, 1, 2, 3, 4, 5, 6]⟩
  have nd448 : ∀ (ac : Act) (wo : World) (Ei : Nat), Env ac 130 [(1, .slice am (zf lm) cm), (2, pt Em), (4, pt Ek), (5, pt Ec), (6, .int .i64 0), (8, pt Ef), (9, pt Eb), (10, pt Ea), (40, .slice (some ⟨Ei, 0, none⟩) 0 0)] → Ev w [] wo [.box Em (zg d) 24, .box Ek (zg (zd 4 0)) 24, .box Ec (zg (zd 4 0)) 24, .box Ef (zg (nd (nuV lm))) 24, .box Eb (bys qx) 56, .box Ea (bys qy) 56, .vec (some ⟨Ei, 0, none⟩) 0 1 (bys []) 5] → G 5 #[true, false, false, false, false, false] ac wo := by
   intro _ _ Ei HU EL
   refine Qd hG ?_
   refine YB [1, 3] (by kernel_rfl) rfl ?_
   refine ⟨?_, ?_, trivial⟩
   ·
    rintro _ rfl
    refine ZU (d := some 41) (t := 56) (e := 5) (sz := 1) (m := 32) (lo := 0) (hi := 32) (b := Eb) (off := 0) (lov := none) (hiv := none) (o := 0) HU (by kernel_rfl) (by kernel_rfl) (by kernel_rfl) (by omega) (by omega) (by omega) (.inl ⟨rfl, rfl⟩) (.inl ⟨rfl, rfl⟩) (by omega) ?_
    intro _ bU
    refine ⟨fun _ => EL.pk [4, 5], ?_⟩
    exact YK hG (by kernel_rfl) (nd380 _ _ Ei (bU.sb) (EL.pk [0, 1, 2, 3, 4, 5, 6]))
   rintro _ rfl
   refine ZU (d := some 43) (t := 56) (e := 5) (sz := 1) (m := 32) (lo := 0) (hi := 32) (b := Ea) (off := 0) (lov := none) (hiv := none) (o := 0) HU (by kernel_rfl) (by kernel_rfl) (by kernel_rfl) (by omega) (by omega) (by omega) (.inl ⟨rfl, rfl⟩) (.inl ⟨rfl, rfl⟩) (by omega) ?_
   intro _ bV
   refine ⟨fun _ => EL.pk [4, 5], ?_⟩
   exact YK hG (by kernel_rfl) (nd395 _ _ Ei (bV.sb) (EL.pk [0, 1, 2, 3, 4, 5, 6]))
  have nd457 : ∀ (ac : Act) (wo : World), Env ac 130 [(1, .slice am (zf lm) cm), (2, pt Em), (4, pt Ek), (5, pt Ec), (6, .int .i64 0), (8, pt Ef), (9, pt Eb), (10, pt Ea), (41, .slice (some ⟨Eb, 0, none⟩) 32 32)] → Ev w [] wo [.box Em (zg d) 24, .box Ek (zg (zd 4 0)) 24, .box Ec (zg (zd 4 0)) 24, .box Ef (zg (nd (nuV lm))) 24, .box Eb (bys qx) 56, .box Ea (bys qy) 56] → G 5 #[false, true, false, false, false, false] ac wo := by
   intro _ _ HV E4
   refine Qd hG ?_
   refine YB [0, 3] (by kernel_rfl) rfl ?_
   refine ⟨?_, ?_, trivial⟩
   ·
    rintro _ rfl
    refine Yn (d := some 40) (t := 25) (T := 5) (m := 0) (parts := #[]) (xs := bys []) (sz := 1) HV (by kernel_rfl) (by kernel_rfl) rfl (by decide) E4 ?_
    intro _ _ bW bX HW
    refine ⟨fun _ => HW.pk [4, 5], ?_⟩
    exact YK hG (by kernel_rfl) (nd380 _ _ bW (bX.sb) (HW.pk [0, 1, 2, 3, 4, 5, 6]))
   rintro _ rfl
   refine ZU (d := some 43) (t := 56) (e := 5) (sz := 1) (m := 32) (lo := 0) (hi := 32) (b := Ea) (off := 0) (lov := none) (hiv := none) (o := 0) HV (by kernel_rfl) (by kernel_rfl) (by kernel_rfl) (by omega) (by omega) (by omega) (.inl ⟨rfl, rfl⟩) (.inl ⟨rfl, rfl⟩) (by omega) ?_
   intro _ bY
   refine ⟨fun _ => E4.pk [4, 5], ?_⟩
   exact YK hG (by kernel_rfl) (nd420 _ _ (bY.sb) (E4.pk [0, 1, 2, 3, 4, 5]))
  have nd469 : ∀ (ac : Act) (wo : World), Env ac 130 [(1, .slice am (zf lm) cm), (2, pt Em), (4, pt Ek), (5, pt Ec), (6, .int .i64 0), (8, pt Ef), (9, pt Eb), (10, pt Ea), (43, .slice (some ⟨Ea, 0, none⟩) 32 32)] → Ev w [] wo [.box Em (zg d) 24, .box Ek (zg (zd 4 0)) 24, .box Ec (zg (zd 4 0)) 24, .box Ef (zg (nd (nuV lm))) 24, .box Eb (bys qx) 56, .box Ea (bys qy) 56] → G 5 #[false, false, false, true, false, false] ac wo := by
   intro _ _ HX E5
   refine Qd hG ?_
   refine YB [0, 1] (by kernel_rfl) rfl ?_
   refine ⟨?_, ?_, trivial⟩
   ·
    rintro _ rfl
    refine Yn (d := some 40) (t := 25) (T := 5) (m := 0) (parts := #[]) (xs := bys []) (sz := 1) HX (by kernel_rfl) (by kernel_rfl) rfl (by decide) E5 ?_
    intro _ _ bZ b0 HY
    refine ⟨fun _ => HY.pk [4, 5], ?_⟩
    exact YK hG (by kernel_rfl) (nd395 _ _ bZ (b0.sb) (HY.pk [0, 1, 2, 3, 4, 5, 6]))
   rintro _ rfl
   refine ZU (d := some 41) (t := 56) (e := 5) (sz := 1) (m := 32) (lo := 0) (hi := 32) (b := Eb) (off := 0) (lov := none) (hiv := none) (o := 0) HX (by kernel_rfl) (by kernel_rfl) (by kernel_rfl) (by omega) (by omega) (by omega) (.inl ⟨rfl, rfl⟩) (.inl ⟨rfl, rfl⟩) (by omega) ?_
   intro _ b1
   refine ⟨fun _ => E5.pk [4, 5], ?_⟩
   exact YK hG (by kernel_rfl) (nd420 _ _ (b1.sb) (E5.pk [0, 1, 2, 3, 4, 5]))
  refine Qd hG ?_
  refine YB [0, 1, 3] (by kernel_rfl) rfl ?_
  refine ⟨?_, ?_, ?_, trivial⟩
  ·
   rintro _ rfl
   refine Yn (d := some 40) (t := 25) (T := 5) (m := 0) (parts := #[]) (xs := bys []) (sz := 1) EW (by kernel_rfl) (by kernel_rfl) rfl (by decide) Et ?_
   intro _ _ b2 b3 HZ
   refine ⟨fun _ => HZ.pk [4, 5], ?_⟩
   exact YK hG (by kernel_rfl) (nd448 _ _ b2 (b3.sb) (HZ.pk [0, 1, 2, 3, 4, 5, 6]))
  ·
   rintro _ rfl
   refine ZU (d := some 41) (t := 56) (e := 5) (sz := 1) (m := 32) (lo := 0) (hi := 32) (b := Eb) (off := 0) (lov := none) (hiv := none) (o := 0) EW (by kernel_rfl) (by kernel_rfl) (by kernel_rfl) (by omega) (by omega) (by omega) (.inl ⟨rfl, rfl⟩) (.inl ⟨rfl, rfl⟩) (by omega) ?_
   intro _ b4
   refine ⟨fun _ => Et.pk [4, 5], ?_⟩
   exact YK hG (by kernel_rfl) (nd457 _ _ (b4.sb) (Et.pk [0, 1, 2, 3, 4, 5]))
  rintro _ rfl
  refine ZU (d := some 43) (t := 56) (e := 5) (sz := 1) (m := 32) (lo := 0) (hi := 32) (b := Ea) (off := 0) (lov := none) (hiv := none) (o := 0) EW (by kernel_rfl) (by kernel_rfl) (by kernel_rfl) (by omega) (by omega) (by omega) (.inl ⟨rfl, rfl⟩) (.inl ⟨rfl, rfl⟩) (by omega) ?_
  intro _ b5
  refine ⟨fun _ => Et.pk [4, 5], ?_⟩
  exact YK hG (by kernel_rfl) (nd469 _ _ (b5.sb) (Et.pk [0, 1, 2, 3, 4, 5]))
 rintro _ _ ⟨Eg, Eh, H0, H1⟩
 obtain ⟨bo, hebo, hlbo⟩ : ∃ m : List UInt8, m = qx ++ qy ∧ m.length = 64 := ⟨_, rfl, by rw [zE, n_qx, n_qy]⟩
 rw [← hebo] at H1 H0
 clear hebo
 refine ze <| wp_seq <| zj <| f_o <| op_makeslice (d := some 45) (t := 25) (T := 5) (m := 32) (kl := .i64) (kc := .i64) (z := .int .u8 0) (bytes := 1) H0 (by kernel_rfl) H1 (by kernel_rfl) (by kernel_rfl) (by kernel_rfl) (by omega) (by unfold maxLen; omega) ?_
 intro _ _ Ep b6 E6
 rw [show zd 32 (Value.int .u8 0) = bys (zd 32 0) from (bys_replicate _).symm] at E6
 refine d_e [1,2,4,5,6,8,9,10,11,12] [] b6 fun _ b7 => ?_
 obtain ⟨v0, hev0, hlv0⟩ : ∃ m : List UInt8, m = zd 32 0 ∧ m.length = 32 := ⟨_, rfl, zh⟩
 rw [← hev0] at E6
 clear hev0
 refine ze <| wp_seq <| d_s [1,2,4,5,6,8,9,10,11,12,13] [] b7 fun _ b8 => ?_
 refine wp_block <| ZT (fun b9 ac wo => ∃ (i : Nat) (v1 : List UInt8), b9 = (32 - i : Nat) ∧ Env ac 130 [(1, .slice am (zf lm) cm), (2, pt Em), (4, pt Ek), (5, pt Ec), (6, .int .i64 0), (8, pt Ef), (9, pt Eb), (10, pt Ea), (11, .slice Eg (zf bo) Eh), (12, .slice (some ⟨Ep, 0, none⟩) 32 32), (13, ni i)] ∧ Ev w [] wo [.vec (some ⟨Ep, 0, none⟩) 32 1 (bys v1) 5, .box Em (zg d) 24, .box Ek (zg (zd 4 0)) 24, .box Ec (zg (zd 4 0)) 24, .box Ef (zg (nd (nuV lm))) 24, .box Eb (bys qx) 56, .box Ea (bys qy) 56, .vec Eg Eh 1 (bys bo) 5] ∧ (i ≤ 32) ∧ (zf v1 = 32)) ⟨_, 0, v0, rfl, b8.sb, E6.pk [7, 0, 1, 2, 3, 4, 5, 6], by omega, hlv0⟩ ?_
 rintro eJ _ _ ⟨i, v1, rfl, ca, H2, hi, hv1⟩
 refine wp_seq <| d_s [1,2,4,5,6,8,9,10,11,12,13,47] [] ca fun _ E7 => ?_
 refine c_d (((i : Nat) : Int) < (32 : Int)) E7 (fun cb => ?_) (fun cb => ?_)
 ·
  refine wp_skip <| ze <| wp_seq <| wp_block ?_
  have cc : i < 32 := (by omega)
  refine zj <| d_k [1,2,4,5,6,8,9,10,11,12,13,50,51] [] 2 E7 fun _ cd => f_o <| q_v (x := Instr.indexAt 25 (.slice (some ⟨Ep, 0, none⟩) 32 32) (ni i)) (v := .pointer (some (Addr.add ⟨Ep, 0, none⟩ i))) cd (zy (e := 5) (sz := 1) (j := i) (jo := i) rfl (by kernel_rfl) (by kernel_rfl) (by omega) cc (zI _) _) fun _ ce => f_o <| op_storeel (d := none) (t := 5) (ad := ⟨Ep, 0, none⟩) (ao := some ⟨Ep, 0, none⟩) (k := 0) (cap := 32) (sz := 1) (j := i) (xs := bys v1) (v := bv (1 : UInt8)) ce (by kernel_rfl) H2 rfl rfl (by rw [bys_length]; first | omega | (simp; done) | (simp; omega)) (by kernel_rfl) rfl ?_
  intro _ _  cf H3
  rw [bys_set] at H3
  refine f_e <| zw <| ze <| d_r [1,2,4,5,6,8,9,10,11,12,13] [(1, g_n (w_a i 1))] cf fun _ cg => ze <| ⟨_, ⟨i + 1, (zt v1 i (1 : UInt8)), rfl, cg.sb, H3.pk [0, 1, 2, 3, 4, 5, 6, 7], by omega, (List.length_set.trans hv1)⟩, ?_⟩
  omega
 refine wp_exit <| zF <| zF <| zX <| ze <| wp_seq <| zj <| f_o <| op_makeslice (d := some 53) (t := 25) (T := 5) (m := 32) (kl := .i64) (kc := .i64) (z := .int .u8 0) (bytes := 1) E7 (by kernel_rfl) H2 (by kernel_rfl) (by kernel_rfl) (by kernel_rfl) (by omega) (by unfold maxLen; omega) ?_
 intro _ _ E8 ch E9
 rw [show zd 32 (Value.int .u8 0) = bys (zd 32 0) from (bys_replicate _).symm] at E9
 refine d_e [1,2,4,5,6,8,9,10,11,12,13,14] [] ch fun _ ci => ?_
 obtain ⟨k0, hek0, hlk0⟩ : ∃ m : List UInt8, m = zd 32 0 ∧ m.length = 32 := ⟨_, rfl, zh⟩
 rw [← hek0] at E9
 clear hek0
 refine ze <| wp_seq <| d_s [1,2,4,5,6,8,9,10,11,12,13,14,15] [] ci fun _ cj => ?_
 have ck := Env.fx (t := 12) (v := .slice (some ⟨Ep, 0, none⟩) 32 32) (u := .slice (some ⟨Ep, 0, none⟩) (zf v1) 32) cj (by rw [show zf v1 = 32 from by assumption])
 have cl := Env.fx (t := 14) (v := .slice (some ⟨E8, 0, none⟩) 32 32) (u := .slice (some ⟨E8, 0, none⟩) (zf k0) 32) ck (by rw [show zf k0 = 32 from by assumption])
 refine wp_block <| ZT (fun cn ac wo => ∃ (ip : Nat) (avp : Option Addr) (cvp : Nat) (lvp : List UInt8) (akp : Option Addr) (ckp : Nat) (lkp : List UInt8), cn = (2 - ip : Nat) ∧ Env ac 130 [(1, .slice am (zf lm) cm), (2, pt Em), (4, pt Ek), (5, pt Ec), (6, .int .i64 0), (8, pt Ef), (9, pt Eb), (10, pt Ea), (11, .slice Eg (zf bo) Eh), (12, .slice avp (zf lvp) cvp), (13, ni i), (14, .slice akp (zf lkp) ckp), (15, ni ip)] ∧ Ev w [] wo [.vec avp cvp 1 (bys lvp) 5, .vec akp ckp 1 (bys lkp) 5, .box Em (zg d) 24, .box Ek (zg (zd 4 0)) 24, .box Ec (zg (zd 4 0)) 24, .box Ef (zg (nd (nuV lm))) 24, .box Eb (bys qx) 56, .box Ea (bys qy) 56, .vec Eg Eh 1 (bys bo) 5] ∧ (ip ≤ 2) ∧ (zf lvp = 32) ∧ (zf lkp = 32)) ⟨_, 0, (some ⟨Ep, 0, none⟩), 32, v1, (some ⟨E8, 0, none⟩), 32, k0, rfl, cl.sb, E9.pk [0, 8, 1, 2, 3, 4, 5, 6, 7], by omega, by assumption, by assumption⟩ ?_
 rintro eK _ _ ⟨ip, avp, cvp, lvp, akp, ckp, lkp, rfl, co, H4, hip, hvp, hkp⟩
 refine wp_seq <| d_s [1,2,4,5,6,8,9,10,11,12,13,14,15,55] [] co fun _ Ha => ?_
 refine c_d (((ip : Nat) : Int) < (2 : Int)) Ha (fun cp => ?_) (fun cp => ?_)
 ·
  refine wp_skip <| ze <| wp_seq <| wp_block <| wp_seq <| zj <| d_k [1,2,4,5,6,8,9,10,11,12,13,14,15,58] [] 1 Ha fun _ cq => f_o <| Yn (d := some 59) (t := 25) (T := 5) (m := 0) (parts := #[]) (xs := bys []) (sz := 1) cq (by kernel_rfl) (by kernel_rfl) rfl (by decide) H4 ?_
  intro _ _ eL cr Hb
  refine d_k [1,2,4,5,6,8,9,10,11,12,13,14,15,58,59,60] [] 3 cr fun _ ct => f_o <| ZA (d := some 61) (t := 25) (tx := 25) (ty := 25) (k := 9) (p := 0) (m := zf lvp) (x := .slice avp (zf lvp) cvp) (bytes := 1) ct (by kernel_rfl) Hb rfl rfl (Zz (size := 1) (tx := 25) (e' := 5) (by kernel_rfl) (Hb.heap.reads (k := 0) rfl) (Z9 _) (Yk Hb.heap (k := 0) rfl) (ZG _)) (by kernel_rfl) (z := .int .u8 0) (by kernel_rfl) rfl (by decide) (by first | omega | (simp; done) | (simp; omega)) (by unfold maxLen; first | omega | (simp; done) | (simp; omega)) ?_
  intro _ _ eM eN H5 H6 hnz _
  clear hnz
  rw [QG] at H6
  have aB : 0 + (zf lvp) = zf lvp := (by first | (simp; done) | (simp; omega) | omega)
  rw [aB] at H5
  refine d_k [1,2,4,5,6,8,9,10,11,12,13,14,15,58,61,63] [(5, g_i .u8 (Go.Dbr.nat_to_u8 (a := ((ip : Nat) : Int)) (n := ip) rfl))] 6 H5 fun _ cu => f_o <| Yn (d := some 64) (t := 25) (T := 5) (m := 1) (parts := #[(0, bv (Qx ip))]) (xs := bys [Qx ip]) (sz := 1) cu (by kernel_rfl) (by kernel_rfl) rfl (by decide) H6 ?_
  intro _ _ cv cw H7
  refine f_o <| ZA (d := some 65) (t := 25) (tx := 25) (ty := 25) (k := 9) (p := zf lvp) (m := 1) (x := .slice (some ⟨cv, 0, none⟩) 1 1) (bytes := 1) cw (by kernel_rfl) H7 rfl (Z9 _) (Zz (size := 1) (tx := 25) (e' := 5) (by kernel_rfl) (H7.heap.reads (k := 10) rfl) rfl (fun e => by cases e) (ZG _)) (by kernel_rfl) (z := .int .u8 0) (by kernel_rfl) rfl (by decide) (by first | omega | (simp; done) | (simp; omega)) (by unfold maxLen; first | omega | (simp; done) | (simp; omega)) ?_
  intro _ _ eO eP H8 EM hnz _
  clear hnz
  rw [← ZM] at EM
  have aC : (zf lvp) + 1 = zf (lvp ++ [Qx ip]) := (by first | (simp; done) | (simp; omega) | omega)
  rw [aC] at H8
  refine d_k [1,2,4,5,6,8,9,10,11,12,13,14,15,58,65,66] [] 9 H8 fun _ cx => f_o <| ZA (d := some 67) (t := 25) (tx := 25) (ty := 25) (k := 9) (p := zf (lvp ++ [Qx ip])) (m := zf bo) (x := .slice Eg (zf bo) Eh) (bytes := 1) cx (by kernel_rfl) EM rfl (Z9 _) (Zz (size := 1) (tx := 25) (e' := 5) (by kernel_rfl) (EM.heap.reads (k := 8) rfl) (Z9 _) (Yk EM.heap (k := 8) rfl) (ZG _)) (by kernel_rfl) (z := .int .u8 0) (by kernel_rfl) rfl (by decide) (by first | omega | (simp; done) | (simp; omega)) (by unfold maxLen; first | omega | (simp; done) | (simp; omega)) ?_
  intro _ _ cy cz H9 EN hnz _
  clear hnz
  rw [← ZM] at EN
  have aD : (zf (lvp ++ [Qx ip])) + (zf bo) = zf ((lvp ++ [Qx ip]) ++ bo) := (by first | (simp; done) | (simp; omega) | omega)
  rw [aD] at H9
  refine f_o <| c_0 H9 EN (Jx _ akp (zf lkp) ckp lkp (by first | rfl | (simp; done) | (simp; omega) | omega) (Ye EN.heap (k := 1) rfl [] (by kernel_rfl) rfl (by first | omega | (simp; done) | (simp; omega))) cy (zf ((lvp ++ [Qx ip]) ++ bo)) cz ((lvp ++ [Qx ip]) ++ bo) (by first | rfl | (simp; done) | (simp; omega) | omega) (Ye EN.heap (k := 9) rfl [] (by kernel_rfl) rfl (by first | omega | (simp; done) | (simp; omega))) (by first | omega | (simp only [zE, zL, Zb]; omega)) (by first | omega | (simp only [zE, zL, Zb]; omega))) ?_
  rintro _ _ ⟨Hc, Hd, lq589, rfl, cA, hlq589⟩
  refine ⟨_, _, _, rfl, cA, rfl, fun _ cB He => ?_⟩
  refine d_e [1,2,4,5,6,8,9,10,11,12,13,14,15] [] cB fun _ cC => ze <| zj <| d_k [1,2,4,5,6,8,9,10,11,12,13,14,15,69,70] [] 2 cC fun _ cD => f_o <| c_0 cD He (Jx _ Hc (zf lq589) Hd lq589 (by first | rfl | (simp; done) | (simp; omega) | omega) (Ye He.heap (k := 0) rfl [] (by kernel_rfl) rfl (by first | omega | (simp; done) | (simp; omega))) avp (zf lvp) cvp lvp (by first | rfl | (simp; done) | (simp; omega) | omega) (Ye He.heap (k := 1) rfl [] (by kernel_rfl) rfl (by first | omega | (simp; done) | (simp; omega))) (by first | omega | (simp only [zE, zL, Zb]; omega)) (by first | omega | (simp only [zE, zL, Zb]; omega))) ?_
  rintro _ _ ⟨aE, aF, lq601, rfl, cE, hlq601⟩
  refine ⟨_, _, _, rfl, cE, rfl, fun _ cF cG => ?_⟩
  refine d_e [1,2,4,5,6,8,9,10,11,12,13,14,15] [] cF fun _ cH => zw <| ze <| d_r [1,2,4,5,6,8,9,10,11,12,13,14,15] [(1, g_n (w_a ip 1))] cH fun _ cI => ze <| ⟨_, ⟨ip + 1, aE, aF, lq601, Hc, Hd, lq589, rfl, cI.sb, cG.pk [0, 1, 4, 5, 6, 7, 8, 9, 10], by omega, by assumption, by assumption⟩, ?_⟩
  omega
 refine wp_exit <| zF <| zF <| zX <| ze <| wp_seq <| d_s [1,2,4,5,6,8,9,10,11,12,13,14,15,16] [] Ha fun _ cJ => ?_
 refine wp_block <| ZT (fun cK ac wo => ∃ (ir : Nat) (avr : Option Addr) (cvr : Nat) (lvr : List UInt8) (akr : Option Addr) (ckr : Nat) (lkr : List UInt8), cK = (1000 - ir : Nat) ∧ Env ac 130 [(1, .slice am (zf lm) cm), (2, pt Em), (4, pt Ek), (5, pt Ec), (8, pt Ef), (9, pt Eb), (10, pt Ea), (11, .slice Eg (zf bo) Eh), (12, .slice avr (zf lvr) cvr), (13, ni i), (14, .slice akr (zf lkr) ckr), (15, ni ip), (16, ni ir)] ∧ Ev w [] wo [.vec avr cvr 1 (bys lvr) 5, .vec akr ckr 1 (bys lkr) 5, .box Em (zg d) 24, .box Ek (zg (zd 4 0)) 24, .box Ec (zg (zd 4 0)) 24, .box Ef (zg (nd (nuV lm))) 24, .box Eb (bys qx) 56, .box Ea (bys qy) 56, .vec Eg Eh 1 (bys bo) 5] ∧ (ir ≤ 1000) ∧ (zf lvr = 32) ∧ (zf lkr = 32)) ⟨_, 0, avp, cvp, lvp, akp, ckp, lkp, rfl, cJ.sb, H4.pk [0, 1, 2, 3, 4, 5, 6, 7, 8], by omega, by assumption, by assumption⟩ ?_
 rintro eQ _ _ ⟨ir, avr, cvr, lvr, akr, ckr, lkr, rfl, cL, EO, hir, hvr, hkr⟩
 refine wp_seq <| d_s [1,2,4,5,8,9,10,11,12,13,14,15,16,73] [] cL fun _ Hf => ?_
 refine c_d (((ir : Nat) : Int) < (1000 : Int)) Hf (fun cM => ?_) (fun cM => ?_)
 ·
  refine wp_skip <| ze <| wp_seq <| wp_block <| wp_seq <| zj <| d_k [1,2,4,5,8,9,10,11,12,13,14,15,16,76,77] [] 2 Hf fun _ cN => f_o <| c_0 cN EO (Jx _ akr (zf lkr) ckr lkr (by first | rfl | (simp; done) | (simp; omega) | omega) (Ye EO.heap (k := 1) rfl [] (by kernel_rfl) rfl (by first | omega | (simp; done) | (simp; omega))) avr (zf lvr) cvr lvr (by first | rfl | (simp; done) | (simp; omega) | omega) (Ye EO.heap (k := 0) rfl [] (by kernel_rfl) rfl (by first | omega | (simp; done) | (simp; omega))) (by first | omega | (simp only [zE, zL, Zb]; omega)) (by first | omega | (simp only [zE, zL, Zb]; omega))) ?_
  rintro _ _ ⟨Ed, Ee, lq627, rfl, cO, hlq627⟩
  refine ⟨_, _, _, rfl, cO, rfl, fun _ cP cQ => ?_⟩
  refine d_e [1,2,4,5,8,9,10,11,12,13,14,15,16] [] cP fun _ cR => ze <| wp_seq <| zj <| f_o <| m_z 56 (bys (zd 32 0)) cR cQ fun _ _ Ej cS cT => f_e <| ze <| wp_seq <| d_s [1,2,4,5,8,9,10,11,12,13,14,15,16,17,18] [] cS fun _ cU => ?_
  refine wp_block <| ZT (fun cV ac wo => ∃ (j : Nat) (bl : List UInt8), cV = (32 - j : Nat) ∧ Env ac 130 [(1, .slice am (zf lm) cm), (2, pt Em), (4, pt Ek), (5, pt Ec), (8, pt Ef), (9, pt Eb), (10, pt Ea), (11, .slice Eg (zf bo) Eh), (12, .slice Ed (zf lq627) Ee), (13, ni i), (14, .slice akr (zf lkr) ckr), (15, ni ip), (16, ni ir), (17, pt Ej), (18, ni j)] ∧ Ev w [] wo [.box Ej (bys bl) 56, .vec Ed Ee 1 (bys lq627) 5, .vec akr ckr 1 (bys lkr) 5, .box Em (zg d) 24, .box Ek (zg (zd 4 0)) 24, .box Ec (zg (zd 4 0)) 24, .box Ef (zg (nd (nuV lm))) 24, .box Eb (bys qx) 56, .box Ea (bys qy) 56, .vec Eg Eh 1 (bys bo) 5] ∧ (j ≤ 32) ∧ (zf bl = 32)) ⟨_, 0, zd 32 0, rfl, cU.sb, cT.pk [10, 0, 2, 3, 4, 5, 6, 7, 8, 9], by omega, (zh)⟩ ?_
  rintro eR _ _ ⟨j, bl, rfl, cW, Eu, hibl, hlbl⟩
  refine wp_seq <| d_s [1,2,4,5,8,9,10,11,12,13,14,15,16,17,18,80] [] cW fun _ Hg => ?_
  refine c_d (((j : Nat) : Int) < (32 : Int)) Hg (fun cX => ?_) (fun cX => ?_)
  ·
   refine wp_skip <| ze <| wp_seq <| wp_block ?_
   have aa : j < zf lq627 := (by omega)
   obtain ⟨Hh, Hi⟩ := some_of (Yk Eu.heap (k := 1) rfl) aa
   refine zj <| d_k [1,2,4,5,8,9,10,11,12,13,14,15,16,17,18,83,84,85] [] 3 Hg fun _ cY => f_o <| q_v (x := Instr.indexAt 25 (.slice Ed (zf lq627) Ee) (ni j)) (v := .pointer (some (Addr.add Hh j))) cY (zy (e := 5) (sz := 1) (j := j) (jo := j) Hi (by kernel_rfl) (by kernel_rfl) (by omega) aa (zI _) _) fun _ cZ => f_o ?_
   have c0 : j < zf lq627 := by omega
   refine op_loadel (d := some 87) (t := 5) (ad := Hh) (ao := Ed) (xs := bys lq627) (j := j) (v := bv (zb lq627 j 0)) cZ (by kernel_rfl) (Eu.heap.reads (k := 1) rfl) Hi (bys_getD c0) (by kernel_rfl) ?_
   intro _ c1
   refine f_o <| q_v (x := Instr.indexAt 56 (pt Ej) (ni j)) (v := .pointer (some ⟨Ej, j, none⟩)) c1 (zs (e := 5) (sz := 1) (m := 32) (j := j) (o := j) (by kernel_rfl) (by kernel_rfl) (by omega) (by omega) (by omega) _) fun _ c2 => f_o ?_
   have c3 : j < zf bl := by rw [hlbl]; omega
   refine m_t 0 j (bv (zb lq627 j 0)) [.box Ej (bys (zt bl j (zb lq627 j 0))) 56, .vec Ed Ee 1 (bys lq627) 5, .vec akr ckr 1 (bys lkr) 5, .box Em (zg d) 24, .box Ek (zg (zd 4 0)) 24, .box Ec (zg (zd 4 0)) 24, .box Ef (zg (nd (nuV lm))) 24, .box Eb (bys qx) 56, .box Ea (bys qy) 56, .vec Eg Eh 1 (bys bo) 5] c2 Eu rfl (bys_getD c3) (bys_set _ _ _) rfl fun _ _ c4 c5 => f_e <| zw <| ze <| d_r [1,2,4,5,8,9,10,11,12,13,14,15,16,17,18] [(1, g_n (w_a j 1))] c4 fun _ c6 => ze <| ⟨_, ⟨j + 1, (zt bl j (zb lq627 j 0)), rfl, c6.sb, c5.pk [0, 1, 2, 3, 4, 5, 6, 7, 8, 9], by omega, (List.length_set.trans hlbl)⟩, ?_⟩
   omega
  refine wp_exit <| zF <| zF <| zX <| ze <| wp_seq <| zj <| f_o <| Zn 0 32 (bys bl) Hg Eu rfl (Zi hlbl) fun _ c7 => f_o <| c_p c7 Eu (rfrombe_go _ bl hlbl) fun _ _ c8 c9 => f_o <| m_z 24 (zg (zd 4 0)) c8 c9 fun _ _ En da db => f_o <| zW 10 4 (zg (nd (lv (zr bl)))) _ da db rfl (za (zl _ _)) (za (zh)) (zq _) rfl fun _ _ dc ab => f_e <| ze <| wp_seq <| zj <| f_o <| Zn 10 4 (zg (nd (lv (zr bl)))) dc ab rfl (za (zl _ _)) fun _ dd => f_o <| c_p dd ab (dmay_go _ (nd (lv (zr bl))) (zl _ _)) fun _ _ de Hj => ?_
  refine d_e [1,2,4,5,8,9,10,11,12,13,14,15,16,17,18,19,20] [] de fun _ df => ze <| wp_seq <| d_s [1,2,4,5,8,9,10,11,12,13,14,15,16,17,18,19,93] [] df fun _ Hk => ?_
  refine cond_at Hk (t := mayN (nd (lv (zr bl)))) (by kernel_rfl) (fun Ew => ?_) (fun Ew => ?_)
  ·
   replace Ew : mayN (nd (lv (zr bl))) = true := Ew
   refine wp_seq <| r_c (fun ac wo => ∃ (El : Nat), Env ac 130 [(1, .slice am (zf lm) cm), (2, pt Em), (4, pt Ek), (5, pt Ec), (8, pt Ef), (9, pt Eb), (10, pt Ea), (11, .slice Eg (zf bo) Eh), (12, .slice Ed (zf lq627) Ee), (13, ni i), (14, .slice akr (zf lkr) ckr), (15, ni ip), (16, ni ir), (17, pt Ej), (18, ni j), (19, pt En), (21, pt El)] ∧ Ev w [] wo [.box Ej (bys bl) 56, .vec Ed Ee 1 (bys lq627) 5, .vec akr ckr 1 (bys lkr) 5, .box Em (zg d) 24, .box Ek (zg (zd 4 0)) 24, .box Ec (zg (zd 4 0)) 24, .box Ef (zg (nd (nuV lm))) 24, .box Eb (bys qx) 56, .box Ea (bys qy) 56, .vec Eg Eh 1 (bys bo) 5, .box En (zg (nd (lv (zr bl)))) 24, .box El (zg (nd (zo 3 (nv ((zV (nv (nd (lv (zr bl)))) Gp).2.1)) (nv ([1, 0, 0, 0] : List UInt64))))) 24]) ?_ ?_
   ·
    refine s_g1 [(1, .slice am (zf lm) cm), (2, pt Em), (4, pt Ek), (5, pt Ec), (8, pt Ef), (9, pt Eb), (10, pt Ea), (11, .slice Eg (zf bo) Eh), (12, .slice Ed (zf lq627) Ee), (13, ni i), (14, .slice akr (zf lkr) ckr), (15, ni ip), (16, ni ir), (17, pt Ej), (18, ni j), (19, pt En)] [0,1,2,3,4,5] [(94, .agg (zc (zg (nd (lv (zr bl)))))), (95, .agg (zc (([.bool false] : List Value) ++ ((zg (nd GX)) ++ (zg (nd GY)))))), (96, .agg (zc (([.bool ((zV (nv (nd (lv (zr bl)))) Gp).1)] : List Value) ++ ((zg ((zV (nv (nd (lv (zr bl)))) Gp).2.1)) ++ (zg ((zV (nv (nd (lv (zr bl)))) Gp).2.2)))))), (97, .agg (zc (zg ((zV (nv (nd (lv (zr bl)))) Gp).2.1)))), (98, .agg (zc (zg ([1, 0, 0, 0] : List UInt64)))), (99, .agg (zc (zg (nd (zo 3 (nv ((zV (nv (nd (lv (zr bl)))) Gp).2.1)) (nv ([1, 0, 0, 0] : List UInt64)))))))] 1 [(1, .slice am (zf lm) cm), (2, pt Em), (4, pt Ek), (5, pt Ec), (8, pt Ef), (9, pt Eb), (10, pt Ea), (11, .slice Eg (zf bo) Eh), (12, .slice Ed (zf lq627) Ee), (13, ni i), (14, .slice akr (zf lkr) ckr), (15, ni ip), (16, ni ir), (17, pt Ej), (18, ni j), (19, pt En), (99, .agg (zc (zg (nd (zo 3 (nv ((zV (nv (nd (lv (zr bl)))) Gp).2.1)) (nv ([1, 0, 0, 0] : List UInt64)))))))] 6 (zg (zd 4 0)) (Hk.sb) (Hj.trans (zN Hj.heap)) ?_ fun _ _ El dg dh => ?_
    ·
     refine s_a 10 0 4 (zg (nd (lv (zr bl)))) rfl (zn (za (zl _ _))) (za (zl _ _)) <| s_f (fun _ => dbase_go _) ?_
     refine s_f (fun _ => dpmult_go _ (nd (lv (zr bl))) (zl _ _) false (nd GX) (nd GY) lGX lGY) ?_
     refine s_c (fun Mx728 _ _ di dj => ?_) ?_
     ·
      refine q_v (x := Instr.field 27 (.agg (zc (([.bool ((zV (nv (nd (lv (zr bl)))) Gp).1)] : List Value) ++ ((zg ((zV (nv (nd (lv (zr bl)))) Gp).2.1)) ++ (zg ((zV (nv (nd (lv (zr bl)))) Gp).2.2)))))) 1) (v := .agg (zc (zg ((zV (nv (nd (lv (zr bl)))) Gp).2.1)))) di (Go.Dbr.pnt_field1 isP (Zk _ _).1 (Zk _ _).2 _) fun _ dk => ?_
      exact s_e dk dj
     refine s_p [] <| s_f (fun _ => hR3 _ ((zV (nv (nd (lv (zr bl)))) Gp).2.1) ([1, 0, 0, 0] : List UInt64) (Zk _ _).1 (show zf ([1, 0, 0, 0] : List UInt64) = 4 from rfl)) ?_
     exact s_n
    refine q_u 7 ?_
    refine zW 11 4 (zg (nd (zo 3 (nv ((zV (nv (nd (lv (zr bl)))) Gp).2.1)) (nv ([1, 0, 0, 0] : List UInt64))))) [.box Ej (bys bl) 56, .vec Ed Ee 1 (bys lq627) 5, .vec akr ckr 1 (bys lkr) 5, .box Em (zg d) 24, .box Ek (zg (zd 4 0)) 24, .box Ec (zg (zd 4 0)) 24, .box Ef (zg (nd (nuV lm))) 24, .box Eb (bys qx) 56, .box Ea (bys qy) 56, .vec Eg Eh 1 (bys bo) 5, .box En (zg (nd (lv (zr bl)))) 24, .box El (zg (nd (zo 3 (nv ((zV (nv (nd (lv (zr bl)))) Gp).2.1)) (nv ([1, 0, 0, 0] : List UInt64))))) 24] dg dh rfl (za (zl _ _)) (za (zh)) (zq _) rfl fun _ _ dl dm => ?_
    exact a_e ⟨El, dl.sb, dm.pk [0, 1, 2, 3, 4, 5, 6, 7, 8, 9, 10, 11]⟩
   rintro _ _ ⟨El, dn, ae⟩
   refine ze <| wp_seq <| r_c (fun ac wo => ∃ (Eo : Nat), Env ac 130 [(1, .slice am (zf lm) cm), (2, pt Em), (4, pt Ek), (5, pt Ec), (8, pt Ef), (9, pt Eb), (10, pt Ea), (11, .slice Eg (zf bo) Eh), (12, .slice Ed (zf lq627) Ee), (13, ni i), (14, .slice akr (zf lkr) ckr), (15, ni ip), (16, ni ir), (17, pt Ej), (18, ni j), (19, pt En), (21, pt El), (22, pt Eo)] ∧ Ev w [] wo [.box Ej (bys bl) 56, .vec Ed Ee 1 (bys lq627) 5, .vec akr ckr 1 (bys lkr) 5, .box Em (zg d) 24, .box Ek (zg (zd 4 0)) 24, .box Ec (zg (zd 4 0)) 24, .box Ef (zg (nd (nuV lm))) 24, .box Eb (bys qx) 56, .box Ea (bys qy) 56, .vec Eg Eh 1 (bys bo) 5, .box En (zg (nd (lv (zr bl)))) 24, .box El (zg (nd (zo 3 (nv ((zV (nv (nd (lv (zr bl)))) Gp).2.1)) (nv ([1, 0, 0, 0] : List UInt64))))) 24, .box Eo (zg (nd (zo 3 (nv (nd (zK 3 (nv (nd (lv (zr bl)))) (mF 3 - 2)))) (nv (nd (z5 3 (nv (nd (nuV lm))) (nv (nd (zo 3 (nv (nd (zo 3 (nv ((zV (nv (nd (lv (zr bl)))) Gp).2.1)) (nv ([1, 0, 0, 0] : List UInt64))))) (nv d)))))))))) 24]) ?_ ?_
   ·
    refine s_g1 [(1, .slice am (zf lm) cm), (2, pt Em), (4, pt Ek), (5, pt Ec), (8, pt Ef), (9, pt Eb), (10, pt Ea), (11, .slice Eg (zf bo) Eh), (12, .slice Ed (zf lq627) Ee), (13, ni i), (14, .slice akr (zf lkr) ckr), (15, ni ip), (16, ni ir), (17, pt Ej), (18, ni j), (19, pt En), (21, pt El)] [0,1,2,3,4,5,6,7] [(100, .agg (zc (zg (nd (lv (zr bl)))))), (101, .agg (zc (zg (nd (zK 3 (nv (nd (lv (zr bl)))) (mF 3 - 2)))))), (102, .agg (zc (zg (nd (nuV lm))))), (103, .agg (zc (zg (nd (zo 3 (nv ((zV (nv (nd (lv (zr bl)))) Gp).2.1)) (nv ([1, 0, 0, 0] : List UInt64))))))), (104, .agg (zc (zg d))), (105, .agg (zc (zg (nd (zo 3 (nv (nd (zo 3 (nv ((zV (nv (nd (lv (zr bl)))) Gp).2.1)) (nv ([1, 0, 0, 0] : List UInt64))))) (nv d)))))), (106, .agg (zc (zg (nd (z5 3 (nv (nd (nuV lm))) (nv (nd (zo 3 (nv (nd (zo 3 (nv ((zV (nv (nd (lv (zr bl)))) Gp).2.1)) (nv ([1, 0, 0, 0] : List UInt64))))) (nv d))))))))), (107, .agg (zc (zg (nd (zo 3 (nv (nd (zK 3 (nv (nd (lv (zr bl)))) (mF 3 - 2)))) (nv (nd (z5 3 (nv (nd (nuV lm))) (nv (nd (zo 3 (nv (nd (zo 3 (nv ((zV (nv (nd (lv (zr bl)))) Gp).2.1)) (nv ([1, 0, 0, 0] : List UInt64))))) (nv d))))))))))))] 1 [(1, .slice am (zf lm) cm), (2, pt Em), (4, pt Ek), (5, pt Ec), (8, pt Ef), (9, pt Eb), (10, pt Ea), (11, .slice Eg (zf bo) Eh), (12, .slice Ed (zf lq627) Ee), (13, ni i), (14, .slice akr (zf lkr) ckr), (15, ni ip), (16, ni ir), (17, pt Ej), (18, ni j), (19, pt En), (21, pt El), (107, .agg (zc (zg (nd (zo 3 (nv (nd (zK 3 (nv (nd (lv (zr bl)))) (mF 3 - 2)))) (nv (nd (z5 3 (nv (nd (nuV lm))) (nv (nd (zo 3 (nv (nd (zo 3 (nv ((zV (nv (nd (lv (zr bl)))) Gp).2.1)) (nv ([1, 0, 0, 0] : List UInt64))))) (nv d))))))))))))] 8 (zg (zd 4 0)) (dn.sb) (ae.trans (zN ae.heap)) ?_ fun _ _ Eo dp dq => ?_
    ·
     refine s_a 10 0 4 (zg (nd (lv (zr bl)))) rfl (zn (za (zl _ _))) (za (zl _ _)) <| s_f (fun _ => rinv_go _ 3 h3f hR3 (nd (lv (zr bl))) (zl _ _)) ?_
     refine s_a 6 0 4 (zg (nd (nuV lm))) rfl (zn (za (zl _ _))) (za (zl _ _)) <| s_a 11 0 4 (zg (nd (zo 3 (nv ((zV (nv (nd (lv (zr bl)))) Gp).2.1)) (nv ([1, 0, 0, 0] : List UInt64))))) rfl (zn (za (zl _ _))) (za (zl _ _)) <| s_a 3 0 4 (zg d) rfl (zn (za hd)) (za hd) <| s_f (fun _ => hR3 _ (nd (zo 3 (nv ((zV (nv (nd (lv (zr bl)))) Gp).2.1)) (nv ([1, 0, 0, 0] : List UInt64)))) d (zl _ _) hd) ?_
     refine s_f (fun _ => radd_go _ 3 h3f hL3 (nd (nuV lm)) (nd (zo 3 (nv (nd (zo 3 (nv ((zV (nv (nd (lv (zr bl)))) Gp).2.1)) (nv ([1, 0, 0, 0] : List UInt64))))) (nv d))) (zl _ _) (zl _ _)) ?_
     refine s_f (fun _ => hR3 _ (nd (zK 3 (nv (nd (lv (zr bl)))) (mF 3 - 2))) (nd (z5 3 (nv (nd (nuV lm))) (nv (nd (zo 3 (nv (nd (zo 3 (nv ((zV (nv (nd (lv (zr bl)))) Gp).2.1)) (nv ([1, 0, 0, 0] : List UInt64))))) (nv d)))))) (zl _ _) (zl _ _)) ?_
     exact s_n
    refine q_u 9 ?_
    refine zW 12 4 (zg (nd (zo 3 (nv (nd (zK 3 (nv (nd (lv (zr bl)))) (mF 3 - 2)))) (nv (nd (z5 3 (nv (nd (nuV lm))) (nv (nd (zo 3 (nv (nd (zo 3 (nv ((zV (nv (nd (lv (zr bl)))) Gp).2.1)) (nv ([1, 0, 0, 0] : List UInt64))))) (nv d)))))))))) _ dp dq rfl (za (zl _ _)) (za (zh)) (zq _) rfl fun _ _ dr ds => ?_
    exact a_e ⟨Eo, dr.sb, ds.pk [0, 1, 2, 3, 4, 5, 6, 7, 8, 9, 10, 11, 12]⟩
   rintro _ _ ⟨Eo, dt, Eq⟩
   refine ze <| wp_seq <| zj <| f_o <| Zn 11 4 (zg (nd (zo 3 (nv ((zV (nv (nd (lv (zr bl)))) Gp).2.1)) (nv ([1, 0, 0, 0] : List UInt64))))) dt Eq rfl (za (zl _ _)) fun _ du => d_k [1,2,4,5,8,9,10,11,12,13,14,15,16,17,18,19,21,22,108,109] [] 2 du fun _ dv => f_o <| q_v (x := eqOp .neq 24 (.tmp 108) (.tmp 109) (.agg (zc (zg (nd (zo 3 (nv ((zV (nv (nd (lv (zr bl)))) Gp).2.1)) (nv ([1, 0, 0, 0] : List UInt64))))))) (.agg (zc (zg ([0, 0, 0, 0] : List UInt64))))) (v := .bool (!((nd (zo 3 (nv ((zV (nv (nd (lv (zr bl)))) Gp).2.1)) (nv ([1, 0, 0, 0] : List UInt64)))) == ([0, 0, 0, 0] : List UInt64)))) dv (Yx (a := (.tmp 108)) (b := (.tmp 109)) (e := 22) (m := 4) (by kernel_rfl) (by kernel_rfl) (by kernel_rfl) (by kernel_rfl) (by kernel_rfl) (zl _ _) (show zf ([0, 0, 0, 0] : List UInt64) = 4 from rfl) _) fun _ dw => d_k [1,2,4,5,8,9,10,11,12,13,14,15,16,17,18,19,21,22,111] [] 4 dw fun _ af => ?_
   rcases zM (!((nd (zo 3 (nv ((zV (nv (nd (lv (zr bl)))) Gp).2.1)) (nv ([1, 0, 0, 0] : List UInt64)))) == ([0, 0, 0, 0] : List UInt64))) with Ex | Ex
   ·
    have dx := af.fx (t := 111) (congrArg Value.bool Ex)
    have hp844 : ¬ ((nd (zo 3 (nv ((zV (nv (nd (lv (zr bl)))) Gp).2.1)) (nv ([1, 0, 0, 0] : List UInt64)))) = ([0, 0, 0, 0] : List UInt64)) := by simpa using Ex
    refine f_o <| Zn 12 4 (zg (nd (zo 3 (nv (nd (zK 3 (nv (nd (lv (zr bl)))) (mF 3 - 2)))) (nv (nd (z5 3 (nv (nd (nuV lm))) (nv (nd (zo 3 (nv (nd (zo 3 (nv ((zV (nv (nd (lv (zr bl)))) Gp).2.1)) (nv ([1, 0, 0, 0] : List UInt64))))) (nv d)))))))))) dx Eq rfl (za (zl _ _)) fun _ dy => d_k [1,2,4,5,8,9,10,11,12,13,14,15,16,17,18,19,21,22,111,112,113] [] 6 dy fun _ dz => f_o <| q_v (x := eqOp .neq 24 (.tmp 112) (.tmp 113) (.agg (zc (zg (nd (zo 3 (nv (nd (zK 3 (nv (nd (lv (zr bl)))) (mF 3 - 2)))) (nv (nd (z5 3 (nv (nd (nuV lm))) (nv (nd (zo 3 (nv (nd (zo 3 (nv ((zV (nv (nd (lv (zr bl)))) Gp).2.1)) (nv ([1, 0, 0, 0] : List UInt64))))) (nv d)))))))))))) (.agg (zc (zg ([0, 0, 0, 0] : List UInt64))))) (v := .bool (!((nd (zo 3 (nv (nd (zK 3 (nv (nd (lv (zr bl)))) (mF 3 - 2)))) (nv (nd (z5 3 (nv (nd (nuV lm))) (nv (nd (zo 3 (nv (nd (zo 3 (nv ((zV (nv (nd (lv (zr bl)))) Gp).2.1)) (nv ([1, 0, 0, 0] : List UInt64))))) (nv d))))))))) == ([0, 0, 0, 0] : List UInt64)))) dz (Yx (a := (.tmp 112)) (b := (.tmp 113)) (e := 22) (m := 4) (by kernel_rfl) (by kernel_rfl) (by kernel_rfl) (by kernel_rfl) (by kernel_rfl) (zl _ _) (show zf ([0, 0, 0, 0] : List UInt64) = 4 from rfl) _) fun _ dA => d_e [1,2,4,5,8,9,10,11,12,13,14,15,16,17,18,19,21,22,115] [] dA fun _ Hl => ?_
    refine ze <| cond_at Hl (t := !((nd (zo 3 (nv (nd (zK 3 (nv (nd (lv (zr bl)))) (mF 3 - 2)))) (nv (nd (z5 3 (nv (nd (nuV lm))) (nv (nd (zo 3 (nv (nd (zo 3 (nv ((zV (nv (nd (lv (zr bl)))) Gp).2.1)) (nv ([1, 0, 0, 0] : List UInt64))))) (nv d))))))))) == ([0, 0, 0, 0] : List UInt64))) (by kernel_rfl) (fun Ey => ?_) (fun Ey => ?_)
    ·
     replace Ey : ¬ ((nd (zo 3 (nv (nd (zK 3 (nv (nd (lv (zr bl)))) (mF 3 - 2)))) (nv (nd (z5 3 (nv (nd (nuV lm))) (nv (nd (zo 3 (nv (nd (zo 3 (nv ((zV (nv (nd (lv (zr bl)))) Gp).2.1)) (nv ([1, 0, 0, 0] : List UInt64))))) (nv d))))))))) = ([0, 0, 0, 0] : List UInt64)) := by simpa using Ey
     refine wp_seq <| r_c (fun ac wo => Env ac 130 [(1, .slice am (zf lm) cm), (2, pt Em), (4, pt Ek), (5, pt Ec), (6, .int .i64 0), (8, pt Ef), (9, pt Eb), (10, pt Ea), (11, .slice Eg (zf bo) Eh), (12, .slice Ed (zf lq627) Ee), (13, ni i), (14, .slice akr (zf lkr) ckr), (15, ni ip), (16, ni ir), (17, pt Ej), (18, ni j), (19, pt En), (21, pt El), (22, pt Eo)] ∧ Ev w [] wo [.box Ej (bys bl) 56, .vec Ed Ee 1 (bys lq627) 5, .vec akr ckr 1 (bys lkr) 5, .box Em (zg d) 24, .box Ek (zg (nd (zo 3 (nv ((zV (nv (nd (lv (zr bl)))) Gp).2.1)) (nv ([1, 0, 0, 0] : List UInt64))))) 24, .box Ec (zg (nd (zo 3 (nv (nd (zK 3 (nv (nd (lv (zr bl)))) (mF 3 - 2)))) (nv (nd (z5 3 (nv (nd (nuV lm))) (nv (nd (zo 3 (nv (nd (zo 3 (nv ((zV (nv (nd (lv (zr bl)))) Gp).2.1)) (nv ([1, 0, 0, 0] : List UInt64))))) (nv d)))))))))) 24, .box Ef (zg (nd (nuV lm))) 24, .box Eb (bys qx) 56, .box Ea (bys qy) 56, .vec Eg Eh 1 (bys bo) 5, .box En (zg (nd (lv (zr bl)))) 24, .box El (zg (nd (zo 3 (nv ((zV (nv (nd (lv (zr bl)))) Gp).2.1)) (nv ([1, 0, 0, 0] : List UInt64))))) 24, .box Eo (zg (nd (zo 3 (nv (nd (zK 3 (nv (nd (lv (zr bl)))) (mF 3 - 2)))) (nv (nd (z5 3 (nv (nd (nuV lm))) (nv (nd (zo 3 (nv (nd (zo 3 (nv ((zV (nv (nd (lv (zr bl)))) Gp).2.1)) (nv ([1, 0, 0, 0] : List UInt64))))) (nv d)))))))))) 24]) ?_ ?_
     ·
      refine h_s (fun wv => Ev w [] wv [.box El (zg (nd (zo 3 (nv ((zV (nv (nd (lv (zr bl)))) Gp).2.1)) (nv ([1, 0, 0, 0] : List UInt64))))) 24, .box Eo (zg (nd (zo 3 (nv (nd (zK 3 (nv (nd (lv (zr bl)))) (mF 3 - 2)))) (nv (nd (z5 3 (nv (nd (nuV lm))) (nv (nd (zo 3 (nv (nd (zo 3 (nv ((zV (nv (nd (lv (zr bl)))) Gp).2.1)) (nv ([1, 0, 0, 0] : List UInt64))))) (nv d)))))))))) 24]) [] 5 ?_
      have Hm := Eq.trans (zN Eq.heap)
      refine q_r 0 (s := Instr.loadAt 24 (pt El)) (v := .agg (zc (zg (nd (zo 3 (nv ((zV (nv (nd (lv (zr bl)))) Gp).2.1)) (nv ([1, 0, 0, 0] : List UInt64))))))) Hl (fun w hS => run_loadAgg2 (m := 4) (cs := zg (nd (zo 3 (nv ((zV (nv (nd (lv (zr bl)))) Gp).2.1)) (nv ([1, 0, 0, 0] : List UInt64))))) (za (zl _ _)) (by kernel_rfl) (by kernel_rfl) (hS.heap.cells (k := 0) (off := 0) (m := 4) rfl (zn (za (zl _ _))))) (Hm.pk [11, 12]) fun _ dB => q_r 1 (s := Instr.loadAt 24 (pt Eo)) (v := .agg (zc (zg (nd (zo 3 (nv (nd (zK 3 (nv (nd (lv (zr bl)))) (mF 3 - 2)))) (nv (nd (z5 3 (nv (nd (nuV lm))) (nv (nd (zo 3 (nv (nd (zo 3 (nv ((zV (nv (nd (lv (zr bl)))) Gp).2.1)) (nv ([1, 0, 0, 0] : List UInt64))))) (nv d)))))))))))) dB (fun w hS => run_loadAgg2 (m := 4) (cs := zg (nd (zo 3 (nv (nd (zK 3 (nv (nd (lv (zr bl)))) (mF 3 - 2)))) (nv (nd (z5 3 (nv (nd (nuV lm))) (nv (nd (zo 3 (nv (nd (zo 3 (nv ((zV (nv (nd (lv (zr bl)))) Gp).2.1)) (nv ([1, 0, 0, 0] : List UInt64))))) (nv d)))))))))) (za (zl _ _)) (by kernel_rfl) (by kernel_rfl) (hS.heap.cells (k := 1) (off := 0) (m := 4) rfl (zn (za (zl _ _))))) (Hm.pk [11, 12]) fun _ dC => q_t 2 ?_
      refine zW 4 4 (zg (nd (zo 3 (nv ((zV (nv (nd (lv (zr bl)))) Gp).2.1)) (nv ([1, 0, 0, 0] : List UInt64))))) [.box Ej (bys bl) 56, .vec Ed Ee 1 (bys lq627) 5, .vec akr ckr 1 (bys lkr) 5, .box Em (zg d) 24, .box Ek (zg (nd (zo 3 (nv ((zV (nv (nd (lv (zr bl)))) Gp).2.1)) (nv ([1, 0, 0, 0] : List UInt64))))) 24, .box Ec (zg (zd 4 0)) 24, .box Ef (zg (nd (nuV lm))) 24, .box Eb (bys qx) 56, .box Ea (bys qy) 56, .vec Eg Eh 1 (bys bo) 5, .box En (zg (nd (lv (zr bl)))) 24, .box El (zg (nd (zo 3 (nv ((zV (nv (nd (lv (zr bl)))) Gp).2.1)) (nv ([1, 0, 0, 0] : List UInt64))))) 24, .box Eo (zg (nd (zo 3 (nv (nd (zK 3 (nv (nd (lv (zr bl)))) (mF 3 - 2)))) (nv (nd (z5 3 (nv (nd (nuV lm))) (nv (nd (zo 3 (nv (nd (zo 3 (nv ((zV (nv (nd (lv (zr bl)))) Gp).2.1)) (nv ([1, 0, 0, 0] : List UInt64))))) (nv d)))))))))) 24] dC Hm rfl (za (zl _ _)) (za (zh)) (zq _) rfl fun _ _ dD ag => ⟨fun _ => ag.pk [11, 12], ?_⟩
      refine q_t 3 ?_
      refine zW 5 4 (zg (nd (zo 3 (nv (nd (zK 3 (nv (nd (lv (zr bl)))) (mF 3 - 2)))) (nv (nd (z5 3 (nv (nd (nuV lm))) (nv (nd (zo 3 (nv (nd (zo 3 (nv ((zV (nv (nd (lv (zr bl)))) Gp).2.1)) (nv ([1, 0, 0, 0] : List UInt64))))) (nv d)))))))))) _ dD ag rfl (za (zl _ _)) (za (zh)) (zq _) rfl fun _ _ dE Hn => ⟨fun _ => Hn.pk [11, 12], ?_⟩
      refine q_s [4] [] 0 dE (Hn.pk [11, 12]) fun _ dF => ?_
      exact h_e ⟨dF.sb, Hn.pk [0, 1, 2, 3, 4, 5, 6, 7, 8, 9, 10, 11, 12]⟩
     rintro _ _ ⟨dG, Ho⟩
     refine ze <| wp_ret <| z9 <| block_ret <| z9 <| z9 <| block_ret <| z9 <| d_cell_ct (v := .agg (zc (zg (nd (zo 3 (nv ((zV (nv (nd (lv (zr bl)))) Gp).2.1)) (nv ([1, 0, 0, 0] : List UInt64))))))) (x := .agg (zc (zg (nd (zo 3 (nv (nd (zK 3 (nv (nd (lv (zr bl)))) (mF 3 - 2)))) (nv (nd (z5 3 (nv (nd (nuV lm))) (nv (nd (zo 3 (nv (nd (zo 3 (nv ((zV (nv (nd (lv (zr bl)))) Gp).2.1)) (nv ([1, 0, 0, 0] : List UInt64))))) (nv d)))))))))))) (y := .int .i64 0) (t := 4) (T := 24) (ad := ⟨Ek, 0, none⟩) (u := 5) (U := 24) (bd := ⟨Ec, 0, none⟩) (s := 6) dG (by kernel_rfl) (by kernel_rfl) (zC (t := 24) (k := 4) (off := 0) (m := 4) (xs := zg (nd (zo 3 (nv ((zV (nv (nd (lv (zr bl)))) Gp).2.1)) (nv ([1, 0, 0, 0] : List UInt64))))) Ho rfl (zn (za (zl _ _))) (za (zl _ _)) (by kernel_rfl) (by kernel_rfl)) (by kernel_rfl) (zC (t := 24) (k := 5) (off := 0) (m := 4) (xs := zg (nd (zo 3 (nv (nd (zK 3 (nv (nd (lv (zr bl)))) (mF 3 - 2)))) (nv (nd (z5 3 (nv (nd (nuV lm))) (nv (nd (zo 3 (nv (nd (zo 3 (nv ((zV (nv (nd (lv (zr bl)))) Gp).2.1)) (nv ([1, 0, 0, 0] : List UInt64))))) (nv d)))))))))) Ho rfl (zn (za (zl _ _))) (za (zl _ _)) (by kernel_rfl) (by kernel_rfl)) (by kernel_rfl) ?_
     exact ⟨_, _, _, rfl, Ho.pk [], (zl _ _), (zl _ _)⟩
    replace Ey : (nd (zo 3 (nv (nd (zK 3 (nv (nd (lv (zr bl)))) (mF 3 - 2)))) (nv (nd (z5 3 (nv (nd (nuV lm))) (nv (nd (zo 3 (nv (nd (zo 3 (nv ((zV (nv (nd (lv (zr bl)))) Gp).2.1)) (nv ([1, 0, 0, 0] : List UInt64))))) (nv d))))))))) = ([0, 0, 0, 0] : List UInt64) := by simpa using Ey
    refine wp_skip <| ze <| wp_seq <| zj <| d_k [1,2,4,5,8,9,10,11,12,13,14,15,16,17,18,19,21,22,118] [] 1 Hl fun _ dH => f_o <| Yn (d := some 119) (t := 25) (T := 5) (m := 0) (parts := #[]) (xs := bys []) (sz := 1) dH (by kernel_rfl) (by kernel_rfl) rfl (by decide) Eq ?_
    intro _ _ eS dI Hp
    refine d_k [1,2,4,5,8,9,10,11,12,13,14,15,16,17,18,19,21,22,118,119,120] [] 3 dI fun _ dJ => f_o <| ZA (d := some 121) (t := 25) (tx := 25) (ty := 25) (k := 13) (p := 0) (m := zf lq627) (x := .slice Ed (zf lq627) Ee) (bytes := 1) dJ (by kernel_rfl) Hp rfl rfl (Zz (size := 1) (tx := 25) (e' := 5) (by kernel_rfl) (Hp.heap.reads (k := 1) rfl) (Z9 _) (Yk Hp.heap (k := 1) rfl) (ZG _)) (by kernel_rfl) (z := .int .u8 0) (by kernel_rfl) rfl (by decide) (by first | omega | (simp; done) | (simp; omega)) (by unfold maxLen; first | omega | (simp; done) | (simp; omega)) ?_
    intro _ _ eT eU ah ai hnz _
    clear hnz
    rw [QG] at ai
    have aG : 0 + (zf lq627) = zf lq627 := (by first | (simp; done) | (simp; omega) | omega)
    rw [aG] at ah
    refine f_o <| Yn (d := some 122) (t := 25) (T := 5) (m := 1) (parts := #[(0, .int .u8 0)]) (xs := bys [(0 : UInt8)]) (sz := 1) ah (by kernel_rfl) (by kernel_rfl) rfl (by decide) ai ?_
    intro _ _ dK dL aj
    refine f_o <| ZA (d := some 123) (t := 25) (tx := 25) (ty := 25) (k := 13) (p := zf lq627) (m := 1) (x := .slice (some ⟨dK, 0, none⟩) 1 1) (bytes := 1) dL (by kernel_rfl) aj rfl (Z9 _) (Zz (size := 1) (tx := 25) (e' := 5) (by kernel_rfl) (aj.heap.reads (k := 14) rfl) rfl (fun e => by cases e) (ZG _)) (by kernel_rfl) (z := .int .u8 0) (by kernel_rfl) rfl (by decide) (by first | omega | (simp; done) | (simp; omega)) (by unfold maxLen; first | omega | (simp; done) | (simp; omega)) ?_
    intro _ _ dM dN ak EP hnz _
    clear hnz
    rw [← ZM] at EP
    have aH : (zf lq627) + 1 = zf (lq627 ++ [(0 : UInt8)]) := (by first | (simp; done) | (simp; omega) | omega)
    rw [aH] at ak
    refine f_o <| c_0 ak EP (Jx _ akr (zf lkr) ckr lkr (by first | rfl | (simp; done) | (simp; omega) | omega) (Ye EP.heap (k := 2) rfl [] (by kernel_rfl) rfl (by first | omega | (simp; done) | (simp; omega))) dM (zf (lq627 ++ [(0 : UInt8)])) dN (lq627 ++ [(0 : UInt8)]) (by first | rfl | (simp; done) | (simp; omega) | omega) (Ye EP.heap (k := 13) rfl [] (by kernel_rfl) rfl (by first | omega | (simp; done) | (simp; omega))) (by first | omega | (simp only [zE, zL, Zb]; omega)) (by first | omega | (simp only [zE, zL, Zb]; omega))) ?_
    rintro _ _ ⟨Hq, Hr, lq957, rfl, dO, hlq957⟩
    refine ⟨_, _, _, rfl, dO, rfl, fun _ dP Hs => ?_⟩
    refine d_e [1,2,4,5,8,9,10,11,12,13,14,15,16,17,18,19,21,22] [] dP fun _ dQ => ze <| zj <| d_k [1,2,4,5,8,9,10,11,12,13,14,15,16,17,18,19,21,22,125,126] [] 2 dQ fun _ dR => f_o <| c_0 dR Hs (Jx _ Hq (zf lq957) Hr lq957 (by first | rfl | (simp; done) | (simp; omega) | omega) (Ye Hs.heap (k := 0) rfl [] (by kernel_rfl) rfl (by first | omega | (simp; done) | (simp; omega))) Ed (zf lq627) Ee lq627 (by first | rfl | (simp; done) | (simp; omega) | omega) (Ye Hs.heap (k := 2) rfl [] (by kernel_rfl) rfl (by first | omega | (simp; done) | (simp; omega))) (by first | omega | (simp only [zE, zL, Zb]; omega)) (by first | omega | (simp only [zE, zL, Zb]; omega))) ?_
    rintro _ _ ⟨aI, aJ, lq969, rfl, dS, hlq969⟩
    refine ⟨_, _, _, rfl, dS, rfl, fun _ dT dU => ?_⟩
    refine d_e [1,2,4,5,8,9,10,11,12,13,14,15,16,17,18,19,21,22] [] dT fun _ dV => zw <| ze <| d_r [1,2,4,5,8,9,10,11,12,13,14,15,16,17,18,19,21,22] [(1, g_n (w_a ir 1))] dV fun _ dW => ze <| ⟨_, ⟨ir + 1, aI, aJ, lq969, Hq, Hr, lq957, rfl, dW.sb, dU.pk [0, 1, 5, 6, 7, 8, 9, 10, 11], by omega, by assumption, by assumption⟩, ?_⟩
    omega
   have dX := af.fx (t := 111) (congrArg Value.bool Ex)
   have hp982 : (nd (zo 3 (nv ((zV (nv (nd (lv (zr bl)))) Gp).2.1)) (nv ([1, 0, 0, 0] : List UInt64)))) = ([0, 0, 0, 0] : List UInt64) := by simpa using Ex
   refine d_e [1,2,4,5,8,9,10,11,12,13,14,15,16,17,18,19,21,22,115] [] dX fun _ al => ze <| c_f al ?_
   refine wp_skip <| ze <| wp_seq <| zj <| d_k [1,2,4,5,8,9,10,11,12,13,14,15,16,17,18,19,21,22,118] [] 1 al fun _ dY => f_o <| Yn (d := some 119) (t := 25) (T := 5) (m := 0) (parts := #[]) (xs := bys []) (sz := 1) dY (by kernel_rfl) (by kernel_rfl) rfl (by decide) Eq ?_
   intro _ _ eV dZ Ht
   refine d_k [1,2,4,5,8,9,10,11,12,13,14,15,16,17,18,19,21,22,118,119,120] [] 3 dZ fun _ d0 => f_o <| ZA (d := some 121) (t := 25) (tx := 25) (ty := 25) (k := 13) (p := 0) (m := zf lq627) (x := .slice Ed (zf lq627) Ee) (bytes := 1) d0 (by kernel_rfl) Ht rfl rfl (Zz (size := 1) (tx := 25) (e' := 5) (by kernel_rfl) (Ht.heap.reads (k := 1) rfl) (Z9 _) (Yk Ht.heap (k := 1) rfl) (ZG _)) (by kernel_rfl) (z := .int .u8 0) (by kernel_rfl) rfl (by decide) (by first | omega | (simp; done) | (simp; omega)) (by unfold maxLen; first | omega | (simp; done) | (simp; omega)) ?_
   intro _ _ eW eX Hu Hv hnz _
   clear hnz
   rw [QG] at Hv
   have aK : 0 + (zf lq627) = zf lq627 := (by first | (simp; done) | (simp; omega) | omega)
   rw [aK] at Hu
   refine f_o <| Yn (d := some 122) (t := 25) (T := 5) (m := 1) (parts := #[(0, .int .u8 0)]) (xs := bys [(0 : UInt8)]) (sz := 1) Hu (by kernel_rfl) (by kernel_rfl) rfl (by decide) Hv ?_
   intro _ _ aL aM Hw
   refine f_o <| ZA (d := some 123) (t := 25) (tx := 25) (ty := 25) (k := 13) (p := zf lq627) (m := 1) (x := .slice (some ⟨aL, 0, none⟩) 1 1) (bytes := 1) aM (by kernel_rfl) Hw rfl (Z9 _) (Zz (size := 1) (tx := 25) (e' := 5) (by kernel_rfl) (Hw.heap.reads (k := 14) rfl) rfl (fun e => by cases e) (ZG _)) (by kernel_rfl) (z := .int .u8 0) (by kernel_rfl) rfl (by decide) (by first | omega | (simp; done) | (simp; omega)) (by unfold maxLen; first | omega | (simp; done) | (simp; omega)) ?_
   intro _ _ aN aO Hx Er hnz _
   clear hnz
   rw [← ZM] at Er
   have HD : (zf lq627) + 1 = zf (lq627 ++ [(0 : UInt8)]) := (by first | (simp; done) | (simp; omega) | omega)
   rw [HD] at Hx
   refine f_o <| c_0 Hx Er (Jx _ akr (zf lkr) ckr lkr (by first | rfl | (simp; done) | (simp; omega) | omega) (Ye Er.heap (k := 2) rfl [] (by kernel_rfl) rfl (by first | omega | (simp; done) | (simp; omega))) aN (zf (lq627 ++ [(0 : UInt8)])) aO (lq627 ++ [(0 : UInt8)]) (by first | rfl | (simp; done) | (simp; omega) | omega) (Ye Er.heap (k := 13) rfl [] (by kernel_rfl) rfl (by first | omega | (simp; done) | (simp; omega))) (by first | omega | (simp only [zE, zL, Zb]; omega)) (by first | omega | (simp only [zE, zL, Zb]; omega))) ?_
   rintro _ _ ⟨EQ, ER, lq1015, rfl, aP, hlq1015⟩
   refine ⟨_, _, _, rfl, aP, rfl, fun _ aQ Ez => ?_⟩
   refine d_e [1,2,4,5,8,9,10,11,12,13,14,15,16,17,18,19,21,22] [] aQ fun _ aR => ze <| zj <| d_k [1,2,4,5,8,9,10,11,12,13,14,15,16,17,18,19,21,22,125,126] [] 2 aR fun _ aS => f_o <| c_0 aS Ez (Jx _ EQ (zf lq1015) ER lq1015 (by first | rfl | (simp; done) | (simp; omega) | omega) (Ye Ez.heap (k := 0) rfl [] (by kernel_rfl) rfl (by first | omega | (simp; done) | (simp; omega))) Ed (zf lq627) Ee lq627 (by first | rfl | (simp; done) | (simp; omega) | omega) (Ye Ez.heap (k := 2) rfl [] (by kernel_rfl) rfl (by first | omega | (simp; done) | (simp; omega))) (by first | omega | (simp only [zE, zL, Zb]; omega)) (by first | omega | (simp only [zE, zL, Zb]; omega))) ?_
   rintro _ _ ⟨HE, HF, lq1027, rfl, aT, hlq1027⟩
   refine ⟨_, _, _, rfl, aT, rfl, fun _ aU aV => ?_⟩
   refine d_e [1,2,4,5,8,9,10,11,12,13,14,15,16,17,18,19,21,22] [] aU fun _ aW => zw <| ze <| d_r [1,2,4,5,8,9,10,11,12,13,14,15,16,17,18,19,21,22] [(1, g_n (w_a ir 1))] aW fun _ aX => ze <| ⟨_, ⟨ir + 1, HE, HF, lq1027, EQ, ER, lq1015, rfl, aX.sb, aV.pk [0, 1, 5, 6, 7, 8, 9, 10, 11], by omega, by assumption, by assumption⟩, ?_⟩
   omega
  replace Ew : ¬ (mayN (nd (lv (zr bl))) = true) := Bool.eq_false_iff.1 Ew
  refine wp_skip <| ze <| wp_seq <| zj <| d_k [1,2,4,5,8,9,10,11,12,13,14,15,16,17,18,19,118] [] 1 Hk fun _ aY => f_o <| Yn (d := some 119) (t := 25) (T := 5) (m := 0) (parts := #[]) (xs := bys []) (sz := 1) aY (by kernel_rfl) (by kernel_rfl) rfl (by decide) Hj ?_
  intro _ _ ez aZ EA
  refine d_k [1,2,4,5,8,9,10,11,12,13,14,15,16,17,18,19,118,119,120] [] 3 aZ fun _ a0 => f_o <| ZA (d := some 121) (t := 25) (tx := 25) (ty := 25) (k := 11) (p := 0) (m := zf lq627) (x := .slice Ed (zf lq627) Ee) (bytes := 1) a0 (by kernel_rfl) EA rfl rfl (Zz (size := 1) (tx := 25) (e' := 5) (by kernel_rfl) (EA.heap.reads (k := 1) rfl) (Z9 _) (Yk EA.heap (k := 1) rfl) (ZG _)) (by kernel_rfl) (z := .int .u8 0) (by kernel_rfl) rfl (by decide) (by first | omega | (simp; done) | (simp; omega)) (by unfold maxLen; first | omega | (simp; done) | (simp; omega)) ?_
  intro _ _ eA eB Hy Hz hnz _
  clear hnz
  rw [QG] at Hz
  have HG : 0 + (zf lq627) = zf lq627 := (by first | (simp; done) | (simp; omega) | omega)
  rw [HG] at Hy
  refine f_o <| Yn (d := some 122) (t := 25) (T := 5) (m := 1) (parts := #[(0, .int .u8 0)]) (xs := bys [(0 : UInt8)]) (sz := 1) Hy (by kernel_rfl) (by kernel_rfl) rfl (by decide) Hz ?_
  intro _ _ a1 a2 HA
  refine f_o <| ZA (d := some 123) (t := 25) (tx := 25) (ty := 25) (k := 11) (p := zf lq627) (m := 1) (x := .slice (some ⟨a1, 0, none⟩) 1 1) (bytes := 1) a2 (by kernel_rfl) HA rfl (Z9 _) (Zz (size := 1) (tx := 25) (e' := 5) (by kernel_rfl) (HA.heap.reads (k := 12) rfl) rfl (fun e => by cases e) (ZG _)) (by kernel_rfl) (z := .int .u8 0) (by kernel_rfl) rfl (by decide) (by first | omega | (simp; done) | (simp; omega)) (by unfold maxLen; first | omega | (simp; done) | (simp; omega)) ?_
  intro _ _ a3 a4 HB Es hnz _
  clear hnz
  rw [← ZM] at Es
  have HH : (zf lq627) + 1 = zf (lq627 ++ [(0 : UInt8)]) := (by first | (simp; done) | (simp; omega) | omega)
  rw [HH] at HB
  refine f_o <| c_0 HB Es (Jx _ akr (zf lkr) ckr lkr (by first | rfl | (simp; done) | (simp; omega) | omega) (Ye Es.heap (k := 2) rfl [] (by kernel_rfl) rfl (by first | omega | (simp; done) | (simp; omega))) a3 (zf (lq627 ++ [(0 : UInt8)])) a4 (lq627 ++ [(0 : UInt8)]) (by first | rfl | (simp; done) | (simp; omega) | omega) (Ye Es.heap (k := 11) rfl [] (by kernel_rfl) rfl (by first | omega | (simp; done) | (simp; omega))) (by first | omega | (simp only [zE, zL, Zb]; omega)) (by first | omega | (simp only [zE, zL, Zb]; omega))) ?_
  rintro _ _ ⟨ES, ET, lq1069, rfl, a5, hlq1069⟩
  refine ⟨_, _, _, rfl, a5, rfl, fun _ a6 EB => ?_⟩
  refine d_e [1,2,4,5,8,9,10,11,12,13,14,15,16,17,18,19] [] a6 fun _ a7 => ze <| zj <| d_k [1,2,4,5,8,9,10,11,12,13,14,15,16,17,18,19,125,126] [] 2 a7 fun _ a8 => f_o <| c_0 a8 EB (Jx _ ES (zf lq1069) ET lq1069 (by first | rfl | (simp; done) | (simp; omega) | omega) (Ye EB.heap (k := 0) rfl [] (by kernel_rfl) rfl (by first | omega | (simp; done) | (simp; omega))) Ed (zf lq627) Ee lq627 (by first | rfl | (simp; done) | (simp; omega) | omega) (Ye EB.heap (k := 2) rfl [] (by kernel_rfl) rfl (by first | omega | (simp; done) | (simp; omega))) (by first | omega | (simp only [zE, zL, Zb]; omega)) (by first | omega | (simp only [zE, zL, Zb]; omega))) ?_
  rintro _ _ ⟨HI, HJ, lq1081, rfl, a9, hlq1081⟩
  refine ⟨_, _, _, rfl, a9, rfl, fun _ ba bb => ?_⟩
  refine d_e [1,2,4,5,8,9,10,11,12,13,14,15,16,17,18,19] [] ba fun _ bc => zw <| ze <| d_r [1,2,4,5,8,9,10,11,12,13,14,15,16,17,18,19] [(1, g_n (w_a ir 1))] bc fun _ be => ze <| ⟨_, ⟨ir + 1, HI, HJ, lq1081, ES, ET, lq1069, rfl, be.sb, bb.pk [0, 1, 5, 6, 7, 8, 9, 10, 11], by omega, by assumption, by assumption⟩, ?_⟩
  omega
 refine wp_exit <| zF <| zF <| zX <| ze <| wp_seq <| zj <| d_k [1,2,4,5,8,9,10,11,12,13,14,15,16,128,129] [] 2 Hf fun _ bf => f_o <| zW 3 4 (zg ([0, 0, 0, 0] : List UInt64)) [.vec avr cvr 1 (bys lvr) 5, .vec akr ckr 1 (bys lkr) 5, .box Em (zg d) 24, .box Ek (zg ([0, 0, 0, 0] : List UInt64)) 24, .box Ec (zg (zd 4 0)) 24, .box Ef (zg (nd (nuV lm))) 24, .box Eb (bys qx) 56, .box Ea (bys qy) 56, .vec Eg Eh 1 (bys bo) 5] bf EO rfl (za (show zf ([0, 0, 0, 0] : List UInt64) = 4 from rfl)) (za (zh)) (zq _) rfl fun _ _ bg bh => f_o <| zW 4 4 (zg ([0, 0, 0, 0] : List UInt64)) _ bg bh rfl (za (show zf ([0, 0, 0, 0] : List UInt64) = 4 from rfl)) (za (zh)) (zq _) rfl fun _ _ bi EC => d_e [1,2,4,5,6,8,9,10,11,12,13,14,15,16] [] bi fun _ bj => ze <| wp_ret <| d_cell_ct (v := .agg (zc (zg ([0, 0, 0, 0] : List UInt64)))) (x := .agg (zc (zg ([0, 0, 0, 0] : List UInt64)))) (y := .int .i64 132) (t := 4) (T := 24) (ad := ⟨Ek, 0, none⟩) (u := 5) (U := 24) (bd := ⟨Ec, 0, none⟩) (s := 6) bj (by kernel_rfl) (by kernel_rfl) (zC (t := 24) (k := 3) (off := 0) (m := 4) (xs := zg ([0, 0, 0, 0] : List UInt64)) EC rfl (zn (za (show zf ([0, 0, 0, 0] : List UInt64) = 4 from rfl))) (za (show zf ([0, 0, 0, 0] : List UInt64) = 4 from rfl)) (by kernel_rfl) (by kernel_rfl)) (by kernel_rfl) (zC (t := 24) (k := 4) (off := 0) (m := 4) (xs := zg ([0, 0, 0, 0] : List UInt64)) EC rfl (zn (za (show zf ([0, 0, 0, 0] : List UInt64) = 4 from rfl))) (za (show zf ([0, 0, 0, 0] : List UInt64) = 4 from rfl)) (by kernel_rfl) (by kernel_rfl)) (by kernel_rfl) ?_
 exact ⟨_, _, _, rfl, EC.pk [], (show zf ([0, 0, 0, 0] : List UInt64) = 4 from rfl), (show zf ([0, 0, 0, 0] : List UInt64) = 4 from rfl)⟩
theorem verifies_walk (d : List UInt64) (a_m : Option Addr) (c_m : Nat) (m : List UInt8) (pa : Bool) (pb : List UInt64) (pc : List UInt64) (r : List UInt64) (s : List UInt64) (b : UInt16) (w : World) (n_d : (zf d = 4)) (i_m : InB w [] a_m c_m m) (n_pb : (zf pb = 4)) (n_pc : (zf pc = 4)) (n_r : (zf r = 4)) (n_s : (zf s = 4)) : Calls zB 3 #[.agg (zc (zg d)), .slice a_m (zf m) c_m, .agg (zc (([.bool pa] : List Value) ++ ((zg pb) ++ (zg pc)))), .agg (zc (zg r)), .agg (zc (zg s)), uv16 b] w fun e w' => e = .returned (.bool true) ∧ Ev w [] w' [] := by
 have aq : UInt16.toNat b < 65536 := UInt16.toNat_lt b
 refine d_0 [(0, .agg (zc (zg d))), (1, .slice a_m (zf m) c_m), (2, .agg (zc (([.bool pa] : List Value) ++ ((zg pb) ++ (zg pc))))), (3, .agg (zc (zg r))), (4, .agg (zc (zg s))), (5, uv16 b)] 95 Tryz.func3 Tryz.ntmps3 (Heap.nil _) fun ar au av => wp_seq <| zj <| f_o <| m_m 24 (zg d) au av fun _ _ Ec aw ax => f_o <| m_m 27 (([.bool pa] : List Value) ++ ((zg pb) ++ (zg pc))) aw ax fun _ _ ay az H4 => f_o <| m_m 24 (zg r) az H4 fun _ _ H5 H6 H7 => f_o <| m_m 24 (zg s) H6 H7 fun _ _ H8 H9 aa => d_e [1,5,6,8,9,10,12] [] H9 fun _ ab => ?_
 refine ze <| wp_seq <| zj <| f_o <| c_p ab aa (head_ok _) fun _ _ ad Ez => d_e [1,5,6,8,9,10,12,13] [] ad fun _ ae => ?_
 refine ze <| wp_seq <| r_c (fun ac wo => Env ac 95 [(1, .slice a_m (zf m) c_m), (5, uv16 b), (6, pt Ec), (12, .bool false), (13, .bool true), (14, .bool true)] ∧ Ev w [] wo [.box Ec (zg d) 24]) ?_ ?_
 ·
  refine s_g0 [(1, .slice a_m (zf m) c_m), (5, uv16 b), (6, pt Ec), (8, pt ay), (9, pt H5), (10, pt H8), (12, .bool false), (13, .bool true)] [0,1,2,3,4,5,6,7,8,9,10,11] [(14, .bool true), (21, .agg (zc (([.bool pa] : List Value) ++ ((zg pb) ++ (zg pc))))), (22, .slice a_m (zf m) c_m), (23, .agg (zc (zg r))), (24, .agg (zc (zg s))), (25, .bool (Jo (pa, pb, pc) m r s)), (26, .agg (zc (([.bool pa] : List Value) ++ ((zg pb) ++ (zg pc))))), (27, .slice a_m (zf m) c_m), (28, .agg (zc (zg r))), (29, .agg (zc (zg s))), (30, .bool (Jo (pa, pb, pc) m r s)), (31, .bool true)] 0 [(1, .slice a_m (zf m) c_m), (5, uv16 b), (6, pt Ec), (12, .bool false), (13, .bool true), (14, .bool true)] (ae.sb) (Ez.trans (zN Ez.heap)) ?_ fun _ _ af ag => ?_
  ·
   refine s_a 1 0 9 (([.bool pa] : List Value) ++ ((zg pb) ++ (zg pc))) rfl (zn (zp rfl (zp (za n_pb) (za n_pc)))) (zp rfl (zp (za n_pb) (za n_pc))) <| s_p [] <| s_a 2 0 4 (zg r) rfl (zn (za n_r)) (za n_r) <| s_a 3 0 4 (zg s) rfl (zn (za n_s)) (za n_s) ?_
   refine s_c (fun Mx47 _ _ ah EA => ?_) ?_
   ·
    refine c_p ah EA (XD _ pa pb pc n_pb n_pc a_m (zf m) c_m m (by first | rfl | (simp; done) | (simp; omega) | omega) ((i_m.ev EA).pick [] (by kernel_rfl)) r s n_r n_s) fun _ _ ai aj => ?_
    exact s_e ai aj
   refine s_a 1 0 9 (([.bool pa] : List Value) ++ ((zg pb) ++ (zg pc))) rfl (zn (zp rfl (zp (za n_pb) (za n_pc)))) (zp rfl (zp (za n_pb) (za n_pc))) <| s_p [] <| s_a 2 0 4 (zg r) rfl (zn (za n_r)) (za n_r) <| s_a 3 0 4 (zg s) rfl (zn (za n_s)) (za n_s) ?_
   refine s_c (fun Mx75 _ _ ak EB => ?_) ?_
   ·
    refine c_p ak EB (XE _ pa pb pc n_pb n_pc a_m (zf m) c_m m (by first | rfl | (simp; done) | (simp; omega) | omega) ((i_m.ev EB).pick [] (by kernel_rfl)) r s n_r n_s) fun _ _ al am => ?_
    exact s_e al am
   refine s_p [(10, g_b (show ((Jo (pa, pb, pc) m r s) == (Jo (pa, pb, pc) m r s)) = true from (beq_self_eq_true _)))] <| s_p [] ?_
   exact s_n
  exact a_e ⟨af.sb, ag.pk [0]⟩
 rintro _ _ ⟨an, Ey⟩
 refine ze <| wp_seq <| zj <| f_o <| Zn 0 4 (zg d) an Ey rfl (za n_d) fun _ ao => d_k [1,5,6,12,13,14,33,34] [] 2 ao fun _ ap => f_o <| c_0 ap Ey (signW_go _ d n_d a_m (zf m) c_m m (by first | rfl | (simp; done) | (simp; omega) | omega) ((i_m.ev Ey).pick [] (by kernel_rfl))) ?_
 rintro _ _ ⟨raq100, rbq100, erq100, rfl, EC, hraq100, hrbq100⟩
 refine ⟨_, _, _, rfl, EC, rfl, fun _ ED EE => ?_⟩
 refine d_k [1,5,6,12,13,14,36,37,38] [] 7 ED fun _ EF => f_o <| m_z 24 (zg (zd 4 0)) EF EE fun _ _ Ea EG EH => f_o <| m_z 24 (zg (zd 4 0)) EG EH fun _ _ Eb EI EJ => f_o <| zW 1 4 (zg raq100) _ EI EJ rfl (za hraq100) (za (zh)) (zq _) rfl fun _ _ EK EL => f_o <| zW 2 4 (zg rbq100) [.box Ec (zg d) 24, .box Ea (zg raq100) 24, .box Eb (zg rbq100) 24] EK EL rfl (za hrbq100) (za (zh)) (zq _) rfl fun _ _ EM Ed => d_e [1,5,6,12,13,14,15,16,17] [] EM fun _ EN => ?_
 refine ze <| wp_seq <| d_s [1,5,6,12,13,14,15,16,40] [] EN fun _ Eh => ?_
 refine c_n erq100 (0 : Int) Eh (fun EO => ?_) (fun EO => ?_)
 ·
  refine d_s [1,5,6,12,13,14,15,16] [] Eh fun _ EP => wp_ret <| z9 <| ZH (t := 12) (v := .bool true) EP (by kernel_rfl) (by kernel_rfl) ?_
  exact ⟨by first | rfl | kernel_rfl, Ed.pk []⟩
 refine wp_skip <| ze <| d_s [1,6,12,13,14,15,16,18] [(1, g_i .i64 (Go.Dbr.u16_to_i64 (x := b) rfl)), (2, g_i .i64 (show YG ((UInt16.toNat b : Nat) : Int) (1024 : Int) = (((UInt16.toNat b) % 1024 : Nat) : Int) from ZQ (a := ((UInt16.toNat b : Nat) : Int)) (n := UInt16.toNat b) (m := 1024) rfl (by omega)))] Eh fun _ EQ => wp_seq <| d_s [1,6,12,13,14,15,16,18,49] [] EQ fun _ Ei => ?_
 refine c_d ((((UInt16.toNat b) % 1024 : Nat) : Int) < (256 : Int)) Ei (fun ER => ?_) (fun ER => ?_)
 ·
  refine r_c (fun ac wo => Env ac 95 [(1, .slice a_m (zf m) c_m), (6, pt Ec), (12, .bool false), (13, .bool true), (14, .bool true), (15, pt Ea), (16, pt Eb), (18, ni ((UInt16.toNat b) % 1024))] ∧ Ev w [] wo [.box Ec (zg d) 24, .box Ea (zg (zt raq100 (((UInt16.toNat b) % 1024) / 64) ((zb raq100 (((UInt16.toNat b) % 1024) / 64) 0) ^^^ ((1 : UInt64) <<< zi (((UInt16.toNat b) % 1024) % 64))))) 24, .box Eb (zg rbq100) 24]) ?_ ?_
  ·
   refine draw_any (by kernel_rfl) 12 (by kernel_rfl) ?_
   have Ek := Ed.trans (zN Ed.heap)
   refine q_a [0,1,2,3] [(1, g_i .i64 (show IntKind.wrap .i64 (Yj (((UInt16.toNat b) % 1024 : Nat) : Int) (64 : Int)) = ((((UInt16.toNat b) % 1024) / 64 : Nat) : Int) from ZN (a := (((UInt16.toNat b) % 1024 : Nat) : Int)) (n := (UInt16.toNat b) % 1024) (m := 64) rfl (by omega))), (3, g_i .i64 (show IntKind.wrap .i64 (Yj (((UInt16.toNat b) % 1024 : Nat) : Int) (64 : Int)) = ((((UInt16.toNat b) % 1024) / 64 : Nat) : Int) from ZN (a := (((UInt16.toNat b) % 1024 : Nat) : Int)) (n := (UInt16.toNat b) % 1024) (m := 64) rfl (by omega)))] 8 Ei fun _ ES => q_g 4 (s := Instr.indexAt 24 (pt Ea) (ni (((UInt16.toNat b) % 1024) / 64))) (v := .pointer (some ⟨Ea, ((UInt16.toNat b) % 1024) / 64, none⟩)) ES (fun _ => zs (e := 22) (sz := 1) (m := 4) (j := ((UInt16.toNat b) % 1024) / 64) (o := ((UInt16.toNat b) % 1024) / 64) (by kernel_rfl) (by kernel_rfl) (by omega) (by omega) (by omega) _) fun _ ET => q_a [6,7] [(7, g_i .i64 (show YG (((UInt16.toNat b) % 1024 : Nat) : Int) (64 : Int) = ((((UInt16.toNat b) % 1024) % 64 : Nat) : Int) from ZQ (a := (((UInt16.toNat b) % 1024 : Nat) : Int)) (n := (UInt16.toNat b) % 1024) (m := 64) rfl (by omega)))] 5 ET fun _ EU => q_g 8 EU (fun _ => Jj (1 : UInt64) .i64 (((UInt16.toNat b) % 1024) % 64) (by omega) _) fun _ EV => q_u 5 ?_
   have EW : ((UInt16.toNat b) % 1024) / 64 < zf raq100 := by rw [hraq100]; omega
   refine m_v 1 (((UInt16.toNat b) % 1024) / 64) (uv64 (zb raq100 (((UInt16.toNat b) % 1024) / 64) 0)) EV Ek rfl (zO EW) fun _ EX => q_a [9] [(9, g_i .u64 (YV (x := zb raq100 (((UInt16.toNat b) % 1024) / 64) 0) (y := (1 : UInt64) <<< zi (((UInt16.toNat b) % 1024) % 64)) rfl rfl))] 2 EX fun _ EY => q_g 10 (s := Instr.indexAt 24 (pt Ea) (ni (((UInt16.toNat b) % 1024) / 64))) (v := .pointer (some ⟨Ea, ((UInt16.toNat b) % 1024) / 64, none⟩)) EY (fun _ => zs (e := 22) (sz := 1) (m := 4) (j := ((UInt16.toNat b) % 1024) / 64) (o := ((UInt16.toNat b) % 1024) / 64) (by kernel_rfl) (by kernel_rfl) (by omega) (by omega) (by omega) _) fun _ EZ => q_u 11 ?_
   have E0 : ((UInt16.toNat b) % 1024) / 64 < zf raq100 := by rw [hraq100]; omega
   refine m_t 1 (((UInt16.toNat b) % 1024) / 64) (uv64 ((zb raq100 (((UInt16.toNat b) % 1024) / 64) 0) ^^^ ((1 : UInt64) <<< zi (((UInt16.toNat b) % 1024) % 64)))) _ EZ Ek rfl (zO E0) (u64s_set _ _ _) rfl fun _ _ E1 E2 => ?_
   exact a_e ⟨E1.sb, E2.pk [0, 1, 2]⟩
  rintro _ _ ⟨E3, El⟩
  refine ze <| wp_seq <| zj <| f_o <| Zn 0 4 (zg d) E3 El rfl (za n_d) fun _ E4 => f_o <| c_p E4 El (Kx _ d n_d) fun _ _ E5 E6 => f_o <| m_z 27 (([.bool false] : List Value) ++ ((zg (zd 4 0)) ++ (zg (zd 4 0)))) E5 E6 fun _ _ Ee E7 E8 => f_o <| zW 3 9 (([.bool ((zV (nv d) Gp).1)] : List Value) ++ ((zg ((zV (nv d) Gp).2.1)) ++ (zg ((zV (nv d) Gp).2.2)))) [.box Ec (zg d) 24, .box Ea (zg (zt raq100 (((UInt16.toNat b) % 1024) / 64) ((zb raq100 (((UInt16.toNat b) % 1024) / 64) 0) ^^^ ((1 : UInt64) <<< zi (((UInt16.toNat b) % 1024) % 64))))) 24, .box Eb (zg rbq100) 24, .box Ee (([.bool ((zV (nv d) Gp).1)] : List Value) ++ ((zg ((zV (nv d) Gp).2.1)) ++ (zg ((zV (nv d) Gp).2.2)))) 27] E7 E8 rfl (zp rfl (zp (za (Zk _ _).1) (za (Zk _ _).2))) (zp rfl (zp (za (zh)) (za (zh)))) (Zd (one_all (by kernel_rfl)) (Zd (zq _) (zq _))) rfl fun _ _ E9 Em => ?_
  refine f_e <| ze <| wp_seq <| r_c (fun ac wo => Env ac 95 [(1, .slice a_m (zf m) c_m), (6, pt Ec), (12, .bool true), (13, .bool true), (14, .bool true), (15, pt Ea), (16, pt Eb), (18, ni ((UInt16.toNat b) % 1024)), (19, pt Ee)] ∧ Ev w [] wo [.box Ec (zg d) 24, .box Ea (zg (zt raq100 (((UInt16.toNat b) % 1024) / 64) ((zb raq100 (((UInt16.toNat b) % 1024) / 64) 0) ^^^ ((1 : UInt64) <<< zi (((UInt16.toNat b) % 1024) % 64))))) 24, .box Eb (zg rbq100) 24, .box Ee (([.bool ((zV (nv d) Gp).1)] : List Value) ++ ((zg ((zV (nv d) Gp).2.1)) ++ (zg ((zV (nv d) Gp).2.2)))) 27]) ?_ ?_
  ·
   refine s_g0 [(1, .slice a_m (zf m) c_m), (6, pt Ec), (13, .bool true), (14, .bool true), (15, pt Ea), (16, pt Eb), (18, ni ((UInt16.toNat b) % 1024)), (19, pt Ee)] [0,1,2,3,4,5,6,7,8,9,10,11,12,13,14,15,16,17] [(12, .bool true), (78, .bool true), (79, .bool true), (80, .bool true), (81, .bool true), (82, .bool true), (83, .agg (zc (([.bool ((zV (nv d) Gp).1)] : List Value) ++ ((zg ((zV (nv d) Gp).2.1)) ++ (zg ((zV (nv d) Gp).2.2)))))), (84, .slice a_m (zf m) c_m), (85, .agg (zc (zg (zt raq100 (((UInt16.toNat b) % 1024) / 64) ((zb raq100 (((UInt16.toNat b) % 1024) / 64) 0) ^^^ ((1 : UInt64) <<< zi (((UInt16.toNat b) % 1024) % 64))))))), (86, .agg (zc (zg rbq100))), (87, .bool (Jo (((zV (nv d) Gp).1), ((zV (nv d) Gp).2.1), ((zV (nv d) Gp).2.2)) m (zt raq100 (((UInt16.toNat b) % 1024) / 64) ((zb raq100 (((UInt16.toNat b) % 1024) / 64) 0) ^^^ ((1 : UInt64) <<< zi (((UInt16.toNat b) % 1024) % 64)))) rbq100)), (88, .agg (zc (([.bool ((zV (nv d) Gp).1)] : List Value) ++ ((zg ((zV (nv d) Gp).2.1)) ++ (zg ((zV (nv d) Gp).2.2)))))), (89, .slice a_m (zf m) c_m), (90, .agg (zc (zg (zt raq100 (((UInt16.toNat b) % 1024) / 64) ((zb raq100 (((UInt16.toNat b) % 1024) / 64) 0) ^^^ ((1 : UInt64) <<< zi (((UInt16.toNat b) % 1024) % 64))))))), (91, .agg (zc (zg rbq100))), (92, .bool (Jo (((zV (nv d) Gp).1), ((zV (nv d) Gp).2.1), ((zV (nv d) Gp).2.2)) m (zt raq100 (((UInt16.toNat b) % 1024) / 64) ((zb raq100 (((UInt16.toNat b) % 1024) / 64) 0) ^^^ ((1 : UInt64) <<< zi (((UInt16.toNat b) % 1024) % 64)))) rbq100)), (93, .bool true), (94, .bool true)] 0 [(1, .slice a_m (zf m) c_m), (6, pt Ec), (12, .bool true), (13, .bool true), (14, .bool true), (15, pt Ea), (16, pt Eb), (18, ni ((UInt16.toNat b) % 1024)), (19, pt Ee)] (E9.sb) (Em.trans (zN Em.heap)) ?_ fun _ _ Ha Hb => ?_
   ·
    refine s_p [] <| s_p [] <| s_p [] <| s_p [] <| s_p [] <| s_a 3 0 9 (([.bool ((zV (nv d) Gp).1)] : List Value) ++ ((zg ((zV (nv d) Gp).2.1)) ++ (zg ((zV (nv d) Gp).2.2)))) rfl (zn (zp rfl (zp (za (Zk _ _).1) (za (Zk _ _).2)))) (zp rfl (zp (za (Zk _ _).1) (za (Zk _ _).2))) ?_
    refine s_p [] <| s_a 1 0 4 (zg (zt raq100 (((UInt16.toNat b) % 1024) / 64) ((zb raq100 (((UInt16.toNat b) % 1024) / 64) 0) ^^^ ((1 : UInt64) <<< zi (((UInt16.toNat b) % 1024) % 64))))) rfl (zn (za (List.length_set.trans hraq100))) (za (List.length_set.trans hraq100)) <| s_a 2 0 4 (zg rbq100) rfl (zn (za hrbq100)) (za hrbq100) ?_
    refine s_c (fun Mx218 _ _ Hc En => ?_) ?_
    ·
     refine c_p Hc En (XD _ ((zV (nv d) Gp).1) ((zV (nv d) Gp).2.1) ((zV (nv d) Gp).2.2) ((Zk _ _).1) ((Zk _ _).2) a_m (zf m) c_m m (by first | rfl | (simp; done) | (simp; omega) | omega) ((i_m.ev En).pick [] (by kernel_rfl)) (zt raq100 (((UInt16.toNat b) % 1024) / 64) ((zb raq100 (((UInt16.toNat b) % 1024) / 64) 0) ^^^ ((1 : UInt64) <<< zi (((UInt16.toNat b) % 1024) % 64)))) rbq100 (List.length_set.trans hraq100) hrbq100) fun _ _ Hd He => ?_
     exact s_e Hd He
    refine s_a 3 0 9 (([.bool ((zV (nv d) Gp).1)] : List Value) ++ ((zg ((zV (nv d) Gp).2.1)) ++ (zg ((zV (nv d) Gp).2.2)))) rfl (zn (zp rfl (zp (za (Zk _ _).1) (za (Zk _ _).2)))) (zp rfl (zp (za (Zk _ _).1) (za (Zk _ _).2))) <| s_p [] <| s_a 1 0 4 (zg (zt raq100 (((UInt16.toNat b) % 1024) / 64) ((zb raq100 (((UInt16.toNat b) % 1024) / 64) 0) ^^^ ((1 : UInt64) <<< zi (((UInt16.toNat b) % 1024) % 64))))) rfl (zn (za (List.length_set.trans hraq100))) (za (List.length_set.trans hraq100)) <| s_a 2 0 4 (zg rbq100) rfl (zn (za hrbq100)) (za hrbq100) ?_
    refine s_c (fun Mx246 _ _ Hf Eo => ?_) ?_
    ·
     refine c_p Hf Eo (XE _ ((zV (nv d) Gp).1) ((zV (nv d) Gp).2.1) ((zV (nv d) Gp).2.2) ((Zk _ _).1) ((Zk _ _).2) a_m (zf m) c_m m (by first | rfl | (simp; done) | (simp; omega) | omega) ((i_m.ev Eo).pick [] (by kernel_rfl)) (zt raq100 (((UInt16.toNat b) % 1024) / 64) ((zb raq100 (((UInt16.toNat b) % 1024) / 64) 0) ^^^ ((1 : UInt64) <<< zi (((UInt16.toNat b) % 1024) % 64)))) rbq100 (List.length_set.trans hraq100) hrbq100) fun _ _ Hg Hh => ?_
     exact s_e Hg Hh
    refine s_p [(15, g_b (show ((Jo (((zV (nv d) Gp).1), ((zV (nv d) Gp).2.1), ((zV (nv d) Gp).2.2)) m (zt raq100 (((UInt16.toNat b) % 1024) / 64) ((zb raq100 (((UInt16.toNat b) % 1024) / 64) 0) ^^^ ((1 : UInt64) <<< zi (((UInt16.toNat b) % 1024) % 64)))) rbq100) == (Jo (((zV (nv d) Gp).1), ((zV (nv d) Gp).2.1), ((zV (nv d) Gp).2.2)) m (zt raq100 (((UInt16.toNat b) % 1024) / 64) ((zb raq100 (((UInt16.toNat b) % 1024) / 64) 0) ^^^ ((1 : UInt64) <<< zi (((UInt16.toNat b) % 1024) % 64)))) rbq100)) = true from (beq_self_eq_true _)))] <| s_p [] <| s_p [] ?_
    exact s_n
   exact a_e ⟨Ha.sb, Hb.pk [0, 1, 2, 3]⟩
  rintro _ _ ⟨Hi, Hj⟩
  refine ze <| wp_ret <| ZH (t := 12) (v := .bool true) Hi (by kernel_rfl) (by kernel_rfl) ?_
  exact ⟨by first | rfl | kernel_rfl, Hj.pk []⟩
 refine d_s [1,6,12,13,14,15,16,18,62] [] Ei fun _ Ej => ?_
 refine c_d ((((UInt16.toNat b) % 1024 : Nat) : Int) < (512 : Int)) Ej (fun Hk => ?_) (fun Hk => ?_)
 ·
  refine d_s [1,6,12,13,14,15,16,18] [(1, g_n (w_r (e := (((UInt16.toNat b) % 1024 : Nat) : Int) - (256 : Int)) (x := (((UInt16.toNat b) % 1024 - 256 : Nat) : Int)) (by omega)))] Ej fun _ Hl => ?_
  refine r_c (fun ac wo => Env ac 95 [(1, .slice a_m (zf m) c_m), (6, pt Ec), (12, .bool false), (13, .bool true), (14, .bool true), (15, pt Ea), (16, pt Eb), (18, ni ((UInt16.toNat b) % 1024 - 256))] ∧ Ev w [] wo [.box Ec (zg d) 24, .box Ea (zg raq100) 24, .box Eb (zg (zt rbq100 (((UInt16.toNat b) % 1024 - 256) / 64) ((zb rbq100 (((UInt16.toNat b) % 1024 - 256) / 64) 0) ^^^ ((1 : UInt64) <<< zi (((UInt16.toNat b) % 1024 - 256) % 64))))) 24]) ?_ ?_
  ·
   refine draw_any (by kernel_rfl) 12 (by kernel_rfl) ?_
   have Ep := Ed.trans (zN Ed.heap)
   refine q_a [0,1,2,3] [(1, g_i .i64 (show IntKind.wrap .i64 (Yj (((UInt16.toNat b) % 1024 - 256 : Nat) : Int) (64 : Int)) = ((((UInt16.toNat b) % 1024 - 256) / 64 : Nat) : Int) from ZN (a := (((UInt16.toNat b) % 1024 - 256 : Nat) : Int)) (n := (UInt16.toNat b) % 1024 - 256) (m := 64) rfl (by omega))), (3, g_i .i64 (show IntKind.wrap .i64 (Yj (((UInt16.toNat b) % 1024 - 256 : Nat) : Int) (64 : Int)) = ((((UInt16.toNat b) % 1024 - 256) / 64 : Nat) : Int) from ZN (a := (((UInt16.toNat b) % 1024 - 256 : Nat) : Int)) (n := (UInt16.toNat b) % 1024 - 256) (m := 64) rfl (by omega)))] 8 Hl fun _ Hm => q_g 4 (s := Instr.indexAt 24 (pt Eb) (ni (((UInt16.toNat b) % 1024 - 256) / 64))) (v := .pointer (some ⟨Eb, ((UInt16.toNat b) % 1024 - 256) / 64, none⟩)) Hm (fun _ => zs (e := 22) (sz := 1) (m := 4) (j := ((UInt16.toNat b) % 1024 - 256) / 64) (o := ((UInt16.toNat b) % 1024 - 256) / 64) (by kernel_rfl) (by kernel_rfl) (by omega) (by omega) (by omega) _) fun _ Hn => q_a [6,7] [(7, g_i .i64 (show YG (((UInt16.toNat b) % 1024 - 256 : Nat) : Int) (64 : Int) = ((((UInt16.toNat b) % 1024 - 256) % 64 : Nat) : Int) from ZQ (a := (((UInt16.toNat b) % 1024 - 256 : Nat) : Int)) (n := (UInt16.toNat b) % 1024 - 256) (m := 64) rfl (by omega)))] 5 Hn fun _ Ho => q_g 8 Ho (fun _ => Jj (1 : UInt64) .i64 (((UInt16.toNat b) % 1024 - 256) % 64) (by omega) _) fun _ Hp => q_u 5 ?_
   have Hq : ((UInt16.toNat b) % 1024 - 256) / 64 < zf rbq100 := by rw [hrbq100]; omega
   refine m_v 2 (((UInt16.toNat b) % 1024 - 256) / 64) (uv64 (zb rbq100 (((UInt16.toNat b) % 1024 - 256) / 64) 0)) Hp Ep rfl (zO Hq) fun _ Hr => q_a [9] [(9, g_i .u64 (YV (x := zb rbq100 (((UInt16.toNat b) % 1024 - 256) / 64) 0) (y := (1 : UInt64) <<< zi (((UInt16.toNat b) % 1024 - 256) % 64)) rfl rfl))] 2 Hr fun _ Hs => q_g 10 (s := Instr.indexAt 24 (pt Eb) (ni (((UInt16.toNat b) % 1024 - 256) / 64))) (v := .pointer (some ⟨Eb, ((UInt16.toNat b) % 1024 - 256) / 64, none⟩)) Hs (fun _ => zs (e := 22) (sz := 1) (m := 4) (j := ((UInt16.toNat b) % 1024 - 256) / 64) (o := ((UInt16.toNat b) % 1024 - 256) / 64) (by kernel_rfl) (by kernel_rfl) (by omega) (by omega) (by omega) _) fun _ Ht => q_u 11 ?_
   have Hu : ((UInt16.toNat b) % 1024 - 256) / 64 < zf rbq100 := by rw [hrbq100]; omega
   refine m_t 2 (((UInt16.toNat b) % 1024 - 256) / 64) (uv64 ((zb rbq100 (((UInt16.toNat b) % 1024 - 256) / 64) 0) ^^^ ((1 : UInt64) <<< zi (((UInt16.toNat b) % 1024 - 256) % 64)))) _ Ht Ep rfl (zO Hu) (u64s_set _ _ _) rfl fun _ _ Hv Hw => ?_
   exact a_e ⟨Hv.sb, Hw.pk [0, 1, 2]⟩
  rintro _ _ ⟨Hx, Eq⟩
  refine ze <| wp_seq <| zj <| f_o <| Zn 0 4 (zg d) Hx Eq rfl (za n_d) fun _ Hy => f_o <| c_p Hy Eq (Kx _ d n_d) fun _ _ Hz HA => f_o <| m_z 27 (([.bool false] : List Value) ++ ((zg (zd 4 0)) ++ (zg (zd 4 0)))) Hz HA fun _ _ Ef HB HC => f_o <| zW 3 9 (([.bool ((zV (nv d) Gp).1)] : List Value) ++ ((zg ((zV (nv d) Gp).2.1)) ++ (zg ((zV (nv d) Gp).2.2)))) [.box Ec (zg d) 24, .box Ea (zg raq100) 24, .box Eb (zg (zt rbq100 (((UInt16.toNat b) % 1024 - 256) / 64) ((zb rbq100 (((UInt16.toNat b) % 1024 - 256) / 64) 0) ^^^ ((1 : UInt64) <<< zi (((UInt16.toNat b) % 1024 - 256) % 64))))) 24, .box Ef (([.bool ((zV (nv d) Gp).1)] : List Value) ++ ((zg ((zV (nv d) Gp).2.1)) ++ (zg ((zV (nv d) Gp).2.2)))) 27] HB HC rfl (zp rfl (zp (za (Zk _ _).1) (za (Zk _ _).2))) (zp rfl (zp (za (zh)) (za (zh)))) (Zd (one_all (by kernel_rfl)) (Zd (zq _) (zq _))) rfl fun _ _ HD Er => ?_
  refine f_e <| ze <| wp_seq <| r_c (fun ac wo => Env ac 95 [(1, .slice a_m (zf m) c_m), (6, pt Ec), (12, .bool true), (13, .bool true), (14, .bool true), (15, pt Ea), (16, pt Eb), (18, ni ((UInt16.toNat b) % 1024 - 256)), (19, pt Ef)] ∧ Ev w [] wo [.box Ec (zg d) 24, .box Ea (zg raq100) 24, .box Eb (zg (zt rbq100 (((UInt16.toNat b) % 1024 - 256) / 64) ((zb rbq100 (((UInt16.toNat b) % 1024 - 256) / 64) 0) ^^^ ((1 : UInt64) <<< zi (((UInt16.toNat b) % 1024 - 256) % 64))))) 24, .box Ef (([.bool ((zV (nv d) Gp).1)] : List Value) ++ ((zg ((zV (nv d) Gp).2.1)) ++ (zg ((zV (nv d) Gp).2.2)))) 27]) ?_ ?_
  ·
   refine s_g0 [(1, .slice a_m (zf m) c_m), (6, pt Ec), (13, .bool true), (14, .bool true), (15, pt Ea), (16, pt Eb), (18, ni ((UInt16.toNat b) % 1024 - 256)), (19, pt Ef)] [0,1,2,3,4,5,6,7,8,9,10,11,12,13,14,15,16,17] [(12, .bool true), (78, .bool true), (79, .bool true), (80, .bool true), (81, .bool true), (82, .bool true), (83, .agg (zc (([.bool ((zV (nv d) Gp).1)] : List Value) ++ ((zg ((zV (nv d) Gp).2.1)) ++ (zg ((zV (nv d) Gp).2.2)))))), (84, .slice a_m (zf m) c_m), (85, .agg (zc (zg raq100))), (86, .agg (zc (zg (zt rbq100 (((UInt16.toNat b) % 1024 - 256) / 64) ((zb rbq100 (((UInt16.toNat b) % 1024 - 256) / 64) 0) ^^^ ((1 : UInt64) <<< zi (((UInt16.toNat b) % 1024 - 256) % 64))))))), (87, .bool (Jo (((zV (nv d) Gp).1), ((zV (nv d) Gp).2.1), ((zV (nv d) Gp).2.2)) m raq100 (zt rbq100 (((UInt16.toNat b) % 1024 - 256) / 64) ((zb rbq100 (((UInt16.toNat b) % 1024 - 256) / 64) 0) ^^^ ((1 : UInt64) <<< zi (((UInt16.toNat b) % 1024 - 256) % 64)))))), (88, .agg (zc (([.bool ((zV (nv d) Gp).1)] : List Value) ++ ((zg ((zV (nv d) Gp).2.1)) ++ (zg ((zV (nv d) Gp).2.2)))))), (89, .slice a_m (zf m) c_m), (90, .agg (zc (zg raq100))), (91, .agg (zc (zg (zt rbq100 (((UInt16.toNat b) % 1024 - 256) / 64) ((zb rbq100 (((UInt16.toNat b) % 1024 - 256) / 64) 0) ^^^ ((1 : UInt64) <<< zi (((UInt16.toNat b) % 1024 - 256) % 64))))))), (92, .bool (Jo (((zV (nv d) Gp).1), ((zV (nv d) Gp).2.1), ((zV (nv d) Gp).2.2)) m raq100 (zt rbq100 (((UInt16.toNat b) % 1024 - 256) / 64) ((zb rbq100 (((UInt16.toNat b) % 1024 - 256) / 64) 0) ^^^ ((1 : UInt64) <<< zi (((UInt16.toNat b) % 1024 - 256) % 64)))))), (93, .bool true), (94, .bool true)] 0 [(1, .slice a_m (zf m) c_m), (6, pt Ec), (12, .bool true), (13, .bool true), (14, .bool true), (15, pt Ea), (16, pt Eb), (18, ni ((UInt16.toNat b) % 1024 - 256)), (19, pt Ef)] (HD.sb) (Er.trans (zN Er.heap)) ?_ fun _ _ HE HF => ?_
   ·
    refine s_p [] <| s_p [] <| s_p [] <| s_p [] <| s_p [] <| s_a 3 0 9 (([.bool ((zV (nv d) Gp).1)] : List Value) ++ ((zg ((zV (nv d) Gp).2.1)) ++ (zg ((zV (nv d) Gp).2.2)))) rfl (zn (zp rfl (zp (za (Zk _ _).1) (za (Zk _ _).2)))) (zp rfl (zp (za (Zk _ _).1) (za (Zk _ _).2))) ?_
    refine s_p [] <| s_a 1 0 4 (zg raq100) rfl (zn (za hraq100)) (za hraq100) <| s_a 2 0 4 (zg (zt rbq100 (((UInt16.toNat b) % 1024 - 256) / 64) ((zb rbq100 (((UInt16.toNat b) % 1024 - 256) / 64) 0) ^^^ ((1 : UInt64) <<< zi (((UInt16.toNat b) % 1024 - 256) % 64))))) rfl (zn (za (List.length_set.trans hrbq100))) (za (List.length_set.trans hrbq100)) ?_
    refine s_c (fun Mx350 _ _ HG Es => ?_) ?_
    ·
     refine c_p HG Es (XD _ ((zV (nv d) Gp).1) ((zV (nv d) Gp).2.1) ((zV (nv d) Gp).2.2) ((Zk _ _).1) ((Zk _ _).2) a_m (zf m) c_m m (by first | rfl | (simp; done) | (simp; omega) | omega) ((i_m.ev Es).pick [] (by kernel_rfl)) raq100 (zt rbq100 (((UInt16.toNat b) % 1024 - 256) / 64) ((zb rbq100 (((UInt16.toNat b) % 1024 - 256) / 64) 0) ^^^ ((1 : UInt64) <<< zi (((UInt16.toNat b) % 1024 - 256) % 64)))) hraq100 (List.length_set.trans hrbq100)) fun _ _ HH HI => ?_
     exact s_e HH HI
    refine s_a 3 0 9 (([.bool ((zV (nv d) Gp).1)] : List Value) ++ ((zg ((zV (nv d) Gp).2.1)) ++ (zg ((zV (nv d) Gp).2.2)))) rfl (zn (zp rfl (zp (za (Zk _ _).1) (za (Zk _ _).2)))) (zp rfl (zp (za (Zk _ _).1) (za (Zk _ _).2))) <| s_p [] <| s_a 1 0 4 (zg raq100) rfl (zn (za hraq100)) (za hraq100) <| s_a 2 0 4 (zg (zt rbq100 (((UInt16.toNat b) % 1024 - 256) / 64) ((zb rbq100 (((UInt16.toNat b) % 1024 - 256) / 64) 0) ^^^ ((1 : UInt64) <<< zi (((UInt16.toNat b) % 1024 - 256) % 64))))) rfl (zn (za (List.length_set.trans hrbq100))) (za (List.length_set.trans hrbq100)) ?_
    refine s_c (fun Mx378 _ _ HJ Et => ?_) ?_
    ·
     refine c_p HJ Et (XE _ ((zV (nv d) Gp).1) ((zV (nv d) Gp).2.1) ((zV (nv d) Gp).2.2) ((Zk _ _).1) ((Zk _ _).2) a_m (zf m) c_m m (by first | rfl | (simp; done) | (simp; omega) | omega) ((i_m.ev Et).pick [] (by kernel_rfl)) raq100 (zt rbq100 (((UInt16.toNat b) % 1024 - 256) / 64) ((zb rbq100 (((UInt16.toNat b) % 1024 - 256) / 64) 0) ^^^ ((1 : UInt64) <<< zi (((UInt16.toNat b) % 1024 - 256) % 64)))) hraq100 (List.length_set.trans hrbq100)) fun _ _ HK HL => ?_
     exact s_e HK HL
    refine s_p [(15, g_b (show ((Jo (((zV (nv d) Gp).1), ((zV (nv d) Gp).2.1), ((zV (nv d) Gp).2.2)) m raq100 (zt rbq100 (((UInt16.toNat b) % 1024 - 256) / 64) ((zb rbq100 (((UInt16.toNat b) % 1024 - 256) / 64) 0) ^^^ ((1 : UInt64) <<< zi (((UInt16.toNat b) % 1024 - 256) % 64))))) == (Jo (((zV (nv d) Gp).1), ((zV (nv d) Gp).2.1), ((zV (nv d) Gp).2.2)) m raq100 (zt rbq100 (((UInt16.toNat b) % 1024 - 256) / 64) ((zb rbq100 (((UInt16.toNat b) % 1024 - 256) / 64) 0) ^^^ ((1 : UInt64) <<< zi (((UInt16.toNat b) % 1024 - 256) % 64)))))) = true from (beq_self_eq_true _)))] <| s_p [] <| s_p [] ?_
    exact s_n
   exact a_e ⟨HE.sb, HF.pk [0, 1, 2, 3]⟩
  rintro _ _ ⟨HM, HN⟩
  refine ze <| wp_ret <| ZH (t := 12) (v := .bool true) HM (by kernel_rfl) (by kernel_rfl) ?_
  exact ⟨by first | rfl | kernel_rfl, HN.pk []⟩
 refine wp_skip <| ze <| wp_seq <| zj <| f_o <| Zn 0 4 (zg d) Ej Ed rfl (za n_d) fun _ HO => f_o <| c_p HO Ed (Kx _ d n_d) fun _ _ HP HQ => f_o <| m_z 27 (([.bool false] : List Value) ++ ((zg (zd 4 0)) ++ (zg (zd 4 0)))) HP HQ fun _ _ Eg HR HS => f_o <| zW 3 9 (([.bool ((zV (nv d) Gp).1)] : List Value) ++ ((zg ((zV (nv d) Gp).2.1)) ++ (zg ((zV (nv d) Gp).2.2)))) _ HR HS rfl (zp rfl (zp (za (Zk _ _).1) (za (Zk _ _).2))) (zp rfl (zp (za (zh)) (za (zh)))) (Zd (one_all (by kernel_rfl)) (Zd (zq _) (zq _))) rfl fun _ _ HT Eu => ?_
 refine f_e <| ze <| wp_seq <| r_c (fun ac wo => Env ac 95 [(1, .slice a_m (zf m) c_m), (6, pt Ec), (12, .bool true), (13, .bool true), (14, .bool true), (15, pt Ea), (16, pt Eb), (18, ni ((UInt16.toNat b) % 1024)), (19, pt Eg)] ∧ Ev w [] wo [.box Ec (zg d) 24, .box Ea (zg raq100) 24, .box Eb (zg rbq100) 24, .box Eg (([.bool ((zV (nv d) Gp).1)] : List Value) ++ ((zg ((zV (nv d) Gp).2.1)) ++ (zg ((zV (nv d) Gp).2.2)))) 27]) ?_ ?_
 ·
  refine s_g0 [(1, .slice a_m (zf m) c_m), (6, pt Ec), (13, .bool true), (14, .bool true), (15, pt Ea), (16, pt Eb), (18, ni ((UInt16.toNat b) % 1024)), (19, pt Eg)] [0,1,2,3,4,5,6,7,8,9,10,11,12,13,14,15,16,17] [(12, .bool true), (78, .bool true), (79, .bool true), (80, .bool true), (81, .bool true), (82, .bool true), (83, .agg (zc (([.bool ((zV (nv d) Gp).1)] : List Value) ++ ((zg ((zV (nv d) Gp).2.1)) ++ (zg ((zV (nv d) Gp).2.2)))))), (84, .slice a_m (zf m) c_m), (85, .agg (zc (zg raq100))), (86, .agg (zc (zg rbq100))), (87, .bool (Jo (((zV (nv d) Gp).1), ((zV (nv d) Gp).2.1), ((zV (nv d) Gp).2.2)) m raq100 rbq100)), (88, .agg (zc (([.bool ((zV (nv d) Gp).1)] : List Value) ++ ((zg ((zV (nv d) Gp).2.1)) ++ (zg ((zV (nv d) Gp).2.2)))))), (89, .slice a_m (zf m) c_m), (90, .agg (zc (zg raq100))), (91, .agg (zc (zg rbq100))), (92, .bool (Jo (((zV (nv d) Gp).1), ((zV (nv d) Gp).2.1), ((zV (nv d) Gp).2.2)) m raq100 rbq100)), (93, .bool true), (94, .bool true)] 0 [(1, .slice a_m (zf m) c_m), (6, pt Ec), (12, .bool true), (13, .bool true), (14, .bool true), (15, pt Ea), (16, pt Eb), (18, ni ((UInt16.toNat b) % 1024)), (19, pt Eg)] (HT.sb) (Eu.trans (zN Eu.heap)) ?_ fun _ _ HU HV => ?_
  ·
   refine s_p [] <| s_p [] <| s_p [] <| s_p [] <| s_p [] <| s_a 3 0 9 (([.bool ((zV (nv d) Gp).1)] : List Value) ++ ((zg ((zV (nv d) Gp).2.1)) ++ (zg ((zV (nv d) Gp).2.2)))) rfl (zn (zp rfl (zp (za (Zk _ _).1) (za (Zk _ _).2)))) (zp rfl (zp (za (Zk _ _).1) (za (Zk _ _).2))) ?_
   refine s_p [] <| s_a 1 0 4 (zg raq100) rfl (zn (za hraq100)) (za hraq100) <| s_a 2 0 4 (zg rbq100) rfl (zn (za hrbq100)) (za hrbq100) ?_
   refine s_c (fun Mx432 _ _ HW Ew => ?_) ?_
   ·
    refine c_p HW Ew (XD _ ((zV (nv d) Gp).1) ((zV (nv d) Gp).2.1) ((zV (nv d) Gp).2.2) ((Zk _ _).1) ((Zk _ _).2) a_m (zf m) c_m m (by first | rfl | (simp; done) | (simp; omega) | omega) ((i_m.ev Ew).pick [] (by kernel_rfl)) raq100 rbq100 hraq100 hrbq100) fun _ _ HX HY => ?_
    exact s_e HX HY
   refine s_a 3 0 9 (([.bool ((zV (nv d) Gp).1)] : List Value) ++ ((zg ((zV (nv d) Gp).2.1)) ++ (zg ((zV (nv d) Gp).2.2)))) rfl (zn (zp rfl (zp (za (Zk _ _).1) (za (Zk _ _).2)))) (zp rfl (zp (za (Zk _ _).1) (za (Zk _ _).2))) <| s_p [] <| s_a 1 0 4 (zg raq100) rfl (zn (za hraq100)) (za hraq100) <| s_a 2 0 4 (zg rbq100) rfl (zn (za hrbq100)) (za hrbq100) ?_
   refine s_c (fun Mx460 _ _ HZ Ex => ?_) ?_
   ·
    refine c_p HZ Ex (XE _ ((zV (nv d) Gp).1) ((zV (nv d) Gp).2.1) ((zV (nv d) Gp).2.2) ((Zk _ _).1) ((Zk _ _).2) a_m (zf m) c_m m (by first | rfl | (simp; done) | (simp; omega) | omega) ((i_m.ev Ex).pick [] (by kernel_rfl)) raq100 rbq100 hraq100 hrbq100) fun _ _ H0 H1 => ?_
    exact s_e H0 H1
   refine s_p [(15, g_b (show ((Jo (((zV (nv d) Gp).1), ((zV (nv d) Gp).2.1), ((zV (nv d) Gp).2.2)) m raq100 rbq100) == (Jo (((zV (nv d) Gp).1), ((zV (nv d) Gp).2.1), ((zV (nv d) Gp).2.2)) m raq100 rbq100)) = true from (beq_self_eq_true _)))] <| s_p [] <| s_p [] ?_
   exact s_n
  exact a_e ⟨HU.sb, HV.pk [0, 1, 2, 3]⟩
 rintro _ _ ⟨H2, H3⟩
 refine ze <| wp_ret <| ZH (t := 12) (v := .bool true) H2 (by kernel_rfl) (by kernel_rfl) ?_
 exact ⟨by first | rfl | kernel_rfl, H3.pk []⟩
end Go.Proofs.YtpfhmbbiadpbeaaGreat
