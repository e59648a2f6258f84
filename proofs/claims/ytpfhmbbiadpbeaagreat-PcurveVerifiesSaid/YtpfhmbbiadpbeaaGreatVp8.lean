import Derived.Test.YtpfhmbbiadpbeaaGreatVp7
import Derived.Test.YtpfhmbbiadpbeaaGreatVp1
open Go.Dbr renaming u64s_lenh → za, then_normal → ze, u64s → zg, region_from → zj, load_whole → zn, len_app → zp, u64s_one → zq, d_cell1 → zU, m_gw → zW, then_ret → z9, one_app → Zd, run_built → Zw, d_ret1 → ZH, u64s_eqop → ZI, fb_y → YS, any_from → Jq, any_to → J2, fb_n → Xl, any_two → Kp
open List renaming toArray → zc, replicate → zd, length → zf, length_replicate → zh, drop_append → zu, take_append → zv, take_of_length_le → zx, all_eq_true → z7, mem_cons_of_mem → QA, mem_cons_self → QV, drop_left' → Jg, take_left' → JU
open Go.Proofs.YtpfhmbbiadpbeaaGreat renaming nds_len → zl, mulM → zo, powM → zK, subM → zZ, addM → z5, nv_nd → Z6, pmul_go → Q0, rightq_go → JZ, nd_of → XH
open Go.Proofs.Tryz renaming prog → zB
open Go.Dbr.Ev renaming cellAgg → zC, drew → zN
open Bool renaming and_eq_true → zJ, eq_false_or_eq_true → zM, cond_false → Zc, eq_false_iff → ZB, cond_true → ZF, not_eq_true' → QD, true_and → Q9, false_and → Yc, and_false → Yw
open Nat renaming mod_eq_of_lt → zQ, lt_trans → z6, mul_comm → Zf, pow_succ → Zh, pow_add → ZO, pow_zero → ZV, mod_lt → Z4, lt_or_ge → Qa, zero_mul → Qm, beq → Qn, mul_mod → Qq, pow_mul → Qz, eq_of_beq_eq_true → QP, mod_mod → Yy, ne_of_beq_eq_false → YD, div_add_mod → YH, eq_zero_of_dvd_of_lt → Je, pow_mod → JN, zero_mod → JY, add_sub_cancel → J8, blt → Xs, dvd_of_mod_eq_zero → XB, mul_mod_mod → XJ, le_of_dvd → X7, dvd_mul_right → Ke, one_mul → Km, two_mul → Kn, blt_eq → Ku, pow_two → KF, one_pow → KG
set_option maxRecDepth 100000
set_option maxHeartbeats 2000000
set_option linter.unusedVariables false
set_option linter.unusedSimpArgs false
namespace Go.Proofs.YtpfhmbbiadpbeaaGreat
open Go.Dbr
theorem isP : IsPnt zB 27 22 := ⟨by kernel_rfl, by kernel_rfl, by kernel_rfl, by kernel_rfl, by kernel_rfl, by kernel_rfl, by kernel_rfl, by kernel_rfl, by kernel_rfl, by kernel_rfl, by kernel_rfl, by kernel_rfl, by kernel_rfl, by kernel_rfl, by kernel_rfl, by kernel_rfl, by kernel_rfl⟩
def onN (z : Bool) (x y : List UInt64) : Bool := bif z then x == nd 0 && y == nd 0 else decide (nv x < mF 2) && decide (nv y < mF 2) && nd (zo 2 (nv y) (nv y)) == nd (z5 2 (zZ 2 (zo 2 (zo 2 (nv x) (nv x)) (nv x)) (thN (nv x))) bN)
theorem on_go (w : World) (z : Bool) (x y : List UInt64) (hx : zf x = 4) (hy : zf y = 4) : Calls zB 12 #[.agg (zc (([.bool z] : List Value) ++ ((zg x) ++ (zg y))))] w fun e w' => e = .returned (.bool (onN z x y)) ∧ Ev w [] w' [] := by
 refine d_0 [(0, .agg (zc (([.bool z] : List Value) ++ ((zg x) ++ (zg y)))))] 40 Tryz.func12 Tryz.ntmps12 (Heap.nil _) fun HJ HK HL => wp_seq <| zj <| f_o <| m_m 27 (([.bool z] : List Value) ++ ((zg x) ++ (zg y))) HK HL fun _ _ Eb HM Ey => d_e [1,2] [] HM fun _ HN => ze <| wp_seq <| wp_seq <| zj <| d_k [1,2,4] [] 1 HN fun _ HO => f_o <| m_v 0 0 (.bool z) HO Ey rfl (seg_in rfl) fun _ Ex => ?_
 refine f_e <| ze <| cond_at Ex (t := z) (by kernel_rfl) (fun Eg => ?_) (fun Eg => ?_)
 ·
  replace Eg : z = true := Eg
  refine wp_seq <| zj <| f_o <| m_aw 0 9 (([.bool z] : List Value) ++ ((zg x) ++ (zg y))) Ex Ey rfl (zp rfl (zp (za hx) (za hy))) fun _ HD => f_o <| q_v (x := Instr.build 27 #[(0, .bool true)]) (v := .agg (zc (([.bool true] : List Value) ++ ((zg (zd 4 0)) ++ (zg (zd 4 0)))))) HD (Zw [(0, 1), (1, 4), (5, 4)] [⟨1, [.bool false], some (0, .bool true, [.bool true])⟩, ⟨4, zg (zd 4 0), none⟩, ⟨4, zg (zd 4 0), none⟩] (YS rfl rfl (Xl (za (zh)) (Xl (za (zh)) trivial))) _) fun _ HE => f_o <| q_v (x := eqOp .eql 27 (.tmp 6) (.tmp 7) (.agg (zc (([.bool z] : List Value) ++ ((zg x) ++ (zg y))))) (.agg (zc (([.bool true] : List Value) ++ ((zg (zd 4 0)) ++ (zg (zd 4 0))))))) (v := .bool ((z == true) && ((x == (zd 4 0)) && (y == (zd 4 0))))) HE (Go.Dbr.pnt_eqop (a := (.tmp 6)) (b := (.tmp 7)) isP hx hy (zh) (zh) _) fun _ HF => d_e [1,2] [] HF fun _ HG => ze <| wp_ret <| z9 <| ZH (t := 2) (v := .bool ((z == true) && ((x == (zd 4 0)) && (y == (zd 4 0))))) HG (by kernel_rfl) (by kernel_rfl) ?_
  exact ⟨by simp only [onN, Eg, ZF]; rfl, Ey.pk []⟩
 replace Eg : ¬ (z = true) := ZB.1 Eg
 refine wp_skip <| ze <| wp_seq <| r_c (fun ac wo => ∃ (Ea : Nat), Env ac 40 [(1, pt Eb), (2, .bool false), (3, pt Ea)] ∧ Ev w [] wo [.box Eb (([.bool z] : List Value) ++ ((zg x) ++ (zg y))) 27, .box Ea (zg (nd (z5 2 (nv (nd (zZ 2 (nv (nd (zo 2 (nv (nd (zo 2 (nv x) (nv x)))) (nv x)))) (nv (nd (thN (nv x))))))) (nv (nd bN))))) 24]) ?_ ?_
 ·
  refine s_g1 [(1, pt Eb), (2, .bool false)] [0,1,2,3,4,5,6,7,8,9,10,11,12,13] [(9, .pointer (some ⟨Eb, 1, none⟩)), (10, .agg (zc (zg x))), (11, .pointer (some ⟨Eb, 1, none⟩)), (12, .agg (zc (zg x))), (13, .agg (zc (zg (nd (zo 2 (nv x) (nv x)))))), (14, .pointer (some ⟨Eb, 1, none⟩)), (15, .agg (zc (zg x))), (16, .agg (zc (zg (nd (zo 2 (nv (nd (zo 2 (nv x) (nv x)))) (nv x)))))), (17, .pointer (some ⟨Eb, 1, none⟩)), (18, .agg (zc (zg x))), (19, .agg (zc (zg (nd (thN (nv x)))))), (20, .agg (zc (zg (nd (zZ 2 (nv (nd (zo 2 (nv (nd (zo 2 (nv x) (nv x)))) (nv x)))) (nv (nd (thN (nv x))))))))), (21, .agg (zc (zg (nd bN)))), (22, .agg (zc (zg (nd (z5 2 (nv (nd (zZ 2 (nv (nd (zo 2 (nv (nd (zo 2 (nv x) (nv x)))) (nv x)))) (nv (nd (thN (nv x))))))) (nv (nd bN)))))))] 1 [(1, pt Eb), (2, .bool false), (22, .agg (zc (zg (nd (z5 2 (nv (nd (zZ 2 (nv (nd (zo 2 (nv (nd (zo 2 (nv x) (nv x)))) (nv x)))) (nv (nd (thN (nv x))))))) (nv (nd bN)))))))] 14 (zg (zd 4 0)) (Ex.sb) (Ey.trans (zN Ey.heap)) ?_ fun _ _ Ea HH HI => ?_
  ·
   refine s_p [] <| s_a 0 1 4 (zg x) rfl (by simp [za hx, za hy, zu, zv]) (za hx) <| s_p [] <| s_a 0 1 4 (zg x) rfl (by simp [za hx, za hy, zu, zv]) (za hx) <| s_f (fun _ => Q0 _ x x hx hx) ?_
   refine s_p [] <| s_a 0 1 4 (zg x) rfl (by simp [za hx, za hy, zu, zv]) (za hx) <| s_f (fun _ => Q0 _ (nd (zo 2 (nv x) (nv x))) x (zl _ _) hx) ?_
   refine s_p [] <| s_a 0 1 4 (zg x) rfl (by simp [za hx, za hy, zu, zv]) (za hx) <| s_f (fun _ => thrice_go _ x hx) ?_
   refine s_f (fun _ => pdif_go _ (nd (zo 2 (nv (nd (zo 2 (nv x) (nv x)))) (nv x))) (nd (thN (nv x))) (zl _ _) (zl _ _)) ?_
   refine s_f (fun _ => curveB_go _) ?_
   refine s_f (fun _ => psum_go _ (nd (zZ 2 (nv (nd (zo 2 (nv (nd (zo 2 (nv x) (nv x)))) (nv x)))) (nv (nd (thN (nv x)))))) (nd bN) (zl _ _) (zl _ _)) ?_
   exact s_n
  refine q_u 15 ?_
  refine zW 1 4 (zg (nd (z5 2 (nv (nd (zZ 2 (nv (nd (zo 2 (nv (nd (zo 2 (nv x) (nv x)))) (nv x)))) (nv (nd (thN (nv x))))))) (nv (nd bN))))) _ HH HI rfl (za (zl _ _)) (za (zh)) (zq _) rfl fun _ _ Ez EA => ?_
  exact a_e ⟨Ea, Ez.sb, EA.pk [0, 1]⟩
 rintro _ _ ⟨Ea, Ek, Ee⟩
 refine ze <| wp_seq ?_
 rcases zM (decide (nv x < mF 2)) with Ed | Ed
 ·
  have hb112p : nv x < mF 2 := of_decide_eq_true Ed
  rcases zM (decide (nv y < mF 2)) with Ec | Ec
  ·
   have hb113p : nv y < mF 2 := of_decide_eq_true Ec
   refine r_c (fun ac wo => Env ac 40 [(1, pt Eb), (2, .bool ((nd (zo 2 (nv y) (nv y))) == (nd (z5 2 (nv (nd (zZ 2 (nv (nd (zo 2 (nv (nd (zo 2 (nv x) (nv x)))) (nv x)))) (nv (nd (thN (nv x))))))) (nv (nd bN)))))), (3, pt Ea)] ∧ Ev w [] wo [.box Eb (([.bool z] : List Value) ++ ((zg x) ++ (zg y))) 27, .box Ea (zg (nd (z5 2 (nv (nd (zZ 2 (nv (nd (zo 2 (nv (nd (zo 2 (nv x) (nv x)))) (nv x)))) (nv (nd (thN (nv x))))))) (nv (nd bN))))) 24]) ?_ ?_
   ·
    refine s_g0 [(1, pt Eb), (2, .bool false), (3, pt Ea)] [0,1,2,3] [(23, .pointer (some ⟨Eb, 1, none⟩)), (24, .agg (zc (zg x))), (25, .bool (decide (nv x < mF 2))), (26, .bool (decide (nv x < mF 2)))] 14 [(1, pt Eb), (2, .bool false), (3, pt Ea), (26, .bool (decide (nv x < mF 2)))] (Ek.sb) (Ee.trans (zN Ee.heap)) ?_ fun _ _ EB En => ?_
    ·
     refine s_p [] <| s_a 0 1 4 (zg x) rfl (by simp [za hx, za hy, zu, zv]) (za hx) <| s_f (fun _ => JZ _ 2 x hx) ?_
     refine s_p [] ?_
     exact s_n
    refine any_name fun G hG => ?_
    have nd221 : ∀ (ac : Act) (wo : World), Env ac 40 [(1, pt Eb), (2, .bool false), (3, pt Ea), (31, .bool true), (36, .agg (zc (zg (nd (zo 2 (nv y) (nv y))))))] → Ev w [] wo [.box Eb (([.bool z] : List Value) ++ ((zg x) ++ (zg y))) 27, .box Ea (zg (nd (z5 2 (nv (nd (zZ 2 (nv (nd (zo 2 (nv (nd (zo 2 (nv x) (nv x)))) (nv x)))) (nv (nd (thN (nv x))))))) (nv (nd bN))))) 24] → G 4 #[true, true, true, true, true, true, true, true, true, true, true, true, true, true, false, false, false, false] ac wo := by
     intro _ _ EC Eo
     refine Jq hG ?_
     refine q_u 14 ?_
     refine m_aw 1 4 (zg (nd (z5 2 (nv (nd (zZ 2 (nv (nd (zo 2 (nv (nd (zo 2 (nv x) (nv x)))) (nv x)))) (nv (nd (thN (nv x))))))) (nv (nd bN))))) EC Eo rfl (za (zl _ _)) fun _ ED => q_g 15 (s := eqOp .eql 24 (.tmp 36) (.tmp 37) (.agg (zc (zg (nd (zo 2 (nv y) (nv y)))))) (.agg (zc (zg (nd (z5 2 (nv (nd (zZ 2 (nv (nd (zo 2 (nv (nd (zo 2 (nv x) (nv x)))) (nv x)))) (nv (nd (thN (nv x))))))) (nv (nd bN)))))))) (v := .bool ((nd (zo 2 (nv y) (nv y))) == (nd (z5 2 (nv (nd (zZ 2 (nv (nd (zo 2 (nv (nd (zo 2 (nv x) (nv x)))) (nv x)))) (nv (nd (thN (nv x))))))) (nv (nd bN)))))) ED (fun _ => ZI (a := (.tmp 36)) (b := (.tmp 37)) (e := 22) (m := 4) (by kernel_rfl) (by kernel_rfl) (by kernel_rfl) (by kernel_rfl) (by kernel_rfl) (zl _ _) (zl _ _) _) fun _ EE => q_a [16,17] [] 0 EE fun _ EF => ?_
     exact a_e ⟨EF.sb, Eo.pk [0, 1]⟩
    have nd232 : ∀ (ac : Act) (wo : World), Env ac 40 [(1, pt Eb), (2, .bool false), (3, pt Ea), (31, .bool true), (33, .agg (zc (zg y))), (35, .agg (zc (zg y))), (37, .agg (zc (zg (nd (z5 2 (nv (nd (zZ 2 (nv (nd (zo 2 (nv (nd (zo 2 (nv x) (nv x)))) (nv x)))) (nv (nd (thN (nv x))))))) (nv (nd bN)))))))] → Ev w [] wo [.box Eb (([.bool z] : List Value) ++ ((zg x) ++ (zg y))) 27, .box Ea (zg (nd (z5 2 (nv (nd (zZ 2 (nv (nd (zo 2 (nv (nd (zo 2 (nv x) (nv x)))) (nv x)))) (nv (nd (thN (nv x))))))) (nv (nd bN))))) 24] → G 4 #[true, true, true, true, true, true, true, true, true, true, true, true, true, false, true, false, false, false] ac wo := by
     intro _ _ EG EH
     refine Jq hG ?_
     refine q_u 13 ?_
     refine c_p EG EH (Q0 _ y y hy hy) fun _ _ EI EJ => q_g 15 (s := eqOp .eql 24 (.tmp 36) (.tmp 37) (.agg (zc (zg (nd (zo 2 (nv y) (nv y)))))) (.agg (zc (zg (nd (z5 2 (nv (nd (zZ 2 (nv (nd (zo 2 (nv (nd (zo 2 (nv x) (nv x)))) (nv x)))) (nv (nd (thN (nv x))))))) (nv (nd bN)))))))) (v := .bool ((nd (zo 2 (nv y) (nv y))) == (nd (z5 2 (nv (nd (zZ 2 (nv (nd (zo 2 (nv (nd (zo 2 (nv x) (nv x)))) (nv x)))) (nv (nd (thN (nv x))))))) (nv (nd bN)))))) EI (fun _ => ZI (a := (.tmp 36)) (b := (.tmp 37)) (e := 22) (m := 4) (by kernel_rfl) (by kernel_rfl) (by kernel_rfl) (by kernel_rfl) (by kernel_rfl) (zl _ _) (zl _ _) _) fun _ EK => q_a [16,17] [] 0 EK fun _ EL => ?_
     exact a_e ⟨EL.sb, EJ.pk [0, 1]⟩
    have nd248 : ∀ (ac : Act) (wo : World), Env ac 40 [(1, pt Eb), (2, .bool false), (3, pt Ea), (31, .bool true), (33, .agg (zc (zg y))), (35, .agg (zc (zg y)))] → Ev w [] wo [.box Eb (([.bool z] : List Value) ++ ((zg x) ++ (zg y))) 27, .box Ea (zg (nd (z5 2 (nv (nd (zZ 2 (nv (nd (zo 2 (nv (nd (zo 2 (nv x) (nv x)))) (nv x)))) (nv (nd (thN (nv x))))))) (nv (nd bN))))) 24] → G 5 #[true, true, true, true, true, true, true, true, true, true, true, true, true, false, false, false, false, false] ac wo := by
     intro _ _ Ep El
     refine Jq hG ?_
     refine Kp 13 14 (by kernel_rfl) ?_ ?_
     ·
      rintro _ rfl
      refine c_p Ep El (Q0 _ y y hy hy) fun _ _ EM EN => ?_
      exact J2 hG (by kernel_rfl) (nd221 _ _ (EM.sb) (EN.pk [0, 1]))
     rintro _ rfl
     refine m_aw 1 4 (zg (nd (z5 2 (nv (nd (zZ 2 (nv (nd (zo 2 (nv (nd (zo 2 (nv x) (nv x)))) (nv x)))) (nv (nd (thN (nv x))))))) (nv (nd bN))))) Ep El rfl (za (zl _ _)) fun _ EO => ?_
     exact J2 hG (by kernel_rfl) (nd232 _ _ (EO.sb) (El.pk [0, 1]))
    have nd262 : ∀ (ac : Act) (wo : World), Env ac 40 [(1, pt Eb), (2, .bool false), (3, pt Ea), (31, .bool true), (33, .agg (zc (zg y))), (34, .pointer (some ⟨Eb, 5, none⟩)), (37, .agg (zc (zg (nd (z5 2 (nv (nd (zZ 2 (nv (nd (zo 2 (nv (nd (zo 2 (nv x) (nv x)))) (nv x)))) (nv (nd (thN (nv x))))))) (nv (nd bN)))))))] → Ev w [] wo [.box Eb (([.bool z] : List Value) ++ ((zg x) ++ (zg y))) 27, .box Ea (zg (nd (z5 2 (nv (nd (zZ 2 (nv (nd (zo 2 (nv (nd (zo 2 (nv x) (nv x)))) (nv x)))) (nv (nd (thN (nv x))))))) (nv (nd bN))))) 24] → G 5 #[true, true, true, true, true, true, true, true, true, true, true, true, false, false, true, false, false, false] ac wo := by
     intro _ _ EP Eq
     refine Jq hG ?_
     refine q_u 12 ?_
     refine m_a 0 5 4 (zg y) EP Eq rfl (by simp [za hx, za hy, zu, zv, zx]) (za hy) fun _ EQ => q_u 13 ?_
     refine c_p EQ Eq (Q0 _ y y hy hy) fun _ _ ER ES => q_g 15 (s := eqOp .eql 24 (.tmp 36) (.tmp 37) (.agg (zc (zg (nd (zo 2 (nv y) (nv y)))))) (.agg (zc (zg (nd (z5 2 (nv (nd (zZ 2 (nv (nd (zo 2 (nv (nd (zo 2 (nv x) (nv x)))) (nv x)))) (nv (nd (thN (nv x))))))) (nv (nd bN)))))))) (v := .bool ((nd (zo 2 (nv y) (nv y))) == (nd (z5 2 (nv (nd (zZ 2 (nv (nd (zo 2 (nv (nd (zo 2 (nv x) (nv x)))) (nv x)))) (nv (nd (thN (nv x))))))) (nv (nd bN)))))) ER (fun _ => ZI (a := (.tmp 36)) (b := (.tmp 37)) (e := 22) (m := 4) (by kernel_rfl) (by kernel_rfl) (by kernel_rfl) (by kernel_rfl) (by kernel_rfl) (zl _ _) (zl _ _) _) fun _ ET => q_a [16,17] [] 0 ET fun _ EU => ?_
     exact a_e ⟨EU.sb, ES.pk [0, 1]⟩
    have nd280 : ∀ (ac : Act) (wo : World), Env ac 40 [(1, pt Eb), (2, .bool false), (3, pt Ea), (31, .bool true), (32, .pointer (some ⟨Eb, 5, none⟩)), (35, .agg (zc (zg y))), (37, .agg (zc (zg (nd (z5 2 (nv (nd (zZ 2 (nv (nd (zo 2 (nv (nd (zo 2 (nv x) (nv x)))) (nv x)))) (nv (nd (thN (nv x))))))) (nv (nd bN)))))))] → Ev w [] wo [.box Eb (([.bool z] : List Value) ++ ((zg x) ++ (zg y))) 27, .box Ea (zg (nd (z5 2 (nv (nd (zZ 2 (nv (nd (zo 2 (nv (nd (zo 2 (nv x) (nv x)))) (nv x)))) (nv (nd (thN (nv x))))))) (nv (nd bN))))) 24] → G 5 #[true, true, true, true, true, true, true, true, true, true, false, true, true, false, true, false, false, false] ac wo := by
     intro _ _ EV Er
     refine Jq hG ?_
     refine q_u 10 ?_
     refine m_a 0 5 4 (zg y) EV Er rfl (by simp [za hx, za hy, zu, zv, zx]) (za hy) fun _ EW => q_u 13 ?_
     refine c_p EW Er (Q0 _ y y hy hy) fun _ _ EX EY => q_g 15 (s := eqOp .eql 24 (.tmp 36) (.tmp 37) (.agg (zc (zg (nd (zo 2 (nv y) (nv y)))))) (.agg (zc (zg (nd (z5 2 (nv (nd (zZ 2 (nv (nd (zo 2 (nv (nd (zo 2 (nv x) (nv x)))) (nv x)))) (nv (nd (thN (nv x))))))) (nv (nd bN)))))))) (v := .bool ((nd (zo 2 (nv y) (nv y))) == (nd (z5 2 (nv (nd (zZ 2 (nv (nd (zo 2 (nv (nd (zo 2 (nv x) (nv x)))) (nv x)))) (nv (nd (thN (nv x))))))) (nv (nd bN)))))) EX (fun _ => ZI (a := (.tmp 36)) (b := (.tmp 37)) (e := 22) (m := 4) (by kernel_rfl) (by kernel_rfl) (by kernel_rfl) (by kernel_rfl) (by kernel_rfl) (zl _ _) (zl _ _) _) fun _ EZ => q_a [16,17] [] 0 EZ fun _ E0 => ?_
     exact a_e ⟨E0.sb, EY.pk [0, 1]⟩
    have nd298 : ∀ (ac : Act) (wo : World), Env ac 40 [(1, pt Eb), (2, .bool false), (3, pt Ea), (31, .bool true), (33, .agg (zc (zg y))), (34, .pointer (some ⟨Eb, 5, none⟩))] → Ev w [] wo [.box Eb (([.bool z] : List Value) ++ ((zg x) ++ (zg y))) 27, .box Ea (zg (nd (z5 2 (nv (nd (zZ 2 (nv (nd (zo 2 (nv (nd (zo 2 (nv x) (nv x)))) (nv x)))) (nv (nd (thN (nv x))))))) (nv (nd bN))))) 24] → G 6 #[true, true, true, true, true, true, true, true, true, true, true, true, false, false, false, false, false, false] ac wo := by
     intro _ _ Es Eh
     refine Jq hG ?_
     refine Kp 12 14 (by kernel_rfl) ?_ ?_
     ·
      rintro _ rfl
      refine m_a 0 5 4 (zg y) Es Eh rfl (by simp [za hx, za hy, zu, zv, zx]) (za hy) fun _ E1 => ?_
      exact J2 hG (by kernel_rfl) (nd248 _ _ (E1.sb) (Eh.pk [0, 1]))
     rintro _ rfl
     refine m_aw 1 4 (zg (nd (z5 2 (nv (nd (zZ 2 (nv (nd (zo 2 (nv (nd (zo 2 (nv x) (nv x)))) (nv x)))) (nv (nd (thN (nv x))))))) (nv (nd bN))))) Es Eh rfl (za (zl _ _)) fun _ E2 => ?_
     exact J2 hG (by kernel_rfl) (nd262 _ _ (E2.sb) (Eh.pk [0, 1]))
    have nd307 : ∀ (ac : Act) (wo : World), Env ac 40 [(1, pt Eb), (2, .bool false), (3, pt Ea), (31, .bool true), (32, .pointer (some ⟨Eb, 5, none⟩)), (35, .agg (zc (zg y)))] → Ev w [] wo [.box Eb (([.bool z] : List Value) ++ ((zg x) ++ (zg y))) 27, .box Ea (zg (nd (z5 2 (nv (nd (zZ 2 (nv (nd (zo 2 (nv (nd (zo 2 (nv x) (nv x)))) (nv x)))) (nv (nd (thN (nv x))))))) (nv (nd bN))))) 24] → G 6 #[true, true, true, true, true, true, true, true, true, true, false, true, true, false, false, false, false, false] ac wo := by
     intro _ _ Et Ei
     refine Jq hG ?_
     refine Kp 10 14 (by kernel_rfl) ?_ ?_
     ·
      rintro _ rfl
      refine m_a 0 5 4 (zg y) Et Ei rfl (by simp [za hx, za hy, zu, zv, zx]) (za hy) fun _ E3 => ?_
      exact J2 hG (by kernel_rfl) (nd248 _ _ (E3.sb) (Ei.pk [0, 1]))
     rintro _ rfl
     refine m_aw 1 4 (zg (nd (z5 2 (nv (nd (zZ 2 (nv (nd (zo 2 (nv (nd (zo 2 (nv x) (nv x)))) (nv x)))) (nv (nd (thN (nv x))))))) (nv (nd bN))))) Et Ei rfl (za (zl _ _)) fun _ E4 => ?_
     exact J2 hG (by kernel_rfl) (nd280 _ _ (E4.sb) (Ei.pk [0, 1]))
    have nd316 : ∀ (ac : Act) (wo : World), Env ac 40 [(1, pt Eb), (2, .bool false), (3, pt Ea), (31, .bool true), (32, .pointer (some ⟨Eb, 5, none⟩)), (34, .pointer (some ⟨Eb, 5, none⟩)), (37, .agg (zc (zg (nd (z5 2 (nv (nd (zZ 2 (nv (nd (zo 2 (nv (nd (zo 2 (nv x) (nv x)))) (nv x)))) (nv (nd (thN (nv x))))))) (nv (nd bN)))))))] → Ev w [] wo [.box Eb (([.bool z] : List Value) ++ ((zg x) ++ (zg y))) 27, .box Ea (zg (nd (z5 2 (nv (nd (zZ 2 (nv (nd (zo 2 (nv (nd (zo 2 (nv x) (nv x)))) (nv x)))) (nv (nd (thN (nv x))))))) (nv (nd bN))))) 24] → G 6 #[true, true, true, true, true, true, true, true, true, true, false, true, false, false, true, false, false, false] ac wo := by
     intro _ _ Eu Ej
     refine Jq hG ?_
     refine Kp 10 12 (by kernel_rfl) ?_ ?_
     ·
      rintro _ rfl
      refine m_a 0 5 4 (zg y) Eu Ej rfl (by simp [za hx, za hy, zu, zv, zx]) (za hy) fun _ E5 => ?_
      exact J2 hG (by kernel_rfl) (nd262 _ _ (E5.sb) (Ej.pk [0, 1]))
     rintro _ rfl
     refine m_a 0 5 4 (zg y) Eu Ej rfl (by simp [za hx, za hy, zu, zv, zx]) (za hy) fun _ E6 => ?_
     exact J2 hG (by kernel_rfl) (nd280 _ _ (E6.sb) (Ej.pk [0, 1]))
    refine Jq hG ?_
    have E7 := EB.fx (t := 26) (congrArg Value.bool Ed)
    refine q_a [4] [] 13 E7 fun _ E8 => q_u 5 ?_
    refine m_a 0 5 4 (zg y) E8 En rfl (by simp [za hx, za hy, zu, zv, zx]) (za hy) fun _ E9 => q_u 6 ?_
    refine c_p E9 En (JZ _ 2 y hy) fun _ _ Ha Ef => q_a [7,8] [] 9 Ha fun _ Hb => ?_
    have Hc := Hb.fx (t := 29) (congrArg Value.bool Ec)
    have Hd := Hc.fx (t := 30) (congrArg Value.bool Ec)
    have He := Hd.fx (t := 31) (congrArg Value.bool Ec)
    refine q_a [9,11] [] 7 He fun _ Em => any_ways [10, 12, 14] (by kernel_rfl) rfl ?_
    refine ⟨?_, ?_, ?_, trivial⟩
    ·
     rintro _ rfl
     refine m_a 0 5 4 (zg y) Em Ef rfl (by simp [za hx, za hy, zu, zv, zx]) (za hy) fun _ Hf => ?_
     exact J2 hG (by kernel_rfl) (nd298 _ _ (Hf.sb) (Ef.pk [0, 1]))
    ·
     rintro _ rfl
     refine m_a 0 5 4 (zg y) Em Ef rfl (by simp [za hx, za hy, zu, zv, zx]) (za hy) fun _ Hg => ?_
     exact J2 hG (by kernel_rfl) (nd307 _ _ (Hg.sb) (Ef.pk [0, 1]))
    rintro _ rfl
    refine m_aw 1 4 (zg (nd (z5 2 (nv (nd (zZ 2 (nv (nd (zo 2 (nv (nd (zo 2 (nv x) (nv x)))) (nv x)))) (nv (nd (thN (nv x))))))) (nv (nd bN))))) Em Ef rfl (za (zl _ _)) fun _ Hh => ?_
    exact J2 hG (by kernel_rfl) (nd316 _ _ (Hh.sb) (Ef.pk [0, 1]))
   rintro _ _ ⟨Hi, Hj⟩
   refine ze <| wp_ret <| ZH (t := 2) (v := .bool ((nd (zo 2 (nv y) (nv y))) == (nd (z5 2 (nv (nd (zZ 2 (nv (nd (zo 2 (nv (nd (zo 2 (nv x) (nv x)))) (nv x)))) (nv (nd (thN (nv x))))))) (nv (nd bN)))))) Hi (by kernel_rfl) (by kernel_rfl) ?_
   have g0 : z = false := by simpa using Eg
   exact ⟨by simp only [onN, g0, Zc, Ed, Ec, Q9, Yc, Yw, nv_m2, nv_s2, nv_th, nv_b], Hj.pk []⟩
  have hb113p : ¬ (nv y < mF 2) := of_decide_eq_false Ec
  refine r_c (fun ac wo => Env ac 40 [(1, pt Eb), (2, .bool false), (3, pt Ea)] ∧ Ev w [] wo [.box Eb (([.bool z] : List Value) ++ ((zg x) ++ (zg y))) 27, .box Ea (zg (nd (z5 2 (nv (nd (zZ 2 (nv (nd (zo 2 (nv (nd (zo 2 (nv x) (nv x)))) (nv x)))) (nv (nd (thN (nv x))))))) (nv (nd bN))))) 24]) ?_ ?_
  ·
   refine s_g0 [(1, pt Eb), (2, .bool false), (3, pt Ea)] [0,1,2,3] [(23, .pointer (some ⟨Eb, 1, none⟩)), (24, .agg (zc (zg x))), (25, .bool (decide (nv x < mF 2))), (26, .bool (decide (nv x < mF 2)))] 14 [(1, pt Eb), (2, .bool false), (3, pt Ea), (26, .bool (decide (nv x < mF 2)))] (Ek.sb) (Ee.trans (zN Ee.heap)) ?_ fun _ _ Hk Ew => ?_
   ·
    refine s_p [] <| s_a 0 1 4 (zg x) rfl (by simp [za hx, za hy, zu, zv]) (za hx) <| s_f (fun _ => JZ _ 2 x hx) ?_
    refine s_p [] ?_
    exact s_n
   have Hl := Hk.fx (t := 26) (congrArg Value.bool Ed)
   refine q_a [4] [] 13 Hl fun _ Hm => q_u 5 ?_
   refine m_a 0 5 4 (zg y) Hm Ew rfl (by simp [za hx, za hy, zu, zv, zx]) (za hy) fun _ Hn => q_u 6 ?_
   refine c_p Hn Ew (JZ _ 2 y hy) fun _ _ Ho Hp => q_a [7,8] [] 9 Ho fun _ Hq => ?_
   have Hr := Hq.fx (t := 29) (congrArg Value.bool Ec)
   have Hs := Hr.fx (t := 30) (congrArg Value.bool Ec)
   have Ht := Hs.fx (t := 31) (congrArg Value.bool Ec)
   refine q_a [9,10,11,12,13,14,15,16,17] [] 0 Ht fun _ Hu => ?_
   exact a_e ⟨Hu.sb, Hp.pk [0, 1]⟩
  rintro _ _ ⟨Hv, Hw⟩
  refine ze <| wp_ret <| ZH (t := 2) (v := .bool false) Hv (by kernel_rfl) (by kernel_rfl) ?_
  have g0 : z = false := by simpa using Eg
  exact ⟨by simp only [onN, g0, Zc, Ed, Ec, Q9, Yc, Yw, nv_m2, nv_s2, nv_th, nv_b], Hw.pk []⟩
 have hb112p : ¬ (nv x < mF 2) := of_decide_eq_false Ed
 refine r_c (fun ac wo => Env ac 40 [(1, pt Eb), (2, .bool false), (3, pt Ea)] ∧ Ev w [] wo [.box Eb (([.bool z] : List Value) ++ ((zg x) ++ (zg y))) 27, .box Ea (zg (nd (z5 2 (nv (nd (zZ 2 (nv (nd (zo 2 (nv (nd (zo 2 (nv x) (nv x)))) (nv x)))) (nv (nd (thN (nv x))))))) (nv (nd bN))))) 24]) ?_ ?_
 ·
  refine s_g0 [(1, pt Eb), (2, .bool false), (3, pt Ea)] [0,1,2,3] [(23, .pointer (some ⟨Eb, 1, none⟩)), (24, .agg (zc (zg x))), (25, .bool (decide (nv x < mF 2))), (26, .bool (decide (nv x < mF 2)))] 14 [(1, pt Eb), (2, .bool false), (3, pt Ea), (26, .bool (decide (nv x < mF 2)))] (Ek.sb) (Ee.trans (zN Ee.heap)) ?_ fun _ _ Hx Hy => ?_
  ·
   refine s_p [] <| s_a 0 1 4 (zg x) rfl (by simp [za hx, za hy, zu, zv]) (za hx) <| s_f (fun _ => JZ _ 2 x hx) ?_
   refine s_p [] ?_
   exact s_n
  have Hz := Hx.fx (t := 26) (congrArg Value.bool Ed)
  refine q_a [4,5,6,7,8,9,10,11,12,13,14,15,16,17] [] 0 Hz fun _ HA => ?_
  exact a_e ⟨HA.sb, Hy.pk [0, 1]⟩
 rintro _ _ ⟨HB, HC⟩
 refine ze <| wp_ret <| ZH (t := 2) (v := .bool false) HB (by kernel_rfl) (by kernel_rfl) ?_
 have g0 : z = false := by simpa using Eg
 exact ⟨by simp only [onN, g0, Zc, Ed, Q9, Yc, Yw, nv_m2, nv_s2, nv_th, nv_b], HC.pk []⟩
theorem zero_go (w : World) : Calls zB 46 #[] w fun e w' => e = .returned (.agg (zc ((zg (zd 4 0)) ++ ((zg ([1, 0, 0, 0] : List UInt64)) ++ (zg (zd 4 0)))))) ∧ Ev w [] w' [] := by
 refine d_0 [] 3 Tryz.func46 Tryz.ntmps46 (Heap.nil _) fun Ec Ed Ee => wp_seq <| zj <| f_o <| m_z 44 ((zg (zd 4 0)) ++ ((zg (zd 4 0)) ++ (zg (zd 4 0)))) Ed Ee fun _ _ Ef Eg Eh => f_e <| ze <| wp_seq <| zj <| d_k [0,1] [] 1 Eg fun _ Ei => f_o <| q_v (x := Instr.build 44 #[(1, .agg (zc (zg ([1, 0, 0, 0] : List UInt64))))]) (v := .agg (zc ((zg (zd 4 0)) ++ ((zg ([1, 0, 0, 0] : List UInt64)) ++ (zg (zd 4 0)))))) Ei (Zw [(0, 4), (4, 4), (8, 4)] [⟨4, zg (zd 4 0), none⟩, ⟨4, zg (zd 4 0), some (1, .agg (zc (zg ([1, 0, 0, 0] : List UInt64))), zg ([1, 0, 0, 0] : List UInt64))⟩, ⟨4, zg (zd 4 0), none⟩] (Xl (za (zh)) (YS (za (zh)) (za (show zf ([1, 0, 0, 0] : List UInt64) = 4 from rfl)) (Xl (za (zh)) trivial))) _) fun _ Ej => f_o <| zW 0 12 ((zg (zd 4 0)) ++ ((zg ([1, 0, 0, 0] : List UInt64)) ++ (zg (zd 4 0)))) _ Ej Eh rfl (zp (za (zh)) (zp (za (show zf ([1, 0, 0, 0] : List UInt64) = 4 from rfl)) (za (zh)))) (zp (za (zh)) (zp (za (zh)) (za (zh)))) (Zd (zq _) (Zd (zq _) (zq _))) rfl fun _ _ Eb Ea => f_e <| ze <| wp_ret <| zU (v := .agg (zc ((zg (zd 4 0)) ++ ((zg ([1, 0, 0, 0] : List UInt64)) ++ (zg (zd 4 0)))))) (t := 0) (T := 44) (ad := ⟨Ef, 0, none⟩) Eb (by kernel_rfl) (by kernel_rfl) (zC (t := 44) (k := 0) (off := 0) (m := 12) (xs := (zg (zd 4 0)) ++ ((zg ([1, 0, 0, 0] : List UInt64)) ++ (zg (zd 4 0)))) Ea rfl (zn (zp (za (zh)) (zp (za (show zf ([1, 0, 0, 0] : List UInt64) = 4 from rfl)) (za (zh))))) (zp (za (zh)) (zp (za (show zf ([1, 0, 0, 0] : List UInt64) = 4 from rfl)) (za (zh)))) (by kernel_rfl) (by kernel_rfl)) ?_
 exact ⟨by first | rfl | kernel_rfl, Ea.pk []⟩
abbrev L4 := List UInt64
def oX (z : Bool) (x : L4) : L4 := bif z then zd 4 0 else x
def oY (z : Bool) (y : L4) : L4 := bif z then [1, 0, 0, 0] else y
def oZ (z : Bool) : L4 := bif z then zd 4 0 else [1, 0, 0, 0]
theorem oX_len {z : Bool} {x : L4} (h : x.length = 4) : (oX z x).length = 4 := by cases z <;> first | exact h | rfl
theorem oY_len {z : Bool} {x : L4} (h : x.length = 4) : (oY z x).length = 4 := by cases z <;> first | exact h | rfl
theorem oZ_len {z : Bool} : (oZ z).length = 4 := by cases z <;> rfl
def ivN (z : Nat) : Nat := zK 2 z (mF 2 - 2)
def bZ (z : L4) : Bool := z == zd 4 0
def bX (x z : L4) : L4 := bif z == zd 4 0 then zd 4 0 else nd (zo 2 (nv x) (ivN (nv z)))
theorem bX_len {x z : L4} : (bX x z).length = 4 := by
  unfold bX
  cases (z == zd 4 0) with
  | true => rfl
  | false => exact zl _ _
theorem nv_pow2 (x e : Nat) : nv (nd (zK 2 x e)) = zK 2 x e := nv_pow h2f x e
theorem of_go (w : World) (z : Bool) (x y : List UInt64) (hx : zf x = 4) (hy : zf y = 4) : Calls zB 15 #[.agg (zc (([.bool z] : List Value) ++ ((zg x) ++ (zg y))))] w fun e w' => e = .returned (.agg (zc ((zg (oX z x)) ++ ((zg (oY z y)) ++ (zg (oZ z)))))) ∧ Ev w [] w' [] := by
 refine d_0 [(0, .agg (zc (([.bool z] : List Value) ++ ((zg x) ++ (zg y)))))] 12 Tryz.func15 Tryz.ntmps15 (Heap.nil _) fun Er Es Et => wp_seq <| zj <| f_o <| m_m 27 (([.bool z] : List Value) ++ ((zg x) ++ (zg y))) Es Et fun _ _ Eu Ew Ex => f_o <| m_z 44 ((zg (zd 4 0)) ++ ((zg (zd 4 0)) ++ (zg (zd 4 0)))) Ew Ex fun _ _ Ef Ey Eb => f_e <| ze <| wp_seq <| wp_seq <| zj <| d_k [1,2,3] [] 1 Ey fun _ Eg => f_o <| m_v 0 0 (.bool z) Eg Eb rfl (seg_in rfl) fun _ Ec => ?_
 refine f_e <| ze <| cond_at Ec (t := z) (by kernel_rfl) (fun Ea => ?_) (fun Ea => ?_)
 ·
  replace Ea : z = true := Ea
  refine wp_seq <| zj <| f_o <| c_p Ec Eb (zero_go _) fun _ _ Eh Ei => f_o <| zW 1 12 ((zg (zd 4 0)) ++ ((zg ([1, 0, 0, 0] : List UInt64)) ++ (zg (zd 4 0)))) _ Eh Ei rfl (zp (za (zh ..)) (zp (za (show zf ([1, 0, 0, 0] : List UInt64) = 4 from rfl)) (za (zh ..)))) (zp (za (zh)) (zp (za (zh)) (za (zh)))) (Zd (zq _) (Zd (zq _) (zq _))) rfl fun _ _ Ej Ed => f_e <| ze <| wp_ret <| z9 <| zU (v := .agg (zc ((zg (zd 4 0)) ++ ((zg ([1, 0, 0, 0] : List UInt64)) ++ (zg (zd 4 0)))))) (t := 2) (T := 44) (ad := ⟨Ef, 0, none⟩) Ej (by kernel_rfl) (by kernel_rfl) (zC (t := 44) (k := 1) (off := 0) (m := 12) (xs := (zg (zd 4 0)) ++ ((zg ([1, 0, 0, 0] : List UInt64)) ++ (zg (zd 4 0)))) Ed rfl (zn (zp (za (zh ..)) (zp (za (show zf ([1, 0, 0, 0] : List UInt64) = 4 from rfl)) (za (zh ..))))) (zp (za (zh ..)) (zp (za (show zf ([1, 0, 0, 0] : List UInt64) = 4 from rfl)) (za (zh ..)))) (by kernel_rfl) (by kernel_rfl)) ?_
  have g0 : z = true := by simpa using Ea
  exact ⟨by rw [g0]; first | rfl | kernel_rfl, Ed.pk []⟩
 replace Ea : ¬ (z = true) := ZB.1 Ea
 refine wp_skip <| ze <| wp_seq <| zj <| d_k [1,2,6] [] 1 Ec fun _ Ek => f_o <| m_a 0 1 4 (zg x) Ek Eb rfl (by simp [za hx, za hy, zu, zv]) (za hx) fun _ El => d_k [1,2,7,8] [] 3 El fun _ Em => f_o <| m_a 0 5 4 (zg y) Em Eb rfl (by simp [za hx, za hy, zu, zv, zx]) (za hy) fun _ En => d_k [1,2,7,9,10] [] 5 En fun _ Eo => f_o <| q_v (x := Instr.build 44 #[(0, .agg (zc (zg x))), (1, .agg (zc (zg y))), (2, .agg (zc (zg ([1, 0, 0, 0] : List UInt64))))]) (v := .agg (zc ((zg x) ++ ((zg y) ++ (zg ([1, 0, 0, 0] : List UInt64)))))) Eo (Zw [(0, 4), (4, 4), (8, 4)] [⟨4, zg (zd 4 0), some (0, .agg (zc (zg x)), zg x)⟩, ⟨4, zg (zd 4 0), some (1, .agg (zc (zg y)), zg y)⟩, ⟨4, zg (zd 4 0), some (2, .agg (zc (zg ([1, 0, 0, 0] : List UInt64))), zg ([1, 0, 0, 0] : List UInt64))⟩] (YS (za (zh)) (za hx) (YS (za (zh)) (za hy) (YS (za (zh)) (za (show zf ([1, 0, 0, 0] : List UInt64) = 4 from rfl)) trivial))) _) fun _ Ep => ?_
 refine f_o <| zW 1 12 ((zg x) ++ ((zg y) ++ (zg ([1, 0, 0, 0] : List UInt64)))) [.box Eu (([.bool z] : List Value) ++ ((zg x) ++ (zg y))) 27, .box Ef ((zg x) ++ ((zg y) ++ (zg ([1, 0, 0, 0] : List UInt64)))) 44] Ep Eb rfl (zp (za hx) (zp (za hy) (za (show zf ([1, 0, 0, 0] : List UInt64) = 4 from rfl)))) (zp (za (zh)) (zp (za (zh)) (za (zh)))) (Zd (zq _) (Zd (zq _) (zq _))) rfl fun _ _ Eq Ee => f_e <| ze <| wp_ret <| zU (v := .agg (zc ((zg x) ++ ((zg y) ++ (zg ([1, 0, 0, 0] : List UInt64)))))) (t := 2) (T := 44) (ad := ⟨Ef, 0, none⟩) Eq (by kernel_rfl) (by kernel_rfl) (zC (t := 44) (k := 1) (off := 0) (m := 12) (xs := (zg x) ++ ((zg y) ++ (zg ([1, 0, 0, 0] : List UInt64)))) Ee rfl (zn (zp (za hx) (zp (za hy) (za (show zf ([1, 0, 0, 0] : List UInt64) = 4 from rfl))))) (zp (za hx) (zp (za hy) (za (show zf ([1, 0, 0, 0] : List UInt64) = 4 from rfl)))) (by kernel_rfl) (by kernel_rfl)) ?_
 have g0 : z = false := by simpa using Ea
 exact ⟨by rw [g0]; first | rfl | kernel_rfl, Ee.pk []⟩
theorem back_go (w : World) (x y z : List UInt64) (hx : zf x = 4) (hy : zf y = 4) (hz : zf z = 4) : Calls zB 20 #[.agg (zc ((zg x) ++ ((zg y) ++ (zg z))))] w fun e w' => e = .returned (.agg (zc (([.bool (bZ z)] : List Value) ++ ((zg (bX x z)) ++ (zg (bX y z)))))) ∧ Ev w [] w' [] := by
 refine d_0 [(0, .agg (zc ((zg x) ++ ((zg y) ++ (zg z)))))] 21 Tryz.func20 Tryz.ntmps20 (Heap.nil _) fun EE EF EG => wp_seq <| zj <| f_o <| m_m 44 ((zg x) ++ ((zg y) ++ (zg z))) EF EG fun _ _ Ee EH EI => f_o <| m_z 27 (([.bool false] : List Value) ++ ((zg (zd 4 0)) ++ (zg (zd 4 0)))) EH EI fun _ _ Ef EJ Ec => f_e <| ze <| wp_seq <| wp_seq <| zj <| d_k [1,2,4] [] 1 EJ fun _ Em => f_o <| m_a 0 8 4 (zg z) Em Ec rfl (by simp [za hx, za hy, za hz, zu, zv, zx]) (za hz) fun _ En => d_k [1,2,5,6] [] 3 En fun _ Eo => ?_
 refine f_o <| q_v (x := eqOp .eql 24 (.tmp 5) (.tmp 6) (.agg (zc (zg z))) (.agg (zc (zg ([0, 0, 0, 0] : List UInt64))))) (v := .bool (z == ([0, 0, 0, 0] : List UInt64))) Eo (ZI (a := (.tmp 5)) (b := (.tmp 6)) (e := 22) (m := 4) (by kernel_rfl) (by kernel_rfl) (by kernel_rfl) (by kernel_rfl) (by kernel_rfl) hz (show zf ([0, 0, 0, 0] : List UInt64) = 4 from rfl) _) fun _ Eg => ?_
 refine f_e <| ze <| cond_at Eg (t := z == ([0, 0, 0, 0] : List UInt64)) (by kernel_rfl) (fun Ea => ?_) (fun Ea => ?_)
 ·
  replace Ea : z = ([0, 0, 0, 0] : List UInt64) := eq_of_beq Ea
  refine wp_seq <| zj <| f_o <| q_v (x := Instr.build 27 #[(0, .bool true)]) (v := .agg (zc (([.bool true] : List Value) ++ ((zg (zd 4 0)) ++ (zg (zd 4 0)))))) Eg (Zw [(0, 1), (1, 4), (5, 4)] [⟨1, [.bool false], some (0, .bool true, [.bool true])⟩, ⟨4, zg (zd 4 0), none⟩, ⟨4, zg (zd 4 0), none⟩] (YS rfl rfl (Xl (za (zh)) (Xl (za (zh)) trivial))) _) fun _ Ep => f_o <| zW 1 9 (([.bool true] : List Value) ++ ((zg (zd 4 0)) ++ (zg (zd 4 0)))) _ Ep Ec rfl (zp rfl (zp (za (zh)) (za (zh)))) (zp rfl (zp (za (zh)) (za (zh)))) (Zd (one_all (by kernel_rfl)) (Zd (zq _) (zq _))) rfl fun _ _ Eq Eh => f_e <| ze <| wp_ret <| z9 <| zU (v := .agg (zc (([.bool true] : List Value) ++ ((zg (zd 4 0)) ++ (zg (zd 4 0)))))) (t := 2) (T := 27) (ad := ⟨Ef, 0, none⟩) Eq (by kernel_rfl) (by kernel_rfl) (zC (t := 27) (k := 1) (off := 0) (m := 9) (xs := ([.bool true] : List Value) ++ ((zg (zd 4 0)) ++ (zg (zd 4 0)))) Eh rfl (zn (zp rfl (zp (za (zh)) (za (zh))))) (zp rfl (zp (za (zh)) (za (zh)))) (by kernel_rfl) (by kernel_rfl)) ?_
  have gz : (z == zd 4 0) = true := by simpa using Ea
  exact ⟨by simp only [bZ, bX, gz, ZF, Zc, ivN], Eh.pk []⟩
 replace Ea : ¬ (z = ([0, 0, 0, 0] : List UInt64)) := ne_of_beq_false Ea
 refine wp_skip <| ze <| wp_seq <| zj <| d_k [1,2,9] [] 1 Eg fun _ Er => f_o <| m_a 0 8 4 (zg z) Er Ec rfl (by simp [za hx, za hy, za hz, zu, zv, zx]) (za hz) fun _ Es => f_o <| c_p Es Ec (inv_go _ 2 h2f hM2 z hz) fun _ _ Et Eu => f_o <| m_z 24 (zg (zd 4 0)) Et Eu fun _ _ Eb Ew Ex => f_o <| zW 2 4 (zg (nd (zK 2 (nv z) (mF 2 - 2)))) [.box Ee ((zg x) ++ ((zg y) ++ (zg z))) 44, .box Ef (([.bool false] : List Value) ++ ((zg (zd 4 0)) ++ (zg (zd 4 0)))) 27, .box Eb (zg (nd (zK 2 (nv z) (mF 2 - 2)))) 24] Ew Ex rfl (za (zl _ _)) (za (zh)) (zq _) rfl fun _ _ Ey Ei => ?_
 refine f_e <| ze <| wp_seq <| r_c (fun ac wo => Env ac 21 [(1, pt Ee), (2, pt Ef), (3, pt Eb)] ∧ Ev w [] wo [.box Ee ((zg x) ++ ((zg y) ++ (zg z))) 44, .box Ef (([.bool false] : List Value) ++ ((zg (nd (zo 2 (nv x) (nv (nd (zK 2 (nv z) (mF 2 - 2))))))) ++ (zg (nd (zo 2 (nv y) (nv (nd (zK 2 (nv z) (mF 2 - 2))))))))) 27, .box Eb (zg (nd (zK 2 (nv z) (mF 2 - 2)))) 24]) ?_ ?_
 ·
  refine s_g0 [(1, pt Ee), (2, pt Ef), (3, pt Eb)] [0,1,2,3,4,5,6,7,8] [(12, pt Ee), (13, .agg (zc (zg x))), (14, .agg (zc (zg (nd (zK 2 (nv z) (mF 2 - 2)))))), (15, .agg (zc (zg (nd (zo 2 (nv x) (nv (nd (zK 2 (nv z) (mF 2 - 2))))))))), (16, .pointer (some ⟨Ee, 4, none⟩)), (17, .agg (zc (zg y))), (18, .agg (zc (zg (nd (zK 2 (nv z) (mF 2 - 2)))))), (19, .agg (zc (zg (nd (zo 2 (nv y) (nv (nd (zK 2 (nv z) (mF 2 - 2))))))))), (20, .agg (zc (([.bool false] : List Value) ++ ((zg (nd (zo 2 (nv x) (nv (nd (zK 2 (nv z) (mF 2 - 2))))))) ++ (zg (nd (zo 2 (nv y) (nv (nd (zK 2 (nv z) (mF 2 - 2)))))))))))] 1 [(1, pt Ee), (2, pt Ef), (3, pt Eb), (20, .agg (zc (([.bool false] : List Value) ++ ((zg (nd (zo 2 (nv x) (nv (nd (zK 2 (nv z) (mF 2 - 2))))))) ++ (zg (nd (zo 2 (nv y) (nv (nd (zK 2 (nv z) (mF 2 - 2)))))))))))] (Ey.sb) (Ei.trans (zN Ei.heap)) ?_ fun _ _ Ez EA => ?_
  ·
   refine s_p [] <| s_a 0 0 4 (zg x) rfl (by simp [za hx, za hy, za hz, zu, zv]) (za hx) <| s_a 2 0 4 (zg (nd (zK 2 (nv z) (mF 2 - 2)))) rfl (zn (za (zl _ _))) (za (zl _ _)) <| s_f (fun _ => Q0 _ x (nd (zK 2 (nv z) (mF 2 - 2))) hx (zl _ _)) ?_
   refine s_p [] <| s_a 0 4 4 (zg y) rfl (by simp [za hx, za hy, za hz, zu, zv]) (za hy) <| s_a 2 0 4 (zg (nd (zK 2 (nv z) (mF 2 - 2)))) rfl (zn (za (zl _ _))) (za (zl _ _)) <| s_f (fun _ => Q0 _ y (nd (zK 2 (nv z) (mF 2 - 2))) hy (zl _ _)) ?_
   refine s_c (fun Mx84 _ _ EB EC => ?_) ?_
   ·
    refine q_v (x := Instr.build 27 #[(1, .agg (zc (zg (nd (zo 2 (nv x) (nv (nd (zK 2 (nv z) (mF 2 - 2))))))))), (2, .agg (zc (zg (nd (zo 2 (nv y) (nv (nd (zK 2 (nv z) (mF 2 - 2)))))))))]) (v := .agg (zc (([.bool false] : List Value) ++ ((zg (nd (zo 2 (nv x) (nv (nd (zK 2 (nv z) (mF 2 - 2))))))) ++ (zg (nd (zo 2 (nv y) (nv (nd (zK 2 (nv z) (mF 2 - 2))))))))))) EB (Zw [(0, 1), (1, 4), (5, 4)] [⟨1, [.bool false], none⟩, ⟨4, zg (zd 4 0), some (1, .agg (zc (zg (nd (zo 2 (nv x) (nv (nd (zK 2 (nv z) (mF 2 - 2)))))))), zg (nd (zo 2 (nv x) (nv (nd (zK 2 (nv z) (mF 2 - 2)))))))⟩, ⟨4, zg (zd 4 0), some (2, .agg (zc (zg (nd (zo 2 (nv y) (nv (nd (zK 2 (nv z) (mF 2 - 2)))))))), zg (nd (zo 2 (nv y) (nv (nd (zK 2 (nv z) (mF 2 - 2)))))))⟩] (Xl rfl (YS (za (zh)) (za (zl _ _)) (YS (za (zh)) (za (zl _ _)) trivial))) _) fun _ ED => ?_
    exact s_e ED EC
   exact s_n
  refine q_u 9 ?_
  refine zW 1 9 (([.bool false] : List Value) ++ ((zg (nd (zo 2 (nv x) (nv (nd (zK 2 (nv z) (mF 2 - 2))))))) ++ (zg (nd (zo 2 (nv y) (nv (nd (zK 2 (nv z) (mF 2 - 2))))))))) _ Ez EA rfl (zp rfl (zp (za (zl _ _)) (za (zl _ _)))) (zp rfl (zp (za (zh)) (za (zh)))) (Zd (one_all (by kernel_rfl)) (Zd (zq _) (zq _))) rfl fun _ _ Ej Ek => ?_
  exact a_e ⟨Ej.sb, Ek.pk [0, 1, 2]⟩
 rintro _ _ ⟨El, Ed⟩
 refine ze <| wp_ret <| zU (v := .agg (zc (([.bool false] : List Value) ++ ((zg (nd (zo 2 (nv x) (nv (nd (zK 2 (nv z) (mF 2 - 2))))))) ++ (zg (nd (zo 2 (nv y) (nv (nd (zK 2 (nv z) (mF 2 - 2))))))))))) (t := 2) (T := 27) (ad := ⟨Ef, 0, none⟩) El (by kernel_rfl) (by kernel_rfl) (zC (t := 27) (k := 1) (off := 0) (m := 9) (xs := ([.bool false] : List Value) ++ ((zg (nd (zo 2 (nv x) (nv (nd (zK 2 (nv z) (mF 2 - 2))))))) ++ (zg (nd (zo 2 (nv y) (nv (nd (zK 2 (nv z) (mF 2 - 2))))))))) Ed rfl (zn (zp rfl (zp (za (zl _ _)) (za (zl _ _))))) (zp rfl (zp (za (zl _ _)) (za (zl _ _)))) (by kernel_rfl) (by kernel_rfl)) ?_
 have gz : (z == zd 4 0) = false := by simpa using Ea
 exact ⟨by simp only [bZ, bX, gz, ZF, Zc, ivN, nv_pow2], Ed.pk []⟩
end Go.Proofs.YtpfhmbbiadpbeaaGreat
namespace Go.Dbr
def Pr (p : Nat) : Prop := 1 < p ∧ ∀ d, d ∣ p → d = 1 ∨ d = p
theorem Pr.mul {p a b : Nat} (hp : Pr p) (h : p ∣ a * b) : p ∣ a ∨ p ∣ b := by
  rcases hp.2 _ (Nat.gcd_dvd_left p a) with g | g
  · exact .inr (Nat.Coprime.dvd_of_dvd_mul_left g h)
  · exact .inl (by have := Nat.gcd_dvd_right p a; rwa [g] at this)
def smallB (p : Nat) : Bool := Xs 1 p && (List.range p).all fun d => Xs d 2 || !Qn (p % d) 0
theorem pr_small {p : Nat} (h : smallB p = true) : Pr p := by
  unfold smallB at h
  simp only [zJ, Ku, z7, List.mem_range, Bool.or_eq_true, QD] at h
  refine ⟨h.1, fun d hd => ?_⟩
  rcases Qa d p with g | g
  · rcases h.2 d g with x | x
    · rcases Nat.eq_zero_or_pos d with z | z
      · subst z
        have := Nat.eq_zero_of_zero_dvd hd
        omega
      · omega
    · rw [Nat.mod_eq_zero_of_dvd hd] at x
      cases x
  · have := X7 (by omega) hd
    omega
def pw (p : Nat) : Nat → Nat → Nat → Nat
  | 0, _, _ => 1 % p
  | k + 1, g, e => cond (Qn (e % 2) 1) (g * pw p k (g * g % p) (e / 2) % p) (pw p k (g * g % p) (e / 2))
theorem pw_eq {p : Nat} : ∀ (k g e : Nat), e < 2 ^ k → pw p k g e = g ^ e % p
  | 0, g, e, h => by
    have : e = 0 := by simp at h; exact h
    subst this
    rfl
  | k + 1, g, e, h => by
    have ih := pw_eq (p := p) k (g * g % p) (e / 2) (by rw [Zh] at h; omega)
    have hs : (g * g % p) ^ (e / 2) % p = g ^ (2 * (e / 2)) % p := by rw [← JN, ← KF, ← Qz]
    unfold pw
    cases hb : Qn (e % 2) 1 with
    | true =>
      have h1 : e % 2 = 1 := QP hb
      rw [ZF, ih, hs, XJ, Zf, ← Zh]
      congr 2
      omega
    | false =>
      have h1 : e % 2 ≠ 1 := YD hb
      rw [Zc, ih, hs]
      congr 2
      omega
theorem pig : ∀ (N : Nat) (f : Nat → Nat), (∀ i, i < N → f i < N) → (∀ i j, i < N → j < N → f i = f j → i = j) → ∀ a, a < N → ∃ i, i < N ∧ f i = a
  | 0, _, _, _, a, h => absurd h (Nat.not_lt_zero a)
  | N + 1, f, hf, hi, a, ha => Classical.byContradiction fun hno => by
    have no : ∀ i, i < N + 1 → f i ≠ a := fun i h e => hno ⟨i, h, e⟩
    obtain ⟨i, hiN, e⟩ := pig N (fun i => if f i = N then a else f i) (fun i h => by
      have h1 := hf i (by omega)
      have h2 := no i (by omega)
      show (if f i = N then a else f i) < N
      split <;> omega) (fun i j h1 h2 e => by
      have n1 := no i (by omega)
      have n2 := no j (by omega)
      refine hi i j (by omega) (by omega) ?_
      split at e <;> split at e <;> omega) (if f N = N then a else f N) (by
      have h1 := hf N (by omega)
      have h2 := no N (by omega)
      split <;> omega)
    have n1 := no i (by omega)
    have n2 := no N (by omega)
    have : i = N := by
      refine hi i N (by omega) (by omega) ?_
      split at e <;> split at e <;> omega
    omega
theorem least {P : Nat → Prop} : ∀ n, P n → ∃ k, P k ∧ ∀ j, j < k → ¬ P j := fun n => by
  induction n using Nat.strongRecOn with
  | _ n ih =>
    intro h
    by_cases e : ∃ j, j < n ∧ P j
    · obtain ⟨j, hj, hp⟩ := e
      exact ih j hj hp
    · exact ⟨n, h, fun j hj hp => e ⟨j, hj, hp⟩⟩
def prodL : List Nat → Nat
  | [] => 1
  | q :: r => q * prodL r
theorem some_q : ∀ (qs : List Nat) (k m : Nat), (∀ q ∈ qs, Pr q) → k * m = prodL qs → m ≠ 1 → ∃ q ∈ qs, q ∣ m
  | [], k, m, _, h, h1 => absurd (Nat.eq_one_of_mul_eq_one_left h) h1
  | q :: r, k, m, hq, h, h1 => by
    have hp := hq q (QV ..)
    rcases hp.mul (a := m) (b := k) (by rw [Zf, h]; exact Ke _ _) with d | ⟨k', rfl⟩
    · exact ⟨q, QV .., d⟩
    · have h0 : 0 < q := by have := hp.1; omega
      obtain ⟨q', hm, hd⟩ := some_q r k' m (fun x hx => hq x (QA _ hx)) (by rw [Nat.mul_assoc] at h; exact Nat.eq_of_mul_eq_mul_left h0 h) h1
      exact ⟨q', QA _ hm, hd⟩
def Luc (p : Nat) : Prop := Pr p ∧ ∀ a, a % p ≠ 0 → a ^ (p - 1) % p = 1
def certB (p g : Nat) (qs : List Nat) : Bool := Xs 1 p && Xs p (2 ^ 256) && Qn (prodL qs) (p - 1) && Qn (pw p 256 g (p - 1)) 1 && qs.all fun q => !Qn (pw p 256 g ((p - 1) / q)) 1
theorem allN {P : Nat → Prop} : ∀ q ∈ ([] : List Nat), P q := fun q h => by cases h
theorem allC {P : Nat → Prop} {a : Nat} {l : List Nat} (h : P a) (h2 : ∀ q ∈ l, P q) : ∀ q ∈ a :: l, P q := fun q hq => by
  rcases List.mem_cons.1 hq with rfl | e
  · exact h
  · exact h2 q e
theorem luc {p : Nat} (g : Nat) (qs : List Nat) (hq : ∀ q ∈ qs, Pr q) (h : certB p g qs = true) : Luc p := by
  unfold certB at h
  simp only [zJ, Ku, Nat.beq_eq, z7, QD] at h
  obtain ⟨⟨⟨⟨p1, pb⟩, hprod⟩, hN⟩, hall⟩ := h
  rw [pw_eq 256 g (p - 1) (by omega)] at hN
  obtain ⟨N, rfl⟩ : ∃ N, p = N + 1 := ⟨p - 1, by omega⟩
  rw [J8] at *
  have one : 1 % (N + 1) = 1 := zQ p1
  obtain ⟨k, ⟨hk0, hk⟩, hmin⟩ := least (P := fun k => 0 < k ∧ g ^ k % (N + 1) = 1) N ⟨by omega, hN⟩
  have powk : ∀ j, (g ^ (k * j)) % (N + 1) = 1 := fun j => by rw [Qz, JN, hk, KG, one]
  have hdiv : N % k = 0 := Classical.byContradiction fun hne => by
    refine hmin (N % k) (Z4 _ hk0) ⟨by omega, ?_⟩
    have e := YH N k
    have e2 : g ^ N % (N + 1) = g ^ (k * (N / k) + N % k) % (N + 1) := by rw [e]
    rw [hN, ZO, Qq, powk, Km, Yy] at e2
    exact e2.symm
  have hkm : k * (N / k) = N := by have e := YH N k; omega
  have hm1 : N / k = 1 := Classical.byContradiction fun hne => by
    obtain ⟨q, hqm, m', hd⟩ := some_q qs k (N / k) hq (by rw [hprod]; exact hkm) hne
    have hp := hq q hqm
    have e : N / q = k * m' := by
      rw [← hkm, hd, Nat.mul_left_comm]
      exact Nat.mul_div_cancel_left _ (by have := hp.1; omega)
    have hlt : N / q ≤ N := Nat.div_le_self _ _
    have c := hall q hqm
    have := YD c
    rw [pw_eq 256 g _ (by omega), e] at this
    exact this (powk m')
  have hkN : k = N := by rw [hm1] at hkm; omega
  subst hkN
  have nz : ∀ i, i ≤ k → g ^ i % (k + 1) ≠ 0 := fun i hi h0 => by
    have e : g ^ k = g ^ i * g ^ (k - i) := by rw [← ZO]; congr 1; omega
    rw [e, Qq, h0, Qm, JY] at hN
    cases hN
  have inj : ∀ i j, i < j → j < k → g ^ i % (k + 1) ≠ g ^ j % (k + 1) := fun i j hij hj he => by
    refine hmin (j - i) (by omega) ⟨by omega, ?_⟩
    have e1 : g ^ k = g ^ i * g ^ (k - i) := by rw [← ZO]; congr 1; omega
    have e2 : g ^ j * g ^ (k - i) = g ^ (j - i) * g ^ k := by rw [← ZO, ← ZO]; congr 1; omega
    have e3 : g ^ k % (k + 1) = (g ^ (j - i) * g ^ k) % (k + 1) := by rw [← e2]; conv => lhs; rw [e1, Qq, he, ← Qq]
    rw [Qq, hN, Nat.mul_one, Yy] at e3
    exact e3.symm
  have sur : ∀ a, 0 < a → a < k + 1 → ∃ i, i < k ∧ g ^ i % (k + 1) = a := fun a h0 h1 => by
    obtain ⟨i, hi, e⟩ := pig k (fun i => g ^ i % (k + 1) - 1) (fun i hi => by
      have := nz i (by omega)
      have := Z4 (g ^ i) (show 0 < k + 1 by omega)
      show g ^ i % (k + 1) - 1 < k
      omega) (fun i j hi hj e => by
      have n1 := nz i (by omega)
      have n2 := nz j (by omega)
      rcases Nat.lt_trichotomy i j with h | h | h
      · exact absurd (by omega) (inj i j h hj)
      · exact h
      · exact absurd (by omega) (inj j i h hi)) (a - 1) (by omega)
    have n1 := nz i (by omega)
    exact ⟨i, hi, by omega⟩
  refine ⟨⟨p1, fun d hd => ?_⟩, fun a ha => ?_⟩
  · have hle := X7 (by omega) hd
    rcases Qa d (k + 1) with hlt | hge
    · left
      have hd0 : 0 < d := Nat.pos_of_dvd_of_pos hd (by omega)
      obtain ⟨i, hi, e⟩ := sur d hd0 hlt
      have e1 : g ^ k = g ^ i * g ^ (k - i) := by rw [← ZO]; congr 1; omega
      rw [e1, Qq, e] at hN
      have h1 : d ∣ d * (g ^ (k - i) % (k + 1)) % (k + 1) := (Nat.dvd_mod_iff hd).2 (Ke _ _)
      rw [hN] at h1
      exact Nat.eq_one_of_dvd_one h1
    · right; omega
  · obtain ⟨i, hi, e⟩ := sur (a % (k + 1)) (by omega) (Z4 _ (by omega))
    rw [J8, JN, ← e, ← JN, ← Qz, Zf, Qz, JN, hN, KG, one]
theorem pq_2 : Pr 2 := pr_small (by decide +kernel)
theorem pq_3 : Pr 3 := pr_small (by decide +kernel)
theorem pq_5 : Pr 5 := pr_small (by decide +kernel)
theorem pq_7 : Pr 7 := pr_small (by decide +kernel)
theorem pq_11 : Pr 11 := pr_small (by decide +kernel)
theorem pq_13 : Pr 13 := pr_small (by decide +kernel)
theorem pq_17 : Pr 17 := pr_small (by decide +kernel)
theorem pq_23 : Pr 23 := pr_small (by decide +kernel)
theorem pq_43 : Pr 43 := pr_small (by decide +kernel)
theorem pq_53 : Pr 53 := pr_small (by decide +kernel)
theorem lu_107 : Luc 107 := luc 2 [2, 53] (allC pq_2 (allC pq_53 allN)) (by decide +kernel)
theorem pq_107 : Pr 107 := lu_107.1
theorem lu_173 : Luc 173 := luc 2 [2, 2, 43] (allC pq_2 (allC pq_2 (allC pq_43 allN))) (by decide +kernel)
theorem pq_173 : Pr 173 := lu_173.1
theorem lu_257 : Luc 257 := luc 3 [2, 2, 2, 2, 2, 2, 2, 2] (allC pq_2 (allC pq_2 (allC pq_2 (allC pq_2 (allC pq_2 (allC pq_2 (allC pq_2 (allC pq_2 allN)))))))) (by decide +kernel)
theorem pq_257 : Pr 257 := lu_257.1
theorem lu_641 : Luc 641 := luc 3 [2, 2, 2, 2, 2, 2, 2, 5] (allC pq_2 (allC pq_2 (allC pq_2 (allC pq_2 (allC pq_2 (allC pq_2 (allC pq_2 (allC pq_5 allN)))))))) (by decide +kernel)
theorem pq_641 : Pr 641 := lu_641.1
theorem lu_1531 : Luc 1531 := luc 2 [2, 3, 3, 5, 17] (allC pq_2 (allC pq_3 (allC pq_3 (allC pq_5 (allC pq_17 allN))))) (by decide +kernel)
theorem pq_1531 : Pr 1531 := lu_1531.1
theorem lu_65537 : Luc 65537 := luc 3 [2, 2, 2, 2, 2, 2, 2, 2, 2, 2, 2, 2, 2, 2, 2, 2] (allC pq_2 (allC pq_2 (allC pq_2 (allC pq_2 (allC pq_2 (allC pq_2 (allC pq_2 (allC pq_2 (allC pq_2 (allC pq_2 (allC pq_2 (allC pq_2 (allC pq_2 (allC pq_2 (allC pq_2 (allC pq_2 allN)))))))))))))))) (by decide +kernel)
theorem pq_65537 : Pr 65537 := lu_65537.1
theorem lu_661 : Luc 661 := luc 2 [2, 2, 3, 5, 11] (allC pq_2 (allC pq_2 (allC pq_3 (allC pq_5 (allC pq_11 allN))))) (by decide +kernel)
theorem pq_661 : Pr 661 := lu_661.1
theorem lu_490463 : Luc 490463 := luc 14 [2, 7, 53, 661] (allC pq_2 (allC pq_7 (allC pq_53 (allC pq_661 allN)))) (by decide +kernel)
theorem pq_490463 : Pr 490463 := lu_490463.1
theorem lu_727 : Luc 727 := luc 5 [2, 3, 11, 11] (allC pq_2 (allC pq_3 (allC pq_11 (allC pq_11 allN)))) (by decide +kernel)
theorem pq_727 : Pr 727 := lu_727.1
theorem lu_17449 : Luc 17449 := luc 14 [2, 2, 2, 3, 727] (allC pq_2 (allC pq_2 (allC pq_2 (allC pq_3 (allC pq_727 allN))))) (by decide +kernel)
theorem pq_17449 : Pr 17449 := lu_17449.1
theorem lu_6700417 : Luc 6700417 := luc 5 [2, 2, 2, 2, 2, 2, 2, 3, 17449] (allC pq_2 (allC pq_2 (allC pq_2 (allC pq_2 (allC pq_2 (allC pq_2 (allC pq_2 (allC pq_3 (allC pq_17449 allN))))))))) (by decide +kernel)
theorem pq_6700417 : Pr 6700417 := lu_6700417.1
theorem lu_241 : Luc 241 := luc 7 [2, 2, 2, 2, 3, 5] (allC pq_2 (allC pq_2 (allC pq_2 (allC pq_2 (allC pq_3 (allC pq_5 allN)))))) (by decide +kernel)
theorem pq_241 : Pr 241 := lu_241.1
theorem lu_2411 : Luc 2411 := luc 6 [2, 5, 241] (allC pq_2 (allC pq_5 (allC pq_241 allN))) (by decide +kernel)
theorem pq_2411 : Pr 2411 := lu_2411.1
theorem lu_157 : Luc 157 := luc 5 [2, 2, 3, 13] (allC pq_2 (allC pq_2 (allC pq_3 (allC pq_13 allN)))) (by decide +kernel)
theorem pq_157 : Pr 157 := lu_157.1
theorem lu_3769 : Luc 3769 := luc 7 [2, 2, 2, 3, 157] (allC pq_2 (allC pq_2 (allC pq_2 (allC pq_3 (allC pq_157 allN))))) (by decide +kernel)
theorem pq_3769 : Pr 3769 := lu_3769.1
theorem lu_204061199 : Luc 204061199 := luc 11 [2, 11, 23, 107, 3769] (allC pq_2 (allC pq_11 (allC pq_23 (allC pq_107 (allC pq_3769 allN))))) (by decide +kernel)
theorem pq_204061199 : Pr 204061199 := lu_204061199.1
theorem lu_34282281433 : Luc 34282281433 := luc 17 [2, 2, 2, 3, 7, 204061199] (allC pq_2 (allC pq_2 (allC pq_2 (allC pq_3 (allC pq_7 (allC pq_204061199 allN)))))) (by decide +kernel)
theorem pq_34282281433 : Pr 34282281433 := lu_34282281433.1
theorem lu_197 : Luc 197 := luc 2 [2, 2, 7, 7] (allC pq_2 (allC pq_2 (allC pq_7 (allC pq_7 allN)))) (by decide +kernel)
theorem pq_197 : Pr 197 := lu_197.1
theorem lu_919 : Luc 919 := luc 7 [2, 3, 3, 3, 17] (allC pq_2 (allC pq_3 (allC pq_3 (allC pq_3 (allC pq_17 allN))))) (by decide +kernel)
theorem pq_919 : Pr 919 := lu_919.1
theorem lu_3677 : Luc 3677 := luc 2 [2, 2, 919] (allC pq_2 (allC pq_2 (allC pq_919 allN))) (by decide +kernel)
theorem pq_3677 : Pr 3677 := lu_3677.1
theorem lu_66417393611 : Luc 66417393611 := luc 6 [2, 5, 53, 173, 197, 3677] (allC pq_2 (allC pq_5 (allC pq_53 (allC pq_173 (allC pq_197 (allC pq_3677 allN)))))) (by decide +kernel)
theorem pq_66417393611 : Pr 66417393611 := lu_66417393611.1
theorem lu_11290956913871 : Luc 11290956913871 := luc 13 [2, 5, 17, 66417393611] (allC pq_2 (allC pq_5 (allC pq_17 (allC pq_66417393611 allN)))) (by decide +kernel)
theorem pq_11290956913871 : Pr 11290956913871 := lu_11290956913871.1
theorem lu_757 : Luc 757 := luc 2 [2, 2, 3, 3, 3, 7] (allC pq_2 (allC pq_2 (allC pq_3 (allC pq_3 (allC pq_3 (allC pq_7 allN)))))) (by decide +kernel)
theorem pq_757 : Pr 757 := lu_757.1
theorem lu_18169 : Luc 18169 := luc 11 [2, 2, 2, 3, 757] (allC pq_2 (allC pq_2 (allC pq_2 (allC pq_3 (allC pq_757 allN))))) (by decide +kernel)
theorem pq_18169 : Pr 18169 := lu_18169.1
theorem lu_181 : Luc 181 := luc 2 [2, 2, 3, 3, 5] (allC pq_2 (allC pq_2 (allC pq_3 (allC pq_3 (allC pq_5 allN))))) (by decide +kernel)
theorem pq_181 : Pr 181 := lu_181.1
theorem lu_1087 : Luc 1087 := luc 3 [2, 3, 181] (allC pq_2 (allC pq_3 (allC pq_181 allN))) (by decide +kernel)
theorem pq_1087 : Pr 1087 := lu_1087.1
theorem lu_4349 : Luc 4349 := luc 2 [2, 2, 1087] (allC pq_2 (allC pq_2 (allC pq_1087 allN))) (by decide +kernel)
theorem pq_4349 : Pr 4349 := lu_4349.1
theorem lu_78283 : Luc 78283 := luc 3 [2, 3, 3, 4349] (allC pq_2 (allC pq_3 (allC pq_3 (allC pq_4349 allN)))) (by decide +kernel)
theorem pq_78283 : Pr 78283 := lu_78283.1
theorem lu_313 : Luc 313 := luc 10 [2, 2, 2, 3, 13] (allC pq_2 (allC pq_2 (allC pq_2 (allC pq_3 (allC pq_13 allN))))) (by decide +kernel)
theorem pq_313 : Pr 313 := lu_313.1
theorem lu_704251 : Luc 704251 := luc 2 [2, 3, 3, 5, 5, 5, 313] (allC pq_2 (allC pq_3 (allC pq_3 (allC pq_5 (allC pq_5 (allC pq_5 (allC pq_313 allN))))))) (by decide +kernel)
theorem pq_704251 : Pr 704251 := lu_704251.1
theorem lu_46076956964474543 : Luc 46076956964474543 := luc 5 [2, 23, 18169, 78283, 704251] (allC pq_2 (allC pq_23 (allC pq_18169 (allC pq_78283 (allC pq_704251 allN))))) (by decide +kernel)
theorem pq_46076956964474543 : Pr 46076956964474543 := lu_46076956964474543.1
theorem lu_774023187263532362759620327192479577272145303 : Luc 774023187263532362759620327192479577272145303 := luc 3 [2, 3, 3, 2411, 34282281433, 11290956913871, 46076956964474543] (allC pq_2 (allC pq_3 (allC pq_3 (allC pq_2411 (allC pq_34282281433 (allC pq_11290956913871 (allC pq_46076956964474543 allN))))))) (by decide +kernel)
theorem pq_774023187263532362759620327192479577272145303 : Pr 774023187263532362759620327192479577272145303 := lu_774023187263532362759620327192479577272145303.1
theorem lu_835945042244614951780389953367877943453916927241 : Luc 835945042244614951780389953367877943453916927241 := luc 11 [2, 2, 2, 3, 3, 3, 5, 774023187263532362759620327192479577272145303] (allC pq_2 (allC pq_2 (allC pq_2 (allC pq_3 (allC pq_3 (allC pq_3 (allC pq_5 (allC pq_774023187263532362759620327192479577272145303 allN)))))))) (by decide +kernel)
theorem pq_835945042244614951780389953367877943453916927241 : Pr 835945042244614951780389953367877943453916927241 := lu_835945042244614951780389953367877943453916927241.1
theorem lu_115792089210356248762697446949407573530086143415290314195533631308867097853951 : Luc 115792089210356248762697446949407573530086143415290314195533631308867097853951 := luc 6 [2, 3, 5, 5, 17, 257, 641, 1531, 65537, 490463, 6700417, 835945042244614951780389953367877943453916927241] (allC pq_2 (allC pq_3 (allC pq_5 (allC pq_5 (allC pq_17 (allC pq_257 (allC pq_641 (allC pq_1531 (allC pq_65537 (allC pq_490463 (allC pq_6700417 (allC pq_835945042244614951780389953367877943453916927241 allN)))))))))))) (by decide +kernel)
end Go.Dbr
namespace Go.Wei
open Go.Dbr
section
variable {p : Nat} [NeZero p]
theorem core_k {x1 x12 x3 x23 l m D A B a : Fin p} (h1 : A = l*l - x1 - x12) (h2 : B = x1*x12 + D*l) (h3 : x23 = m*m - A - x3) (h4 : x3*x23 + D*m = B) (e1 : a*(x3-x12) = m*x3+l*x12+D) : (x3-x12)*((l-m)*a - x1 + x3 + l*(l-m)) = 0 := by
  subst h2 h3 h1
  grind -lia
theorem core_k2 {x1 w x23 l m D A B a : Fin p} (h1 : A = l*l - x1 - w) (h2 : B = x1*w + D*l) (h3 : x23 = m*m - A - w) (h4 : w*x23 + D*m = B) (e1 : D = -((m+l)*w)) (e2 : a*(m*w-l*w) = w*w+w*w+w*w+A*(w+w)+B) : w*((l-m)*a - x1 + w + l*(l-m)) = 0 := by
  subst h2 h3 h1 e1
  grind -lia
theorem core_f1 {x1 x12 x3 x23 l m D A B a : Fin p} (h1 : A = l*l - x1 - x12) (h2 : B = x1*x12 + D*l) (h3 : x23 = m*m - A - x3) (h4 : x3*x23 + D*m = B) (e1 : a*(x3-x12) = m*x3+l*x12+D) (k : (l-m)*a = x1 - x3 - l*(l-m)) : (a+l-m)*(x1-x23) = l*x1+m*x23+D := by
  subst h2 h3 h1
  grind -lia
theorem core_x {x1 x12 x3 x23 l m A a : Fin p} (h1 : A = l*l - x1 - x12) (h3 : x23 = m*m - A - x3) (k : (l-m)*a = x1 - x3 - l*(l-m)) : (a+l-m)*(a+l-m) - x1 - x23 = a*a - x12 - x3 := by
  subst h3 h1
  grind -lia
theorem core_f2 {x1 x12 x3 x23 l m D A B a : Fin p} (h1 : A = l*l - x1 - x12) (h2 : B = x1*x12 + D*l) (h3 : x23 = m*m - A - x3) (h4 : x3*x23 + D*m = B) (f1 : (a+l-m)*(x1-x23) = l*x1+m*x23+D) (k : (l-m)*a = x1 - x3 - l*(l-m)) : (a+l-m)*(l*x1-m*x23) = x1*x1+x1*x23+x23*x23+A*(x1+x23)+B := by
  subst h2 h3 h1
  grind -lia
theorem core_v {x1 x12 x3 x23 l m D A B a U : Fin p} (h1 : A = l*l - x1 - x12) (h2 : B = x1*x12 + D*l) (h3 : x23 = m*m - A - x3) (h4 : x3*x23 + D*m = B) (e1 : a*(x3-x12) = m*x3+l*x12+D) (k : (l-m)*a = x1 - x3 - l*(l-m)) (hU : U = a*a - A - x12 - x3) : a*(x12-U)+l*x12 = (a+l-m)*(x1-U) - D - l*x1 := by
  subst hU h2 h3 h1
  grind -lia
inductive Pt (p : Nat) : Type
  | O : Pt p
  | A (x y : Fin p) : Pt p
structure Fld (p : Nat) [NeZero p] : Prop where
  nz : ∀ x y : Fin p, x * y = 0 → x = 0 ∨ y = 0
  two : ∀ x : Fin p, x + x = 0 → x = 0
  iv : ∀ x : Fin p, x ≠ 0 → ∃ y, x * y = 1
def On (a b c : Fin p) : Pt p → Prop
  | .O => True
  | .A x y => y*y = x*x*x + a*x*x + b*x + c
def Slope (a b x1 y1 x2 y2 l : Fin p) : Prop := l*(x2-x1) = y2-y1 ∧ l*(y1+y2) = x1*x1+x1*x2+x2*x2+a*(x1+x2)+b
def IsAdd (a b : Fin p) : Pt p → Pt p → Pt p → Prop
  | .O, Q, R => R = Q
  | .A x1 y1, .O, R => R = .A x1 y1
  | .A x1 y1, .A x2 y2, .O => x1 = x2 ∧ y1 + y2 = 0
  | .A x1 y1, .A x2 y2, .A x3 y3 => ¬ (x1 = x2 ∧ y1 + y2 = 0) ∧ ∃ l, Slope a b x1 y1 x2 y2 l ∧ x3 = l*l-a-x1-x2 ∧ y3 = l*(x1-x3)-y1
def neg : Pt p → Pt p
  | .O => .O
  | .A x y => .A x (-y)
def NonS (a b c : Fin p) : Prop := ∀ x : Fin p, x*x*x + a*x*x + b*x + c = 0 → x*x+x*x+x*x + a*(x+x) + b ≠ 0
theorem Slope.sym {a b x1 y1 x2 y2 l : Fin p} (h : Slope a b x1 y1 x2 y2 l) : Slope a b x2 y2 x1 y1 l := ⟨by have := h.1; grind -lia, by have := h.2; grind -lia⟩
theorem add_comm' {a b : Fin p} {P Q R : Pt p} (h : IsAdd a b P Q R) : IsAdd a b Q P R := by
  match P, Q, R with
  | .O, .O, R => exact h
  | .O, .A _ _, R => exact h
  | .A _ _, .O, R => exact h
  | .A x1 y1, .A x2 y2, .O => exact ⟨h.1.symm, by have := h.2; grind -lia⟩
  | .A x1 y1, .A x2 y2, .A x3 y3 =>
    obtain ⟨hn, l, hs, hx, hy⟩ := h
    refine ⟨fun g => hn ⟨g.1.symm, by have := g.2; grind -lia⟩, l, hs.sym, by rw [hx]; grind -lia, ?_⟩
    have := hs.1
    rw [hy]
    grind -lia
theorem Fld.cancel {F : Fld p} {k x y : Fin p} (hk : k ≠ 0) (h : k * (x - y) = 0) : x = y := by
  rcases F.nz _ _ h with g | g
  · exact absurd g hk
  · grind -lia
theorem sub_ne {x y : Fin p} (h : x ≠ y) : x - y ≠ 0 := fun g => h (by grind -lia)
theorem slope_uniq {a b x1 y1 x2 y2 l m : Fin p} (F : Fld p) (hn : ¬ (x1 = x2 ∧ y1 + y2 = 0)) (h1 : Slope a b x1 y1 x2 y2 l) (h2 : Slope a b x1 y1 x2 y2 m) : l = m := by
  obtain ⟨h1a, h1b⟩ := h1
  obtain ⟨h2a, h2b⟩ := h2
  by_cases hx : x1 = x2
  · have hy : y1 + y2 ≠ 0 := fun g => hn ⟨hx, g⟩
    exact Fld.cancel (F := F) hy (by clear h1a h2a hn; grind -lia)
  · exact Fld.cancel (F := F) (sub_ne (Ne.symm hx)) (by clear h1b h2b hn; grind -lia)
theorem add_uniq {a b : Fin p} (F : Fld p) {P Q R R' : Pt p} (h : IsAdd a b P Q R) (h' : IsAdd a b P Q R') : R = R' := by
  match P, Q, R, R' with
  | .O, Q, R, R' => exact (show R = Q from h).trans (show R' = Q from h').symm
  | .A _ _, .O, R, R' => exact (show R = _ from h).trans (show R' = _ from h').symm
  | .A x1 y1, .A x2 y2, .O, .O => rfl
  | .A x1 y1, .A x2 y2, .O, .A _ _ => exact absurd h h'.1
  | .A x1 y1, .A x2 y2, .A _ _, .O => exact absurd h' h.1
  | .A x1 y1, .A x2 y2, .A x3 y3, .A x4 y4 =>
    obtain ⟨hn, l, hs, hx, hy⟩ := h
    obtain ⟨_, m, hs', hx', hy'⟩ := h'
    have := slope_uniq F hn hs hs'
    subst this
    subst hx hx' hy hy'
    rfl
theorem e_sh (x y : Fin p) : y = x + (y - x) := by grind
theorem e_y {l x u y1 y2 : Fin p} (h : l*((x+u)-x) = y2-y1) : y2 = y1 + l*u := by grind -lia
theorem e_b {s t a b v : Fin p} (h : s = t + a*v + b) : b = s - (t + a*v) := by grind -lia
theorem e_c {s t c : Fin p} (h : s = t + c) : c = s - t := by grind -lia
theorem third_on {a b c x1 y1 x2 y2 l x3 y3 : Fin p} (h1 : y1*y1 = x1*x1*x1 + a*x1*x1 + b*x1 + c) (hs : Slope a b x1 y1 x2 y2 l) (hx : x3 = l*l-a-x1-x2) (hy : y3 = l*(x1-x3)-y1) : y3*y3 = x3*x3*x3 + a*x3*x3 + b*x3 + c := by
  obtain ⟨ha, hb⟩ := hs
  rw [e_sh x1 x2] at *
  generalize x2 - x1 = u at *
  have hy2 := e_y ha
  subst hy2
  have hB := e_b hb
  have hc := e_c h1
  clear ha hb h1
  subst hy hx hc hB
  grind -lia
theorem slope_ex {a b c x1 y1 x2 y2 : Fin p} (F : Fld p) (h1 : y1*y1 = x1*x1*x1 + a*x1*x1 + b*x1 + c) (h2 : y2*y2 = x2*x2*x2 + a*x2*x2 + b*x2 + c) (hn : ¬ (x1 = x2 ∧ y1 + y2 = 0)) : ∃ l, Slope a b x1 y1 x2 y2 l := by
  have key : (y2-y1)*(y1+y2) = (x2-x1)*(x1*x1+x1*x2+x2*x2+a*(x1+x2)+b) := by
    have e := e_c h1
    subst e
    clear h1 hn
    grind -lia
  by_cases hx : x1 = x2
  · have hy : y1 + y2 ≠ 0 := fun g => hn ⟨hx, g⟩
    obtain ⟨v, hv⟩ := F.iv _ hy
    have hyy : y2 - y1 = 0 := by
      subst hx
      have : (y1 + y2) * (y2 - y1) = 0 := by clear h1 h2 hn hv hy; grind -lia
      rcases F.nz _ _ this with g | g
      · exact absurd g hy
      · exact g
    refine ⟨(x1*x1+x1*x2+x2*x2+a*(x1+x2)+b) * v, ?_, ?_⟩
    · rw [hyy, hx]; clear key hv; grind -lia
    · clear key hyy h1 h2 hn; generalize (x1*x1+x1*x2+x2*x2+a*(x1+x2)+b) = S at *; generalize y1 + y2 = T at *; grind -lia
  · obtain ⟨v, hv⟩ := F.iv _ (sub_ne (Ne.symm hx))
    refine ⟨(y2 - y1) * v, ?_, ?_⟩
    · clear key h1 h2 hn; generalize y2 - y1 = S at *; generalize x2 - x1 = T at *; grind -lia
    · clear h1 h2 hn; generalize (x1*x1+x1*x2+x2*x2+a*(x1+x2)+b) = S at *; generalize y2 - y1 = R at *; generalize y1 + y2 = T at *; generalize x2 - x1 = W at *; grind -lia
theorem add_ex {a b c : Fin p} (F : Fld p) {P Q : Pt p} (hP : On a b c P) (hQ : On a b c Q) : ∃ R, IsAdd a b P Q R ∧ On a b c R := by
  match P, Q with
  | .O, Q => exact ⟨Q, rfl, hQ⟩
  | .A x1 y1, .O => exact ⟨.A x1 y1, rfl, hP⟩
  | .A x1 y1, .A x2 y2 =>
    by_cases hn : x1 = x2 ∧ y1 + y2 = 0
    · exact ⟨.O, hn, trivial⟩
    · obtain ⟨l, hl⟩ := slope_ex F hP hQ hn
      exact ⟨.A (l*l-a-x1-x2) (l*(x1-(l*l-a-x1-x2))-y1), ⟨hn, l, hl, rfl, rfl⟩, third_on hP hl rfl rfl⟩
theorem shifted {a b x1 y1 x2 y2 l x12 y12 : Fin p} (hs : Slope a b x1 y1 x2 y2 l) (hx : x12 = l*l-a-x1-x2) (hy : y12 = l*(x1-x12)-y1) :
    y1 = y2 + l*(x1-x2) ∧ y12 = -y2 - l*(x12-x2) ∧ x2+x2+x2+a = l*l-(x1-x2)-(x12-x2) ∧ (x2*x2+x2*x2+x2*x2+a*(x2+x2)+b) = (x1-x2)*(x12-x2)+(y2+y2)*l := by
  obtain ⟨ha, hb⟩ := hs
  have h1 : y1 = y2 + l*(x1-x2) := by clear hb hx hy; grind -lia
  subst h1
  have h2 := e_b hb
  clear ha hb
  subst h2 hy hx
  refine ⟨rfl, ?_, ?_, ?_⟩ <;> grind -lia
theorem cancel_add {a b c : Fin p} (F : Fld p) (N : NonS a b c) {P Q R : Pt p} (hP : On a b c P) (hQ : On a b c Q) (h : IsAdd a b P Q R) : IsAdd a b (neg P) R Q := by
  match P, Q, R with
  | .O, Q, R => exact (show R = Q from h).symm
  | .A x1 y1, .O, R =>
    have : R = .A x1 y1 := h
    subst this
    exact ⟨rfl, by grind -lia⟩
  | .A x1 y1, .A x2 y2, .O =>
    obtain ⟨e1, e2⟩ := h
    show Pt.A x2 y2 = Pt.A x1 (-y1)
    rw [e1, show y2 = -y1 by grind -lia]
  | .A x1 y1, .A x2 y2, .A x3 y3 =>
    obtain ⟨hn, l, hs, hx, hy⟩ := add_comm' h
    obtain ⟨h1, h2, h3, h4⟩ := shifted hs hx hy
    refine ⟨fun g => ?_, -l, ⟨?_, ?_⟩, ?_, ?_⟩
    · obtain ⟨g1, g2⟩ := g
      have d : y1 = 0 := F.two _ (by clear h1 h3 h4 hx hy hs hn; grind -lia)
      have e : x1*x1+x1*x1+x1*x1+a*(x1+x1)+b = 0 := by rw [h4, d, ← g1]; grind -lia
      refine N x1 ?_ e
      have := hP
      simp only [On] at this
      rw [d] at this
      rw [← this]
      grind -lia
    · clear h1 h3 h4 hx hy hs hn; grind -lia
    · have := hs.2
      clear hs hn hx hy
      grind -lia
    · clear h1 h2 h4 hx hy hs hn; grind -lia
    · clear h3 h4 hx hy hs hn; grind -lia
theorem opp_sh {u1 u12 u3 u23 l m D A B : Fin p} (F : Fld p)
  (ha : A = l*l-u1-u12) (hb : B = u1*u12+D*l) (hc : A = m*m-u3-u23) (hd : B = u3*u23+D*m)
  (h1 : u12 = u3) (h2 : l*u12 = m*u3) (h3 : ¬ (u3 = 0 ∧ m*u3+D = 0)) : u1 = u23 ∧ l*u1 = m*u23 := by
  have h4 : u3 * (l - m) = 0 := by clear ha hb hc hd h3; grind -lia
  rcases F.nz _ _ h4 with h | h
  · have hD : D ≠ 0 := fun g => h3 ⟨h, by rw [h, g]; grind -lia⟩
    have h5 : D * (l - m) = 0 := by clear h2 h3 h4 ha hc; grind -lia
    have e : l = m := Fld.cancel (F := F) hD h5
    subst e h1
    have : u1 = u23 := by clear hb hd h2 h3 h4 h h5 hD; grind -lia
    subst this
    exact ⟨rfl, rfl⟩
  · have e : l = m := by clear ha hb hc hd h1 h2 h3 h4; grind -lia
    subst e h1
    have : u1 = u23 := by clear hb hd h2 h3 h4 h; grind -lia
    subst this
    exact ⟨rfl, rfl⟩
theorem opp_add {a b : Fin p} (F : Fld p) {x1 y1 x2 y2 x3 y3 x12 y12 x23 y23 : Fin p} (h12 : IsAdd a b (.A x1 y1) (.A x2 y2) (.A x12 y12)) (h23 : IsAdd a b (.A x2 y2) (.A x3 y3) (.A x23 y23)) (h : x12 = x3 ∧ y12 + y3 = 0) : x1 = x23 ∧ y1 + y23 = 0 := by
  obtain ⟨_, l, hl, ex, ey⟩ := h12
  obtain ⟨hn, m, hm, fx, fy⟩ := add_comm' h23
  obtain ⟨a1, a2, a3, a4⟩ := shifted hl ex ey
  obtain ⟨b1, b2, b3, b4⟩ := shifted hm fx fy
  have h1 : x12 - x2 = x3 - x2 := by rw [h.1]
  have h2 : l*(x12-x2) = m*(x3-x2) := by have := h.2; rw [a2, b1] at this; clear hl hm ex ey fx fy a1 a2 a3 a4 b1 b2 b3 b4 h h1 hn; grind -lia
  have h3 : ¬ (x3 - x2 = 0 ∧ m*(x3-x2)+(y2+y2) = 0) := fun g => hn ⟨by have := g.1; clear hl hm ex ey fx fy a1 a2 a3 a4 b1 b2 b3 b4 h h1 h2 hn g; grind -lia, by have := g.2; rw [b1]; clear hl hm ex ey fx fy a1 a2 a3 a4 b1 b2 b3 b4 h h1 h2 hn g; grind -lia⟩
  obtain ⟨e1, e2⟩ := opp_sh F a3 a4 b3 b4 h1 h2 h3
  refine ⟨by clear hl hm ex ey fx fy a1 a2 a3 a4 b1 b2 b3 b4 h h1 h2 hn h3 e2; grind -lia, ?_⟩
  rw [a1, b2]
  clear hl hm ex ey fx fy a1 a2 a3 a4 b1 b2 b3 b4 h h1 h2 hn h3 e1
  grind -lia
theorem assoc_main {a b : Fin p} (F : Fld p) {x1 y1 x2 y2 x3 y3 x12 y12 x23 y23 x y : Fin p} (h12 : IsAdd a b (.A x1 y1) (.A x2 y2) (.A x12 y12)) (h23 : IsAdd a b (.A x2 y2) (.A x3 y3) (.A x23 y23)) (h : IsAdd a b (.A x12 y12) (.A x3 y3) (.A x y)) : IsAdd a b (.A x1 y1) (.A x23 y23) (.A x y) := by
  have hno : ¬ (x1 = x23 ∧ y1 + y23 = 0) := fun g => by
    have := opp_add F (add_comm' h23) (add_comm' h12) ⟨g.1.symm, by have := g.2; grind -lia⟩
    exact h.1 ⟨this.1.symm, by have := this.2; grind -lia⟩
  obtain ⟨_, l, hl, ex, ey⟩ := h12
  obtain ⟨hn, m, hm, fx, fy⟩ := add_comm' h23
  obtain ⟨hn3, al, hal, gx, gy⟩ := h
  obtain ⟨a1, a2, a3, a4⟩ := shifted hl ex ey
  obtain ⟨b1, b2, b3, b4⟩ := shifted hm fx fy
  obtain ⟨ha1, ha2⟩ := hal
  clear hl hm ex ey fx fy
  -- all of it behind the second point
  have c1 := e_sh x2 x1
  have c3 := e_sh x2 x3
  have c12 := e_sh x2 x12
  have c23 := e_sh x2 x23
  generalize x1 - x2 = u1 at *
  generalize x3 - x2 = u3 at *
  generalize x12 - x2 = u12 at *
  generalize x23 - x2 = u23 at *
  subst a1 a2 b1 b2 c1 c3 c12 c23
  generalize hA : x2+x2+x2+a = A at *
  generalize hB : x2*x2+x2*x2+x2*x2+a*(x2+x2)+b = B at *
  have Ea : u23 = m*m - A - u3 := by clear ha1 ha2 a3 a4 b4 hB; grind -lia
  have e1 : al*(u3-u12) = m*u3+l*u12+(y2+y2) := by clear ha2 a3 a4 b3 b4 Ea hA hB; grind -lia
  have e2 : al*(m*u3-l*u12) = u12*u12+u12*u3+u3*u3+A*(u12+u3)+B := by
    subst hA hB
    clear ha1 a3 a4 b3 b4 Ea e1 hn hn3 hno
    grind -lia
  have k : (l-m)*al = u1 - u3 - l*(l-m) := by
    by_cases hu : u12 = u3
    · subst hu
      have hD : y2+y2 = -((m+l)*u12) := by clear ha2 a3 a4 b3 b4 Ea hA hB e2; grind -lia
      have hw : u12 ≠ 0 := fun g => hn3 ⟨rfl, by subst g; grind -lia⟩
      have e2' : al*(m*u12-l*u12) = u12*u12+u12*u12+u12*u12+A*(u12+u12)+B := e2
      have := core_k2 a3 a4 Ea b4.symm hD e2'
      exact Fld.cancel (F := F) hw (by rw [← this]; clear ha1 ha2 a3 a4 b3 b4 Ea hA hB e2 e2' e1 hD this; grind -lia)
    · have := core_k a3 a4 Ea b4.symm e1
      exact Fld.cancel (F := F) (sub_ne (Ne.symm hu)) (by rw [← this]; clear ha1 ha2 a3 a4 b3 b4 Ea hA hB e2 e1 this; grind -lia)
  have f1 := core_f1 a3 a4 Ea b4.symm e1 k
  have f2 := core_f2 a3 a4 Ea b4.symm f1 k
  have fx := core_x a3 Ea k
  refine ⟨hno, al + l - m, ⟨?_, ?_⟩, ?_, ?_⟩
  · clear ha1 ha2 a3 a4 b3 b4 Ea hA hB e2 e1 k f2 fx hno hn3 hn gx gy; grind -lia
  · subst hA hB
    clear ha1 ha2 a3 a4 b3 b4 Ea e2 e1 k f1 fx hno hn3 hn gx gy
    grind -lia
  · rw [gx]
    clear ha1 ha2 a3 a4 b3 b4 Ea hA hB e2 e1 k f1 f2 hno hn3 hn gx gy
    grind -lia
  · have fv := core_v (U := x - x2) a3 a4 Ea b4.symm e1 k (by rw [gx, ← hA]; clear ha1 ha2 a3 a4 b3 b4 Ea hA hB e2 e1 k f1 f2 fx hno hn3 hn gx gy; grind -lia)
    rw [gy]
    clear ha1 ha2 a3 a4 b3 b4 Ea hA hB e2 e1 k f1 f2 fx hno hn3 hn gx gy
    grind -lia
theorem assoc {a b c : Fin p} (F : Fld p) (N : NonS a b c) {P Q R S T U : Pt p} (hP : On a b c P) (hQ : On a b c Q) (hR : On a b c R) (hS : On a b c S) (hU : On a b c U)
    (h12 : IsAdd a b P Q S) (h : IsAdd a b S R T) (h23 : IsAdd a b Q R U) : IsAdd a b P U T := by
  match P, Q, R, S, T, U with
  | .O, Q, R, S, T, U =>
    have : S = Q := h12
    subst this
    exact add_uniq F h h23
  | .A x1 y1, .O, R, S, T, U =>
    have e1 : S = .A x1 y1 := h12
    have e2 : U = R := h23
    subst e1 e2
    exact h
  | .A x1 y1, .A x2 y2, .O, S, T, U =>
    have e1 : U = .A x2 y2 := h23
    have e2 : T = S := add_uniq F h (show IsAdd a b S .O S by cases S <;> rfl)
    subst e1 e2
    exact h12
  | .A x1 y1, .A x2 y2, .A x3 y3, .O, T, U =>
    -- P = -Q
    have e : T = .A x3 y3 := h
    subst e
    have hc := cancel_add F N hQ hR h23
    have eP : Pt.A x1 y1 = neg (.A x2 y2) := by
      show Pt.A x1 y1 = Pt.A x2 (-y2)
      rw [h12.1, show y1 = -y2 by have := h12.2; grind -lia]
    rw [eP]
    exact hc
  | .A x1 y1, .A x2 y2, .A x3 y3, .A x12 y12, T, .O =>
    -- R = -Q
    have hc := add_comm' (cancel_add F N hQ hP (add_comm' h12))
    have eR : Pt.A x3 y3 = neg (.A x2 y2) := by
      show Pt.A x3 y3 = Pt.A x2 (-y2)
      rw [← h23.1, show y3 = -y2 by have := h23.2; grind -lia]
    rw [eR] at h
    have : T = .A x1 y1 := add_uniq F h hc
    rw [this]
    rfl
  | .A x1 y1, .A x2 y2, .A x3 y3, .A x12 y12, .O, .A x23 y23 => exact opp_add F h12 h23 h
  | .A x1 y1, .A x2 y2, .A x3 y3, .A x12 y12, .A x y, .A x23 y23 => exact assoc_main F h12 h23 h
structure Cv (p : Nat) [NeZero p] where
  a : Fin p
  b : Fin p
  c : Fin p
  F : Fld p
  N : NonS a b c
def Cv.G (C : Cv p) : Type := {P : Pt p // On C.a C.b C.c P}
noncomputable def Cv.add {C : Cv p} (P Q : C.G) : C.G := ⟨(add_ex C.F P.2 Q.2).choose, (add_ex C.F P.2 Q.2).choose_spec.2⟩
theorem Cv.is {C : Cv p} (P Q : C.G) : IsAdd C.a C.b P.1 Q.1 (Cv.add P Q).1 := (add_ex C.F P.2 Q.2).choose_spec.1
theorem Cv.eq {C : Cv p} {P Q R : C.G} (h : IsAdd C.a C.b P.1 Q.1 R.1) : Cv.add P Q = R := Subtype.ext (add_uniq C.F (Cv.is P Q) h)
def Cv.zero {C : Cv p} : C.G := ⟨.O, trivial⟩
theorem Cv.comm {C : Cv p} (P Q : C.G) : Cv.add P Q = Cv.add Q P := Cv.eq (add_comm' (Cv.is Q P))
theorem Cv.assoc {C : Cv p} (P Q R : C.G) : Cv.add (Cv.add P Q) R = Cv.add P (Cv.add Q R) := (Cv.eq (Go.Wei.assoc C.F C.N P.2 Q.2 R.2 (Cv.add P Q).2 (Cv.add Q R).2 (Cv.is P Q) (Cv.is _ _) (Cv.is Q R))).symm
theorem Cv.zero_add {C : Cv p} (P : C.G) : Cv.add Cv.zero P = P := Cv.eq rfl
theorem Cv.add_zero {C : Cv p} (P : C.G) : Cv.add P Cv.zero = P := by rw [Cv.comm, Cv.zero_add]
noncomputable def Cv.mul {C : Cv p} : Nat → C.G → C.G
  | 0, _ => Cv.zero
  | n + 1, P => Cv.add (Cv.mul n P) P
theorem Cv.mul_add {C : Cv p} (P : C.G) (m : Nat) : ∀ n, Cv.mul (m + n) P = Cv.add (Cv.mul m P) (Cv.mul n P)
  | 0 => (Cv.add_zero _).symm
  | n + 1 => by rw [← Nat.add_assoc, Cv.mul, Cv.mul_add P m n, Cv.mul, Cv.assoc]
theorem Cv.mul_zero {C : Cv p} : ∀ n, Cv.mul n (Cv.zero : C.G) = Cv.zero
  | 0 => rfl
  | n + 1 => by rw [Cv.mul, Cv.mul_zero n, Cv.zero_add]
theorem Cv.mul_one {C : Cv p} (P : C.G) : Cv.mul 1 P = P := by rw [Cv.mul, Cv.mul, Cv.zero_add]
theorem Cv.mul_mul {C : Cv p} (P : C.G) (n : Nat) : ∀ m, Cv.mul (m * n) P = Cv.mul m (Cv.mul n P)
  | 0 => by rw [Qm]; rfl
  | m + 1 => by rw [Nat.succ_mul, Cv.mul_add, Cv.mul_mul P n m, Cv.mul]
end
theorem fin_mul {p : Nat} (x y : Fin p) : (x * y).val = x.val * y.val % p := rfl
theorem fin_add {p : Nat} (x y : Fin p) : (x + y).val = (x.val + y.val) % p := rfl
section
variable {p : Nat} [NeZero p]
theorem fin_zero : (0 : Fin p).val = 0 := by show 0 % p = 0; exact JY _
theorem fld_of (h : Luc p) (h2 : p ≠ 2) : Fld p := by
  have hp := h.1.1
  refine ⟨fun x y e => ?_, fun x e => ?_, fun x hx => ?_⟩
  · have e1 : x.val * y.val % p = 0 := (congrArg Fin.val e).trans fin_zero
    rcases h.1.mul (XB e1) with g | g
    · left
      apply Fin.ext
      rw [fin_zero]
      exact Je g x.isLt
    · right
      apply Fin.ext
      rw [fin_zero]
      exact Je g y.isLt
  · have e1 : (x.val + x.val) % p = 0 := (congrArg Fin.val e).trans fin_zero
    have e2 : p ∣ 2 * x.val := by rw [Kn]; exact XB e1
    rcases h.1.mul e2 with g | g
    · have := X7 (by decide) g
      omega
    · apply Fin.ext
      rw [fin_zero]
      exact Je g x.isLt
  · have hv : x.val % p ≠ 0 := by
      rw [zQ x.isLt]
      intro g
      exact hx (Fin.ext (g.trans fin_zero.symm))
    refine ⟨⟨x.val ^ (p - 2) % p, Z4 _ (by omega)⟩, ?_⟩
    apply Fin.ext
    show x.val * (x.val ^ (p - 2) % p) % p = 1 % p
    rw [XJ, Zf, ← Zh, show (p - 2).succ = p - 1 by omega, h.2 _ hv, zQ hp]
def fn (p : Nat) [NeZero p] (x : Nat) : Fin p := Fin.ofNat p x
theorem fn_val (x : Nat) : (fn p x).val = x % p := rfl
theorem fn_mod (x : Nat) : fn p (x % p) = fn p x := Fin.ext (by rw [fn_val, fn_val, Yy])
theorem fn_of (x : Fin p) : fn p x.val = x := Fin.ext (by rw [fn_val, zQ x.isLt])
theorem fn_inj {x y : Nat} (hx : x < p) (hy : y < p) (h : fn p x = fn p y) : x = y := by
  have := congrArg Fin.val h
  rwa [fn_val, fn_val, zQ hx, zQ hy] at this
theorem fn_mul (x y : Nat) : fn p (x * y % p) = fn p x * fn p y := Fin.ext (by rw [fn_val, fin_mul, fn_val, fn_val, Yy, Qq])
theorem fn_add (x y : Nat) : fn p ((x + y) % p) = fn p x + fn p y := Fin.ext (by rw [fn_val, fin_add, fn_val, fn_val, Yy, Nat.add_mod])
theorem fn_sub (x y : Nat) : fn p ((x % p + p - y % p) % p) = fn p x - fn p y := Fin.ext (by
  have hp : 0 < p := Nat.pos_of_ne_zero (NeZero.ne p)
  have hy := Z4 y hp
  rw [fn_val, Yy, Fin.sub_def]
  show (x % p + p - y % p) % p = (p - y % p + x % p) % p
  congr 1
  omega)
theorem fn_zero : fn p 0 = 0 := rfl
theorem fn_one : fn p 1 = 1 := rfl
theorem Fld.mul {F : Fld p} {x y : Fin p} (hx : x ≠ 0) (hy : y ≠ 0) : x * y ≠ 0 := fun h => (F.nz _ _ h).elim hx hy
theorem Fld.eq {F : Fld p} {k x y : Fin p} (hk : k ≠ 0) (h : k * x = k * y) : x = y := Fld.cancel (F := F) hk (by grind -lia)
end
end Go.Wei
namespace Go.Wei
open Go.Dbr
section
variable {p : Nat} [NeZero p]
abbrev F3 (p : Nat) := Fin p × Fin p × Fin p
def th (a : Fin p) : Fin p := (a + a) + a
def wU (b xz zz : Fin p) : Fin p := th (xz - b*zz)
def wV (b xx xz zz : Fin p) : Fin p := th ((b*xz - th zz) - xx)
def wW (xx zz : Fin p) : Fin p := th xx - th zz
def cr (a b c d l : Fin p) : Fin p := (a+b)*(c+d) - l
def wt (b : Fin p) : F3 p → F3 p → F3 p
  | (x1, y1, z1), (x2, y2, z2) =>
    (cr x1 y1 x2 y2 (x1*x2+y1*y2) * (y1*y2 + wU b (cr x1 z1 x2 z2 (x1*x2+z1*z2)) (z1*z2)) - cr y1 z1 y2 z2 (y1*y2+z1*z2) * wV b (x1*x2) (cr x1 z1 x2 z2 (x1*x2+z1*z2)) (z1*z2),
     (y1*y2 + wU b (cr x1 z1 x2 z2 (x1*x2+z1*z2)) (z1*z2)) * (y1*y2 - wU b (cr x1 z1 x2 z2 (x1*x2+z1*z2)) (z1*z2)) + wW (x1*x2) (z1*z2) * wV b (x1*x2) (cr x1 z1 x2 z2 (x1*x2+z1*z2)) (z1*z2),
     cr y1 z1 y2 z2 (y1*y2+z1*z2) * (y1*y2 - wU b (cr x1 z1 x2 z2 (x1*x2+z1*z2)) (z1*z2)) + cr x1 y1 x2 y2 (x1*x2+y1*y2) * wW (x1*x2) (z1*z2))
def gX (b x1 y1 x2 y2 : Fin p) : Fin p := (x1*y2+x2*y1)*(y1*y2+th (x1+x2-b)) - (y1+y2)*th (b*(x1+x2)-th 1-x1*x2)
def gY (b x1 y1 x2 y2 : Fin p) : Fin p := (y1*y2+th (x1+x2-b))*(y1*y2-th (x1+x2-b)) + (th (x1*x2) - th 1)*th (b*(x1+x2)-th 1-x1*x2)
def gZ (b x1 y1 x2 y2 : Fin p) : Fin p := (y1+y2)*(y1*y2-th (x1+x2-b)) + (x1*y2+x2*y1)*(th (x1*x2) - th 1)
theorem wt_aff (b x1 y1 z1 x2 y2 z2 : Fin p) : wt b (x1*z1, y1*z1, z1) (x2*z2, y2*z2, z2) = ((z1*z2)*(z1*z2)*gX b x1 y1 x2 y2, (z1*z2)*(z1*z2)*gY b x1 y1 x2 y2, (z1*z2)*(z1*z2)*gZ b x1 y1 x2 y2) := by
  simp only [wt, gX, gY, gZ, wU, wV, wW, cr, th, Prod.mk.injEq]
  refine ⟨?_, ?_, ?_⟩ <;> grind -lia
theorem wt_comm (b : Fin p) (s t : F3 p) : wt b s t = wt b t s := by
  obtain ⟨x1, y1, z1⟩ := s
  obtain ⟨x2, y2, z2⟩ := t
  simp only [wt, wU, wV, wW, cr, th, Prod.mk.injEq]
  refine ⟨?_, ?_, ?_⟩ <;> grind -lia
def RepH : F3 p → Pt p → Prop
  | (x, y, z), .O => x = 0 ∧ z = 0 ∧ y ≠ 0
  | (x, y, z), .A X Y => z ≠ 0 ∧ x = X*z ∧ y = Y*z
def m3 : Fin p := -(1+1+1)
theorem on3 {b x y : Fin p} (h : y*y = x*x*x + 0*x*x + m3*x + b) : y*y = x*x*x - (x+x+x) + b := by rw [h]; unfold m3; grind -lia
theorem gX_eq {b x1 y1 x2 y2 : Fin p} (h1 : y1*y1 = x1*x1*x1 - (x1+x1+x1) + b) (h2 : y2*y2 = x2*x2*x2 - (x2+x2+x2) + b) : gX b x1 y1 x2 y2 * ((x2-x1)*(x2-x1)) = gZ b x1 y1 x2 y2 * ((y2-y1)*(y2-y1) - (x1+x2)*((x2-x1)*(x2-x1))) := by
  have hb : b = y1*y1 - (x1*x1*x1 - (x1+x1+x1)) := by rw [h1]; grind -lia
  simp only [gX, gZ, th]
  clear h1
  subst hb
  grind -lia
theorem gY_eq {b x1 y1 x2 y2 : Fin p} (h1 : y1*y1 = x1*x1*x1 - (x1+x1+x1) + b) (h2 : y2*y2 = x2*x2*x2 - (x2+x2+x2) + b) : gY b x1 y1 x2 y2 * ((x2-x1)*((x2-x1)*(x2-x1))) = gZ b x1 y1 x2 y2 * ((y2-y1)*(x1*((x2-x1)*(x2-x1)) - ((y2-y1)*(y2-y1) - (x1+x2)*((x2-x1)*(x2-x1)))) - y1*((x2-x1)*((x2-x1)*(x2-x1)))) := by
  have hb : b = y1*y1 - (x1*x1*x1 - (x1+x1+x1)) := by rw [h1]; grind -lia
  simp only [gY, gZ, th]
  clear h1
  subst hb
  grind -lia
theorem gZ_eq {b x1 y1 x2 y2 : Fin p} (h1 : y1*y1 = x1*x1*x1 - (x1+x1+x1) + b) (h2 : y2*y2 = x2*x2*x2 - (x2+x2+x2) + b) : gZ b x1 y1 x2 y2 = (0 - (y1+y2))*(x1*((x2-x1)*(x2-x1)) - ((y1+y2)*(y1+y2) - (x1+x2)*((x2-x1)*(x2-x1)))) - y1*((x2-x1)*((x2-x1)*(x2-x1))) := by
  have hb : b = y1*y1 - (x1*x1*x1 - (x1+x1+x1)) := by rw [h1]; grind -lia
  simp only [gZ, th]
  clear h1
  subst hb
  grind -lia
theorem dblX {b x y N : Fin p} (h : y*y = x*x*x - (x+x+x) + b) (hN : N = x*x+x*x+x*x-(1+1+1)) : gX b x y x y * ((y+y)*(y+y)) = gZ b x y x y * (N*N - (x+x)*((y+y)*(y+y))) := by
  have hb : b = y*y - (x*x*x - (x+x+x)) := by rw [h]; grind -lia
  subst hN hb
  simp only [gX, gZ, th]
  clear h
  grind -lia
theorem dblY {b x y N : Fin p} (h : y*y = x*x*x - (x+x+x) + b) (hN : N = x*x+x*x+x*x-(1+1+1)) : gY b x y x y * ((y+y)*((y+y)*(y+y))) = gZ b x y x y * (N*(x*((y+y)*(y+y)) - (N*N - (x+x)*((y+y)*(y+y)))) - y*((y+y)*((y+y)*(y+y)))) := by
  have hb : b = y*y - (x*x*x - (x+x+x)) := by rw [h]; grind -lia
  subst hN hb
  simp only [gY, gZ, th]
  clear h
  grind -lia
theorem dblZ {b x y : Fin p} (h : y*y = x*x*x - (x+x+x) + b) : gZ b x y x y = (y+y)*((y+y)*(y+y)) := by
  have hb : b = y*y - (x*x*x - (x+x+x)) := by rw [h]; grind -lia
  subst hb
  simp only [gZ, th]
  clear h
  grind -lia
theorem oppX (b x y : Fin p) : gX b x y x (-y) = 0 := by simp only [gX, th]; grind -lia
theorem oppZ (b x y : Fin p) : gZ b x y x (-y) = 0 := by simp only [gZ, th]; grind -lia
theorem oppY {b x y N : Fin p} (h : y*y = x*x*x - (x+x+x) + b) (hN : N = x*x+x*x+x*x-(1+1+1)) : gY b x y x (-y) = N*(x*((y+y)*(y+y)) - (N*N - (x+x)*((y+y)*(y+y)))) - y*((y+y)*((y+y)*(y+y))) := by
  have hb : b = y*y - (x*x*x - (x+x+x)) := by rw [h]; grind -lia
  subst hN hb
  simp only [gY, th]
  clear h
  grind -lia
theorem zid (m D x1 x2 y1 : Fin p) : (D*(D*D)) * (m*(x1-(m*m-0-x1-x2))-y1) = (m*D)*(x1*(D*D) - ((m*D)*(m*D) - (x1+x2)*(D*D))) - y1*(D*(D*D)) := by grind -lia
def No2 (b : Fin p) : Prop := ∀ x : Fin p, x*x*x - (x+x+x) + b ≠ 0
theorem No2.y {b x y : Fin p} (F : Fld p) (N : No2 b) (h : y*y = x*x*x - (x+x+x) + b) : y ≠ 0 := fun e => N x (by rw [← h, e]; grind -lia)
theorem two_ne {F : Fld p} {x : Fin p} (h : x ≠ 0) : x+x ≠ 0 := fun g => h (F.two _ g)
theorem No2.nonS {b : Fin p} (N : No2 b) : NonS 0 m3 b := fun x h => absurd (show x*x*x - (x+x+x) + b = 0 by rw [← h]; unfold m3; grind -lia) (N x)
theorem tan_of {x y l : Fin p} (h : Slope 0 m3 x y x y l) : l*(y+y) = x*x+x*x+x*x-(1+1+1) := by rw [h.2]; unfold m3; grind -lia
theorem same_y {F : Fld p} {b x y1 y2 : Fin p} (h1 : y1*y1 = x*x*x - (x+x+x) + b) (h2 : y2*y2 = x*x*x - (x+x+x) + b) (hn : y1 + y2 ≠ 0) : y1 = y2 := by
  have : (y1+y2)*(y1-y2) = 0 := by
    have : y1*y1 - y2*y2 = 0 := by rw [h1, h2]; grind -lia
    rw [← this]
    clear h1 h2 this
    grind -lia
  exact Fld.cancel (F := F) hn this
theorem gZ_ne {b x1 y1 x2 y2 : Fin p} (F : Fld p) (N : No2 b) (h1 : y1*y1 = x1*x1*x1 + 0*x1*x1 + m3*x1 + b) (h2 : y2*y2 = x2*x2*x2 + 0*x2*x2 + m3*x2 + b) (hn : ¬ (x1 = x2 ∧ y1 + y2 = 0)) : gZ b x1 y1 x2 y2 ≠ 0 := by
  have e1 := on3 h1
  have e2 := on3 h2
  by_cases hx : x1 = x2
  · subst hx
    have := same_y (F := F) e1 e2 (fun g => hn ⟨rfl, g⟩)
    subst this
    rw [dblZ e1]
    have n := two_ne (F := F) (N.y F e1)
    exact Fld.mul (F := F) n (Fld.mul (F := F) n n)
  · have hD := sub_ne (Ne.symm hx)
    have h2' : (-y2)*(-y2) = x2*x2*x2 + 0*x2*x2 + m3*x2 + b := by rw [← h2]; clear h1 h2 e1 e2; grind -lia
    obtain ⟨m, hm⟩ := slope_ex F h1 h2' (fun g => hx g.1)
    have h3 := on3 (third_on h1 hm rfl rfl)
    have hy := N.y F h3
    intro g
    rw [gZ_eq e1 e2] at g
    have hm1 := hm.1
    apply hy
    have h0 : ((x2-x1)*((x2-x1)*(x2-x1))) * (m*(x1-(m*m-0-x1-x2))-y1) = 0 := by
      have i1 : 0 - (y1+y2) = m*(x2-x1) := by rw [hm1]; clear hm hm1 g h1 h2 e1 e2 h2' h3; grind -lia
      have i2 : (y1+y2)*(y1+y2) = (m*(x2-x1))*(m*(x2-x1)) := by rw [← i1]; clear hm hm1 g h1 h2 e1 e2 h2' h3 i1; grind -lia
      rw [i2, i1] at g
      rw [zid]
      exact g
    rcases F.nz _ _ h0 with q | q
    · exact absurd q (Fld.mul (F := F) hD (Fld.mul (F := F) hD hD))
    · exact q
theorem g_sum {b x1 y1 x2 y2 x3 y3 : Fin p} (F : Fld p) (N : No2 b) (h1 : y1*y1 = x1*x1*x1 + 0*x1*x1 + m3*x1 + b) (h2 : y2*y2 = x2*x2*x2 + 0*x2*x2 + m3*x2 + b) (h : IsAdd 0 m3 (.A x1 y1) (.A x2 y2) (.A x3 y3)) : gX b x1 y1 x2 y2 = x3 * gZ b x1 y1 x2 y2 ∧ gY b x1 y1 x2 y2 = y3 * gZ b x1 y1 x2 y2 := by
  obtain ⟨hn, l, hl, hx3, hy3⟩ := h
  have e1 := on3 h1
  have e2 := on3 h2
  by_cases hx : x1 = x2
  · subst hx
    have := same_y (F := F) e1 e2 (fun g => hn ⟨rfl, g⟩)
    subst this
    have n := two_ne (F := F) (N.y F e1)
    have t := tan_of hl
    have dX := dblX e1 t
    have dY := dblY e1 t
    generalize gX b x1 y1 x1 y1 = X at *
    generalize gY b x1 y1 x1 y1 = Y at *
    generalize gZ b x1 y1 x1 y1 = Z at *
    clear t h1 h2 e1 e2 hl
    have nn := Fld.mul (F := F) n n
    constructor
    · refine Fld.eq (F := F) nn ?_
      rw [hx3]
      clear dY hy3 hx3
      grind -lia
    · refine Fld.eq (F := F) (Fld.mul (F := F) n nn) ?_
      rw [hy3, hx3]
      clear dX hy3 hx3
      grind -lia
  · have hD := sub_ne (Ne.symm hx)
    have nn := Fld.mul (F := F) hD hD
    have dX := gX_eq e1 e2
    have dY := gY_eq e1 e2
    generalize gX b x1 y1 x2 y2 = X at *
    generalize gY b x1 y1 x2 y2 = Y at *
    generalize gZ b x1 y1 x2 y2 = Z at *
    have hl1 := hl.1
    rw [← hl1] at dX dY
    clear h1 h2 e1 e2 hl hl1
    constructor
    · refine Fld.eq (F := F) nn ?_
      rw [hx3]
      clear dY hy3 hx3
      grind -lia
    · refine Fld.eq (F := F) (Fld.mul (F := F) hD nn) ?_
      rw [hy3, hx3]
      clear dX hy3 hx3
      grind -lia
theorem wt_ok {b : Fin p} (F : Fld p) (N : No2 b) {s t : F3 p} {P Q R : Pt p} (hP : On 0 m3 b P) (hQ : On 0 m3 b Q) (hs : RepH s P) (ht : RepH t Q) (h : IsAdd 0 m3 P Q R) : RepH (wt b s t) R := by
  have left : ∀ {s t : F3 p} {Q R : Pt p}, On 0 m3 b Q → RepH s .O → RepH t Q → IsAdd 0 m3 .O Q R → RepH (wt b s t) R := by
    intro s t Q R hQ hs ht h
    have : R = Q := h
    subst this
    obtain ⟨x1, y1, z1⟩ := s
    obtain ⟨x2, y2, z2⟩ := t
    obtain ⟨a1, a2, a3⟩ := hs
    subst a1 a2
    match R with
    | .O =>
      obtain ⟨b1, b2, b3⟩ := ht
      subst b1 b2
      have n := Fld.mul (F := F) (Fld.mul (F := F) a3 b3) (Fld.mul (F := F) a3 b3)
      refine ⟨by simp only [wU, wV, wW, cr, th]; grind -lia, by simp only [wU, wV, wW, cr, th]; grind -lia, fun g => n ?_⟩
      rw [← g]
      simp only [wU, wV, wW, cr, th]
      clear g
      grind -lia
    | .A X Y =>
      obtain ⟨b1, b2, b3⟩ := ht
      subst b2 b3
      have hY := N.y F (on3 hQ)
      have n := Fld.mul (F := F) (Fld.mul (F := F) (Fld.mul (F := F) a3 a3) (Fld.mul (F := F) b1 b1)) hY
      refine ⟨fun g => n ?_, ?_, ?_⟩
      · rw [← g]
        simp only [wU, wV, wW, cr, th]
        clear g
        grind -lia
      · simp only [wU, wV, wW, cr, th]
        grind -lia
      · simp only [wU, wV, wW, cr, th]
        grind -lia
  match P, Q with
  | .O, Q => exact left hQ hs ht h
  | .A _ _, .O => rw [wt_comm]; exact left hP ht hs (add_comm' h)
  | .A X1 Y1, .A X2 Y2 =>
    obtain ⟨x1, y1, z1⟩ := s
    obtain ⟨x2, y2, z2⟩ := t
    obtain ⟨n1, i1, j1⟩ := hs
    obtain ⟨n2, i2, j2⟩ := ht
    subst i1 j1 i2 j2
    have nz := Fld.mul (F := F) (Fld.mul (F := F) n1 n2) (Fld.mul (F := F) n1 n2)
    rw [wt_aff]
    generalize (z1*z2)*(z1*z2) = K at *
    match R with
    | .O =>
      obtain ⟨e1, e2⟩ := h
      have eY : Y2 = -Y1 := by clear hP hQ; grind -lia
      subst e1 eY
      refine ⟨by rw [oppX]; grind -lia, by rw [oppZ]; grind -lia, Fld.mul (F := F) nz ?_⟩
      have hy := N.y F (on3 hP)
      have n := two_ne (F := F) hy
      obtain ⟨l, hl⟩ := slope_ex F hP hP (fun g => n g.2)
      have t := tan_of hl
      rw [oppY (on3 hP) t]
      have h3 := N.y F (on3 (third_on hP hl rfl rfl))
      intro g
      apply h3
      have : ((Y1+Y1)*((Y1+Y1)*(Y1+Y1))) * (l*(X1-(l*l-0-X1-X1))-Y1) = 0 := by
        rw [zid]
        exact g
      exact (F.nz _ _ this).elim (fun q => absurd q (Fld.mul (F := F) n (Fld.mul (F := F) n n))) id
    | .A X3 Y3 =>
      have hz := gZ_ne F N hP hQ h.1
      obtain ⟨g1, g2⟩ := g_sum F N hP hQ h
      refine ⟨Fld.mul (F := F) nz hz, ?_, ?_⟩
      · rw [g1]; clear h hP hQ g1 g2; grind -lia
      · rw [g2]; clear h hP hQ g1 g2; grind -lia
def RepJ : F3 p → Pt p → Prop
  | (x, y, z), .O => z = 0
  | (x, y, z), .A X Y => z ≠ 0 ∧ x = X*(z*z) ∧ y = Y*((z*z)*z)
def k3 : Fin p := 1+1+1
def k4 : Fin p := 1+1+1+1
def k8 : Fin p := 1+1+1+1+1+1+1+1
def jm (x z : Fin p) : Fin p := k3*((x-z*z)*(x+z*z))
def js (x y : Fin p) : Fin p := k4*(x*(y*y))
def jx (x y z : Fin p) : Fin p := jm x z * jm x z - (js x y + js x y)
def jt : F3 p → F3 p
  | (x, y, z) => if z = 0 ∨ y = 0 then (1, 1, 0) else (jx x y z, jm x z*(js x y - jx x y z) - k8*((y*y)*(y*y)), (1+1)*(y*z))
def px (u v s t : Fin p) : Fin p := ((t-s)*(t-s) - ((v-u)*(v-u))*(v-u)) - (u*((v-u)*(v-u)) + u*((v-u)*(v-u)))
def pq (u v s t z1 z2 : Fin p) : F3 p := (px u v s t, (t-s)*(u*((v-u)*(v-u)) - px u v s t) - s*(((v-u)*(v-u))*(v-u)), (v-u)*(z1*z2))
def jp : F3 p → F3 p → F3 p
  | (x1, y1, z1), (x2, y2, z2) =>
    if z1 = 0 then (x2, y2, z2) else if z2 = 0 then (x1, y1, z1) else
    if x1*(z2*z2) = x2*(z1*z1) then (if y1*((z2*z2)*z2) = y2*((z1*z1)*z1) then jt (x1, y1, z1) else (1, 1, 0))
    else pq (x1*(z2*z2)) (x2*(z1*z1)) (y1*((z2*z2)*z2)) (y2*((z1*z1)*z1)) z1 z2
theorem jt_ok {b : Fin p} (F : Fld p) (N : No2 b) {s : F3 p} {P R : Pt p} (hP : On 0 m3 b P) (hs : RepJ s P) (h : IsAdd 0 m3 P P R) : RepJ (jt s) R := by
  obtain ⟨x, y, z⟩ := s
  match P with
  | .O =>
    have : R = .O := h
    subst this
    have hz : z = 0 := hs
    rw [jt, if_pos (.inl hz)]
    rfl
  | .A X Y =>
    obtain ⟨hz, e1, e2⟩ := hs
    have hY := N.y F (on3 hP)
    have n2 := two_ne (F := F) hY
    have nz := Fld.mul (F := F) (Fld.mul (F := F) hz hz) hz
    have hy : y ≠ 0 := by rw [e2]; exact Fld.mul (F := F) hY nz
    rw [jt, if_neg (fun g => g.elim hz hy)]
    match R with
    | .O => exact absurd h.2 n2
    | .A X3 Y3 =>
      obtain ⟨_, l, hl, hx3, hy3⟩ := h
      have t := tan_of hl
      subst e1 e2
      have nzz := Fld.mul (F := F) hY (Fld.mul (F := F) (Fld.mul (F := F) hz hz) (Fld.mul (F := F) hz hz))
      have em : jm (X*(z*z)) z = ((z*z)*(z*z)) * (l*(Y+Y)) := by rw [t, jm, k3]; clear t hl hx3 hy3 hP; grind -lia
      have es : js (X*(z*z)) (Y*((z*z)*z)) = ((z*z)*(z*z))*((z*z)*(z*z))*(X*((Y+Y)*(Y+Y))) := by rw [js, k4]; clear t hl hx3 hy3 hP em; grind -lia
      have ex : jx (X*(z*z)) (Y*((z*z)*z)) z = X3*(((1+1)*((Y*((z*z)*z))*z))*((1+1)*((Y*((z*z)*z))*z))) := by
        rw [jx, em, es, hx3]
        clear t hl hx3 hy3 hP em es
        grind -lia
      refine ⟨fun g => two_ne (F := F) nzz ?_, ex, ?_⟩
      · rw [← g]
        clear t hl hx3 hy3 hP em es ex g
        grind -lia
      · rw [ex, em, es, hy3, k8]
        clear t hl hx3 hy3 hP em es ex
        grind -lia
theorem jp_ok {b : Fin p} (F : Fld p) (N : No2 b) {s t : F3 p} {P Q R : Pt p} (hP : On 0 m3 b P) (hQ : On 0 m3 b Q) (hs : RepJ s P) (ht : RepJ t Q) (h : IsAdd 0 m3 P Q R) : RepJ (jp s t) R := by
  obtain ⟨x1, y1, z1⟩ := s
  obtain ⟨x2, y2, z2⟩ := t
  match P, Q with
  | .O, Q =>
    have hz : z1 = 0 := hs
    have : R = Q := h
    subst this
    rw [jp, if_pos hz]
    exact ht
  | .A X1 Y1, .O =>
    have hz : z2 = 0 := ht
    have : R = .A X1 Y1 := h
    subst this
    rw [jp, if_neg hs.1, if_pos hz]
    exact hs
  | .A X1 Y1, .A X2 Y2 =>
    have hs0 := hs
    obtain ⟨n1, i1, j1⟩ := hs
    obtain ⟨n2, i2, j2⟩ := ht
    rw [jp, if_neg n1, if_neg n2]
    have q1 := Fld.mul (F := F) n1 n1
    have q2 := Fld.mul (F := F) n2 n2
    have c1 := Fld.mul (F := F) q1 n1
    have c2 := Fld.mul (F := F) q2 n2
    have hu : x1*(z2*z2) = x2*(z1*z1) ↔ X1 = X2 := by
      rw [i1, i2]
      constructor
      · intro g
        exact Fld.eq (F := F) (Fld.mul (F := F) q1 q2) (by clear hP hQ h hs0 j1 j2 i1 i2; grind -lia)
      · intro g
        rw [g]
        clear hP hQ h hs0 j1 j2 i1 i2
        grind -lia
    have hv : y1*((z2*z2)*z2) = y2*((z1*z1)*z1) ↔ Y1 = Y2 := by
      rw [j1, j2]
      constructor
      · intro g
        exact Fld.eq (F := F) (Fld.mul (F := F) c1 c2) (by clear hP hQ h hs0 i1 i2 j1 j2 hu; grind -lia)
      · intro g
        rw [g]
        clear hP hQ h hs0 i1 i2 j1 j2 hu
        grind -lia
    by_cases hx : X1 = X2
    · rw [if_pos (hu.2 hx)]
      subst hx
      by_cases hy : Y1 = Y2
      · rw [if_pos (hv.2 hy)]
        subst hy
        exact jt_ok F N hP hs0 h
      · rw [if_neg (fun g => hy (hv.1 g))]
        have hn : Y1 + Y2 = 0 := Classical.byContradiction fun g => hy (same_y (F := F) (on3 hP) (on3 hQ) g)
        match R with
        | .O => rfl
        | .A _ _ => exact absurd ⟨rfl, hn⟩ h.1
    · rw [if_neg (fun g => hx (hu.1 g))]
      have hD := sub_ne (Ne.symm hx)
      match R with
      | .O => exact absurd h.1 hx
      | .A X3 Y3 =>
        obtain ⟨_, l, ⟨hl, _⟩, hx3, hy3⟩ := h
        have eD : x2*(z1*z1) - x1*(z2*z2) = (X2-X1)*((z1*z2)*(z1*z2)) := by rw [i1, i2]; clear hP hQ hs0 j1 j2 i1 i2 hu hv hl hx3 hy3; grind -lia
        have eR : y2*((z1*z1)*z1) - y1*((z2*z2)*z2) = (l*(X2-X1))*((z1*z2)*(z1*z2)*(z1*z2)) := by rw [j1, j2, hl]; clear hP hQ hs0 j1 j2 i1 i2 hu hv hl hx3 hy3 eD; grind -lia
        have ez : (x2*(z1*z1) - x1*(z2*z2))*(z1*z2) = (X2-X1)*((z1*z2)*(z1*z2)*(z1*z2)) := by rw [eD]; clear hP hQ hs0 j1 j2 i1 i2 hu hv hl hx3 hy3 eD eR; grind -lia
        have eu : x1*(z2*z2) = X1*((z1*z2)*(z1*z2)) := by rw [i1]; clear hP hQ hs0 j1 j2 i1 i2 hu hv hl hx3 hy3 eD eR ez; grind -lia
        have ev : y1*((z2*z2)*z2) = Y1*((z1*z2)*(z1*z2)*(z1*z2)) := by rw [j1]; clear hP hQ hs0 j1 j2 i1 i2 hu hv hl hx3 hy3 eD eR ez eu; grind -lia
        have nK := Fld.mul (F := F) n1 n2
        have ex : px (x1*(z2*z2)) (x2*(z1*z1)) (y1*((z2*z2)*z2)) (y2*((z1*z1)*z1)) = X3*(((X2-X1)*((z1*z2)*(z1*z2)*(z1*z2)))*((X2-X1)*((z1*z2)*(z1*z2)*(z1*z2)))) := by
          rw [px, eR, eD, eu, hx3]
          generalize z1*z2 = K
          clear hP hQ hs0 j1 j2 i1 i2 hu hv hl hx3 hy3 eD eR ez eu ev
          grind -lia
        refine ⟨?_, ?_, ?_⟩
        · rw [ez]; exact Fld.mul (F := F) hD (Fld.mul (F := F) (Fld.mul (F := F) nK nK) nK)
        · rw [ez]; exact ex
        · rw [ez, ex, eR, eD, eu, ev, hy3]
          generalize z1*z2 = K
          clear hP hQ hs0 j1 j2 i1 i2 hu hv hl hx3 hy3 eD eR ez eu ev ex
          grind -lia
end
section
variable {p : Nat} [NeZero p]
abbrev N3 := Nat × Nat × Nat
def mulT (p q : Nat) : N3 → N3 → N3
  | (a0, a1, a2), (b0, b1, b2) =>
    ((a0*b0 + q*(a1*b2 + a2*b1)) % p, (a0*b1 + a1*b0 + 3*(a1*b2 + a2*b1) + q*(a2*b2)) % p, (a0*b2 + a1*b1 + a2*b0 + 3*(a2*b2)) % p)
def powT (p q : Nat) : Nat → N3 → Nat → N3
  | 0, _, _ => (1, 0, 0)
  | k + 1, g, e => cond (Qn (e % 2) 1) (mulT p q g (powT p q k (mulT p q g g) (e / 2))) (powT p q k (mulT p q g g) (e / 2))
def ev (r : Fin p) : N3 → Fin p
  | (a, b, c) => fn p a + fn p b * r + fn p c * (r*r)
theorem fn_a (x y : Nat) : fn p (x + y) = fn p x + fn p y := by rw [← fn_add, fn_mod]
theorem fn_m (x y : Nat) : fn p (x * y) = fn p x * fn p y := by rw [← fn_mul, fn_mod]
theorem fn_3 : fn p 3 = 1+1+1 := by
  show fn p (1 + 1 + 1) = _
  rw [fn_a, fn_a, fn_one]
theorem ev_mul {q : Nat} {r : Fin p} (h : r*r*r = (1+1+1)*r + fn p q) (s t : N3) : ev r (mulT p q s t) = ev r s * ev r t := by
  obtain ⟨a0, a1, a2⟩ := s
  obtain ⟨b0, b1, b2⟩ := t
  simp only [mulT, ev, fn_mod, fn_a, fn_m, fn_3]
  generalize fn p a0 = x0
  generalize fn p a1 = x1
  generalize fn p a2 = x2
  generalize fn p b0 = y0
  generalize fn p b1 = y1
  generalize fn p b2 = y2
  generalize fn p q = c at *
  have hc : c = r*r*r - (1+1+1)*r := by rw [h]; grind -lia
  subst hc
  clear h
  grind -lia
def fpow (x : Fin p) : Nat → Fin p
  | 0 => 1
  | n + 1 => fpow x n * x
theorem fpow_val (x : Nat) : ∀ n, fpow (fn p x) n = fn p (x ^ n)
  | 0 => by rw [ZV, fn_one]; rfl
  | n + 1 => by rw [fpow, fpow_val x n, Zh, fn_m]
theorem ev_pow {q : Nat} {r : Fin p} (h : r*r*r = (1+1+1)*r + fn p q) : ∀ (k : Nat) (g : N3) (e : Nat), e < 2 ^ k → ∃ x, ev r g = fn p x ∧ ev r (powT p q k g e) = fn p (x ^ e)
  | 0, g, e, he => by
    have : e = 0 := by simp at he; exact he
    subst this
    refine ⟨(ev r g).val, (fn_of _).symm, ?_⟩
    rw [ZV, fn_one]
    simp only [powT, ev, fn_zero, fn_one]
    grind -lia
  | k + 1, g, e, he => by
    obtain ⟨x, hx, ih⟩ := ev_pow h k (mulT p q g g) (e / 2) (by rw [Zh] at he; omega)
    obtain ⟨y, hy⟩ : ∃ y, ev r g = fn p y := ⟨_, (fn_of _).symm⟩
    refine ⟨y, hy, ?_⟩
    rw [ev_mul h, hy, ← fn_m] at hx
    have hp : fn p (x ^ (e / 2)) = fn p (y ^ (2 * (e / 2))) := by
      rw [← fpow_val, ← hx, fpow_val, ← KF, ← Qz]
    rw [hp] at ih
    unfold powT
    cases hb : Qn (e % 2) 1 with
    | true =>
      have h1 : e % 2 = 1 := QP hb
      rw [ZF, ev_mul h, ih, hy, ← fn_m, Zf, ← Zh]
      congr 2
      omega
    | false =>
      have h1 : e % 2 ≠ 1 := YD hb
      rw [Zc, ih]
      congr 2
      omega
theorem flt (h : Luc p) (x : Nat) : fn p (x ^ p) = fn p x := by
  have hp := h.1.1
  apply Fin.ext
  rw [fn_val, fn_val]
  by_cases hx : x % p = 0
  · rw [JN, hx, Nat.zero_pow (by omega), JY]
  · have e : x ^ p = x ^ (p - 1) * x := by rw [← Zh]; congr 1; omega
    rw [e, Qq, h.2 x hx, Km, Yy]
theorem no_root {q b t0 t1 t2 : Nat} {u0 u1 v0 v1 v2 : Fin p} (h : Luc p) (h256 : p < 2 ^ 256) (hb : fn p q = 0 - fn p b) (hT : powT p q 256 (0, 1, 0) p = (t0, t1, t2))
    (c0 : u0*fn p b + v0*fn p t0 = 1) (c1 : u1*fn p b + v0*(fn p t1 - 1) + v1*fn p t0 - (u0+u0+u0) = 0) (c2 : v0*fn p t2 + v1*(fn p t1 - 1) + v2*fn p t0 - (u1+u1+u1) = 0) (c3 : u0 + v1*fn p t2 + v2*(fn p t1 - 1) = 0) (c4 : u1 + v2*fn p t2 = 0) (r : Fin p) : r*r*r - (r+r+r) + fn p b ≠ 0 := fun hr => by
  have h3 : r*r*r = (1+1+1)*r + fn p q := by rw [hb]; clear c0 c1 c2 c3 c4; grind -lia
  obtain ⟨x, hx, hp⟩ := ev_pow h3 256 (0, 1, 0) p h256
  rw [hT, flt h, ← hx] at hp
  have e1 : ev r (0, 1, 0) = r := by
    simp only [ev, fn_zero, fn_one]
    grind -lia
  rw [e1] at hp
  have hq : fn p t0 + (fn p t1 - 1)*r + fn p t2*(r*r) = 0 := by
    have : fn p t0 + fn p t1*r + fn p t2*(r*r) = r := hp
    clear c0 c1 c2 c3 c4 hr h3 hp hx
    grind -lia
  generalize fn p t0 = T0 at *
  generalize fn p t1 - 1 = T1 at *
  generalize fn p t2 = T2 at *
  generalize fn p b = B at *
  have e : (u0+u1*r)*(r*r*r - (r+r+r) + B) + (v0+v1*r+v2*(r*r))*(T0 + T1*r + T2*(r*r)) = (u0*B + v0*T0) + (u1*B + v0*T1 + v1*T0 - (u0+u0+u0))*r + (v0*T2 + v1*T1 + v2*T0 - (u1+u1+u1))*(r*r) + (u0 + v1*T2 + v2*T1)*(r*r*r) + (u1 + v2*T2)*(r*r*r*r) := by
    clear c0 c1 c2 c3 c4 hr h3 hp hx hq hb
    grind -lia
  rw [hr, hq, c0, c1, c2, c3, c4] at e
  have h10 : (1 : Fin p) = 0 := by clear c0 c1 c2 c3 c4 hr h3 hp hx hq hb; grind -lia
  have := congrArg Fin.val h10
  rw [fin_zero] at this
  have h1 : (1 : Fin p).val = 1 := zQ h.1.1
  omega
end
def PP : Nat := 115792089210356248762697446949407573530086143415290314195533631308867097853951
def BB : Nat := 41058363725152142129326129780047268409114441015993725554835256314039467401291
instance : NeZero PP := ⟨by decide⟩
theorem lucP : Luc PP := lu_115792089210356248762697446949407573530086143415290314195533631308867097853951
theorem fldP : Fld PP := fld_of lucP (by decide)
theorem no2P : No2 (fn PP BB) := no_root (q := 74733725485204106633371317169360305120971702399296588640698374994827630452660) (t0 := 66434390973925144466073271287821796038003695194169110494110089305650096453661) (t1 := 12402202686218762177567235911775779164004716598278868847786114277539554646092) (t2 := 24678849118215552148312087830792888746041224110560601850711771001608500700145) (u0 := fn PP 107286402702237026811154678719514266289498743974321057492273529440068429825344) (u1 := fn PP 6389611969556882025875921584714237703390037729321797349080302270353162149340) (v0 := fn PP 76626890310466861426869089647039036757962535851890885406097439786770458211455) (v1 := fn PP 74462945259064871768191128030512052509059297803194871526163573358218695456204) (v2 := fn PP 34768139465301476436978405170953382516735956999154666452188405812258086013549) lucP (by decide +kernel) (by decide +kernel) (by decide +kernel) (by decide +kernel) (by decide +kernel) (by decide +kernel) (by decide +kernel) (by decide +kernel)
end Go.Wei
namespace Go.Proofs.YtpfhmbbiadpbeaaGreat
open Go.Dbr
theorem mF2 : mF 2 = Go.Wei.PP := rfl
theorem bN_BB : bN = Go.Wei.BB := rfl
theorem PP_pos : 0 < Go.Wei.PP := by decide
theorem PP_lt : Go.Wei.PP < W256 := by decide
abbrev fP (x : Nat) : Fin Go.Wei.PP := Go.Wei.fn Go.Wei.PP x
def cvP : Go.Wei.Cv Go.Wei.PP := ⟨0, Go.Wei.m3, fP Go.Wei.BB, Go.Wei.fldP, Go.Wei.No2.nonS Go.Wei.no2P⟩
abbrev GP := cvP.G
theorem f_mul (x y : Nat) : fP (zo 2 x y) = fP x * fP y := by rw [zo, mF2]; exact Go.Wei.fn_mul x y
theorem f_add (x y : Nat) : fP (z5 2 x y) = fP x + fP y := by rw [z5, mF2]; exact Go.Wei.fn_add x y
theorem f_sub (x y : Nat) : fP (zZ 2 x y) = fP x - fP y := by rw [zZ, mF2]; exact Go.Wei.fn_sub x y
theorem f_th (x : Nat) : fP (thN x) = Go.Wei.th (fP x) := by rw [thN, f_add, f_add]; rfl
theorem f_cr (a b c d l : Nat) : fP (crN a b c d l) = Go.Wei.cr (fP a) (fP b) (fP c) (fP d) (fP l) := by rw [crN, f_sub, f_mul, f_add, f_add]; rfl
theorem lt_mul (x y : Nat) : zo 2 x y < Go.Wei.PP := Z4 _ PP_pos
theorem lt_add (x y : Nat) : z5 2 x y < Go.Wei.PP := Z4 _ PP_pos
theorem lt_sub (x y : Nat) : zZ 2 x y < Go.Wei.PP := Z4 _ PP_pos
theorem wtX (x1 y1 z1 x2 y2 z2 : Nat) : fP (wtA outX x1 y1 z1 x2 y2 z2) = (Go.Wei.wt (fP Go.Wei.BB) (fP x1, fP y1, fP z1) (fP x2, fP y2, fP z2)).1 := by
  simp only [wtA, outX, uN, vN, wN, f_sub, f_add, f_mul, f_th, f_cr, bN_BB, Go.Wei.wt, Go.Wei.wU, Go.Wei.wV, Go.Wei.wW]
theorem wtY (x1 y1 z1 x2 y2 z2 : Nat) : fP (wtA outY x1 y1 z1 x2 y2 z2) = (Go.Wei.wt (fP Go.Wei.BB) (fP x1, fP y1, fP z1) (fP x2, fP y2, fP z2)).2.1 := by
  simp only [wtA, outY, uN, vN, wN, f_sub, f_add, f_mul, f_th, f_cr, bN_BB, Go.Wei.wt, Go.Wei.wU, Go.Wei.wV, Go.Wei.wW]
theorem wtZ (x1 y1 z1 x2 y2 z2 : Nat) : fP (wtA outZ x1 y1 z1 x2 y2 z2) = (Go.Wei.wt (fP Go.Wei.BB) (fP x1, fP y1, fP z1) (fP x2, fP y2, fP z2)).2.2 := by
  simp only [wtA, outZ, uN, vN, wN, f_sub, f_add, f_mul, f_th, f_cr, bN_BB, Go.Wei.wt, Go.Wei.wU, Go.Wei.wV, Go.Wei.wW]
def l3 (a b c : Nat) : L4 := nd a ++ (nd b ++ nd c)
theorem l3_len (a b c : Nat) : (l3 a b c).length = 12 := by simp only [l3, List.length_append, nd, zl]
theorem ndl (a : Nat) : (nd a).length = 4 := zl 4 a
theorem l3_1 (a b c : Nat) : (l3 a b c).take 4 = nd a := by rw [l3, JU (ndl a)]
theorem l3_2 (a b c : Nat) : ((l3 a b c).drop 4).take 4 = nd b := by rw [l3, Jg (ndl a), JU (ndl b)]
theorem l3_3 (a b c : Nat) : (l3 a b c).drop 8 = nd c := by
  rw [l3, show (8 : Nat) = 4 + 4 from rfl, ← List.drop_drop, Jg (ndl a), Jg (ndl b)]
def n3 (l : L4) : Go.Wei.F3 Go.Wei.PP := (fP (nv (l.take 4)), fP (nv ((l.drop 4).take 4)), fP (nv (l.drop 8)))
theorem n3_l3 {a b c : Nat} (ha : a < Go.Wei.PP) (hb : b < Go.Wei.PP) (hc : c < Go.Wei.PP) : n3 (l3 a b c) = (fP a, fP b, fP c) := by
  rw [n3, l3_1, l3_2, l3_3, Z6 (z6 ha PP_lt), Z6 (z6 hb PP_lt), Z6 (z6 hc PP_lt)]
def wtL (p q : L4) : L4 := l3 (wtA outX (nv (p.take 4)) (nv ((p.drop 4).take 4)) (nv (p.drop 8)) (nv (q.take 4)) (nv ((q.drop 4).take 4)) (nv (q.drop 8))) (wtA outY (nv (p.take 4)) (nv ((p.drop 4).take 4)) (nv (p.drop 8)) (nv (q.take 4)) (nv ((q.drop 4).take 4)) (nv (q.drop 8))) (wtA outZ (nv (p.take 4)) (nv ((p.drop 4).take 4)) (nv (p.drop 8)) (nv (q.take 4)) (nv ((q.drop 4).take 4)) (nv (q.drop 8)))
theorem wtL_len (p q : L4) : (wtL p q).length = 12 := l3_len _ _ _
structure RepP (l : L4) (P : GP) : Prop where
  len : l.length = 12
  lt1 : nv (l.take 4) < Go.Wei.PP
  lt2 : nv ((l.drop 4).take 4) < Go.Wei.PP
  lt3 : nv (l.drop 8) < Go.Wei.PP
  rep : Go.Wei.RepH (n3 l) P.1
theorem rep_l3 {a b c : Nat} {P : GP} (ha : a < Go.Wei.PP) (hb : b < Go.Wei.PP) (hc : c < Go.Wei.PP) (h : Go.Wei.RepH (fP a, fP b, fP c) P.1) : RepP (l3 a b c) P :=
  ⟨l3_len _ _ _, by rw [l3_1, Z6 (z6 ha PP_lt)]; exact ha, by rw [l3_2, Z6 (z6 hb PP_lt)]; exact hb, by rw [l3_3, Z6 (z6 hc PP_lt)]; exact hc, by rw [n3_l3 ha hb hc]; exact h⟩
theorem eta3 (t : Go.Wei.F3 Go.Wei.PP) : (t.1, t.2.1, t.2.2) = t := rfl
theorem wt_rep {s t : Go.Wei.F3 Go.Wei.PP} (P Q : GP) (hs : Go.Wei.RepH s P.1) (ht : Go.Wei.RepH t Q.1) : Go.Wei.RepH (Go.Wei.wt (fP Go.Wei.BB) s t) (Go.Wei.Cv.add P Q).1 :=
  Go.Wei.wt_ok Go.Wei.fldP Go.Wei.no2P (P := P.1) (Q := Q.1) P.2 Q.2 hs ht (Go.Wei.Cv.is P Q)
theorem rep_with {p q : L4} {P Q : GP} (hp : RepP p P) (hq : RepP q Q) : RepP (wtL p q) (Go.Wei.Cv.add P Q) := by
  refine rep_l3 (by unfold wtA outX; exact lt_sub _ _) (by unfold wtA outY; exact lt_add _ _) (by unfold wtA outZ; exact lt_add _ _) ?_
  rw [wtX, wtY, wtZ, eta3]
  exact wt_rep P Q hp.rep hq.rep
abbrev z4 : L4 := zd 4 0
def zero12 : L4 := l3 0 1 0
theorem one_ne : (1 : Fin Go.Wei.PP) ≠ 0 := fun h => by
  have := congrArg Fin.val h
  rw [Go.Wei.fin_zero] at this
  exact absurd this (by decide)
theorem rep_zero : RepP zero12 Go.Wei.Cv.zero := rep_l3 (by decide) (by decide) (by decide) ⟨rfl, rfl, one_ne⟩
def rowF (p : L4) : Nat → L4
  | 0 => zero12
  | i + 1 => wtL (rowF p i) p
def dblF (o : L4) : Nat → L4
  | 0 => o
  | j + 1 => wtL (dblF o j) (dblF o j)
theorem rep_row {p : L4} {P : GP} (h : RepP p P) : ∀ i, RepP (rowF p i) (Go.Wei.Cv.mul i P)
  | 0 => rep_zero
  | i + 1 => rep_with (rep_row h i) h
theorem rep_dbl {o : L4} {P : GP} (h : RepP o P) : ∀ j, RepP (dblF o j) (Go.Wei.Cv.mul (2 ^ j) P)
  | 0 => by rw [ZV, Go.Wei.Cv.mul_one]; exact h
  | j + 1 => by
    rw [Zh, Zf, Kn, Go.Wei.Cv.mul_add]
    exact rep_with (rep_dbl h j) (rep_dbl h j)
def nib (k i : Nat) : Nat := k / 16 ^ i % 16
def tmF (p : L4) (k : Nat) : Nat → L4
  | 0 => zero12
  | j + 1 => wtL (dblF (tmF p k j) 4) (rowF p (nib k (63 - j)))
theorem tmF_len (p : L4) (k : Nat) : ∀ j, (tmF p k j).length = 12
  | 0 => l3_len _ _ _
  | i + 1 => wtL_len _ _
theorem nibs_step (k i : Nat) : k / 16 ^ i = 16 * (k / 16 ^ (i + 1)) + nib k i := by
  rw [nib, Zh, ← Nat.div_div_eq_div_mul]
  exact (YH _ _).symm
theorem rep_tm {p : L4} {P : GP} {k : Nat} (h : RepP p P) (hk : k < W256) : ∀ j, j ≤ 64 → RepP (tmF p k j) (Go.Wei.Cv.mul (k / 16 ^ (64 - j)) P)
  | 0, _ => by
    rw [Nat.div_eq_of_lt (show k < 16 ^ (64 - 0) from hk)]
    exact rep_zero
  | j + 1, hj => by
    have ih := rep_tm h hk j (by omega)
    have e : 64 - j = 63 - j + 1 := by omega
    rw [show 64 - (j + 1) = 63 - j by omega, nibs_step, Go.Wei.Cv.mul_add, Zf, Zf _ 16, Go.Wei.Cv.mul_mul, ← e]
    exact rep_with (rep_dbl ih 4) (rep_row h _)
theorem rep_times {p : L4} {P : GP} {k : Nat} (h : RepP p P) (hk : k < W256) : RepP (tmF p k 64) (Go.Wei.Cv.mul k P) := by
  have := rep_tm h hk 64 (Nat.le_refl _)
  rwa [Nat.sub_self, ZV, Nat.div_one] at this
abbrev PZ := Bool × L4 × L4
def outP : Go.Wei.Pt Go.Wei.PP → PZ
  | .O => (true, z4, z4)
  | .A x y => (false, nd x.val, nd y.val)
def zeroP : PZ := (true, z4, z4)
def inP (z : Bool) (x y : L4) : Go.Wei.Pt Go.Wei.PP := bif z then .O else .A (fP (nv x)) (fP (nv y))
theorem nd_inj {a b : Nat} (ha : a < W256) (hb : b < W256) (h : nd a = nd b) : a = b := by
  rw [← Z6 ha, h, Z6 hb]
theorem on_in {z : Bool} {x y : L4} (h : onN z x y = true) : Go.Wei.On cvP.a cvP.b cvP.c (inP z x y) := by
  cases z with
  | true => exact trivial
  | false =>
    simp only [onN, Zc, zJ, decide_eq_true_eq] at h
    have e := nd_inj (z6 (lt_mul _ _) PP_lt) (z6 (lt_add _ _) PP_lt) (eq_of_beq h.2)
    have e2 := congrArg fP e
    rw [f_mul, f_add, f_sub, f_mul, f_mul, f_th, bN_BB] at e2
    show fP (nv y) * fP (nv y) = _
    rw [e2]
    show _ = fP (nv x) * fP (nv x) * fP (nv x) + 0 * fP (nv x) * fP (nv x) + Go.Wei.m3 * fP (nv x) + fP Go.Wei.BB
    rw [Go.Wei.th, Go.Wei.m3]
    generalize fP (nv x) = a
    generalize fP Go.Wei.BB = b
    clear h e e2
    grind -lia
theorem out_in {z : Bool} {x y : L4} (hx : x.length = 4) (hy : y.length = 4) (h : onN z x y = true) : outP (inP z x y) = (z, x, y) := by
  cases z with
  | true =>
    simp only [onN, ZF, zJ] at h
    rw [eq_of_beq h.1, eq_of_beq h.2]
    rfl
  | false =>
    simp only [onN, Zc, zJ, decide_eq_true_eq] at h
    show (false, nd (nv x % Go.Wei.PP), nd (nv y % Go.Wei.PP)) = _
    rw [zQ (show nv x < Go.Wei.PP from h.1.1), zQ (show nv y < Go.Wei.PP from h.1.2), ← XH hx rfl, ← XH hy rfl]
theorem on_out {P : Go.Wei.Pt Go.Wei.PP} (h : Go.Wei.On cvP.a cvP.b cvP.c P) : onN (outP P).1 (outP P).2.1 (outP P).2.2 = true := by
  cases P with
  | O => rfl
  | A x y =>
    show (decide (nv (nd x.val) < mF 2) && decide (nv (nd y.val) < mF 2) && nd (zo 2 (nv (nd y.val)) (nv (nd y.val))) == nd (z5 2 (zZ 2 (zo 2 (zo 2 (nv (nd x.val)) (nv (nd x.val))) (nv (nd x.val))) (thN (nv (nd x.val)))) bN)) = true
    rw [Z6 (z6 x.isLt PP_lt), Z6 (z6 y.isLt PP_lt)]
    have e : zo 2 y.val y.val = z5 2 (zZ 2 (zo 2 (zo 2 x.val x.val) x.val) (thN x.val)) bN := by
      refine Go.Wei.fn_inj (lt_mul _ _) (lt_add _ _) ?_
      show fP _ = fP _
      rw [f_mul, f_add, f_sub, f_mul, f_mul, f_th, bN_BB, fP, fP, Go.Wei.fn_of, Go.Wei.fn_of]
      have h : y*y = x*x*x + 0*x*x + Go.Wei.m3*x + fP Go.Wei.BB := h
      rw [h, Go.Wei.th, Go.Wei.m3]
      generalize fP Go.Wei.BB = b
      clear h
      grind -lia
    rw [e]
    have hx : x.val < mF 2 := x.isLt
    have hy : y.val < mF 2 := y.isLt
    rw [decide_eq_true hx, decide_eq_true hy, beq_self_eq_true]
    rfl
theorem in_out (P : Go.Wei.Pt Go.Wei.PP) : inP (outP P).1 (outP P).2.1 (outP P).2.2 = P := by
  cases P with
  | O => rfl
  | A x y =>
    show Go.Wei.Pt.A (fP (nv (nd x.val))) (fP (nv (nd y.val))) = _
    rw [Z6 (z6 x.isLt PP_lt), Z6 (z6 y.isLt PP_lt), fP, fP, Go.Wei.fn_of, Go.Wei.fn_of]
theorem out_len (P : Go.Wei.Pt Go.Wei.PP) : (outP P).2.1.length = 4 ∧ (outP P).2.2.length = 4 := by
  cases P with
  | O => exact ⟨rfl, rfl⟩
  | A x y => exact ⟨ndl _, ndl _⟩
noncomputable def gO (p : PZ) : GP := if h : onN p.1 p.2.1 p.2.2 = true then ⟨inP p.1 p.2.1 p.2.2, on_in h⟩ else Go.Wei.Cv.zero
theorem gO_in {p : PZ} (h : onN p.1 p.2.1 p.2.2 = true) : (gO p).1 = inP p.1 p.2.1 p.2.2 := by
  unfold gO
  exact congrArg Subtype.val (dif_pos h)
theorem gO_out (P : GP) : gO (outP P.1) = P := Subtype.ext ((gO_in (on_out P.2)).trans (in_out P.1))
abbrev onP (p : PZ) : Bool := onN p.1 p.2.1 p.2.2
theorem onP_out (P : GP) : onP (outP P.1) = true := on_out P.2
theorem out_gO {p : PZ} (hx : p.2.1.length = 4) (hy : p.2.2.length = 4) (h : onP p = true) : outP (gO p).1 = p := by rw [gO_in h]; exact out_in hx hy h
noncomputable def mulP (k : Nat) (p : PZ) : PZ := bif onP p then outP (Go.Wei.Cv.mul k (gO p)).1 else zeroP
theorem mulP_out (k : Nat) (P : GP) : mulP k (outP P.1) = outP (Go.Wei.Cv.mul k P).1 := by rw [mulP, onP_out, gO_out]; rfl
theorem mulP_len (k : Nat) (p : PZ) : (mulP k p).2.1.length = 4 ∧ (mulP k p).2.2.length = 4 := by
  unfold mulP
  cases onP p with
  | true => exact out_len _
  | false => exact ⟨rfl, rfl⟩
theorem rep_of {z : Bool} {x y : L4} (hx : x.length = 4) (hy : y.length = 4) (h : onN z x y = true) : RepP (oX z x ++ (oY z y ++ oZ z)) (gO (z, x, y)) := by
  have hg := gO_in (p := (z, x, y)) h
  cases z with
  | true =>
    have : gO (true, x, y) = Go.Wei.Cv.zero := Subtype.ext hg
    rw [this]
    exact rep_zero
  | false =>
    have h0 := h
    simp only [onN, Zc, zJ, decide_eq_true_eq] at h
    have e : oX false x ++ (oY false y ++ oZ false) = l3 (nv x) (nv y) 1 := by
      rw [l3, ← XH hx rfl, ← XH hy rfl]
      rfl
    rw [e]
    refine rep_l3 h.1.1 h.1.2 (by decide) ?_
    rw [hg]
    refine ⟨one_ne, ?_, ?_⟩
    · show fP (nv x) = fP (nv x) * fP 1
      rw [fP, fP, Go.Wei.fn_one]
      grind -lia
    · show fP (nv y) = fP (nv y) * fP 1
      rw [fP, fP, Go.Wei.fn_one]
      grind -lia
theorem nv_zero4 {z : L4} (hz : z.length = 4) : (z == zd 4 0) = decide (nv z = 0) := by
  by_cases h : nv z = 0
  · rw [decide_eq_true h, XH hz h]; rfl
  · rw [decide_eq_false h]
    exact beq_false_of_ne fun g => h (by rw [g]; rfl)
theorem iv_1 {c : Nat} (h : fP c ≠ 0) : fP c * fP (ivN c) = 1 := by
  have hv : c % mF 2 ≠ 0 := fun g => h (Fin.ext (g.trans Go.Wei.fin_zero.symm))
  have e : zo 2 c (ivN c) = 1 := by
    rw [ivN, zo, zK, XJ, Zf, ← Zh]
    have := Go.Wei.lucP.2 c hv
    rw [show (mF 2 - 2).succ = Go.Wei.PP - 1 by decide]
    exact this
  rw [← f_mul, e]
  exact Go.Wei.fn_one
theorem back_ok {l : L4} {P : GP} (h : RepP l P) : (bZ (l.drop 8), bX (l.take 4) (l.drop 8), bX ((l.drop 4).take 4) (l.drop 8)) = outP P.1 := by
  have hl : (l.drop 8).length = 4 := by rw [List.length_drop, h.len]
  have hr := h.rep
  have h3 := h.lt3
  simp only [bZ, bX, nv_zero4 hl]
  rw [n3] at hr
  generalize nv (l.drop 8) = c at *
  generalize nv (l.take 4) = a at *
  generalize nv ((l.drop 4).take 4) = b at *
  cases hP : P.1 with
  | O =>
    rw [hP] at hr
    have hc : c = 0 := by
      have := congrArg Fin.val hr.2.1
      rw [Go.Wei.fin_zero] at this
      exact (zQ h3).symm.trans this
    rw [decide_eq_true hc]
    rfl
  | A x y =>
    rw [hP] at hr
    obtain ⟨hz, hx, hy⟩ := hr
    have hc : c ≠ 0 := fun g => hz (by rw [g]; rfl)
    rw [decide_eq_false hc]
    have i1 := iv_1 hz
    have e1 : zo 2 a (ivN c) = x.val := by
      refine Go.Wei.fn_inj (lt_mul _ _) x.isLt ?_
      show fP _ = fP _
      rw [f_mul, hx, show fP x.val = x from Go.Wei.fn_of x]
      generalize fP (ivN c) = i at *
      generalize fP c = d at *
      clear hx hy
      grind -lia
    have e2 : zo 2 b (ivN c) = y.val := by
      refine Go.Wei.fn_inj (lt_mul _ _) y.isLt ?_
      show fP _ = fP _
      rw [f_mul, hy, show fP y.val = y from Go.Wei.fn_of y]
      generalize fP (ivN c) = i at *
      generalize fP c = d at *
      clear hx hy e1
      grind -lia
    rw [e1, e2]
    rfl
end Go.Proofs.YtpfhmbbiadpbeaaGreat
