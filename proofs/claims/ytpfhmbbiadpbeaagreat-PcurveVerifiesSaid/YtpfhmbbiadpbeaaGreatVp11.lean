import Derived.Test.YtpfhmbbiadpbeaaGreatVp7
import Derived.Test.YtpfhmbbiadpbeaaGreatVp10
import Derived.Test.YtpfhmbbiadpbeaaGreatVp1
open Go.Dbr renaming u64s_lenh → za, then_normal → ze, u64s → zg, region_from → zj, load_whole → zn, len_app → zp, u64s_one → zq, run_indexarr → zs, block_normal → zw, run_indexsl → zy, then_exit → zF, d_cell1 → zU, m_gw → zW, block_exit → zX, then_ret → z9, run_loadAgg2 → Za, one_app → Zd, bys_lenh → Zi, m_aw → Zn, run_load1 → Zt, op_append → ZA, bys_one → ZG, d_ret1 → ZH, u64s_eqop → ZI, bys_append → ZM, loop_m → ZT, op_slicearr → ZU, bys_getD → Z0, bys_len → Z9, h_from → Qd, draw_any → QR, bys_lenn → Q7, bys_vnz → Yk, op_lit → Yn, u64s_neop → Yx, h_ways → YB, h_to → YK, bys_set → YO, some_of → Y0, op_loadel → Jn, seg_in → J4
open List renaming getD → zb, toArray → zc, replicate → zd, length → zf, length_replicate → zh, reverse → zr, set → zt, drop_append → zu, take_append → zv, take_of_length_le → zx, take → zD, getD_eq_getElem?_getD → zT, getElem?_eq_getElem → z3, length_take → Zg, getElem?_eq_none → ZR, length_reverse → X5
open Go.Proofs.YtpfhmbbiadpbeaaGreat renaming nds_len → zl, mulM → zo, powM → zK, mulP → zV, mulP_len → Zk, ofJ_len → ZZ, nv_nd → Z6, of12 → Qe, mnF_len → QL, lb_len → Yv, tmF_len → XC, pbase_go → Kw
open Go.Proofs.Tryz renaming prog → zB
open Go.Dbr.Ev renaming cellAgg → zC, drew → zN
open Nat renaming mul_one → zI, mod_eq_of_lt → zQ
open Bool renaming eq_false_or_eq_true → zM, eq_false_iff → ZB, true_and → Q9, false_and → Yc
open Go.Dbr.Reads renaming src → Zz
open UInt8 renaming toNat → QN
set_option maxRecDepth 100000
set_option maxHeartbeats 2000000
set_option linter.unusedVariables false
set_option linter.unusedSimpArgs false
namespace Go.Dbr
open Go Go.RowKit
section
variable {P : Program}
theorem run_toarr2 {t e : TypeId} {m : Nat} {ao : Option Addr} {ad : Addr} {p c : Nat} (hu : P.underlying t = some (.array m e)) (ha : ao = some ad) (h : m ≤ p) (w : World) : (Instr.arrayAt t (.slice ao p c)).run P w = .ok (.pointer (some ad)) w := by
  subst ha
  exact run_toarr hu h w
theorem add0 (ad : Addr) : ad = ad.add 0 := by
  unfold Addr.add
  rw [if_pos rfl]
theorem bys_pre {l : List UInt8} {m : Nat} : ∀ j, j < m → (bys l)[0 + j]? = (bys (zD m l))[j]? := fun j hj => by
  rw [bys_take, List.getElem?_take, if_pos hj, Nat.zero_add]
theorem bys_prel {l : List UInt8} {m : Nat} (h : m ≤ l.length) : (bys (zD m l)).length = m := by
  rw [bys_length, Zg]
  omega
variable {w : World}
theorem fs_at {t e : TypeId} (h : IsPnt P t e) (i : Nat) {f : Field} (hf : [fl P t 0, fl P t 1, fl P t 2][i]? = some f) : (P.fieldsOf t)[i]? = some f := by
  rw [← h.fs] at hf
  simpa using hf
theorem pnt_field1 {t e : TypeId} (h : IsPnt P t e) {z : Bool} {x y : List UInt64} (hx : x.length = 4) (_hy : y.length = 4) (w : World) : (Instr.field t (.agg (pnt z x y).toArray) 1).run P w = .ok (.agg (zg x).toArray) w := by
  have ho := h.o
  simp only [List.cons.injEq, and_true] at ho
  have lx := u64s_length x
  rw [hx] at lx
  have hp : (part (fl P t 1).type (pnt z x y).toArray (fl P t 1).offset).run P w = .ok (.agg (zg x).toArray) w := by
    rw [ho.2.1]
    exact part_seg h.ax h.sx (by simp only [pnt, List.drop_succ_cons, List.drop_zero]; rw [← lx, List.take_left])
  unfold Instr.field
  simp only [Sem.run_bind, run_underlying h.un, Result.andThen_ok, fs_at h 1 rfl]
  exact hp
end
end Go.Dbr
namespace Go.Proofs.YtpfhmbbiadpbeaaGreat
open Go.Dbr
theorem getD8_eq {u : List UInt8} {i : Nat} (x : UInt8) (h : i < u.length) : zb (zt u i x) i 0 = x := by
  rw [zT, List.getElem?_set_self h]; rfl
theorem getD8_other {u : List UInt8} {i j : Nat} (x : UInt8) (h : i ≠ j) : zb (zt u i x) j 0 = zb u j 0 := by
  rw [zT, List.getElem?_set_ne h]; rfl
theorem rev_of {b x : List UInt8} (hb : b.length = 32) (hx : x.length = 32) (h : ∀ j, j < 32 → zb x j 0 = zb b (31 - j) 0) : x = b.reverse := by
  refine List.ext_getElem (by simp [hb, hx]) fun j h1 h2 => ?_
  have e := h j (by omega)
  rw [zT, z3 h1, zT, z3 (by omega)] at e
  rw [List.getElem_reverse]
  have e2 : b.length - 1 - j = 31 - j := by omega
  simp only [e2]
  exact e
theorem turn_in {b x : List UInt8} {i : Nat} (hx : x.length = 32) (hi : i < 32) (h : ∀ j, j < i → zb x j 0 = zb b (31 - j) 0) : ∀ j, j < i + 1 → zb (zt x i (zb b (31 - i) 0)) j 0 = zb b (31 - j) 0 := fun j hj => by
  by_cases e : i = j
  · subst e; exact getD8_eq _ (by omega)
  · rw [getD8_other _ e, h j (by omega)]
def Swp (b x : List UInt8) (i : Nat) : Prop := ∀ j, j < 32 → zb x j 0 = if j < i ∨ 32 ≤ i + j then zb b (31 - j) 0 else zb b j 0
theorem Swp.zero {b : List UInt8} : Swp b b 0 := fun j hj => by rw [if_neg (by omega)]
theorem Swp.all {b x : List UInt8} {i : Nat} (hb : b.length = 32) (hx : x.length = 32) (hi : i = 16) (h : Swp b x i) : x = b.reverse := rev_of hb hx fun j hj => by
  rw [h j hj, if_pos (by omega)]
theorem swp_in {b x : List UInt8} {i : Nat} (hx : x.length = 32) (hi : i < 16) (h : Swp b x i) : Swp b (zt (zt x i (zb x (31 - i) 0)) (31 - i) (zb x i 0)) (i + 1) := fun j hj => by
  by_cases e1 : 31 - i = j
  · subst e1
    rw [getD8_eq _ (by simp; omega), h i (by omega), if_neg (by omega), if_pos (by omega)]
    congr 1; omega
  · rw [getD8_other _ e1]
    by_cases e2 : i = j
    · subst e2
      rw [getD8_eq _ (by omega), h (31 - i) (by omega), if_neg (by omega), if_pos (by omega)]
    · rw [getD8_other _ e2, h j hj]
      by_cases c : j < i ∨ 32 ≤ i + j
      · rw [if_pos c, if_pos (by omega)]
      · rw [if_neg c, if_neg (by omega)]
theorem rev_len {b : List UInt8} {n : Nat} (h : b.length = n) : b.reverse.length = n := by rw [X5, h]
theorem rturned_go (w : World) (b : List UInt8) (hb : zf b = 32) : Calls zB 65 #[.agg (zc (bys b))] w fun e w' => e = .returned (.agg (zc (bys (zr b)))) ∧ Ev w [] w' [] := by
 refine d_0 [(0, .agg (zc (bys b)))] 16 Tryz.func65 Tryz.ntmps65 (Heap.nil _) fun Ez EA EB => wp_seq <| zj <| f_o <| m_m 56 (bys b) EA EB fun _ _ Ed EC ED => f_o <| m_z 56 (bys (zd 32 0)) EC ED fun _ _ Ef EE Eg => f_e <| ze <| wp_seq <| zj <| f_o <| m_z 56 (bys (zd 32 0)) EE Eg fun _ _ Ea Eh Ei => f_e <| ze <| wp_seq <| d_s [1,2,3,4] [] Eh fun _ Ej => ?_
 refine wp_block <| ZT (fun Ek ac wo => ∃ (i : Nat) (x : List UInt8), Ek = (33 - i : Nat) ∧ Env ac 16 [(1, pt Ed), (2, pt Ef), (3, pt Ea), (4, ni i)] ∧ Ev w [] wo [.box Ea (bys x) 56, .box Ed (bys b) 56, .box Ef (bys (zd 32 0)) 56] ∧ (i ≤ 32) ∧ (zf x = 32) ∧ (∀ j, j < i → zb x j 0 = zb b (31 - j) 0)) ⟨_, 0, zd 32 0, rfl, Ej.sb, Ei.pk [2, 0, 1], by omega, zh, fun j hj => by omega⟩ ?_
 rintro EF _ _ ⟨i, x, rfl, El, Eb, hi, hx, hp⟩
 refine wp_seq <| d_s [1,2,3,4,6] [] El fun _ Ec => ?_
 refine c_d (((i : Nat) : Int) < (32 : Int)) Ec (fun Em => ?_) (fun Em => ?_)
 ·
  refine wp_skip <| ze <| wp_seq <| wp_block <| zj <| d_k [1,2,3,4,9,11] [(2, g_n (w_r (e := (31 : Int) - ((i : Nat) : Int)) (x := ((31 - i : Nat) : Int)) (by omega)))] 3 Ec fun _ En => f_o <| q_v (x := Instr.indexAt 56 (pt Ed) (ni (31 - i))) (v := .pointer (some ⟨Ed, 31 - i, none⟩)) En (zs (e := 5) (sz := 1) (m := 32) (j := 31 - i) (o := 31 - i) (by kernel_rfl) (by kernel_rfl) (by omega) (by omega) (by omega) _) fun _ Eo => f_o ?_
  have Ep : 31 - i < zf b := by rw [hb]; omega
  refine m_v 1 (31 - i) (bv (zb b (31 - i) 0)) Eo Eb rfl (Z0 Ep) fun _ Eq => f_o <| q_v (x := Instr.indexAt 56 (pt Ea) (ni i)) (v := .pointer (some ⟨Ea, i, none⟩)) Eq (zs (e := 5) (sz := 1) (m := 32) (j := i) (o := i) (by kernel_rfl) (by kernel_rfl) (by omega) (by omega) (by omega) _) fun _ Er => f_o ?_
  have Es : i < zf x := by rw [hx]; omega
  refine m_t 0 i (bv (zb b (31 - i) 0)) _ Er Eb rfl (Z0 Es) (YO _ _ _) rfl fun _ _ Et Eu => f_e <| zw <| ze <| d_r [1,2,3,4] [(1, g_n (w_a i 1))] Et fun _ Ew => ze <| ⟨_, ⟨i + 1, (zt x i (zb b (31 - i) 0)), rfl, Ew.sb, Eu.pk [0, 1, 2], by omega, (List.length_set.trans hx), turn_in hx (by omega) hp⟩, ?_⟩
  omega
 refine wp_exit <| zF <| zF <| zX <| ze <| wp_seq <| zj <| f_o <| Zn 0 32 (bys x) Ec Eb rfl (Zi hx) fun _ Ex => f_o <| zW 2 32 (bys x) [.box Ea (bys x) 56, .box Ed (bys b) 56, .box Ef (bys x) 56] Ex Eb rfl (Zi hx) (Zi (zh)) (ZG _) rfl fun _ _ Ey Ee => f_e <| ze <| wp_ret <| zU (v := .agg (zc (bys x))) (t := 2) (T := 56) (ad := ⟨Ef, 0, none⟩) Ey (by kernel_rfl) (by kernel_rfl) (zC (t := 56) (k := 2) (off := 0) (m := 32) (xs := bys x) Ee rfl (zn (Zi hx)) (Zi hx) (by kernel_rfl) (by kernel_rfl)) ?_
 have hxe : x = b.reverse := rev_of hb hx fun j hj => hp j (by omega)
 exact ⟨congrArg (fun l : List UInt8 => Ending.returned (Value.agg (bys l).toArray)) hxe, Ee.pk []⟩
theorem frombe_go (w : World) (b : List UInt8) (hb : zf b = 32) : Calls zB 52 #[.agg (zc (bys b))] w fun e w' => e = .returned (.agg (zc (zg (nd (lv (zr b)))))) ∧ Ev w [] w' [] := by
 refine d_0 [(0, .agg (zc (bys b)))] 22 Tryz.func52 Tryz.ntmps52 (Heap.nil _) fun EK EL EM => wp_seq <| zj <| f_o <| m_m 56 (bys b) EL EM fun _ _ Eb EN EO => f_o <| m_z 24 (zg (zd 4 0)) EN EO fun _ _ Ef EP EE => f_e <| ze <| wp_seq <| wp_seq <| d_r [1,2,4] [] EP fun _ EF => ?_
 refine ze <| wp_block <| ZT (fun EG ac wo => ∃ (i : Nat) (x : List UInt8), EG = (17 - i : Nat) ∧ Env ac 22 [(1, pt Eb), (2, pt Ef), (4, ni i)] ∧ Ev w [] wo [.box Eb (bys x) 56, .box Ef (zg (zd 4 0)) 24] ∧ (i ≤ 16) ∧ (zf x = 32) ∧ (Swp b x i)) ⟨_, 0, b, rfl, EF.sb, EE.pk [0, 1], by omega, hb, Swp.zero⟩ ?_
 rintro EQ _ _ ⟨i, x, rfl, EH, Ec, hi, hx, hp⟩
 refine wp_seq <| d_r [1,2,4,5] [] EH fun _ Ee => ?_
 refine ze <| wp_seq <| c_d (((i : Nat) : Int) < (16 : Int)) Ee (fun EI => ?_) (fun EI => ?_)
 ·
  refine wp_skip <| ze <| wp_seq <| wp_block <| wp_seq <| d_r [1,2,3,4] [] Ee fun _ EJ => ?_
  refine ze <| r_c (fun ac wo => Env ac 22 [(1, pt Eb), (2, pt Ef), (4, ni i)] ∧ Ev w [] wo [.box Eb (bys (zt (zt x i (zb x (31 - i) 0)) (31 - i) (zb x i 0))) 56, .box Ef (zg (zd 4 0)) 24]) ?_ ?_
  ·
   refine h_s (fun wv => Ev w [] wv [.box Eb (bys x) 56]) [11] 14 ?_
   have Ea := Ec.trans (zN Ec.heap)
   refine q_s [0,1,2,3,4] [(2, g_n (w_r (e := (31 : Int) - ((i : Nat) : Int)) (x := ((31 - i : Nat) : Int)) (by omega))), (4, g_n (w_r (e := (31 : Int) - ((i : Nat) : Int)) (x := ((31 - i : Nat) : Int)) (by omega)))] 9 EJ (Ea.pk [0]) fun _ Eg => q_f 5 (s := Instr.indexAt 56 (pt Eb) (ni (31 - i))) (v := .pointer (some ⟨Eb, 31 - i, none⟩)) Eg (fun _ => zs (e := 5) (sz := 1) (m := 32) (j := 31 - i) (o := 31 - i) (by kernel_rfl) (by kernel_rfl) (by omega) (by omega) (by omega) _) (fun _ => Ea.pk [0]) fun _ Eh => ?_
   have Ei : 31 - i < zf x := by rw [hx]; omega
   refine q_r 6 (s := Instr.loadAt 5 (.pointer (some ⟨Eb, 31 - i, none⟩))) (v := bv (zb x (31 - i) 0)) Eh (fun w hS => Zt (by kernel_rfl) (hS.heap.cell (k := 0) rfl (Z0 Ei))) (Ea.pk [0]) fun _ Ej => q_s [7] [] 6 Ej (Ea.pk [0]) fun _ Ek => q_f 8 (s := Instr.indexAt 56 (pt Eb) (ni i)) (v := .pointer (some ⟨Eb, i, none⟩)) Ek (fun _ => zs (e := 5) (sz := 1) (m := 32) (j := i) (o := i) (by kernel_rfl) (by kernel_rfl) (by omega) (by omega) (by omega) _) (fun _ => Ea.pk [0]) fun _ El => ?_
   have Em : i < zf x := by rw [hx]; omega
   refine q_r 9 (s := Instr.loadAt 5 (.pointer (some ⟨Eb, i, none⟩))) (v := bv (zb x i 0)) El (fun w hS => Zt (by kernel_rfl) (hS.heap.cell (k := 0) rfl (Z0 Em))) (Ea.pk [0]) fun _ En => q_f 10 (s := Instr.indexAt 56 (pt Eb) (ni i)) (v := .pointer (some ⟨Eb, i, none⟩)) En (fun _ => zs (e := 5) (sz := 1) (m := 32) (j := i) (o := i) (by kernel_rfl) (by kernel_rfl) (by omega) (by omega) (by omega) _) (fun _ => Ea.pk [0]) fun _ Eo => q_t 11 ?_
   have Ep : i < zf x := by rw [hx]; omega
   refine m_t 0 i (bv (zb x (31 - i) 0)) _ Eo Ea rfl (Z0 Ep) (YO _ _ _) rfl fun _ _ Eq Er => ⟨q_y, ?_⟩
   refine q_f 12 (s := Instr.indexAt 56 (pt Eb) (ni (31 - i))) (v := .pointer (some ⟨Eb, 31 - i, none⟩)) Eq (fun _ => zs (e := 5) (sz := 1) (m := 32) (j := 31 - i) (o := 31 - i) (by kernel_rfl) (by kernel_rfl) (by omega) (by omega) (by omega) _) q_y fun _ Es => q_t 13 ?_
   have Et : 31 - i < zf (zt x i (zb x (31 - i) 0)) := by rw [(List.length_set.trans hx)]; omega
   refine m_t 0 (31 - i) (bv (zb x i 0)) [.box Eb (bys (zt (zt x i (zb x (31 - i) 0)) (31 - i) (zb x i 0))) 56, .box Ef (zg (zd 4 0)) 24] Es Er rfl (Z0 Et) (YO _ _ _) rfl fun _ _ Eu Ew => ⟨q_y, ?_⟩
   exact h_e ⟨Eu.sb, Ew.pk [0, 1]⟩
  rintro _ _ ⟨Ex, Ey⟩
  refine zw <| ze <| d_r [1,2,4] [(0, g_n (w_a i 1))] Ex fun _ Ez => ze <| ⟨_, ⟨i + 1, (zt (zt x i (zb x (31 - i) 0)) (31 - i) (zb x i 0)), rfl, Ez.sb, Ey.pk [0, 1], by omega, (by simp [hx]), swp_in hx (by omega) hp⟩, ?_⟩
  omega
 refine wp_exit <| zF <| zF <| zX <| ze <| wp_seq ?_
 have hxe := Swp.all hb hx (by omega) hp
 rw [hxe] at Ec
 refine zj <| f_o <| Zn 0 32 (bys (zr b)) Ee Ec rfl (Zi (rev_len hb)) fun _ EA => f_o <| c_p EA Ec (fromle_go _ (zr b) (rev_len hb)) fun _ _ EB EC => f_o <| zW 1 4 (zg (nd (lv (zr b)))) _ EB EC rfl (za (zl _ _)) (za (zh)) (zq _) rfl fun _ _ ED Ed => f_e <| ze <| wp_ret <| zU (v := .agg (zc (zg (nd (lv (zr b)))))) (t := 2) (T := 24) (ad := ⟨Ef, 0, none⟩) ED (by kernel_rfl) (by kernel_rfl) (zC (t := 24) (k := 1) (off := 0) (m := 4) (xs := zg (nd (lv (zr b)))) Ed rfl (zn (za (zl _ _))) (za (zl _ _)) (by kernel_rfl) (by kernel_rfl)) ?_
 exact ⟨rfl, Ed.pk []⟩
theorem tobe_go (w : World) (a : List UInt64) (ha : zf a = 4) : Calls zB 36 #[.agg (zc (zg a))] w fun e w' => e = .returned (.agg (zc (bys (zr (lb 32 (nv a)))))) ∧ Ev w [] w' [] := by
 refine d_0 [(0, .agg (zc (zg a)))] 24 Tryz.func36 Tryz.ntmps36 (Heap.nil _) fun EP EQ ER => wp_seq <| zj <| f_o <| m_m 24 (zg a) EQ ER fun _ _ EW ES ET => f_o <| m_z 56 (bys (zd 32 0)) ES ET fun _ _ Ee EU Eg => f_e <| ze <| wp_seq <| zj <| f_o <| Zn 0 4 (zg a) EU Eg rfl (za ha) fun _ ED => f_o <| c_p ED Eg (tole_go _ a ha) fun _ _ EE EF => f_o <| m_z 56 (bys (zd 32 0)) EE EF fun _ _ Ea EG EH => ?_
 refine f_o <| zW 2 32 (bys (lb 32 (nv a))) _ EG EH rfl (Zi (Yv _ _)) (Zi (zh)) (ZG _) rfl fun _ _ EI EJ => f_e <| ze <| wp_seq <| wp_seq <| d_r [2,3,7] [] EI fun _ EK => ?_
 refine ze <| wp_block <| ZT (fun EL ac wo => ∃ (i : Nat) (x : List UInt8), EL = (17 - i : Nat) ∧ Env ac 24 [(2, pt Ee), (3, pt Ea), (7, ni i)] ∧ Ev w [] wo [.box Ea (bys x) 56, .box Ee (bys (zd 32 0)) 56] ∧ (i ≤ 16) ∧ (zf x = 32) ∧ (Swp (lb 32 (nv a)) x i)) ⟨_, 0, (lb 32 (nv a)), rfl, EK.sb, EJ.pk [2, 1], by omega, (Yv _ _), Swp.zero⟩ ?_
 rintro EV _ _ ⟨i, x, rfl, EM, Ec, hi, hx, hp⟩
 refine wp_seq <| d_r [2,3,7,8] [] EM fun _ Ef => ?_
 refine ze <| wp_seq <| c_d (((i : Nat) : Int) < (16 : Int)) Ef (fun EN => ?_) (fun EN => ?_)
 ·
  refine wp_skip <| ze <| wp_seq <| wp_block <| wp_seq <| d_r [2,3,4,7] [] Ef fun _ EO => ?_
  refine ze <| r_c (fun ac wo => Env ac 24 [(2, pt Ee), (3, pt Ea), (7, ni i)] ∧ Ev w [] wo [.box Ea (bys (zt (zt x i (zb x (31 - i) 0)) (31 - i) (zb x i 0))) 56, .box Ee (bys (zd 32 0)) 56]) ?_ ?_
  ·
   refine h_s (fun wv => Ev w [] wv [.box Ea (bys x) 56]) [11] 14 ?_
   have Eb := Ec.trans (zN Ec.heap)
   refine q_s [0,1,2,3,4] [(2, g_n (w_r (e := (31 : Int) - ((i : Nat) : Int)) (x := ((31 - i : Nat) : Int)) (by omega))), (4, g_n (w_r (e := (31 : Int) - ((i : Nat) : Int)) (x := ((31 - i : Nat) : Int)) (by omega)))] 9 EO (Eb.pk [0]) fun _ Eh => q_f 5 (s := Instr.indexAt 56 (pt Ea) (ni (31 - i))) (v := .pointer (some ⟨Ea, 31 - i, none⟩)) Eh (fun _ => zs (e := 5) (sz := 1) (m := 32) (j := 31 - i) (o := 31 - i) (by kernel_rfl) (by kernel_rfl) (by omega) (by omega) (by omega) _) (fun _ => Eb.pk [0]) fun _ Ei => ?_
   have Ej : 31 - i < zf x := by rw [hx]; omega
   refine q_r 6 (s := Instr.loadAt 5 (.pointer (some ⟨Ea, 31 - i, none⟩))) (v := bv (zb x (31 - i) 0)) Ei (fun w hS => Zt (by kernel_rfl) (hS.heap.cell (k := 0) rfl (Z0 Ej))) (Eb.pk [0]) fun _ Ek => q_s [7] [] 6 Ek (Eb.pk [0]) fun _ El => q_f 8 (s := Instr.indexAt 56 (pt Ea) (ni i)) (v := .pointer (some ⟨Ea, i, none⟩)) El (fun _ => zs (e := 5) (sz := 1) (m := 32) (j := i) (o := i) (by kernel_rfl) (by kernel_rfl) (by omega) (by omega) (by omega) _) (fun _ => Eb.pk [0]) fun _ Em => ?_
   have En : i < zf x := by rw [hx]; omega
   refine q_r 9 (s := Instr.loadAt 5 (.pointer (some ⟨Ea, i, none⟩))) (v := bv (zb x i 0)) Em (fun w hS => Zt (by kernel_rfl) (hS.heap.cell (k := 0) rfl (Z0 En))) (Eb.pk [0]) fun _ Eo => q_f 10 (s := Instr.indexAt 56 (pt Ea) (ni i)) (v := .pointer (some ⟨Ea, i, none⟩)) Eo (fun _ => zs (e := 5) (sz := 1) (m := 32) (j := i) (o := i) (by kernel_rfl) (by kernel_rfl) (by omega) (by omega) (by omega) _) (fun _ => Eb.pk [0]) fun _ Ep => q_t 11 ?_
   have Eq : i < zf x := by rw [hx]; omega
   refine m_t 0 i (bv (zb x (31 - i) 0)) [.box Ea (bys (zt x i (zb x (31 - i) 0))) 56, .box Ee (bys (zd 32 0)) 56] Ep Eb rfl (Z0 Eq) (YO _ _ _) rfl fun _ _ Er Es => ⟨q_y, ?_⟩
   refine q_f 12 (s := Instr.indexAt 56 (pt Ea) (ni (31 - i))) (v := .pointer (some ⟨Ea, 31 - i, none⟩)) Er (fun _ => zs (e := 5) (sz := 1) (m := 32) (j := 31 - i) (o := 31 - i) (by kernel_rfl) (by kernel_rfl) (by omega) (by omega) (by omega) _) q_y fun _ Et => q_t 13 ?_
   have Eu : 31 - i < zf (zt x i (zb x (31 - i) 0)) := by rw [(List.length_set.trans hx)]; omega
   refine m_t 0 (31 - i) (bv (zb x i 0)) _ Et Es rfl (Z0 Eu) (YO _ _ _) rfl fun _ _ Ew Ex => ⟨q_y, ?_⟩
   exact h_e ⟨Ew.sb, Ex.pk [0, 1]⟩
  rintro _ _ ⟨Ey, Ez⟩
  refine zw <| ze <| d_r [2,3,7] [(0, g_n (w_a i 1))] Ey fun _ EA => ze <| ⟨_, ⟨i + 1, (zt (zt x i (zb x (31 - i) 0)) (31 - i) (zb x i 0)), rfl, EA.sb, Ez.pk [0, 1], by omega, (by simp [hx]), swp_in hx (by omega) hp⟩, ?_⟩
  omega
 refine wp_exit <| zF <| zF <| zX <| ze <| wp_seq ?_
 have hxe := Swp.all (Yv _ _) hx (by omega) hp
 rw [hxe] at Ec
 refine zj <| f_o <| Zn 0 32 (bys (zr (lb 32 (nv a)))) Ef Ec rfl (Zi (rev_len (Yv _ _))) fun _ EB => f_o <| zW 1 32 (bys (zr (lb 32 (nv a)))) [.box Ea (bys (zr (lb 32 (nv a)))) 56, .box Ee (bys (zr (lb 32 (nv a)))) 56] EB Ec rfl (Zi (rev_len (Yv _ _))) (Zi (zh)) (ZG _) rfl fun _ _ EC Ed => f_e <| ze <| wp_ret <| zU (v := .agg (zc (bys (zr (lb 32 (nv a)))))) (t := 2) (T := 56) (ad := ⟨Ee, 0, none⟩) EC (by kernel_rfl) (by kernel_rfl) (zC (t := 56) (k := 1) (off := 0) (m := 32) (xs := bys (zr (lb 32 (nv a)))) Ed rfl (zn (Zi (rev_len (Yv _ _)))) (Zi (rev_len (Yv _ _))) (by kernel_rfl) (by kernel_rfl)) ?_
 exact ⟨rfl, Ed.pk []⟩
theorem rfrombe_go (w : World) (b : List UInt8) (hb : zf b = 32) : Calls zB 33 #[.agg (zc (bys b))] w fun e w' => e = .returned (.agg (zc (zg (nd (lv (zr b)))))) ∧ Ev w [] w' [] := by
 refine d_0 [(0, .agg (zc (bys b)))] 6 Tryz.func33 Tryz.ntmps33 (Heap.nil _) fun Ei Ej Ek => wp_seq <| zj <| f_o <| m_m 56 (bys b) Ej Ek fun _ _ Ep El Em => f_o <| m_z 24 (zg (zd 4 0)) El Em fun _ _ En Eo Ea => f_e <| ze <| wp_seq <| zj <| f_o <| Zn 0 32 (bys b) Eo Ea rfl (Zi hb) fun _ Ec => f_o <| c_p Ec Ea (rturned_go _ b hb) fun _ _ Ed Ee => f_o <| c_p Ed Ee (rfromle_go _ (zr b) (rev_len hb)) fun _ _ Ef Eg => ?_
 refine f_o <| zW 1 4 (zg (nd (lv (zr b)))) _ Ef Eg rfl (za (zl _ _)) (za (zh)) (zq _) rfl fun _ _ Eh Eb => f_e <| ze <| wp_ret <| zU (v := .agg (zc (zg (nd (lv (zr b)))))) (t := 2) (T := 24) (ad := ⟨En, 0, none⟩) Eh (by kernel_rfl) (by kernel_rfl) (zC (t := 24) (k := 1) (off := 0) (m := 4) (xs := zg (nd (lv (zr b)))) Eb rfl (zn (za (zl _ _))) (za (zl _ _)) (by kernel_rfl) (by kernel_rfl)) ?_
 exact ⟨rfl, Eb.pk []⟩
theorem rtobe_go (w : World) (a : List UInt64) (ha : zf a = 4) : Calls zB 31 #[.agg (zc (zg a))] w fun e w' => e = .returned (.agg (zc (bys (zr (lb 32 (nv a)))))) ∧ Ev w [] w' [] := by
 refine d_0 [(0, .agg (zc (zg a)))] 6 Tryz.func31 Tryz.ntmps31 (Heap.nil _) fun Ei Ej Ek => wp_seq <| zj <| f_o <| m_m 24 (zg a) Ej Ek fun _ _ Ep El Em => f_o <| m_z 56 (bys (zd 32 0)) El Em fun _ _ En Eo Ea => f_e <| ze <| wp_seq <| zj <| f_o <| Zn 0 4 (zg a) Eo Ea rfl (za ha) fun _ Ec => f_o <| c_p Ec Ea (rtole_go _ a ha) fun _ _ Ed Ee => f_o <| c_p Ed Ee (rturned_go _ (lb 32 (nv a)) (Yv _ _)) fun _ _ Ef Eg => ?_
 refine f_o <| zW 1 32 (bys (zr (lb 32 (nv a)))) _ Ef Eg rfl (Zi (rev_len (Yv _ _))) (Zi (zh)) (ZG _) rfl fun _ _ Eh Eb => f_e <| ze <| wp_ret <| zU (v := .agg (zc (bys (zr (lb 32 (nv a)))))) (t := 2) (T := 56) (ad := ⟨En, 0, none⟩) Eh (by kernel_rfl) (by kernel_rfl) (zC (t := 56) (k := 1) (off := 0) (m := 32) (xs := bys (zr (lb 32 (nv a)))) Eb rfl (zn (Zi (rev_len (Yv _ _)))) (Zi (rev_len (Yv _ _))) (by kernel_rfl) (by kernel_rfl)) ?_
 exact ⟨rfl, Eb.pk []⟩
def encL (z : Bool) (x y : L4) : List UInt8 := bif onN z x y && !z then 4 :: (zr (lb 32 (nv x)) ++ zr (lb 32 (nv y))) else []
theorem enc_no1 {z : Bool} {x y : L4} (h : z = true) : encL z x y = [] := by subst h; rw [encL, Bool.not_true, Bool.and_false]; rfl
theorem enc_no2 {z : Bool} {x y : L4} (h : ¬ onN z x y = true) : encL z x y = [] := by rw [encL, ZB.2 h]; rfl
theorem enc_yes {z : Bool} {x y : L4} (h : onN z x y = true) (h2 : ¬ z = true) : encL z x y = 4 :: (zr (lb 32 (nv x)) ++ zr (lb 32 (nv y))) := by rw [encL, h, ZB.2 h2]; rfl
theorem enc_go (w : World) (z : Bool) (x y : List UInt64) (hx : zf x = 4) (hy : zf y = 4) : Calls zB 9 #[.agg (zc (([.bool z] : List Value) ++ ((zg x) ++ (zg y))))] w fun e w' => ∃ ao cap, e = .returned (.slice ao (zf (encL z x y)) cap) ∧ Ev w [] w' [.vec ao cap 1 (bys (encL z x y)) 5] := by
 refine d_0 [(0, .agg (zc (([.bool z] : List Value) ++ ((zg x) ++ (zg y)))))] 23 Tryz.func9 Tryz.ntmps9 (Heap.nil _) fun H1 H2 H3 => wp_seq <| zj <| f_o <| m_m 27 (([.bool z] : List Value) ++ ((zg x) ++ (zg y))) H2 H3 fun _ _ Ed H4 HG => d_e [1,2] [] H4 fun _ H5 => ze <| wp_seq <| wp_seq <| zj <| d_k [1,2,5] [] 1 H5 fun _ H6 => f_o <| m_v 0 0 (.bool z) H6 HG rfl (J4 rfl) fun _ HH => d_k [1,2,7] [] 3 HH fun _ E3 => ?_
 rcases zM (z) with Ep | Ep
 ·
  have HI := E3.fx (t := 7) (congrArg Value.bool Ep)
  have hp16 : z = true := Ep
  refine d_e [1,2,11] [] HI fun _ E4 => ze <| c_t E4 ?_
  refine d_s [1,2] [] E4 fun _ HJ => wp_ret <| z9 <| ZH (t := 2) (v := .slice none 0 0) HJ (by kernel_rfl) (by kernel_rfl) ?_
  have e : encL z x y = [] := by first | exact enc_no1 (by assumption) | exact enc_no2 (by assumption)
  rw [e]
  exact ⟨none, 0, rfl, (Ev.nil (sz := 1) (T := 5) HG).pk [1]⟩
 have HK := E3.fx (t := 7) (congrArg Value.bool Ep)
 have hp22 : ¬ (z = true) := ZB.1 Ep
 refine f_o <| Zn 0 9 (([.bool z] : List Value) ++ ((zg x) ++ (zg y))) HK HG rfl (zp rfl (zp (za hx) (za hy))) fun _ HL => f_o <| c_p HL HG (on_go _ z x y hx hy) fun _ _ HM ES => d_e [1,2,11] [] HM fun _ ET => ?_
 refine ze <| cond_at ET (t := !(onN z x y)) (by kernel_rfl) (fun Eq => ?_) (fun Eq => ?_)
 ·
  replace Eq : ¬ (onN z x y = true) := by simpa using Eq
  refine d_s [1,2] [] ET fun _ HN => wp_ret <| z9 <| ZH (t := 2) (v := .slice none 0 0) HN (by kernel_rfl) (by kernel_rfl) ?_
  have e : encL z x y = [] := by first | exact enc_no1 (by assumption) | exact enc_no2 (by assumption)
  rw [e]
  exact ⟨none, 0, rfl, (Ev.nil (sz := 1) (T := 5) ES).pk [1]⟩
 replace Eq : onN z x y = true := by simpa using Eq
 refine wp_skip <| ze <| wp_seq <| r_c (fun ac wo => ∃ (Eb : Nat) (Ea : Nat), Env ac 23 [(1, pt Ed), (2, .slice none 0 0), (3, pt Eb), (4, pt Ea)] ∧ Ev w [] wo [.box Ed (([.bool z] : List Value) ++ ((zg x) ++ (zg y))) 27, .box Eb (bys (zr (lb 32 (nv x)))) 56, .box Ea (bys (zr (lb 32 (nv y)))) 56]) ?_ ?_
 ·
  refine s_g2 [(1, pt Ed), (2, .slice none 0 0)] [0,1,2,3,4,5] [(12, .pointer (some ⟨Ed, 1, none⟩)), (13, .agg (zc (zg x))), (14, .agg (zc (bys (zr (lb 32 (nv x)))))), (15, .pointer (some ⟨Ed, 5, none⟩)), (16, .agg (zc (zg y))), (17, .agg (zc (bys (zr (lb 32 (nv y))))))] 2 [(1, pt Ed), (2, .slice none 0 0), (14, .agg (zc (bys (zr (lb 32 (nv x)))))), (17, .agg (zc (bys (zr (lb 32 (nv y))))))] 6 7 (bys (zd 32 0)) (bys (zd 32 0)) (ET.sb) (ES.trans (zN ES.heap)) ?_ fun _ _ Eb Ea HO HP => ?_
  ·
   refine s_p [] <| s_a 0 1 4 (zg x) rfl (by simp [za hx, za hy, zu, zv]) (za hx) <| s_f (fun _ => tobe_go _ x hx) ?_
   refine s_p [] <| s_a 0 5 4 (zg y) rfl (by simp [za hx, za hy, zu, zv, zx]) (za hy) <| s_f (fun _ => tobe_go _ y hy) ?_
   exact s_n
  refine q_u 8 ?_
  refine zW 1 32 (bys (zr (lb 32 (nv x)))) _ HO HP rfl (Zi (rev_len (Yv _ _))) (Zi (zh)) (ZG _) rfl fun _ _ HQ HR => q_u 9 ?_
  refine zW 2 32 (bys (zr (lb 32 (nv y)))) [.box Ed (([.bool z] : List Value) ++ ((zg x) ++ (zg y))) 27, .box Eb (bys (zr (lb 32 (nv x)))) 56, .box Ea (bys (zr (lb 32 (nv y)))) 56] HQ HR rfl (Zi (rev_len (Yv _ _))) (Zi (zh)) (ZG _) rfl fun _ _ HS HT => ?_
  exact a_e ⟨Eb, Ea, HS.sb, HT.pk [0, 1, 2]⟩
 rintro _ _ ⟨Eb, Ea, EU, EB⟩
 obtain ⟨qx, h_qx⟩ : ∃ q : List UInt8, q = zr (lb 32 (nv x)) := ⟨_, rfl⟩
 rw [← h_qx] at EB
 have n_qx : zf qx = 32 := by rw [h_qx]; exact (rev_len (Yv _ _))
 obtain ⟨qy, h_qy⟩ : ∃ q : List UInt8, q = zr (lb 32 (nv y)) := ⟨_, rfl⟩
 rw [← h_qy] at EB
 have n_qy : zf qy = 32 := by rw [h_qy]; exact (rev_len (Yv _ _))
 refine ze <| wp_seq <| r_c (fun ac wo => ∃ (Ee : Option Addr) (Ef : Nat), Env ac 23 [(1, pt Ed), (2, .slice Ee (zf (([(4 : UInt8)] ++ qx) ++ qy)) Ef), (3, pt Eb), (4, pt Ea)] ∧ Ev w [] wo [.box Ed (([.bool z] : List Value) ++ ((zg x) ++ (zg y))) 27, .box Eb (bys qx) 56, .box Ea (bys qy) 56, .vec Ee Ef 1 (bys (([(4 : UInt8)] ++ qx) ++ qy)) 5]) ?_ ?_
 ·
  refine h_s (fun wv => Ev w [] wv [.box Eb (bys qx) 56, .box Ea (bys qy) 56]) [] 6 ?_
  have Er := EB.trans (zN EB.heap)
  refine h_name fun G hG => ?_
  have nd312 : ∀ (ac : Act) (wo : World) (Es : Option Addr) (Et : Nat), Env ac 23 [(1, pt Ed), (2, .slice none 0 0), (3, pt Eb), (4, pt Ea), (20, .slice Es (zf ([(4 : UInt8)] ++ qx)) Et)] → Ev w [] wo [.box Ed (([.bool z] : List Value) ++ ((zg x) ++ (zg y))) 27, .box Eb (bys qx) 56, .box Ea (bys qy) 56, .vec Es Et 1 (bys ([(4 : UInt8)] ++ qx)) 5] → G 3 #[true, true, true, false, false, false] ac wo := by
   intro _ _ Es Et E5 Eu
   refine Qd hG ?_
   refine q_t 3 ?_
   refine ZU (d := some 21) (t := 56) (e := 5) (sz := 1) (m := 32) (lo := 0) (hi := 32) (b := Ea) (off := 0) (lov := none) (hiv := none) (o := 0) E5 (by kernel_rfl) (by kernel_rfl) (by kernel_rfl) (by omega) (by omega) (by omega) (.inl ⟨rfl, rfl⟩) (.inl ⟨rfl, rfl⟩) (by omega) ?_
   intro _ E6
   refine ⟨fun _ => Eu.pk [1, 2], ?_⟩
   refine q_t 4 ?_
   refine ZA (d := some 22) (t := 25) (tx := 25) (ty := 25) (k := 3) (p := zf ([(4 : UInt8)] ++ qx)) (m := 32) (x := .slice (some ⟨Ea, 0, none⟩) 32 32) (bytes := 1) E6 (by kernel_rfl) Eu rfl (Z9 _) (Zz (size := 1) (tx := 25) (e' := 5) (by kernel_rfl) (Eu.heap.readsBox (k := 2) (m := 32) rfl (zn (Zi n_qy))) (Q7 (by first | (rw [n_qy]) | (simp [n_qy]; done) | (simp [n_qy]; omega))) (fun e => by cases e) (ZG _)) (by kernel_rfl) (z := .int .u8 0) (by kernel_rfl) rfl (by decide) (by first | omega | (simp; done) | (simp; omega)) (by unfold maxLen; first | omega | (simp; done) | (simp; omega)) ?_
   intro _ _ E7 E8 EC Eg hnz _
   clear hnz
   rw [← ZM] at Eg
   have EV : (zf ([(4 : UInt8)] ++ qx)) + 32 = zf (([(4 : UInt8)] ++ qx) ++ qy) := (by first | (simp; done) | (simp; omega) | omega)
   rw [EV] at EC
   refine ⟨fun _ => Eg.pk [1, 2], ?_⟩
   refine q_s [5] [] 0 EC (Eg.pk [1, 2]) fun _ E9 => ?_
   exact h_e ⟨E7, E8, E9.sb, Eg.pk [0, 1, 2, 3]⟩
  have nd329 : ∀ (ac : Act) (wo : World) (Ec : Nat), Env ac 23 [(1, pt Ed), (2, .slice none 0 0), (3, pt Eb), (4, pt Ea), (18, .slice (some ⟨Ec, 0, none⟩) 1 1), (19, .slice (some ⟨Eb, 0, none⟩) 32 32), (21, .slice (some ⟨Ea, 0, none⟩) 32 32)] → Ev w [] wo [.box Ed (([.bool z] : List Value) ++ ((zg x) ++ (zg y))) 27, .box Eb (bys qx) 56, .box Ea (bys qy) 56, .vec (some ⟨Ec, 0, none⟩) 1 1 (bys [(4 : UInt8)]) 5] → G 3 #[true, true, false, true, false, false] ac wo := by
   intro _ _ Ec Ha ED
   refine Qd hG ?_
   refine q_t 2 ?_
   refine ZA (d := some 20) (t := 25) (tx := 25) (ty := 25) (k := 3) (p := 1) (m := 32) (x := .slice (some ⟨Eb, 0, none⟩) 32 32) (bytes := 1) Ha (by kernel_rfl) ED rfl rfl (Zz (size := 1) (tx := 25) (e' := 5) (by kernel_rfl) (ED.heap.readsBox (k := 1) (m := 32) rfl (zn (Zi n_qx))) (Q7 (by first | (rw [n_qx]) | (simp [n_qx]; done) | (simp [n_qx]; omega))) (fun e => by cases e) (ZG _)) (by kernel_rfl) (z := .int .u8 0) (by kernel_rfl) rfl (by decide) (by first | omega | (simp; done) | (simp; omega)) (by unfold maxLen; first | omega | (simp; done) | (simp; omega)) ?_
   intro _ _ HU HV EE Eh hnz _
   clear hnz
   rw [← ZM] at Eh
   have EW : 1 + 32 = zf ([(4 : UInt8)] ++ qx) := (by first | (simp; done) | (simp; omega) | omega)
   rw [EW] at EE
   refine ⟨fun _ => Eh.pk [1, 2], ?_⟩
   refine q_t 4 ?_
   refine ZA (d := some 22) (t := 25) (tx := 25) (ty := 25) (k := 3) (p := zf ([(4 : UInt8)] ++ qx)) (m := 32) (x := .slice (some ⟨Ea, 0, none⟩) 32 32) (bytes := 1) EE (by kernel_rfl) Eh rfl (Z9 _) (Zz (size := 1) (tx := 25) (e' := 5) (by kernel_rfl) (Eh.heap.readsBox (k := 2) (m := 32) rfl (zn (Zi n_qy))) (Q7 (by first | (rw [n_qy]) | (simp [n_qy]; done) | (simp [n_qy]; omega))) (fun e => by cases e) (ZG _)) (by kernel_rfl) (z := .int .u8 0) (by kernel_rfl) rfl (by decide) (by first | omega | (simp; done) | (simp; omega)) (by unfold maxLen; first | omega | (simp; done) | (simp; omega)) ?_
   intro _ _ Hb Hc EF Ei hnz _
   clear hnz
   rw [← ZM] at Ei
   have EX : (zf ([(4 : UInt8)] ++ qx)) + 32 = zf (([(4 : UInt8)] ++ qx) ++ qy) := (by first | (simp; done) | (simp; omega) | omega)
   rw [EX] at EF
   refine ⟨fun _ => Ei.pk [1, 2], ?_⟩
   refine q_s [5] [] 0 EF (Ei.pk [1, 2]) fun _ Hd => ?_
   exact h_e ⟨Hb, Hc, Hd.sb, Ei.pk [0, 1, 2, 3]⟩
  have nd352 : ∀ (ac : Act) (wo : World) (Ec : Nat), Env ac 23 [(1, pt Ed), (2, .slice none 0 0), (3, pt Eb), (4, pt Ea), (18, .slice (some ⟨Ec, 0, none⟩) 1 1), (19, .slice (some ⟨Eb, 0, none⟩) 32 32)] → Ev w [] wo [.box Ed (([.bool z] : List Value) ++ ((zg x) ++ (zg y))) 27, .box Eb (bys qx) 56, .box Ea (bys qy) 56, .vec (some ⟨Ec, 0, none⟩) 1 1 (bys [(4 : UInt8)]) 5] → G 4 #[true, true, false, false, false, false] ac wo := by
   intro _ _ Ec EG Ej
   refine Qd hG ?_
   refine YB [2, 3] (by kernel_rfl) rfl ?_
   refine ⟨?_, ?_, trivial⟩
   ·
    rintro _ rfl
    refine ZA (d := some 20) (t := 25) (tx := 25) (ty := 25) (k := 3) (p := 1) (m := 32) (x := .slice (some ⟨Eb, 0, none⟩) 32 32) (bytes := 1) EG (by kernel_rfl) Ej rfl rfl (Zz (size := 1) (tx := 25) (e' := 5) (by kernel_rfl) (Ej.heap.readsBox (k := 1) (m := 32) rfl (zn (Zi n_qx))) (Q7 (by first | (rw [n_qx]) | (simp [n_qx]; done) | (simp [n_qx]; omega))) (fun e => by cases e) (ZG _)) (by kernel_rfl) (z := .int .u8 0) (by kernel_rfl) rfl (by decide) (by first | omega | (simp; done) | (simp; omega)) (by unfold maxLen; first | omega | (simp; done) | (simp; omega)) ?_
    intro _ _ He Hf EH Ew hnz _
    clear hnz
    rw [← ZM] at Ew
    have EY : 1 + 32 = zf ([(4 : UInt8)] ++ qx) := (by first | (simp; done) | (simp; omega) | omega)
    rw [EY] at EH
    refine ⟨fun _ => Ew.pk [1, 2], ?_⟩
    exact YK hG (by kernel_rfl) (nd312 _ _ He Hf (EH.sb) (Ew.pk [0, 1, 2, 3]))
   rintro _ rfl
   refine ZU (d := some 21) (t := 56) (e := 5) (sz := 1) (m := 32) (lo := 0) (hi := 32) (b := Ea) (off := 0) (lov := none) (hiv := none) (o := 0) EG (by kernel_rfl) (by kernel_rfl) (by kernel_rfl) (by omega) (by omega) (by omega) (.inl ⟨rfl, rfl⟩) (.inl ⟨rfl, rfl⟩) (by omega) ?_
   intro _ Hg
   refine ⟨fun _ => Ej.pk [1, 2], ?_⟩
   exact YK hG (by kernel_rfl) (nd329 _ _ Ec (Hg.sb) (Ej.pk [0, 1, 2, 3]))
  have nd367 : ∀ (ac : Act) (wo : World) (Ec : Nat), Env ac 23 [(1, pt Ed), (2, .slice none 0 0), (3, pt Eb), (4, pt Ea), (18, .slice (some ⟨Ec, 0, none⟩) 1 1), (21, .slice (some ⟨Ea, 0, none⟩) 32 32)] → Ev w [] wo [.box Ed (([.bool z] : List Value) ++ ((zg x) ++ (zg y))) 27, .box Eb (bys qx) 56, .box Ea (bys qy) 56, .vec (some ⟨Ec, 0, none⟩) 1 1 (bys [(4 : UInt8)]) 5] → G 4 #[true, false, false, true, false, false] ac wo := by
   intro _ _ Ec Hh Ex
   refine Qd hG ?_
   refine q_t 1 ?_
   refine ZU (d := some 19) (t := 56) (e := 5) (sz := 1) (m := 32) (lo := 0) (hi := 32) (b := Eb) (off := 0) (lov := none) (hiv := none) (o := 0) Hh (by kernel_rfl) (by kernel_rfl) (by kernel_rfl) (by omega) (by omega) (by omega) (.inl ⟨rfl, rfl⟩) (.inl ⟨rfl, rfl⟩) (by omega) ?_
   intro _ Hi
   refine ⟨fun _ => Ex.pk [1, 2], ?_⟩
   refine q_t 2 ?_
   refine ZA (d := some 20) (t := 25) (tx := 25) (ty := 25) (k := 3) (p := 1) (m := 32) (x := .slice (some ⟨Eb, 0, none⟩) 32 32) (bytes := 1) Hi (by kernel_rfl) Ex rfl rfl (Zz (size := 1) (tx := 25) (e' := 5) (by kernel_rfl) (Ex.heap.readsBox (k := 1) (m := 32) rfl (zn (Zi n_qx))) (Q7 (by first | (rw [n_qx]) | (simp [n_qx]; done) | (simp [n_qx]; omega))) (fun e => by cases e) (ZG _)) (by kernel_rfl) (z := .int .u8 0) (by kernel_rfl) rfl (by decide) (by first | omega | (simp; done) | (simp; omega)) (by unfold maxLen; first | omega | (simp; done) | (simp; omega)) ?_
   intro _ _ HW HX EI Ek hnz _
   clear hnz
   rw [← ZM] at Ek
   have EZ : 1 + 32 = zf ([(4 : UInt8)] ++ qx) := (by first | (simp; done) | (simp; omega) | omega)
   rw [EZ] at EI
   refine ⟨fun _ => Ek.pk [1, 2], ?_⟩
   refine q_t 4 ?_
   refine ZA (d := some 22) (t := 25) (tx := 25) (ty := 25) (k := 3) (p := zf ([(4 : UInt8)] ++ qx)) (m := 32) (x := .slice (some ⟨Ea, 0, none⟩) 32 32) (bytes := 1) EI (by kernel_rfl) Ek rfl (Z9 _) (Zz (size := 1) (tx := 25) (e' := 5) (by kernel_rfl) (Ek.heap.readsBox (k := 2) (m := 32) rfl (zn (Zi n_qy))) (Q7 (by first | (rw [n_qy]) | (simp [n_qy]; done) | (simp [n_qy]; omega))) (fun e => by cases e) (ZG _)) (by kernel_rfl) (z := .int .u8 0) (by kernel_rfl) rfl (by decide) (by first | omega | (simp; done) | (simp; omega)) (by unfold maxLen; first | omega | (simp; done) | (simp; omega)) ?_
   intro _ _ Hj Hk EJ El hnz _
   clear hnz
   rw [← ZM] at El
   have E0 : (zf ([(4 : UInt8)] ++ qx)) + 32 = zf (([(4 : UInt8)] ++ qx) ++ qy) := (by first | (simp; done) | (simp; omega) | omega)
   rw [E0] at EJ
   refine ⟨fun _ => El.pk [1, 2], ?_⟩
   refine q_s [5] [] 0 EJ (El.pk [1, 2]) fun _ Hl => ?_
   exact h_e ⟨Hj, Hk, Hl.sb, El.pk [0, 1, 2, 3]⟩
  have nd392 : ∀ (ac : Act) (wo : World), Env ac 23 [(1, pt Ed), (2, .slice none 0 0), (3, pt Eb), (4, pt Ea), (19, .slice (some ⟨Eb, 0, none⟩) 32 32), (21, .slice (some ⟨Ea, 0, none⟩) 32 32)] → Ev w [] wo [.box Ed (([.bool z] : List Value) ++ ((zg x) ++ (zg y))) 27, .box Eb (bys qx) 56, .box Ea (bys qy) 56] → G 4 #[false, true, false, true, false, false] ac wo := by
   intro _ _ Hm Hn
   refine Qd hG ?_
   refine q_t 0 ?_
   refine Yn (d := some 18) (t := 25) (T := 5) (m := 1) (parts := #[(0, .int .u8 4)]) (xs := bys [(4 : UInt8)]) (sz := 1) Hm (by kernel_rfl) (by kernel_rfl) rfl (by decide) Hn ?_
   intro _ _ HY Ho Ey
   refine ⟨fun _ => Ey.pk [1, 2], ?_⟩
   refine q_t 2 ?_
   refine ZA (d := some 20) (t := 25) (tx := 25) (ty := 25) (k := 3) (p := 1) (m := 32) (x := .slice (some ⟨Eb, 0, none⟩) 32 32) (bytes := 1) Ho (by kernel_rfl) Ey rfl rfl (Zz (size := 1) (tx := 25) (e' := 5) (by kernel_rfl) (Ey.heap.readsBox (k := 1) (m := 32) rfl (zn (Zi n_qx))) (Q7 (by first | (rw [n_qx]) | (simp [n_qx]; done) | (simp [n_qx]; omega))) (fun e => by cases e) (ZG _)) (by kernel_rfl) (z := .int .u8 0) (by kernel_rfl) rfl (by decide) (by first | omega | (simp; done) | (simp; omega)) (by unfold maxLen; first | omega | (simp; done) | (simp; omega)) ?_
   intro _ _ HZ H0 EK Em hnz _
   clear hnz
   rw [← ZM] at Em
   have E1 : 1 + 32 = zf ([(4 : UInt8)] ++ qx) := (by first | (simp; done) | (simp; omega) | omega)
   rw [E1] at EK
   refine ⟨fun _ => Em.pk [1, 2], ?_⟩
   refine q_t 4 ?_
   refine ZA (d := some 22) (t := 25) (tx := 25) (ty := 25) (k := 3) (p := zf ([(4 : UInt8)] ++ qx)) (m := 32) (x := .slice (some ⟨Ea, 0, none⟩) 32 32) (bytes := 1) EK (by kernel_rfl) Em rfl (Z9 _) (Zz (size := 1) (tx := 25) (e' := 5) (by kernel_rfl) (Em.heap.readsBox (k := 2) (m := 32) rfl (zn (Zi n_qy))) (Q7 (by first | (rw [n_qy]) | (simp [n_qy]; done) | (simp [n_qy]; omega))) (fun e => by cases e) (ZG _)) (by kernel_rfl) (z := .int .u8 0) (by kernel_rfl) rfl (by decide) (by first | omega | (simp; done) | (simp; omega)) (by unfold maxLen; first | omega | (simp; done) | (simp; omega)) ?_
   intro _ _ Hp Hq EL En hnz _
   clear hnz
   rw [← ZM] at En
   have E2 : (zf ([(4 : UInt8)] ++ qx)) + 32 = zf (([(4 : UInt8)] ++ qx) ++ qy) := (by first | (simp; done) | (simp; omega) | omega)
   rw [E2] at EL
   refine ⟨fun _ => En.pk [1, 2], ?_⟩
   refine q_s [5] [] 0 EL (En.pk [1, 2]) fun _ Hr => ?_
   exact h_e ⟨Hp, Hq, Hr.sb, En.pk [0, 1, 2, 3]⟩
  have nd420 : ∀ (ac : Act) (wo : World) (Ec : Nat), Env ac 23 [(1, pt Ed), (2, .slice none 0 0), (3, pt Eb), (4, pt Ea), (18, .slice (some ⟨Ec, 0, none⟩) 1 1)] → Ev w [] wo [.box Ed (([.bool z] : List Value) ++ ((zg x) ++ (zg y))) 27, .box Eb (bys qx) 56, .box Ea (bys qy) 56, .vec (some ⟨Ec, 0, none⟩) 1 1 (bys [(4 : UInt8)]) 5] → G 5 #[true, false, false, false, false, false] ac wo := by
   intro _ _ Ec EM Eo
   refine Qd hG ?_
   refine YB [1, 3] (by kernel_rfl) rfl ?_
   refine ⟨?_, ?_, trivial⟩
   ·
    rintro _ rfl
    refine ZU (d := some 19) (t := 56) (e := 5) (sz := 1) (m := 32) (lo := 0) (hi := 32) (b := Eb) (off := 0) (lov := none) (hiv := none) (o := 0) EM (by kernel_rfl) (by kernel_rfl) (by kernel_rfl) (by omega) (by omega) (by omega) (.inl ⟨rfl, rfl⟩) (.inl ⟨rfl, rfl⟩) (by omega) ?_
    intro _ Hs
    refine ⟨fun _ => Eo.pk [1, 2], ?_⟩
    exact YK hG (by kernel_rfl) (nd352 _ _ Ec (Hs.sb) (Eo.pk [0, 1, 2, 3]))
   rintro _ rfl
   refine ZU (d := some 21) (t := 56) (e := 5) (sz := 1) (m := 32) (lo := 0) (hi := 32) (b := Ea) (off := 0) (lov := none) (hiv := none) (o := 0) EM (by kernel_rfl) (by kernel_rfl) (by kernel_rfl) (by omega) (by omega) (by omega) (.inl ⟨rfl, rfl⟩) (.inl ⟨rfl, rfl⟩) (by omega) ?_
   intro _ Ht
   refine ⟨fun _ => Eo.pk [1, 2], ?_⟩
   exact YK hG (by kernel_rfl) (nd367 _ _ Ec (Ht.sb) (Eo.pk [0, 1, 2, 3]))
  have nd429 : ∀ (ac : Act) (wo : World), Env ac 23 [(1, pt Ed), (2, .slice none 0 0), (3, pt Eb), (4, pt Ea), (19, .slice (some ⟨Eb, 0, none⟩) 32 32)] → Ev w [] wo [.box Ed (([.bool z] : List Value) ++ ((zg x) ++ (zg y))) 27, .box Eb (bys qx) 56, .box Ea (bys qy) 56] → G 5 #[false, true, false, false, false, false] ac wo := by
   intro _ _ EN Ez
   refine Qd hG ?_
   refine YB [0, 3] (by kernel_rfl) rfl ?_
   refine ⟨?_, ?_, trivial⟩
   ·
    rintro _ rfl
    refine Yn (d := some 18) (t := 25) (T := 5) (m := 1) (parts := #[(0, .int .u8 4)]) (xs := bys [(4 : UInt8)]) (sz := 1) EN (by kernel_rfl) (by kernel_rfl) rfl (by decide) Ez ?_
    intro _ _ Hu Hv EO
    refine ⟨fun _ => EO.pk [1, 2], ?_⟩
    exact YK hG (by kernel_rfl) (nd352 _ _ Hu (Hv.sb) (EO.pk [0, 1, 2, 3]))
   rintro _ rfl
   refine ZU (d := some 21) (t := 56) (e := 5) (sz := 1) (m := 32) (lo := 0) (hi := 32) (b := Ea) (off := 0) (lov := none) (hiv := none) (o := 0) EN (by kernel_rfl) (by kernel_rfl) (by kernel_rfl) (by omega) (by omega) (by omega) (.inl ⟨rfl, rfl⟩) (.inl ⟨rfl, rfl⟩) (by omega) ?_
   intro _ Hw
   refine ⟨fun _ => Ez.pk [1, 2], ?_⟩
   exact YK hG (by kernel_rfl) (nd392 _ _ (Hw.sb) (Ez.pk [0, 1, 2]))
  have nd441 : ∀ (ac : Act) (wo : World), Env ac 23 [(1, pt Ed), (2, .slice none 0 0), (3, pt Eb), (4, pt Ea), (21, .slice (some ⟨Ea, 0, none⟩) 32 32)] → Ev w [] wo [.box Ed (([.bool z] : List Value) ++ ((zg x) ++ (zg y))) 27, .box Eb (bys qx) 56, .box Ea (bys qy) 56] → G 5 #[false, false, false, true, false, false] ac wo := by
   intro _ _ EP EA
   refine Qd hG ?_
   refine YB [0, 1] (by kernel_rfl) rfl ?_
   refine ⟨?_, ?_, trivial⟩
   ·
    rintro _ rfl
    refine Yn (d := some 18) (t := 25) (T := 5) (m := 1) (parts := #[(0, .int .u8 4)]) (xs := bys [(4 : UInt8)]) (sz := 1) EP (by kernel_rfl) (by kernel_rfl) rfl (by decide) EA ?_
    intro _ _ Hx Hy EQ
    refine ⟨fun _ => EQ.pk [1, 2], ?_⟩
    exact YK hG (by kernel_rfl) (nd367 _ _ Hx (Hy.sb) (EQ.pk [0, 1, 2, 3]))
   rintro _ rfl
   refine ZU (d := some 19) (t := 56) (e := 5) (sz := 1) (m := 32) (lo := 0) (hi := 32) (b := Eb) (off := 0) (lov := none) (hiv := none) (o := 0) EP (by kernel_rfl) (by kernel_rfl) (by kernel_rfl) (by omega) (by omega) (by omega) (.inl ⟨rfl, rfl⟩) (.inl ⟨rfl, rfl⟩) (by omega) ?_
   intro _ Hz
   refine ⟨fun _ => EA.pk [1, 2], ?_⟩
   exact YK hG (by kernel_rfl) (nd392 _ _ (Hz.sb) (EA.pk [0, 1, 2]))
  refine Qd hG ?_
  refine YB [0, 1, 3] (by kernel_rfl) rfl ?_
  refine ⟨?_, ?_, ?_, trivial⟩
  ·
   rintro _ rfl
   refine Yn (d := some 18) (t := 25) (T := 5) (m := 1) (parts := #[(0, .int .u8 4)]) (xs := bys [(4 : UInt8)]) (sz := 1) EU (by kernel_rfl) (by kernel_rfl) rfl (by decide) Er ?_
   intro _ _ HA HB ER
   refine ⟨fun _ => ER.pk [1, 2], ?_⟩
   exact YK hG (by kernel_rfl) (nd420 _ _ HA (HB.sb) (ER.pk [0, 1, 2, 3]))
  ·
   rintro _ rfl
   refine ZU (d := some 19) (t := 56) (e := 5) (sz := 1) (m := 32) (lo := 0) (hi := 32) (b := Eb) (off := 0) (lov := none) (hiv := none) (o := 0) EU (by kernel_rfl) (by kernel_rfl) (by kernel_rfl) (by omega) (by omega) (by omega) (.inl ⟨rfl, rfl⟩) (.inl ⟨rfl, rfl⟩) (by omega) ?_
   intro _ HC
   refine ⟨fun _ => Er.pk [1, 2], ?_⟩
   exact YK hG (by kernel_rfl) (nd429 _ _ (HC.sb) (Er.pk [0, 1, 2]))
  rintro _ rfl
  refine ZU (d := some 21) (t := 56) (e := 5) (sz := 1) (m := 32) (lo := 0) (hi := 32) (b := Ea) (off := 0) (lov := none) (hiv := none) (o := 0) EU (by kernel_rfl) (by kernel_rfl) (by kernel_rfl) (by omega) (by omega) (by omega) (.inl ⟨rfl, rfl⟩) (.inl ⟨rfl, rfl⟩) (by omega) ?_
  intro _ HD
  refine ⟨fun _ => Er.pk [1, 2], ?_⟩
  exact YK hG (by kernel_rfl) (nd441 _ _ (HD.sb) (Er.pk [0, 1, 2]))
 rintro _ _ ⟨Ee, Ef, HE, HF⟩
 refine ze <| wp_ret <| ZH (t := 2) (v := .slice Ee (zf (([(4 : UInt8)] ++ qx) ++ qy)) Ef) HE (by kernel_rfl) (by kernel_rfl) ?_
 have e : encL z x y = ([(4 : UInt8)] ++ qx) ++ qy := by rw [h_qx, h_qy]; exact enc_yes (by assumption) (by assumption)
 rw [e]
 exact ⟨Ee, Ef, rfl, HF.pk [3]⟩
end Go.Proofs.YtpfhmbbiadpbeaaGreat
namespace Go.Dbr
open Go Go.RowKit
section
variable {H : Type} {enc : TypeId × Value → H} {P : Program} {W : World}
theorem flatMap_u64s (l : List UInt64) : l.flatMap (fun n : UInt64 => [uv64 n]) = zg l := by
  induction l with
  | nil => rfl
  | cons x r ih => rw [List.flatMap_cons, ih]; rfl
theorem opens_u64arr {T e : TypeId} {n : Nat} (hu : P.underlying T = some (.array n e)) (hT : P.cellsOf T = n) (he : P.underlying e = some (.int .u64)) (hc : P.cellsOf e = 1) :
    Opens enc P W T n (fun l : List UInt64 => zg l) (fun l => l.length = n) (fun _ => 0) := by
  have h := opens_array (enc := enc) (P := P) (W := W) (n := n) (sz := 1) hu (by rw [zI]; exact hT) (opens_u64 he hc)
  rw [zI] at h
  exact h.map id (fun l => flatMap_u64s l) (fun l hl => hl.1) (fun _ => Nat.zero_le _) (fun l hl => za hl)
end
end Go.Dbr
namespace Go.Proofs.YtpfhmbbiadpbeaaGreat
open Go.Dbr
def mayN (d : L4) : Bool := !(d == z4) && decide (nv d < mF 3)
theorem may_no1 {d : L4} (h : d = z4) : false = mayN d := by subst h; rfl
theorem may_rest {d : L4} (h : ¬ d = z4) : decide (nv d < mF 3) = mayN d := by rw [mayN, beq_f h]; rfl
theorem mulG_2 : zV 2 Gp = (false, nd 56515219790691171413109057904011688695424810155802929973526481321309856242040, nd 3377031843712258259223711451491452598088675519751548567112458094635497583569) := by
  rw [mulG_out]
  have h := repN_mul 2 2 (GX, GY, 1) gB (by decide) (by
    rw [gB_is]
    show Go.Wei.RepH (fP GX, fP GY, fP 1) _
    rw [show fP 1 = 1 from Go.Wei.fn_one]
    generalize fP GX = a
    generalize fP GY = b
    exact ⟨one_ne, by grind -lia, by grind -lia⟩)
  cases hP : (Go.Wei.Cv.mul 2 gB).1 with
  | O =>
    rw [hP] at h
    have := congrArg Fin.val h.1
    exact absurd this (by decide +kernel)
  | A x y =>
    rw [hP] at h
    obtain ⟨hz, hx, hy⟩ := h
    have e1 : x = fP 56515219790691171413109057904011688695424810155802929973526481321309856242040 := by
      refine Go.Wei.Fld.eq (F := Go.Wei.fldP) hz ?_
      have : fP (mulG 2 2 (GX, GY, 1)).1 = fP 56515219790691171413109057904011688695424810155802929973526481321309856242040 * fP (mulG 2 2 (GX, GY, 1)).2.2 := Fin.ext (by decide +kernel)
      rw [hx] at this
      clear hx hy hP hz
      generalize fP (mulG 2 2 (GX, GY, 1)).2.2 = k at *
      grind -lia
    have e2 : y = fP 3377031843712258259223711451491452598088675519751548567112458094635497583569 := by
      refine Go.Wei.Fld.eq (F := Go.Wei.fldP) hz ?_
      have : fP (mulG 2 2 (GX, GY, 1)).2.1 = fP 3377031843712258259223711451491452598088675519751548567112458094635497583569 * fP (mulG 2 2 (GX, GY, 1)).2.2 := Fin.ext (by decide +kernel)
      rw [hy] at this
      clear hx hy hP hz e1
      generalize fP (mulG 2 2 (GX, GY, 1)).2.2 = k at *
      grind -lia
    rw [e1, e2]
    show (false, nd (56515219790691171413109057904011688695424810155802929973526481321309856242040 % Go.Wei.PP), nd (3377031843712258259223711451491452598088675519751548567112458094635497583569 % Go.Wei.PP)) = _
    rw [zQ (by decide), zQ (by decide)]
def headL : List UInt8 := [4, 124, 242, 123, 24, 141, 3, 79, 126, 138, 82, 56, 3, 4, 181, 26, 195, 192, 137, 105, 226, 119, 242, 27, 53, 166, 11, 72, 252, 71, 102, 153, 120, 7, 119, 85, 16, 219, 142, 208, 64, 41, 61, 154, 198, 159, 116, 48, 219, 186, 125, 173, 230, 60, 233, 130, 41, 158, 4, 183, 157, 34, 120, 115, 209]
theorem head_enc : encL (zV (nv [2, 0, 0, 0]) Gp).1 (zV (nv [2, 0, 0, 0]) Gp).2.1 (zV (nv [2, 0, 0, 0]) Gp).2.2 = headL := by
  rw [show nv [2, 0, 0, 0] = 2 from rfl, mulG_2]
  decide +kernel
theorem rless3_go (w : World) (a : List UInt64) (ha : zf a = 4) : Calls zB 55 #[.agg (zc (zg a)), .agg (zc (zg (nd (mF 3))))] w fun e w' => e = .returned (.bool (decide (nv a < mF 3))) ∧ Ev w [] w' [] := by
  have h := rless_go w a (nd (mF 3)) ha (zl _ _)
  rw [nv_mF] at h
  exact h
theorem may_go (w : World) (d : List UInt64) (hd : zf d = 4) : Calls zB 13 #[.agg (zc (zg d))] w fun e w' => e = .returned (.bool (mayN d)) ∧ Ev w [] w' [] := by
 refine d_0 [(0, .agg (zc (zg d)))] 10 Tryz.func13 Tryz.ntmps13 (Heap.nil _) fun Em En Eo => wp_seq <| zj <| f_o <| m_m 24 (zg d) En Eo fun _ _ Es Ep Ec => d_e [1,2] [] Ep fun _ Eq => ze <| wp_seq <| zj <| f_o <| Zn 0 4 (zg d) Eq Ec rfl (za hd) fun _ Er => d_k [1,2,3,4] [] 2 Er fun _ Ed => f_o <| q_v (x := eqOp .neq 24 (.tmp 3) (.tmp 4) (.agg (zc (zg d))) (.agg (zc (zg ([0, 0, 0, 0] : List UInt64))))) (v := .bool (!(d == ([0, 0, 0, 0] : List UInt64)))) Ed (Yx (a := (.tmp 3)) (b := (.tmp 4)) (e := 22) (m := 4) (by kernel_rfl) (by kernel_rfl) (by kernel_rfl) (by kernel_rfl) (by kernel_rfl) hd (show zf ([0, 0, 0, 0] : List UInt64) = 4 from rfl) _) fun _ Ee => ?_
 refine d_k [1,2,6] [] 4 Ee fun _ Eb => ?_
 rcases zM (!(d == ([0, 0, 0, 0] : List UInt64))) with Ea | Ea
 ·
  have Ef := Eb.fx (t := 6) (congrArg Value.bool Ea)
  have hp18 : ¬ (d = ([0, 0, 0, 0] : List UInt64)) := by simpa using Ea
  refine f_o <| Zn 0 4 (zg d) Ef Ec rfl (za hd) fun _ Eg => f_o <| c_p Eg Ec (rightq_go _ 3 d hd) fun _ _ Eh Ei => d_e [2] [] Eh fun _ Ej => ze <| wp_ret <| ZH (t := 2) (v := .bool (decide (nv d < mF 3))) Ej (by kernel_rfl) (by kernel_rfl) ?_
  exact ⟨congrArg (fun b => Ending.returned (Value.bool b)) (may_rest (by first | assumption | simpa using hp18)), Ei.pk []⟩
 have Ek := Eb.fx (t := 6) (congrArg Value.bool Ea)
 have hp31 : d = ([0, 0, 0, 0] : List UInt64) := by simpa using Ea
 refine d_e [2] [] Ek fun _ El => ze <| wp_ret <| ZH (t := 2) (v := .bool false) El (by kernel_rfl) (by kernel_rfl) ?_
 exact ⟨congrArg (fun b => Ending.returned (Value.bool b)) (may_no1 (by first | assumption | simpa using hp31)), Ec.pk []⟩
theorem dmay_go (w : World) (d : List UInt64) (hd : zf d = 4) : Calls zB 22 #[.agg (zc (zg d))] w fun e w' => e = .returned (.bool (mayN d)) ∧ Ev w [] w' [] := by
 refine d_0 [(0, .agg (zc (zg d)))] 11 Tryz.func22 Tryz.ntmps22 (Heap.nil _) fun EE EF EG => wp_seq <| zj <| f_o <| m_m 24 (zg d) EF EG fun _ _ Eu EH Et => d_e [1,2] [] EH fun _ ED => ze <| wp_seq ?_
 rcases zM (!(d == ([0, 0, 0, 0] : List UInt64))) with Eb | Eb
 ·
  have hb8p : ¬ (d = ([0, 0, 0, 0] : List UInt64)) := by simpa using Eb
  refine r_c (fun ac wo => Env ac 11 [(2, .bool (decide (nv d < mF 3)))] ∧ Ev w [] wo []) ?_ ?_
  ·
   refine h_s (fun wv => Ev w [] wv [.box Eu (zg d) 24]) [] 9 ?_
   have Ee := Et.trans (zN Et.heap)
   refine q_r 0 (s := Instr.loadAt 24 (pt Eu)) (v := .agg (zc (zg d))) ED (fun w hS => Za (m := 4) (cs := zg d) (za hd) (by kernel_rfl) (by kernel_rfl) (hS.heap.cells (k := 0) (off := 0) (m := 4) rfl (zn (za hd)))) (Ee.pk [0]) fun _ Ew => q_s [1] [] 7 Ew (Ee.pk [0]) fun _ Ex => q_f 2 (s := eqOp .neq 24 (.tmp 3) (.tmp 4) (.agg (zc (zg d))) (.agg (zc (zg ([0, 0, 0, 0] : List UInt64))))) (v := .bool (!(d == ([0, 0, 0, 0] : List UInt64)))) Ex (fun _ => Yx (a := (.tmp 3)) (b := (.tmp 4)) (e := 22) (m := 4) (by kernel_rfl) (by kernel_rfl) (by kernel_rfl) (by kernel_rfl) (by kernel_rfl) hd (show zf ([0, 0, 0, 0] : List UInt64) = 4 from rfl) _) (fun _ => Ee.pk [0]) fun _ Ey => q_s [3] [] 5 Ey (Ee.pk [0]) fun _ Ez => ?_
   have EA := Ez.fx (t := 5) (congrArg Value.bool Eb)
   have EB := EA.fx (t := 6) (congrArg Value.bool Eb)
   refine q_r 4 (s := Instr.loadAt 24 (pt Eu)) (v := .agg (zc (zg d))) EB (fun w hS => Za (m := 4) (cs := zg d) (za hd) (by kernel_rfl) (by kernel_rfl) (hS.heap.cells (k := 0) (off := 0) (m := 4) rfl (zn (za hd)))) (Ee.pk [0]) fun _ EC => q_t 5 ?_
   refine c_p EC Ee (rmodulus_go _ 3) fun _ _ Ef Ec => ⟨fun _ => Ec.pk [0], ?_⟩
   refine q_t 6 ?_
   refine c_p Ef Ec (rless3_go _ d hd) fun _ _ Eg Ea => ⟨fun _ => Ea.pk [0], ?_⟩
   refine q_s [7,8] [] 0 Eg (Ea.pk [0]) fun _ Eh => ?_
   exact h_e ⟨Eh.sb, Ea.pk []⟩
  rintro _ _ ⟨Ei, Ej⟩
  refine ze <| wp_ret <| ZH (t := 2) (v := .bool (decide (nv d < mF 3))) Ei (by kernel_rfl) (by kernel_rfl) ?_
  exact ⟨congrArg (fun b => Ending.returned (Value.bool b)) (may_rest (by first | assumption | simpa using Eb)), Ej.pk []⟩
 have hb8p : d = ([0, 0, 0, 0] : List UInt64) := by simpa using Eb
 refine r_c (fun ac wo => Env ac 11 [(2, .bool false)] ∧ Ev w [] wo []) ?_ ?_
 ·
  refine QR (by kernel_rfl) 9 (by kernel_rfl) ?_
  have Ed := Et.trans (zN Et.heap)
  refine q_a [1] [] 8 ED fun _ Ek => q_u 0 ?_
  refine Zn 0 4 (zg d) Ek Ed rfl (za hd) fun _ El => q_g 2 (s := eqOp .neq 24 (.tmp 3) (.tmp 4) (.agg (zc (zg d))) (.agg (zc (zg ([0, 0, 0, 0] : List UInt64))))) (v := .bool (!(d == ([0, 0, 0, 0] : List UInt64)))) El (fun _ => Yx (a := (.tmp 3)) (b := (.tmp 4)) (e := 22) (m := 4) (by kernel_rfl) (by kernel_rfl) (by kernel_rfl) (by kernel_rfl) (by kernel_rfl) hd (show zf ([0, 0, 0, 0] : List UInt64) = 4 from rfl) _) fun _ Em => q_a [3] [] 5 Em fun _ En => ?_
  have Eo := En.fx (t := 5) (congrArg Value.bool Eb)
  have Ep := Eo.fx (t := 6) (congrArg Value.bool Eb)
  refine q_a [4,5,6,7,8] [] 0 Ep fun _ Eq => ?_
  exact a_e ⟨Eq.sb, Ed.pk []⟩
 rintro _ _ ⟨Er, Es⟩
 refine ze <| wp_ret <| ZH (t := 2) (v := .bool false) Er (by kernel_rfl) (by kernel_rfl) ?_
 exact ⟨congrArg (fun b => Ending.returned (Value.bool b)) (may_no1 (by first | assumption | simpa using Eb)), Es.pk []⟩
theorem point_go (w : World) (k : List UInt64) (hk : zf k = 4) : Calls zB 8 #[.agg (zc (zg k))] w fun e w' => e = .returned (.agg (zc (([.bool ((zV (nv k) Gp).1)] : List Value) ++ ((zg ((zV (nv k) Gp).2.1)) ++ (zg ((zV (nv k) Gp).2.2)))))) ∧ Ev w [] w' [] := by
 refine d_0 [(0, .agg (zc (zg k)))] 6 Tryz.func8 Tryz.ntmps8 (Heap.nil _) fun Ei Ej Ek => wp_seq <| zj <| f_o <| m_m 24 (zg k) Ej Ek fun _ _ El Em En => f_o <| m_z 27 (([.bool false] : List Value) ++ ((zg (zd 4 0)) ++ (zg (zd 4 0)))) Em En fun _ _ Ea Eo Eb => ?_
 refine f_e <| ze <| wp_seq <| r_c (fun ac wo => Env ac 6 [(2, pt Ea)] ∧ Ev w [] wo [.box Ea (([.bool ((zV (nv k) Gp).1)] : List Value) ++ ((zg ((zV (nv k) Gp).2.1)) ++ (zg ((zV (nv k) Gp).2.2)))) 27]) ?_ ?_
 ·
  refine s_g0 [(1, pt El), (2, pt Ea)] [0,1,2] [(3, .agg (zc (zg k))), (4, .agg (zc (([.bool false] : List Value) ++ ((zg (nd GX)) ++ (zg (nd GY)))))), (5, .agg (zc (([.bool ((zV (nv k) Gp).1)] : List Value) ++ ((zg ((zV (nv k) Gp).2.1)) ++ (zg ((zV (nv k) Gp).2.2))))))] 1 [(2, pt Ea), (5, .agg (zc (([.bool ((zV (nv k) Gp).1)] : List Value) ++ ((zg ((zV (nv k) Gp).2.1)) ++ (zg ((zV (nv k) Gp).2.2))))))] (Eo.sb) (Eb.trans (zN Eb.heap)) ?_ fun _ _ Ed Ee => ?_
  ·
   refine s_a 0 0 4 (zg k) rfl (zn (za hk)) (za hk) <| s_f (fun _ => dbase_go _) ?_
   refine s_f (fun _ => dpmult_go _ k hk false (nd GX) (nd GY) (zl _ _) (zl _ _)) ?_
   exact s_n
  refine q_u 3 ?_
  refine zW 1 9 (([.bool ((zV (nv k) Gp).1)] : List Value) ++ ((zg ((zV (nv k) Gp).2.1)) ++ (zg ((zV (nv k) Gp).2.2)))) _ Ed Ee rfl (zp rfl (zp (za (Zk _ _).1) (za (Zk _ _).2))) (zp rfl (zp (za (zh)) (za (zh)))) (Zd (one_all (by kernel_rfl)) (Zd (zq _) (zq _))) rfl fun _ _ Ef Eg => ?_
  exact a_e ⟨Ef.sb, Eg.pk [1]⟩
 rintro _ _ ⟨Eh, Ec⟩
 refine ze <| wp_ret <| zU (v := .agg (zc (([.bool ((zV (nv k) Gp).1)] : List Value) ++ ((zg ((zV (nv k) Gp).2.1)) ++ (zg ((zV (nv k) Gp).2.2)))))) (t := 2) (T := 27) (ad := ⟨Ea, 0, none⟩) Eh (by kernel_rfl) (by kernel_rfl) (zC (t := 27) (k := 0) (off := 0) (m := 9) (xs := ([.bool ((zV (nv k) Gp).1)] : List Value) ++ ((zg ((zV (nv k) Gp).2.1)) ++ (zg ((zV (nv k) Gp).2.2)))) Ec rfl (zn (zp rfl (zp (za (Zk _ _).1) (za (Zk _ _).2)))) (zp rfl (zp (za (Zk _ _).1) (za (Zk _ _).2))) (by kernel_rfl) (by kernel_rfl)) ?_
 exact ⟨by first | rfl | kernel_rfl, Ec.pk []⟩
theorem henc_go (w : World) : Calls zB 9 #[.agg (zc (([.bool ((zV (nv [2, 0, 0, 0]) Gp).1)] : List Value) ++ ((zg ((zV (nv [2, 0, 0, 0]) Gp).2.1)) ++ (zg ((zV (nv [2, 0, 0, 0]) Gp).2.2)))))] w fun e w' => ∃ ao cap, e = .returned (.slice ao 65 cap) ∧ Ev w [] w' [.vec ao cap 1 (bys headL) 5] := by
  have h := enc_go w (zV (nv [2, 0, 0, 0]) Gp).1 (zV (nv [2, 0, 0, 0]) Gp).2.1 (zV (nv [2, 0, 0, 0]) Gp).2.2 (Zk _ _).1 (Zk _ _).2
  rw [head_enc] at h
  exact h
theorem head_ok (w : World) : Calls zB 4 #[] w fun e w' => e = .returned (.bool true) ∧ Ev w [] w' [] := by
 refine d_0 [] 37 Tryz.func4 Tryz.ntmps4 (Heap.nil _) fun ET EU EV => d_s [0] [] EU fun _ EW => wp_seq <| zj <| d_k [0,2] [] 1 EW fun _ EX => f_o <| c_p EX EV (Kw _) fun _ _ Ep Eq => f_o <| c_p Ep Eq (pmult_go _ ([2, 0, 0, 0] : List UInt64) (show zf ([2, 0, 0, 0] : List UInt64) = 4 from rfl) false (nd GX) (nd GY) (zl _ _) (zl _ _)) fun _ _ Er Es => f_o <| c_0 Er Es (henc_go _) ?_
 rintro _ _ ⟨Eb, Ec, rfl, Et⟩
 refine ⟨_, _, _, rfl, Et, rfl, fun _ Eu Ea => ?_⟩
 refine d_e [0,1] [] Eu fun _ Ew => ?_
 have hl65 : zf headL = 65 := rfl
 refine ze ?_
 have El : 0 < 65 := (by omega)
 obtain ⟨Ed, Ee⟩ := Y0 (fun e => by have h := (Yk Ea.heap (k := 0) rfl) e; first | omega | (rw [Zg] at h; omega) | (simp at h; omega)) El
 refine wp_seq <| zj <| d_k [0,1,9,10] [] 5 Ew fun _ Ex => f_o <| q_v (x := Instr.indexAt 25 (.slice Eb 65 Ec) (.int .i64 0)) (v := .pointer (some (Addr.add Ed 0))) Ex (zy (e := 5) (sz := 1) (j := 0) (jo := 0) Ee (by kernel_rfl) (by kernel_rfl) (by omega) El (zI _) _) fun _ Ey => f_o ?_
 have Ez : 0 < zf headL := by omega
 refine Jn (d := some 12) (t := 5) (ad := Ed) (ao := Eb) (xs := bys headL) (j := 0) (v := bv (zb headL 0 0)) Ey (by kernel_rfl) (Ea.heap.reads (k := 0) rfl) Ee (Z0 Ez) (by kernel_rfl) ?_
 intro _ EA
 have Em : 1 < 65 := (by omega)
 obtain ⟨Ef, Eg⟩ := Y0 (fun e => by have h := (Yk Ea.heap (k := 0) rfl) e; first | omega | (rw [Zg] at h; omega) | (simp at h; omega)) Em
 refine d_k [0,1,15,16] [(7, g_b (show (((QN (zb headL 0 0) : Nat) : Int) == (4 : Int)) = true from (by decide)))] 11 EA fun _ EB => f_o <| q_v (x := Instr.indexAt 25 (.slice Eb 65 Ec) (.int .i64 1)) (v := .pointer (some (Addr.add Ef 1))) EB (zy (e := 5) (sz := 1) (j := 1) (jo := 1) Eg (by kernel_rfl) (by kernel_rfl) (by omega) Em (zI _) _) fun _ EC => f_o ?_
 have ED : 1 < zf headL := by omega
 refine Jn (d := some 18) (t := 5) (ad := Ef) (ao := Eb) (xs := bys headL) (j := 1) (v := bv (zb headL 1 0)) EC (by kernel_rfl) (Ea.heap.reads (k := 0) rfl) Eg (Z0 ED) (by kernel_rfl) ?_
 intro _ EE
 have En : 2 < 65 := (by omega)
 obtain ⟨Eh, Ei⟩ := Y0 (fun e => by have h := (Yk Ea.heap (k := 0) rfl) e; first | omega | (rw [Zg] at h; omega) | (simp at h; omega)) En
 refine d_k [0,1,21,22] [(13, g_b (show (((QN (zb headL 1 0) : Nat) : Int) == (124 : Int)) = true from (by decide)))] 17 EE fun _ EF => f_o <| q_v (x := Instr.indexAt 25 (.slice Eb 65 Ec) (.int .i64 2)) (v := .pointer (some (Addr.add Eh 2))) EF (zy (e := 5) (sz := 1) (j := 2) (jo := 2) Ei (by kernel_rfl) (by kernel_rfl) (by omega) En (zI _) _) fun _ EG => f_o ?_
 have EH : 2 < zf headL := by omega
 refine Jn (d := some 24) (t := 5) (ad := Eh) (ao := Eb) (xs := bys headL) (j := 2) (v := bv (zb headL 2 0)) EG (by kernel_rfl) (Ea.heap.reads (k := 0) rfl) Ei (Z0 EH) (by kernel_rfl) ?_
 intro _ EI
 have Eo : 32 < 65 := (by omega)
 obtain ⟨Ej, Ek⟩ := Y0 (fun e => by have h := (Yk Ea.heap (k := 0) rfl) e; first | omega | (rw [Zg] at h; omega) | (simp at h; omega)) Eo
 refine d_k [0,27,28] [(19, g_b (show (((QN (zb headL 2 0) : Nat) : Int) == (242 : Int)) = true from (by decide)))] 23 EI fun _ EJ => f_o <| q_v (x := Instr.indexAt 25 (.slice Eb 65 Ec) (.int .i64 32)) (v := .pointer (some (Addr.add Ej 32))) EJ (zy (e := 5) (sz := 1) (j := 32) (jo := 32) Ek (by kernel_rfl) (by kernel_rfl) (by omega) Eo (zI _) _) fun _ EK => f_o ?_
 have EL : 32 < zf headL := by omega
 refine Jn (d := some 30) (t := 5) (ad := Ej) (ao := Eb) (xs := bys headL) (j := 32) (v := bv (zb headL 32 0)) EK (by kernel_rfl) (Ea.heap.reads (k := 0) rfl) Ek (Z0 EL) (by kernel_rfl) ?_
 intro _ EM
 refine d_k [0,33] [(25, g_b (show (((QN (zb headL 32 0) : Nat) : Int) == (120 : Int)) = true from (by decide)))] 28 EM fun _ EN => f_o <| c_p EN Ea (Kw _) fun _ _ EO EP => f_o <| c_p EO EP (on_go _ false (nd GX) (nd GY) (zl _ _) (zl _ _)) fun _ _ EQ ER => d_e [0] [] EQ fun _ ES => ze <| wp_ret <| ZH (t := 0) (v := .bool (onN false (nd GX) (nd GY))) ES (by kernel_rfl) (by kernel_rfl) ?_
 exact ⟨by rw [show onN false (nd GX) (nd GY) = true from on_G], ER.pk []⟩
theorem h3f : (3 : Int) = 1 ∨ (3 : Int) = 2 ∨ (3 : Int) = 3 ∨ (3 : Int) = 4 := .inr (.inr (.inl rfl))
theorem hL3 : LeftOk 3 := leftOk3 (by decide)
theorem hR3 : RMulOk 3 := rmulOk h3f hL3
theorem nv_m3 (x y : Nat) : nv (nd (zo 3 x y)) = zo 3 x y := Z6 (mulM_lt h3f x y)
theorem nv_p3 (x y : Nat) : nv (nd (zK 3 x y)) = zK 3 x y := Z6 (powM_lt h3f x y)
theorem one3n : nv [1, 0, 0, 0] = 1 := rfl
theorem rv_lt {l : List UInt8} (h : l.length = 32) : nv (nd (lv (zr l))) = lv (zr l) := Z6 (by
  have e := lv_lt (zr l)
  rw [X5, h] at e
  exact e)
theorem lGX : zf (nd GX) = 4 := zl 4 GX
theorem lGY : zf (nd GY) = 4 := zl 4 GY
def nuV (m : List UInt8) : Nat := zo 3 (lv (zr (zD 32 m))) 1
theorem nv_nu (m : List UInt8) : nv (nd (nuV m)) = nuV m := nv_m3 _ _
def ivV (s : L4) : Nat := zK 3 (nv s) (mF 3 - 2)
def uA (m : List UInt8) (s : L4) : Nat := zo 3 (nuV m) (ivV s)
def uB (r s : L4) : Nat := zo 3 (nv r) (ivV s)
noncomputable def qP (a b : Nat) (p : PZ) : PZ := outP (Go.Wei.Cv.add (Go.Wei.Cv.mul a (gO Gp)) (Go.Wei.Cv.mul b (gO p))).1
theorem outP_len (P : Go.Wei.Pt Go.Wei.PP) : (outP P).2.1.length = 4 ∧ (outP P).2.2.length = 4 := by
  cases P with
  | O => exact ⟨rfl, rfl⟩
  | A x y => exact ⟨zl _ _, zl _ _⟩
theorem qP_len (a b : Nat) (p : PZ) : (qP a b p).2.1.length = 4 ∧ (qP a b p).2.2.length = 4 := outP_len _
noncomputable def okV (r : L4) (q : PZ) : Bool := !q.1 && nd (zo 3 (nv q.2.1) 1) == r
noncomputable def verP (p : PZ) (m : List UInt8) (r s : L4) : Bool := ((((onP p && !p.1) && decide (m.length = 32)) && mayN r) && mayN s) && okV r (qP (uA m s) (uB r s) p)
theorem uA_lt (m : List UInt8) (s : L4) : uA m s < W256 := mulM_lt h3f _ _
theorem uB_lt (r s : L4) : uB r s < W256 := mulM_lt h3f _ _
theorem uA_txt (m : List UInt8) (s : L4) : nd (zo 3 (nv (nd (nuV m))) (nv (nd (zK 3 (nv s) (mF 3 - 2))))) = nd (uA m s) := by rw [nv_nu, nv_p3]; rfl
theorem uB_txt (r s : L4) : nd (zo 3 (nv r) (nv (nd (zK 3 (nv s) (mF 3 - 2))))) = nd (uB r s) := by rw [nv_p3]; rfl
theorem backQ_go (w : World) (a b : Nat) (ha : a < W256) (hb : b < W256) (z : Bool) (x y : List UInt64) (hx : zf x = 4) (hy : zf y = 4) (h : onN z x y = true) {u v : L4} (hu : u = nd a) (hv : v = nd b) : Calls zB 20 #[.agg (zc (zg (wtL (tmF (Qe false (nd GX) (nd GY)) (nv u) 64) (tmF (Qe z x y) (nv v) 64))))] w fun e w' => e = .returned (.agg (zc (([.bool ((qP a b (z, x, y)).1)] : List Value) ++ ((zg ((qP a b (z, x, y)).2.1)) ++ (zg ((qP a b (z, x, y)).2.2)))))) ∧ Ev w [] w' [] := by
  subst hu
  subst hv
  have k := back12_go w (wtL (tmF (Qe false (nd GX) (nd GY)) (nv (nd a)) 64) (tmF (Qe z x y) (nv (nd b)) 64)) (wtL_len _ _)
  rw [Z6 ha, Z6 hb] at k ⊢
  have e := back_ok (rep_with (rep_times (k := a) (rep_of (zl _ _) (zl _ _) on_G) ha) (rep_times (k := b) (rep_of hx hy h) hb))
  rw [show qP a b (z, x, y) = _ from e.symm]
  exact k
theorem dbackQ_go (w : World) (a b : Nat) (ha : a < W256) (hb : b < W256) (z : Bool) (x y : List UInt64) (hx : zf x = 4) (hy : zf y = 4) (h : onN z x y = true) {u v : L4} (hu : u = nd a) (hv : v = nd b) {t : T3} (ht : t = jpL (mnF (ofJ false (nd GX) (nd GY)) (nv u) 256) (mnF (ofJ z x y) (nv v) 256)) (l1 : t.1.length = 4) (l2 : t.2.1.length = 4) (l3 : t.2.2.length = 4) : Calls zB 29 #[.agg (zc ((zg t.1) ++ ((zg t.2.1) ++ (zg t.2.2))))] w fun e w' => e = .returned (.agg (zc (([.bool ((qP a b (z, x, y)).1)] : List Value) ++ ((zg ((qP a b (z, x, y)).2.1)) ++ (zg ((qP a b (z, x, y)).2.2)))))) ∧ Ev w [] w' [] := by
  subst hu
  subst hv
  have k := dback_go w t.1 t.2.1 t.2.2 l1 l2 l3
  rw [Z6 ha, Z6 hb] at ht
  have e : bkJ (jpL (mnF (ofJ false (nd GX) (nd GY)) a 256) (mnF (ofJ z x y) b 256)) = qP a b (z, x, y) := bkJ_ok (rep_jp (rep_many (k := a) (rep_ofJ (zl _ _) (zl _ _) on_G) ha) (rep_many (k := b) (rep_ofJ hx hy h) hb))
  rw [← ht] at e
  rw [← e]
  exact k
theorem dmanyT_go (w : World) (k : List UInt64) (hk : zf k = 4) (t : T3) (ht : Len3 t) : Calls zB 24 #[.agg (zc (zg k)), .agg (zc ((zg t.1) ++ ((zg t.2.1) ++ (zg t.2.2))))] w fun e w' => e = .returned (.agg (zc ((zg ((mnF t (nv k) 256).1)) ++ ((zg ((mnF t (nv k) 256).2.1)) ++ (zg ((mnF t (nv k) 256).2.2)))))) ∧ Ev w [] w' [] := by
  obtain ⟨x, y, z⟩ := t
  exact dmany_go w k hk x y z ht.x ht.y ht.z
theorem dplusT_go (w : World) (s t : T3) (hs : Len3 s) (ht : Len3 t) : Calls zB 30 #[.agg (zc ((zg s.1) ++ ((zg s.2.1) ++ (zg s.2.2)))), .agg (zc ((zg t.1) ++ ((zg t.2.1) ++ (zg t.2.2))))] w fun e w' => e = .returned (.agg (zc ((zg ((jpL s t).1)) ++ ((zg ((jpL s t).2.1)) ++ (zg ((jpL s t).2.2)))))) ∧ Ev w [] w' [] := by
  obtain ⟨x, y, z⟩ := t
  obtain ⟨x1, y1, z1⟩ := s
  exact dplus_go w x1 y1 z1 x y z hs.x hs.y hs.z ht.x ht.y ht.z
def cqV (s : List UInt8) : Nat → List UInt8
  | 0 => zd 32 0
  | i + 1 => zt (cqV s i) i (zb s i 0)
theorem cqV_len (s : List UInt8) : ∀ i, (cqV s i).length = 32
  | 0 => zh
  | i + 1 => by rw [cqV, List.length_set, cqV_len s i]
theorem cqV_at {s : List UInt8} (h : s.length = 32) : ∀ i, i ≤ 32 → ∀ j, j < i → (cqV s i)[j]? = s[j]?
  | 0, _, j, hj => absurd hj (by omega)
  | i + 1, hi, j, hj => by
    rw [cqV, List.getElem?_set]
    split
    · rename_i e
      subst e
      rw [if_pos (by rw [cqV_len]; omega), zT, z3 (by omega)]
      rfl
    · exact cqV_at h i (by omega) j (by omega)
theorem cqV_all {s : List UInt8} (h : s.length = 32) : cqV s 32 = zD 32 s := by
  rw [zx (by omega)]
  refine List.ext_getElem? fun j => ?_
  by_cases hj : j < 32
  · exact cqV_at h 32 (Nat.le_refl _) j hj
  · rw [ZR (by rw [cqV_len]; omega), ZR (by omega)]
theorem nu_txt {m : List UInt8} (h : m.length = 32) : nd (zo 3 (nv (nd (lv (zr (zD 32 m))))) (nv [1, 0, 0, 0])) = nd (nuV m) := by
  rw [rv_lt (by rw [Zg, h]; rfl), one3n]
  rfl
theorem ret_nd {a b : L4} (h : a = b) : Ending.returned (.agg (zc (zg a))) = Ending.returned (.agg (zc (zg b))) := by rw [h]
theorem pnumber_go (w : World) (am : Option Addr) (nm cm : Nat) (lm : List UInt8) (em : nm = zf lm) (im : InB w [] am cm lm) (hl : zf lm = 32) : Calls zB 18 #[.slice am nm cm] w fun e w' => e = .returned (.agg (zc (zg (nd (nuV lm))))) ∧ Ev w [] w' [] := by
 subst em
 have hs := im.small
 have Eu := im.cap
 refine d_0 [(0, .slice am (zf lm) cm)] 9 Tryz.func18 Tryz.ntmps18 (Heap.nil _) fun Eo Ep Eq => wp_seq <| zj <| f_o <| m_z 24 (zg (zd 4 0)) Ep Eq fun _ _ Er Es En => f_e <| ze ?_
 have Et : 0 < zf lm := by omega
 obtain ⟨Ea, Eb⟩ := Y0 im.nz Et
 refine wp_seq <| zj <| d_k [2,3] [] 1 Es fun _ Ed => f_o <| q_v (x := Instr.arrayAt 56 (.slice am (zf lm) cm)) (v := .pointer (some Ea)) Ed (Go.Dbr.run_toarr2 (e := 5) (m := 32) (by kernel_rfl) Eb (by omega) _) fun _ Ee => f_o ?_
 have Ef : 32 ≤ zf lm := by first | omega | (simp; done) | (simp; omega)
 refine op_loadaggat (d := some 5) (t := 56) (ad := Ea) (ao := am) (ys := bys lm) (o := 0) (m := 32) (xs := bys (zD 32 lm)) Ee (by kernel_rfl) (add0 _) (im.ev En).reads Eb bys_pre (bys_prel Ef) (by kernel_rfl) (by kernel_rfl) ?_
 intro _ Eg
 refine f_o <| c_p Eg En (frombe_go _ (zD 32 lm) (by first | (simp; done) | (simp; omega) | (rw [Zg]; omega))) fun _ _ Eh Ei => d_k [2,6,7] [] 5 Eh fun _ Ej => f_o <| c_p Ej Ei (hM3 _ (nd (lv (zr (zD 32 lm)))) ([1, 0, 0, 0] : List UInt64) (zl _ _) (show zf ([1, 0, 0, 0] : List UInt64) = 4 from rfl)) fun _ _ Ek El => f_o <| zW 0 4 (zg (nd (zo 3 (nv (nd (lv (zr (zD 32 lm))))) (nv ([1, 0, 0, 0] : List UInt64))))) _ Ek El rfl (za (zl _ _)) (za (zh)) (zq _) rfl fun _ _ Em Ec => f_e <| ze <| wp_ret <| zU (v := .agg (zc (zg (nd (zo 3 (nv (nd (lv (zr (zD 32 lm))))) (nv ([1, 0, 0, 0] : List UInt64))))))) (t := 2) (T := 24) (ad := ⟨Er, 0, none⟩) Em (by kernel_rfl) (by kernel_rfl) (zC (t := 24) (k := 0) (off := 0) (m := 4) (xs := zg (nd (zo 3 (nv (nd (lv (zr (zD 32 lm))))) (nv ([1, 0, 0, 0] : List UInt64))))) Ec rfl (zn (za (zl _ _))) (za (zl _ _)) (by kernel_rfl) (by kernel_rfl)) ?_
 exact ⟨ret_nd (nu_txt hl), Ec.pk []⟩
theorem dnumber_go (w : World) (am : Option Addr) (nm cm : Nat) (lm : List UInt8) (em : nm = zf lm) (im : InB w [] am cm lm) (hl : zf lm = 32) : Calls zB 26 #[.slice am nm cm] w fun e w' => e = .returned (.agg (zc (zg (nd (nuV lm))))) ∧ Ev w [] w' [] := by
 subst em
 have hs := im.small
 have EE := im.cap
 refine d_0 [(0, .slice am (zf lm) cm)] 19 Tryz.func26 Tryz.ntmps26 (Heap.nil _) fun EF EG EH => wp_seq <| zj <| f_o <| m_z 24 (zg (zd 4 0)) EG EH fun _ _ Eh EI EJ => f_e <| ze <| wp_seq <| zj <| f_o <| m_z 56 (bys (zd 32 0)) EI EJ fun _ _ Ee EK Ei => f_e <| ze <| wp_seq <| wp_seq <| d_r [0,2,3,4] [] EK fun _ Ej => ?_
 refine ze <| wp_block <| ZT (fun Ek ac wo => ∃ (i : Nat) (cl : List UInt8), Ek = (32 - i : Nat) ∧ Env ac 19 [(0, .slice am (zf lm) cm), (2, pt Eh), (3, pt Ee), (4, ni i)] ∧ Ev w [] wo [.box Ee (bys cl) 56, .box Eh (zg (zd 4 0)) 24] ∧ (i ≤ 32) ∧ (zf cl = 32) ∧ (cl = cqV lm i)) ⟨_, 0, zd 32 0, rfl, Ej.sb, Ei.pk [1, 0], by omega, (zh), rfl⟩ ?_
 rintro EL _ _ ⟨i, cl, rfl, El, Ea, hicl, hlcl, hecl⟩
 refine wp_seq <| wp_seq <| d_r [0,2,3,4,6] [] El fun _ Ed => ?_
 refine ze <| c_d (((i : Nat) : Int) < (32 : Int)) Ed (fun Em => ?_) (fun Em => ?_)
 ·
  refine wp_skip <| ze <| wp_seq <| wp_block ?_
  have Ef : i < zf lm := (by omega)
  obtain ⟨Eb, Ec⟩ := Y0 im.nz Ef
  refine zj <| d_k [0,2,3,4,9,10,11] [] 3 Ed fun _ En => f_o <| q_v (x := Instr.indexAt 25 (.slice am (zf lm) cm) (ni i)) (v := .pointer (some (Addr.add Eb i))) En (zy (e := 5) (sz := 1) (j := i) (jo := i) Ec (by kernel_rfl) (by kernel_rfl) (by omega) Ef (zI _) _) fun _ Eo => f_o ?_
  have Ep : i < zf lm := by omega
  refine Jn (d := some 13) (t := 5) (ad := Eb) (ao := am) (xs := bys lm) (j := i) (v := bv (zb lm i 0)) Eo (by kernel_rfl) (im.ev Ea).reads Ec (Z0 Ep) (by kernel_rfl) ?_
  intro _ Eq
  refine f_o <| q_v (x := Instr.indexAt 56 (pt Ee) (ni i)) (v := .pointer (some ⟨Ee, i, none⟩)) Eq (zs (e := 5) (sz := 1) (m := 32) (j := i) (o := i) (by kernel_rfl) (by kernel_rfl) (by omega) (by omega) (by omega) _) fun _ Er => f_o ?_
  have Es : i < zf cl := by rw [hlcl]; omega
  refine m_t 0 i (bv (zb lm i 0)) _ Er Ea rfl (Z0 Es) (YO _ _ _) rfl fun _ _ Et Eu => f_e <| zw <| ze <| d_r [0,2,3,4] [(1, g_n (w_a i 1))] Et fun _ Ew => ze <| ⟨_, ⟨i + 1, (zt cl i (zb lm i 0)), rfl, Ew.sb, Eu.pk [0, 1], by omega, (List.length_set.trans hlcl), by first | (rw [hecl]; rfl) | (rw [hecl, EE]; rfl) | rfl⟩, ?_⟩
  omega
 refine wp_exit <| zF <| zF <| zX <| ze <| wp_seq ?_
 have hncl : i = 32 := by omega
 have hfcl : cl = cqV lm 32 := by rw [hecl, hncl] <;> rfl
 rw [show cl = (cqV lm 32) from hfcl] at Ea
 rw [show (cqV lm 32) = (zD 32 lm) from (cqV_all hl)] at Ea
 refine zj <| f_o <| Zn 0 32 (bys (zD 32 lm)) Ed Ea rfl (Zi (by rw [Zg, hl]; rfl)) fun _ Ex => f_o <| c_p Ex Ea (rfrombe_go _ (zD 32 lm) (by rw [Zg, hl]; rfl)) fun _ _ Ey Ez => d_k [0,2,3,4,16,17] [] 3 Ey fun _ EA => f_o <| c_p EA Ez (hR3 _ (nd (lv (zr (zD 32 lm)))) ([1, 0, 0, 0] : List UInt64) (zl _ _) (show zf ([1, 0, 0, 0] : List UInt64) = 4 from rfl)) fun _ _ EB EC => f_o <| zW 1 4 (zg (nd (zo 3 (nv (nd (lv (zr (zD 32 lm))))) (nv ([1, 0, 0, 0] : List UInt64))))) [.box Ee (bys (zD 32 lm)) 56, .box Eh (zg (nd (zo 3 (nv (nd (lv (zr (zD 32 lm))))) (nv ([1, 0, 0, 0] : List UInt64))))) 24] EB EC rfl (za (zl _ _)) (za (zh)) (zq _) rfl fun _ _ ED Eg => f_e <| ze <| wp_ret <| zU (v := .agg (zc (zg (nd (zo 3 (nv (nd (lv (zr (zD 32 lm))))) (nv ([1, 0, 0, 0] : List UInt64))))))) (t := 2) (T := 24) (ad := ⟨Eh, 0, none⟩) ED (by kernel_rfl) (by kernel_rfl) (zC (t := 24) (k := 1) (off := 0) (m := 4) (xs := zg (nd (zo 3 (nv (nd (lv (zr (zD 32 lm))))) (nv ([1, 0, 0, 0] : List UInt64))))) Eg rfl (zn (za (zl _ _))) (za (zl _ _)) (by kernel_rfl) (by kernel_rfl)) ?_
 exact ⟨ret_nd (nu_txt hl), Eg.pk []⟩
theorem ver_1 {p : PZ} {m : List UInt8} {r s : L4} (h : ¬ onP p = true) : verP p m r s = false := by rw [verP, ZB.2 h]; rfl
theorem ver_2 {p : PZ} {m : List UInt8} {r s : L4} (h : p.1 = true) : verP p m r s = false := by rw [verP, h]; simp
theorem ver_3 {p : PZ} {m : List UInt8} {r s : L4} (h : ¬ m.length = 32) : verP p m r s = false := by rw [verP, decide_eq_false h]; simp
theorem ver_4 {p : PZ} {m : List UInt8} {r s : L4} (h : ¬ mayN r = true) : verP p m r s = false := by rw [verP, ZB.2 h]; simp
theorem ver_5 {p : PZ} {m : List UInt8} {r s : L4} (h : ¬ mayN s = true) : verP p m r s = false := by rw [verP, ZB.2 h]; simp
theorem ver_yes {p : PZ} {m : List UInt8} {r s : L4} (h1 : onP p = true) (h2 : ¬ p.1 = true) (h3 : m.length = 32) (h4 : mayN r = true) (h5 : mayN s = true) : okV r (qP (uA m s) (uB r s) p) = verP p m r s := by rw [verP, h1, ZB.2 h2, decide_eq_true h3, h4, h5]; rfl
theorem ret_b {a b : Bool} (h : a = b) : Ending.returned (.bool a) = Ending.returned (.bool b) := by rw [h]
theorem pverify_go (w : World) (z : Bool) (x y : List UInt64) (hx : zf x = 4) (hy : zf y = 4) (am : Option Addr) (nm cm : Nat) (lm : List UInt8) (em : nm = zf lm) (im : InB w [] am cm lm) (r s : List UInt64) (hr : zf r = 4) (hs4 : zf s = 4) : Calls zB 5 #[.agg (zc (([.bool z] : List Value) ++ ((zg x) ++ (zg y)))), .slice am nm cm, .agg (zc (zg r)), .agg (zc (zg s))] w fun e w' => e = .returned (.bool (verP (z, x, y) lm r s)) ∧ Ev w [] w' [] := by
 subst em
 have hs := im.small
 have H1 := im.cap
 refine d_0 [(0, .agg (zc (([.bool z] : List Value) ++ ((zg x) ++ (zg y))))), (1, .slice am (zf lm) cm), (2, .agg (zc (zg r))), (3, .agg (zc (zg s)))] 65 Tryz.func5 Tryz.ntmps5 (Heap.nil _) fun HV HW HX => wp_seq <| zj <| f_o <| m_m 27 (([.bool z] : List Value) ++ ((zg x) ++ (zg y))) HW HX fun _ _ Ei HY HZ => f_o <| m_m 24 (zg r) HY HZ fun _ _ Eh H0 Hw => f_o <| m_m 24 (zg s) H0 Hw fun _ _ Ed Hx Er => d_e [1,4,6,7,8] [] Hx fun _ Hy => ze <| wp_seq <| wp_seq <| zj <| d_k [1,4,6,7,8,13] [] 1 Hy fun _ Hz => ?_
 refine f_o <| m_v 0 0 (.bool z) Hz Er rfl (J4 rfl) fun _ HA => d_k [1,4,6,7,8,15] [] 3 HA fun _ EC => ?_
 rcases zM (z) with El | El
 ·
  have HB := EC.fx (t := 15) (congrArg Value.bool El)
  have hp26 : z = true := El
  refine d_e [1,4,6,7,8,34] [] HB fun _ ED => ze <| c_t ED ?_
  refine d_s [1,4,6,7,8] [] ED fun _ HC => wp_ret <| z9 <| ZH (t := 8) (v := .bool false) HC (by kernel_rfl) (by kernel_rfl) ?_
  exact ⟨ret_b (by first | exact (ver_1 (show ¬ onP (z, x, y) = true by assumption)).symm | exact (ver_2 (show (z, x, y).1 = true by assumption)).symm | exact (ver_3 (by omega)).symm | exact (ver_4 (by assumption)).symm | exact (ver_5 (by assumption)).symm), Er.pk []⟩
 have HD := EC.fx (t := 15) (congrArg Value.bool El)
 have hp32 : ¬ (z = true) := ZB.1 El
 refine f_o <| Zn 0 9 (([.bool z] : List Value) ++ ((zg x) ++ (zg y))) HD Er rfl (zp rfl (zp (za hx) (za hy))) fun _ HE => f_o <| c_p HE Er (on_go _ z x y hx hy) fun _ _ HF Es => d_k [1,4,6,7,8,20] [] 8 HF fun _ EE => ?_
 rcases zM (!(onN z x y)) with Em | Em
 ·
  have HG := EE.fx (t := 20) (congrArg Value.bool Em)
  have hp46 : ¬ (onN z x y = true) := by simpa using Em
  refine d_e [1,4,6,7,8,34] [] HG fun _ EF => ze <| c_t EF ?_
  refine d_s [1,4,6,7,8] [] EF fun _ HH => wp_ret <| z9 <| ZH (t := 8) (v := .bool false) HH (by kernel_rfl) (by kernel_rfl) ?_
  exact ⟨ret_b (by first | exact (ver_1 (show ¬ onP (z, x, y) = true by assumption)).symm | exact (ver_2 (show (z, x, y).1 = true by assumption)).symm | exact (ver_3 (by omega)).symm | exact (ver_4 (by assumption)).symm | exact (ver_5 (by assumption)).symm), Es.pk []⟩
 have HI := EE.fx (t := 20) (congrArg Value.bool Em)
 have hp52 : onN z x y = true := by simpa using Em
 refine d_k [1,4,6,7,8,25] [] 13 HI fun _ EG => ?_
 rcases zM (((zf lm : Nat) : Int) != (32 : Int)) with En | En
 ·
  have HJ := EG.fx (t := 25) (congrArg Value.bool En)
  have hp57 : ¬ (((zf lm : Nat) : Int) = (32 : Int)) := by simpa using En
  refine d_e [1,4,6,7,8,34] [] HJ fun _ EH => ze <| c_t EH ?_
  refine d_s [1,4,6,7,8] [] EH fun _ HK => wp_ret <| z9 <| ZH (t := 8) (v := .bool false) HK (by kernel_rfl) (by kernel_rfl) ?_
  exact ⟨ret_b (by first | exact (ver_1 (show ¬ onP (z, x, y) = true by assumption)).symm | exact (ver_2 (show (z, x, y).1 = true by assumption)).symm | exact (ver_3 (by omega)).symm | exact (ver_4 (by assumption)).symm | exact (ver_5 (by assumption)).symm), Es.pk []⟩
 have HL := EG.fx (t := 25) (congrArg Value.bool En)
 have hp63 : ((zf lm : Nat) : Int) = (32 : Int) := by simpa using En
 refine f_o <| Zn 1 4 (zg r) HL Es rfl (za hr) fun _ HM => f_o <| c_p HM Es (may_go _ r hr) fun _ _ HN Ez => d_k [1,4,6,7,8,30] [] 18 HN fun _ EI => ?_
 rcases zM (!(mayN r)) with Eo | Eo
 ·
  have HO := EI.fx (t := 30) (congrArg Value.bool Eo)
  have hp77 : ¬ (mayN r = true) := by simpa using Eo
  refine d_e [1,4,6,7,8,34] [] HO fun _ EJ => ze <| c_t EJ ?_
  refine d_s [1,4,6,7,8] [] EJ fun _ HP => wp_ret <| z9 <| ZH (t := 8) (v := .bool false) HP (by kernel_rfl) (by kernel_rfl) ?_
  exact ⟨ret_b (by first | exact (ver_1 (show ¬ onP (z, x, y) = true by assumption)).symm | exact (ver_2 (show (z, x, y).1 = true by assumption)).symm | exact (ver_3 (by omega)).symm | exact (ver_4 (by assumption)).symm | exact (ver_5 (by assumption)).symm), Ez.pk []⟩
 have HQ := EI.fx (t := 30) (congrArg Value.bool Eo)
 have hp83 : mayN r = true := by simpa using Eo
 refine f_o <| Zn 2 4 (zg s) HQ Ez rfl (za hs4) fun _ HR => f_o <| c_p HR Ez (may_go _ s hs4) fun _ _ HS EA => d_e [1,4,6,7,8,34] [] HS fun _ EB => ?_
 refine ze <| cond_at EB (t := !(mayN s)) (by kernel_rfl) (fun Ep => ?_) (fun Ep => ?_)
 ·
  replace Ep : ¬ (mayN s = true) := by simpa using Ep
  refine d_s [1,4,6,7,8] [] EB fun _ HT => wp_ret <| z9 <| ZH (t := 8) (v := .bool false) HT (by kernel_rfl) (by kernel_rfl) ?_
  exact ⟨ret_b (by first | exact (ver_1 (show ¬ onP (z, x, y) = true by assumption)).symm | exact (ver_2 (show (z, x, y).1 = true by assumption)).symm | exact (ver_3 (by omega)).symm | exact (ver_4 (by assumption)).symm | exact (ver_5 (by assumption)).symm), EA.pk []⟩
 replace Ep : mayN s = true := by simpa using Ep
 refine wp_skip <| ze <| wp_seq <| zj <| f_o <| Zn 2 4 (zg s) EB EA rfl (za hs4) fun _ HU => f_o <| c_p HU EA (inv_go _ 3 h3f hM3 s hs4) fun _ _ EK EL => f_o <| m_z 24 (zg (zd 4 0)) EK EL fun _ _ Eb EM EN => f_o <| zW 3 4 (zg (nd (zK 3 (nv s) (mF 3 - 2)))) _ EM EN rfl (za (zl _ _)) (za (zh)) (zq _) rfl fun _ _ EO Et => ?_
 refine f_e <| ze <| wp_seq <| r_c (fun ac wo => ∃ (Ea : Nat), Env ac 65 [(1, .slice am (zf lm) cm), (4, pt Ei), (6, pt Eh), (7, pt Ed), (8, .bool false), (9, pt Eb), (10, pt Ea)] ∧ Ev w [] wo [.box Ei (([.bool z] : List Value) ++ ((zg x) ++ (zg y))) 27, .box Eh (zg r) 24, .box Ed (zg s) 24, .box Eb (zg (nd (zK 3 (nv s) (mF 3 - 2)))) 24, .box Ea (zg (tmF (Qe false (nd GX) (nd GY)) (nv (nd (zo 3 (nv (nd (nuV lm))) (nv (nd (zK 3 (nv s) (mF 3 - 2))))))) 64)) 44]) ?_ ?_
 ·
  refine s_g1 [(1, .slice am (zf lm) cm), (4, pt Ei), (6, pt Eh), (7, pt Ed), (8, .bool false), (9, pt Eb)] [0,1,2,3,4,5,6] [(37, .agg (zc (([.bool false] : List Value) ++ ((zg (nd GX)) ++ (zg (nd GY)))))), (38, .agg (zc (zg (Qe false (nd GX) (nd GY))))), (39, .slice am (zf lm) cm), (40, .agg (zc (zg (nd (nuV lm))))), (41, .agg (zc (zg (nd (zK 3 (nv s) (mF 3 - 2)))))), (42, .agg (zc (zg (nd (zo 3 (nv (nd (nuV lm))) (nv (nd (zK 3 (nv s) (mF 3 - 2))))))))), (43, .agg (zc (zg (tmF (Qe false (nd GX) (nd GY)) (nv (nd (zo 3 (nv (nd (nuV lm))) (nv (nd (zK 3 (nv s) (mF 3 - 2))))))) 64))))] 1 [(1, .slice am (zf lm) cm), (4, pt Ei), (6, pt Eh), (7, pt Ed), (8, .bool false), (9, pt Eb), (43, .agg (zc (zg (tmF (Qe false (nd GX) (nd GY)) (nv (nd (zo 3 (nv (nd (nuV lm))) (nv (nd (zK 3 (nv s) (mF 3 - 2))))))) 64))))] 7 ((zg (zd 4 0)) ++ ((zg (zd 4 0)) ++ (zg (zd 4 0)))) (EO.sb) (Et.trans (zN Et.heap)) ?_ fun _ _ Ea EP EQ => ?_
  ·
   refine s_f (fun _ => Kw _) ?_
   refine s_f (fun _ => of12_go _ false (nd GX) (nd GY) lGX lGY) ?_
   refine s_p [] ?_
   refine s_c (fun Mx134 _ _ ER Eu => ?_) ?_
   ·
    refine c_p ER Eu (pnumber_go _ am (zf lm) cm lm (by first | rfl | (simp; done) | (simp; omega) | omega) ((im.ev Eu).pick [] (by kernel_rfl)) (by omega)) fun _ _ ES ET => ?_
    exact s_e ES ET
   refine s_a 3 0 4 (zg (nd (zK 3 (nv s) (mF 3 - 2)))) rfl (zn (za (zl _ _))) (za (zl _ _)) <| s_f (fun _ => hM3 _ (nd (nuV lm)) (nd (zK 3 (nv s) (mF 3 - 2))) (zl _ _) (zl _ _)) ?_
   refine s_f (fun _ => times12_go _ (Qe false (nd GX) (nd GY)) (nd (zo 3 (nv (nd (nuV lm))) (nv (nd (zK 3 (nv s) (mF 3 - 2)))))) (of12_len lGX lGY) (zl _ _)) ?_
   exact s_n
  refine q_u 8 ?_
  refine zW 4 12 (zg (tmF (Qe false (nd GX) (nd GY)) (nv (nd (zo 3 (nv (nd (nuV lm))) (nv (nd (zK 3 (nv s) (mF 3 - 2))))))) 64)) [.box Ei (([.bool z] : List Value) ++ ((zg x) ++ (zg y))) 27, .box Eh (zg r) 24, .box Ed (zg s) 24, .box Eb (zg (nd (zK 3 (nv s) (mF 3 - 2)))) 24, .box Ea (zg (tmF (Qe false (nd GX) (nd GY)) (nv (nd (zo 3 (nv (nd (nuV lm))) (nv (nd (zK 3 (nv s) (mF 3 - 2))))))) 64)) 44] EP EQ rfl (za (XC _ _ _)) (zp (za (zh)) (zp (za (zh)) (za (zh)))) (zq _) rfl fun _ _ EU EV => ?_
  exact a_e ⟨Ea, EU.sb, EV.pk [0, 1, 2, 3, 4]⟩
 rintro _ _ ⟨Ea, EW, Ew⟩
 refine ze <| wp_seq <| r_c (fun ac wo => ∃ (Ec : Nat), Env ac 65 [(1, .slice am (zf lm) cm), (4, pt Ei), (6, pt Eh), (7, pt Ed), (8, .bool false), (9, pt Eb), (10, pt Ea), (11, pt Ec)] ∧ Ev w [] wo [.box Ei (([.bool z] : List Value) ++ ((zg x) ++ (zg y))) 27, .box Eh (zg r) 24, .box Ed (zg s) 24, .box Eb (zg (nd (zK 3 (nv s) (mF 3 - 2)))) 24, .box Ea (zg (tmF (Qe false (nd GX) (nd GY)) (nv (nd (zo 3 (nv (nd (nuV lm))) (nv (nd (zK 3 (nv s) (mF 3 - 2))))))) 64)) 44, .box Ec (zg (tmF (Qe z x y) (nv (nd (zo 3 (nv r) (nv (nd (zK 3 (nv s) (mF 3 - 2))))))) 64)) 44]) ?_ ?_
 ·
  refine s_g1 [(1, .slice am (zf lm) cm), (4, pt Ei), (6, pt Eh), (7, pt Ed), (8, .bool false), (9, pt Eb), (10, pt Ea)] [0,1,2,3,4,5] [(44, .agg (zc (([.bool z] : List Value) ++ ((zg x) ++ (zg y))))), (45, .agg (zc (zg (Qe z x y)))), (46, .agg (zc (zg r))), (47, .agg (zc (zg (nd (zK 3 (nv s) (mF 3 - 2)))))), (48, .agg (zc (zg (nd (zo 3 (nv r) (nv (nd (zK 3 (nv s) (mF 3 - 2))))))))), (49, .agg (zc (zg (tmF (Qe z x y) (nv (nd (zo 3 (nv r) (nv (nd (zK 3 (nv s) (mF 3 - 2))))))) 64))))] 1 [(1, .slice am (zf lm) cm), (4, pt Ei), (6, pt Eh), (7, pt Ed), (8, .bool false), (9, pt Eb), (10, pt Ea), (49, .agg (zc (zg (tmF (Qe z x y) (nv (nd (zo 3 (nv r) (nv (nd (zK 3 (nv s) (mF 3 - 2))))))) 64))))] 6 ((zg (zd 4 0)) ++ ((zg (zd 4 0)) ++ (zg (zd 4 0)))) (EW.sb) (Ew.trans (zN Ew.heap)) ?_ fun _ _ Ec EX EY => ?_
  ·
   refine s_a 0 0 9 (([.bool z] : List Value) ++ ((zg x) ++ (zg y))) rfl (zn (zp rfl (zp (za hx) (za hy)))) (zp rfl (zp (za hx) (za hy))) <| s_f (fun _ => of12_go _ z x y hx hy) ?_
   refine s_a 1 0 4 (zg r) rfl (zn (za hr)) (za hr) <| s_a 3 0 4 (zg (nd (zK 3 (nv s) (mF 3 - 2)))) rfl (zn (za (zl _ _))) (za (zl _ _)) <| s_f (fun _ => hM3 _ r (nd (zK 3 (nv s) (mF 3 - 2))) hr (zl _ _)) ?_
   refine s_f (fun _ => times12_go _ (Qe z x y) (nd (zo 3 (nv r) (nv (nd (zK 3 (nv s) (mF 3 - 2)))))) (of12_len hx hy) (zl _ _)) ?_
   exact s_n
  refine q_u 7 ?_
  refine zW 5 12 (zg (tmF (Qe z x y) (nv (nd (zo 3 (nv r) (nv (nd (zK 3 (nv s) (mF 3 - 2))))))) 64)) _ EX EY rfl (za (XC _ _ _)) (zp (za (zh)) (zp (za (zh)) (za (zh)))) (zq _) rfl fun _ _ EZ E0 => ?_
  exact a_e ⟨Ec, EZ.sb, E0.pk [0, 1, 2, 3, 4, 5]⟩
 rintro _ _ ⟨Ec, E1, Eq⟩
 refine ze <| wp_seq <| zj <| f_o <| Zn 4 12 (zg (tmF (Qe false (nd GX) (nd GY)) (nv (nd (zo 3 (nv (nd (nuV lm))) (nv (nd (zK 3 (nv s) (mF 3 - 2))))))) 64)) E1 Eq rfl (za (XC _ _ _)) fun _ E2 => f_o <| Zn 5 12 (zg (tmF (Qe z x y) (nv (nd (zo 3 (nv r) (nv (nd (zK 3 (nv s) (mF 3 - 2))))))) 64)) E2 Eq rfl (za (XC _ _ _)) fun _ E3 => f_o <| c_p E3 Eq (with12_go _ (tmF (Qe false (nd GX) (nd GY)) (nv (nd (zo 3 (nv (nd (nuV lm))) (nv (nd (zK 3 (nv s) (mF 3 - 2))))))) 64) (tmF (Qe z x y) (nv (nd (zo 3 (nv r) (nv (nd (zK 3 (nv s) (mF 3 - 2))))))) 64) (XC _ _ _) (XC _ _ _)) fun _ _ E4 E5 => f_o <| c_p E4 E5 (backQ_go _ (uA lm s) (uB r s) (uA_lt _ _) (uB_lt _ _) z x y hx hy (by assumption) (uA_txt lm s) (uB_txt r s)) fun _ _ E6 E7 => f_o <| m_z 27 (([.bool false] : List Value) ++ ((zg (zd 4 0)) ++ (zg (zd 4 0)))) E6 E7 fun _ _ Ef E8 E9 => f_o <| zW 6 9 (([.bool ((qP (uA lm s) (uB r s) (z, x, y)).1)] : List Value) ++ ((zg ((qP (uA lm s) (uB r s) (z, x, y)).2.1)) ++ (zg ((qP (uA lm s) (uB r s) (z, x, y)).2.2)))) [.box Ei (([.bool z] : List Value) ++ ((zg x) ++ (zg y))) 27, .box Eh (zg r) 24, .box Ed (zg s) 24, .box Eb (zg (nd (zK 3 (nv s) (mF 3 - 2)))) 24, .box Ea (zg (tmF (Qe false (nd GX) (nd GY)) (nv (nd (zo 3 (nv (nd (nuV lm))) (nv (nd (zK 3 (nv s) (mF 3 - 2))))))) 64)) 44, .box Ec (zg (tmF (Qe z x y) (nv (nd (zo 3 (nv r) (nv (nd (zK 3 (nv s) (mF 3 - 2))))))) 64)) 44, .box Ef (([.bool ((qP (uA lm s) (uB r s) (z, x, y)).1)] : List Value) ++ ((zg ((qP (uA lm s) (uB r s) (z, x, y)).2.1)) ++ (zg ((qP (uA lm s) (uB r s) (z, x, y)).2.2)))) 27] E8 E9 rfl (zp rfl (zp (za (qP_len _ _ _).1) (za (qP_len _ _ _).2))) (zp rfl (zp (za (zh)) (za (zh)))) (Zd (one_all (by kernel_rfl)) (Zd (zq _) (zq _))) rfl fun _ _ Ex Ej => ?_
 refine f_e <| ze <| wp_seq ?_
 rcases zM (!((qP (uA lm s) (uB r s) (z, x, y)).1)) with Ee | Ee
 ·
  have hb273p : ¬ ((qP (uA lm s) (uB r s) (z, x, y)).1 = true) := by simpa using Ee
  refine r_c (fun ac wo => Env ac 65 [(1, .slice am (zf lm) cm), (4, pt Ei), (6, pt Eh), (7, pt Ed), (8, .bool ((nd (zo 3 (nv ((qP (uA lm s) (uB r s) (z, x, y)).2.1)) (nv ([1, 0, 0, 0] : List UInt64)))) == r)), (9, pt Eb), (10, pt Ea), (11, pt Ec), (12, pt Ef)] ∧ Ev w [] wo [.box Ei (([.bool z] : List Value) ++ ((zg x) ++ (zg y))) 27, .box Eh (zg r) 24, .box Ed (zg s) 24, .box Eb (zg (nd (zK 3 (nv s) (mF 3 - 2)))) 24, .box Ea (zg (tmF (Qe false (nd GX) (nd GY)) (nv (nd (zo 3 (nv (nd (nuV lm))) (nv (nd (zK 3 (nv s) (mF 3 - 2))))))) 64)) 44, .box Ec (zg (tmF (Qe z x y) (nv (nd (zo 3 (nv r) (nv (nd (zK 3 (nv s) (mF 3 - 2))))))) 64)) 44, .box Ef (([.bool ((qP (uA lm s) (uB r s) (z, x, y)).1)] : List Value) ++ ((zg ((qP (uA lm s) (uB r s) (z, x, y)).2.1)) ++ (zg ((qP (uA lm s) (uB r s) (z, x, y)).2.2)))) 27]) ?_ ?_
  ·
   refine h_s (fun wv => Ev w [] wv [.box Eh (zg r) 24, .box Ef (([.bool ((qP (uA lm s) (uB r s) (z, x, y)).1)] : List Value) ++ ((zg ((qP (uA lm s) (uB r s) (z, x, y)).2.1)) ++ (zg ((qP (uA lm s) (uB r s) (z, x, y)).2.2)))) 27]) [] 12 ?_
   have Eg := Ej.trans (zN Ej.heap)
   refine q_s [0] [] 11 Ex (Eg.pk [1, 6]) fun _ Ha => q_r 1 (s := Instr.loadAt 4 (pt Ef)) (v := .bool ((qP (uA lm s) (uB r s) (z, x, y)).1)) Ha (fun w hS => Zt (by kernel_rfl) (hS.heap.cell (k := 1) rfl (J4 rfl))) (Eg.pk [1, 6]) fun _ Hb => q_s [2,3] [] 8 Hb (Eg.pk [1, 6]) fun _ Hc => ?_
   have Hd := Hc.fx (t := 56) (congrArg Value.bool Ee)
   have He := Hd.fx (t := 57) (congrArg Value.bool Ee)
   refine q_s [4] [] 7 He (Eg.pk [1, 6]) fun _ Hf => q_r 5 (s := Instr.loadAt 24 (.pointer (some ⟨Ef, 1, none⟩))) (v := .agg (zc (zg ((qP (uA lm s) (uB r s) (z, x, y)).2.1)))) Hf (fun w hS => Za (m := 4) (cs := zg ((qP (uA lm s) (uB r s) (z, x, y)).2.1)) (za (qP_len _ _ _).1) (by kernel_rfl) (by kernel_rfl) (hS.heap.cells (k := 1) (off := 1) (m := 4) rfl (by simp [za (qP_len _ _ _).1, za (qP_len _ _ _).2, zu, zv]))) (Eg.pk [1, 6]) fun _ Hg => q_s [6] [] 5 Hg (Eg.pk [1, 6]) fun _ Hh => q_r 8 (s := Instr.loadAt 24 (pt Eh)) (v := .agg (zc (zg r))) Hh (fun w hS => Za (m := 4) (cs := zg r) (za hr) (by kernel_rfl) (by kernel_rfl) (hS.heap.cells (k := 0) (off := 0) (m := 4) rfl (zn (za hr)))) (Eg.pk [1, 6]) fun _ Hi => q_t 7 ?_
   refine c_p Hi Eg (hM3 _ ((qP (uA lm s) (uB r s) (z, x, y)).2.1) ([1, 0, 0, 0] : List UInt64) (qP_len _ _ _).1 (show zf ([1, 0, 0, 0] : List UInt64) = 4 from rfl)) fun _ _ Hj Ek => ⟨fun _ => Ek.pk [1, 6], ?_⟩
   refine q_f 9 (s := eqOp .eql 24 (.tmp 61) (.tmp 62) (.agg (zc (zg (nd (zo 3 (nv ((qP (uA lm s) (uB r s) (z, x, y)).2.1)) (nv ([1, 0, 0, 0] : List UInt64))))))) (.agg (zc (zg r)))) (v := .bool ((nd (zo 3 (nv ((qP (uA lm s) (uB r s) (z, x, y)).2.1)) (nv ([1, 0, 0, 0] : List UInt64)))) == r)) Hj (fun _ => ZI (a := (.tmp 61)) (b := (.tmp 62)) (e := 22) (m := 4) (by kernel_rfl) (by kernel_rfl) (by kernel_rfl) (by kernel_rfl) (by kernel_rfl) (zl _ _) hr _) (fun _ => Ek.pk [1, 6]) fun _ Hk => q_s [10,11] [] 0 Hk (Ek.pk [1, 6]) fun _ Hl => ?_
   exact h_e ⟨Hl.sb, Ek.pk [0, 1, 2, 3, 4, 5, 6]⟩
  rintro _ _ ⟨Hm, Hn⟩
  refine ze <| wp_ret <| ZH (t := 8) (v := .bool ((nd (zo 3 (nv ((qP (uA lm s) (uB r s) (z, x, y)).2.1)) (nv ([1, 0, 0, 0] : List UInt64)))) == r)) Hm (by kernel_rfl) (by kernel_rfl) ?_
  exact ⟨ret_b ((show _ = okV r (qP (uA lm s) (uB r s) (z, x, y)) from by rw [okV, Ee, Q9, one3n]).trans (ver_yes (p := (z, x, y)) (show onN z x y = true by assumption) (show ¬ z = true by assumption) (by omega) (by assumption) (by assumption))), Hn.pk []⟩
 have hb273p : (qP (uA lm s) (uB r s) (z, x, y)).1 = true := by simpa using Ee
 refine r_c (fun ac wo => Env ac 65 [(1, .slice am (zf lm) cm), (4, pt Ei), (6, pt Eh), (7, pt Ed), (8, .bool false), (9, pt Eb), (10, pt Ea), (11, pt Ec), (12, pt Ef)] ∧ Ev w [] wo [.box Ei (([.bool z] : List Value) ++ ((zg x) ++ (zg y))) 27, .box Eh (zg r) 24, .box Ed (zg s) 24, .box Eb (zg (nd (zK 3 (nv s) (mF 3 - 2)))) 24, .box Ea (zg (tmF (Qe false (nd GX) (nd GY)) (nv (nd (zo 3 (nv (nd (nuV lm))) (nv (nd (zK 3 (nv s) (mF 3 - 2))))))) 64)) 44, .box Ec (zg (tmF (Qe z x y) (nv (nd (zo 3 (nv r) (nv (nd (zK 3 (nv s) (mF 3 - 2))))))) 64)) 44, .box Ef (([.bool ((qP (uA lm s) (uB r s) (z, x, y)).1)] : List Value) ++ ((zg ((qP (uA lm s) (uB r s) (z, x, y)).2.1)) ++ (zg ((qP (uA lm s) (uB r s) (z, x, y)).2.2)))) 27]) ?_ ?_
 ·
  refine QR (by kernel_rfl) 12 (by kernel_rfl) ?_
  have Ey := Ej.trans (zN Ej.heap)
  refine q_a [0] [] 11 Ex fun _ Ho => q_u 1 ?_
  refine m_v 6 0 (.bool ((qP (uA lm s) (uB r s) (z, x, y)).1)) Ho Ey rfl (J4 rfl) fun _ Hp => q_a [2,3] [] 8 Hp fun _ Hq => ?_
  have Hr := Hq.fx (t := 56) (congrArg Value.bool Ee)
  have Hs := Hr.fx (t := 57) (congrArg Value.bool Ee)
  refine q_a [4,5,6,7,8,9,10,11] [] 0 Hs fun _ Ht => ?_
  exact a_e ⟨Ht.sb, Ey.pk [0, 1, 2, 3, 4, 5, 6]⟩
 rintro _ _ ⟨Hu, Hv⟩
 refine ze <| wp_ret <| ZH (t := 8) (v := .bool false) Hu (by kernel_rfl) (by kernel_rfl) ?_
 exact ⟨ret_b ((show false = okV r (qP (uA lm s) (uB r s) (z, x, y)) from by rw [okV, Ee, Yc]).trans (ver_yes (p := (z, x, y)) (show onN z x y = true by assumption) (show ¬ z = true by assumption) (by omega) (by assumption) (by assumption))), Hv.pk []⟩
theorem dverify_go (w : World) (z : Bool) (x y : List UInt64) (hx : zf x = 4) (hy : zf y = 4) (am : Option Addr) (nm cm : Nat) (lm : List UInt8) (em : nm = zf lm) (im : InB w [] am cm lm) (r s : List UInt64) (hr : zf r = 4) (hs4 : zf s = 4) : Calls zB 6 #[.agg (zc (([.bool z] : List Value) ++ ((zg x) ++ (zg y)))), .slice am nm cm, .agg (zc (zg r)), .agg (zc (zg s))] w fun e w' => e = .returned (.bool (verP (z, x, y) lm r s)) ∧ Ev w [] w' [] := by
 subst em
 have hs := im.small
 have H4 := im.cap
 refine d_0 [(0, .agg (zc (([.bool z] : List Value) ++ ((zg x) ++ (zg y))))), (1, .slice am (zf lm) cm), (2, .agg (zc (zg r))), (3, .agg (zc (zg s)))] 71 Tryz.func6 Tryz.ntmps6 (Heap.nil _) fun HY HZ H0 => wp_seq <| zj <| f_o <| m_m 27 (([.bool z] : List Value) ++ ((zg x) ++ (zg y))) HZ H0 fun _ _ Ek H1 H2 => f_o <| m_m 24 (zg r) H1 H2 fun _ _ Ej H3 Hy => f_o <| m_m 24 (zg s) H3 Hy fun _ _ Ed Hz Ez => d_e [1,4,6,7,8] [] Hz fun _ HA => ze <| wp_seq <| zj <| f_o <| Zn 0 9 (([.bool z] : List Value) ++ ((zg x) ++ (zg y))) HA Ez rfl (zp rfl (zp (za hx) (za hy))) fun _ HB => ?_
 refine f_o <| c_p HB Ez (don_go _ z x y hx hy) fun _ _ HC EA => d_e [1,4,6,7,8,9] [] HC fun _ HD => ze <| wp_seq <| zj <| f_o <| Zn 1 4 (zg r) HD EA rfl (za hr) fun _ HE => f_o <| c_p HE EA (dmay_go _ r hr) fun _ _ HF EB => d_e [1,4,6,7,8,9,10] [] HF fun _ HG => ze <| wp_seq <| zj <| f_o <| Zn 2 4 (zg s) HG EB rfl (za hs4) fun _ HH => ?_
 refine f_o <| c_p HH EB (dmay_go _ s hs4) fun _ _ HI Eh => d_e [1,4,6,7,8,9,10,11] [] HI fun _ HJ => ze <| wp_seq <| wp_seq <| zj <| d_k [1,4,6,7,8,10,11,24] [] 3 HJ fun _ EC => ?_
 rcases zM (!(onN z x y)) with En | En
 ·
  have HK := EC.fx (t := 24) (congrArg Value.bool En)
  have hp55 : ¬ (onN z x y = true) := by simpa using En
  refine d_e [1,4,6,7,8,40] [] HK fun _ ED => ze <| c_t ED ?_
  refine d_s [1,4,6,7,8] [] ED fun _ HL => wp_ret <| z9 <| ZH (t := 8) (v := .bool false) HL (by kernel_rfl) (by kernel_rfl) ?_
  exact ⟨ret_b (by first | exact (ver_1 (show ¬ onP (z, x, y) = true by assumption)).symm | exact (ver_2 (show (z, x, y).1 = true by assumption)).symm | exact (ver_3 (by omega)).symm | exact (ver_4 (by assumption)).symm | exact (ver_5 (by assumption)).symm), Eh.pk []⟩
 have HM := EC.fx (t := 24) (congrArg Value.bool En)
 have hp61 : onN z x y = true := by simpa using En
 refine d_k [1,4,6,7,8,10,11,24,25] [] 4 HM fun _ HN => f_o <| m_v 0 0 (.bool z) HN Eh rfl (J4 rfl) fun _ HO => d_k [1,4,6,7,8,10,11,28] [] 7 HO fun _ EE => ?_
 rcases zM (z) with Eo | Eo
 ·
  have HP := EE.fx (t := 28) (congrArg Value.bool Eo)
  have hp70 : z = true := Eo
  refine d_e [1,4,6,7,8,40] [] HP fun _ EF => ze <| c_t EF ?_
  refine d_s [1,4,6,7,8] [] EF fun _ HQ => wp_ret <| z9 <| ZH (t := 8) (v := .bool false) HQ (by kernel_rfl) (by kernel_rfl) ?_
  exact ⟨ret_b (by first | exact (ver_1 (show ¬ onP (z, x, y) = true by assumption)).symm | exact (ver_2 (show (z, x, y).1 = true by assumption)).symm | exact (ver_3 (by omega)).symm | exact (ver_4 (by assumption)).symm | exact (ver_5 (by assumption)).symm), Eh.pk []⟩
 have HR := EE.fx (t := 28) (congrArg Value.bool Eo)
 have hp76 : ¬ (z = true) := ZB.1 Eo
 refine d_k [1,4,6,7,8,10,11,33] [] 12 HR fun _ EG => ?_
 rcases zM (((zf lm : Nat) : Int) != (32 : Int)) with Ep | Ep
 ·
  have HS := EG.fx (t := 33) (congrArg Value.bool Ep)
  have hp81 : ¬ (((zf lm : Nat) : Int) = (32 : Int)) := by simpa using Ep
  refine d_e [1,4,6,7,8,40] [] HS fun _ EH => ze <| c_t EH ?_
  refine d_s [1,4,6,7,8] [] EH fun _ HT => wp_ret <| z9 <| ZH (t := 8) (v := .bool false) HT (by kernel_rfl) (by kernel_rfl) ?_
  exact ⟨ret_b (by first | exact (ver_1 (show ¬ onP (z, x, y) = true by assumption)).symm | exact (ver_2 (show (z, x, y).1 = true by assumption)).symm | exact (ver_3 (by omega)).symm | exact (ver_4 (by assumption)).symm | exact (ver_5 (by assumption)).symm), Eh.pk []⟩
 have HU := EG.fx (t := 33) (congrArg Value.bool Ep)
 have hp87 : ((zf lm : Nat) : Int) = (32 : Int) := by simpa using Ep
 refine d_k [1,4,6,7,8,11,37] [] 16 HU fun _ EI => ?_
 rcases zM (!(mayN r)) with Eq | Eq
 ·
  have HV := EI.fx (t := 37) (congrArg Value.bool Eq)
  have hp92 : ¬ (mayN r = true) := by simpa using Eq
  refine d_e [1,4,6,7,8,40] [] HV fun _ EJ => ze <| c_t EJ ?_
  refine d_s [1,4,6,7,8] [] EJ fun _ HW => wp_ret <| z9 <| ZH (t := 8) (v := .bool false) HW (by kernel_rfl) (by kernel_rfl) ?_
  exact ⟨ret_b (by first | exact (ver_1 (show ¬ onP (z, x, y) = true by assumption)).symm | exact (ver_2 (show (z, x, y).1 = true by assumption)).symm | exact (ver_3 (by omega)).symm | exact (ver_4 (by assumption)).symm | exact (ver_5 (by assumption)).symm), Eh.pk []⟩
 have HX := EI.fx (t := 37) (congrArg Value.bool Eq)
 have hp98 : mayN r = true := by simpa using Eq
 refine d_e [1,4,6,7,8,40] [] HX fun _ Er => ?_
 refine ze <| cond_at Er (t := !(mayN s)) (by kernel_rfl) (fun Ei => ?_) (fun Ei => ?_)
 ·
  replace Ei : ¬ (mayN s = true) := by simpa using Ei
  refine d_s [1,4,6,7,8] [] Er fun _ EK => wp_ret <| z9 <| ZH (t := 8) (v := .bool false) EK (by kernel_rfl) (by kernel_rfl) ?_
  exact ⟨ret_b (by first | exact (ver_1 (show ¬ onP (z, x, y) = true by assumption)).symm | exact (ver_2 (show (z, x, y).1 = true by assumption)).symm | exact (ver_3 (by omega)).symm | exact (ver_4 (by assumption)).symm | exact (ver_5 (by assumption)).symm), Eh.pk []⟩
 replace Ei : mayN s = true := by simpa using Ei
 refine wp_skip <| ze <| wp_seq <| zj <| f_o <| Zn 2 4 (zg s) Er Eh rfl (za hs4) fun _ EL => f_o <| c_p EL Eh (rinv_go _ 3 h3f hR3 s hs4) fun _ _ EM EN => f_o <| m_z 24 (zg (zd 4 0)) EM EN fun _ _ Eb EO EP => f_o <| zW 3 4 (zg (nd (zK 3 (nv s) (mF 3 - 2)))) _ EO EP rfl (za (zl _ _)) (za (zh)) (zq _) rfl fun _ _ EQ Et => ?_
 refine f_e <| ze <| wp_seq <| r_c (fun ac wo => ∃ (Ea : Nat), Env ac 71 [(1, .slice am (zf lm) cm), (4, pt Ek), (6, pt Ej), (7, pt Ed), (8, .bool false), (12, pt Eb), (13, pt Ea)] ∧ Ev w [] wo [.box Ek (([.bool z] : List Value) ++ ((zg x) ++ (zg y))) 27, .box Ej (zg r) 24, .box Ed (zg s) 24, .box Eb (zg (nd (zK 3 (nv s) (mF 3 - 2)))) 24, .box Ea ((zg ((mnF (ofJ false (nd GX) (nd GY)) (nv (nd (zo 3 (nv (nd (nuV lm))) (nv (nd (zK 3 (nv s) (mF 3 - 2))))))) 256).1)) ++ ((zg ((mnF (ofJ false (nd GX) (nd GY)) (nv (nd (zo 3 (nv (nd (nuV lm))) (nv (nd (zK 3 (nv s) (mF 3 - 2))))))) 256).2.1)) ++ (zg ((mnF (ofJ false (nd GX) (nd GY)) (nv (nd (zo 3 (nv (nd (nuV lm))) (nv (nd (zK 3 (nv s) (mF 3 - 2))))))) 256).2.2)))) 51]) ?_ ?_
 ·
  refine s_g1 [(1, .slice am (zf lm) cm), (4, pt Ek), (6, pt Ej), (7, pt Ed), (8, .bool false), (12, pt Eb)] [0,1,2,3,4,5,6] [(43, .slice am (zf lm) cm), (44, .agg (zc (zg (nd (nuV lm))))), (45, .agg (zc (zg (nd (zK 3 (nv s) (mF 3 - 2)))))), (46, .agg (zc (zg (nd (zo 3 (nv (nd (nuV lm))) (nv (nd (zK 3 (nv s) (mF 3 - 2))))))))), (47, .agg (zc (([.bool false] : List Value) ++ ((zg (nd GX)) ++ (zg (nd GY)))))), (48, .agg (zc ((zg ((ofJ false (nd GX) (nd GY)).1)) ++ ((zg ((ofJ false (nd GX) (nd GY)).2.1)) ++ (zg ((ofJ false (nd GX) (nd GY)).2.2)))))), (49, .agg (zc ((zg ((mnF (ofJ false (nd GX) (nd GY)) (nv (nd (zo 3 (nv (nd (nuV lm))) (nv (nd (zK 3 (nv s) (mF 3 - 2))))))) 256).1)) ++ ((zg ((mnF (ofJ false (nd GX) (nd GY)) (nv (nd (zo 3 (nv (nd (nuV lm))) (nv (nd (zK 3 (nv s) (mF 3 - 2))))))) 256).2.1)) ++ (zg ((mnF (ofJ false (nd GX) (nd GY)) (nv (nd (zo 3 (nv (nd (nuV lm))) (nv (nd (zK 3 (nv s) (mF 3 - 2))))))) 256).2.2))))))] 1 [(1, .slice am (zf lm) cm), (4, pt Ek), (6, pt Ej), (7, pt Ed), (8, .bool false), (12, pt Eb), (49, .agg (zc ((zg ((mnF (ofJ false (nd GX) (nd GY)) (nv (nd (zo 3 (nv (nd (nuV lm))) (nv (nd (zK 3 (nv s) (mF 3 - 2))))))) 256).1)) ++ ((zg ((mnF (ofJ false (nd GX) (nd GY)) (nv (nd (zo 3 (nv (nd (nuV lm))) (nv (nd (zK 3 (nv s) (mF 3 - 2))))))) 256).2.1)) ++ (zg ((mnF (ofJ false (nd GX) (nd GY)) (nv (nd (zo 3 (nv (nd (nuV lm))) (nv (nd (zK 3 (nv s) (mF 3 - 2))))))) 256).2.2))))))] 7 ((zg (zd 4 0)) ++ ((zg (zd 4 0)) ++ (zg (zd 4 0)))) (EQ.sb) (Et.trans (zN Et.heap)) ?_ fun _ _ Ea ER ES => ?_
  ·
   refine s_p [] ?_
   refine s_c (fun Mx122 _ _ ET Eu => ?_) ?_
   ·
    refine c_p ET Eu (dnumber_go _ am (zf lm) cm lm (by first | rfl | (simp; done) | (simp; omega) | omega) ((im.ev Eu).pick [] (by kernel_rfl)) (by omega)) fun _ _ EU EV => ?_
    exact s_e EU EV
   refine s_a 3 0 4 (zg (nd (zK 3 (nv s) (mF 3 - 2)))) rfl (zn (za (zl _ _))) (za (zl _ _)) <| s_f (fun _ => hR3 _ (nd (nuV lm)) (nd (zK 3 (nv s) (mF 3 - 2))) (zl _ _) (zl _ _)) ?_
   refine s_f (fun _ => dbase_go _) ?_
   refine s_f (fun _ => dof_go _ false (nd GX) (nd GY) lGX lGY) ?_
   refine s_f (fun _ => dmanyT_go _ (nd (zo 3 (nv (nd (nuV lm))) (nv (nd (zK 3 (nv s) (mF 3 - 2)))))) (zl _ _) (ofJ false (nd GX) (nd GY)) (ZZ (z := false) lGX lGY)) ?_
   exact s_n
  refine q_u 8 ?_
  refine zW 4 12 ((zg ((mnF (ofJ false (nd GX) (nd GY)) (nv (nd (zo 3 (nv (nd (nuV lm))) (nv (nd (zK 3 (nv s) (mF 3 - 2))))))) 256).1)) ++ ((zg ((mnF (ofJ false (nd GX) (nd GY)) (nv (nd (zo 3 (nv (nd (nuV lm))) (nv (nd (zK 3 (nv s) (mF 3 - 2))))))) 256).2.1)) ++ (zg ((mnF (ofJ false (nd GX) (nd GY)) (nv (nd (zo 3 (nv (nd (nuV lm))) (nv (nd (zK 3 (nv s) (mF 3 - 2))))))) 256).2.2)))) [.box Ek (([.bool z] : List Value) ++ ((zg x) ++ (zg y))) 27, .box Ej (zg r) 24, .box Ed (zg s) 24, .box Eb (zg (nd (zK 3 (nv s) (mF 3 - 2)))) 24, .box Ea ((zg ((mnF (ofJ false (nd GX) (nd GY)) (nv (nd (zo 3 (nv (nd (nuV lm))) (nv (nd (zK 3 (nv s) (mF 3 - 2))))))) 256).1)) ++ ((zg ((mnF (ofJ false (nd GX) (nd GY)) (nv (nd (zo 3 (nv (nd (nuV lm))) (nv (nd (zK 3 (nv s) (mF 3 - 2))))))) 256).2.1)) ++ (zg ((mnF (ofJ false (nd GX) (nd GY)) (nv (nd (zo 3 (nv (nd (nuV lm))) (nv (nd (zK 3 (nv s) (mF 3 - 2))))))) 256).2.2)))) 51] ER ES rfl (zp (za (QL (p := (ofJ false (nd GX) (nd GY))) (ZZ (z := false) lGX lGY) (nv (nd (zo 3 (nv (nd (nuV lm))) (nv (nd (zK 3 (nv s) (mF 3 - 2))))))) 256).x) (zp (za (QL (p := (ofJ false (nd GX) (nd GY))) (ZZ (z := false) lGX lGY) (nv (nd (zo 3 (nv (nd (nuV lm))) (nv (nd (zK 3 (nv s) (mF 3 - 2))))))) 256).y) (za (QL (p := (ofJ false (nd GX) (nd GY))) (ZZ (z := false) lGX lGY) (nv (nd (zo 3 (nv (nd (nuV lm))) (nv (nd (zK 3 (nv s) (mF 3 - 2))))))) 256).z))) (zp (za (zh)) (zp (za (zh)) (za (zh)))) (Zd (zq _) (Zd (zq _) (zq _))) rfl fun _ _ EW EX => ?_
  exact a_e ⟨Ea, EW.sb, EX.pk [0, 1, 2, 3, 4]⟩
 rintro _ _ ⟨Ea, EY, Ew⟩
 refine ze <| wp_seq <| r_c (fun ac wo => ∃ (Ec : Nat), Env ac 71 [(1, .slice am (zf lm) cm), (4, pt Ek), (6, pt Ej), (7, pt Ed), (8, .bool false), (12, pt Eb), (13, pt Ea), (14, pt Ec)] ∧ Ev w [] wo [.box Ek (([.bool z] : List Value) ++ ((zg x) ++ (zg y))) 27, .box Ej (zg r) 24, .box Ed (zg s) 24, .box Eb (zg (nd (zK 3 (nv s) (mF 3 - 2)))) 24, .box Ea ((zg ((mnF (ofJ false (nd GX) (nd GY)) (nv (nd (zo 3 (nv (nd (nuV lm))) (nv (nd (zK 3 (nv s) (mF 3 - 2))))))) 256).1)) ++ ((zg ((mnF (ofJ false (nd GX) (nd GY)) (nv (nd (zo 3 (nv (nd (nuV lm))) (nv (nd (zK 3 (nv s) (mF 3 - 2))))))) 256).2.1)) ++ (zg ((mnF (ofJ false (nd GX) (nd GY)) (nv (nd (zo 3 (nv (nd (nuV lm))) (nv (nd (zK 3 (nv s) (mF 3 - 2))))))) 256).2.2)))) 51, .box Ec ((zg ((mnF (ofJ z x y) (nv (nd (zo 3 (nv r) (nv (nd (zK 3 (nv s) (mF 3 - 2))))))) 256).1)) ++ ((zg ((mnF (ofJ z x y) (nv (nd (zo 3 (nv r) (nv (nd (zK 3 (nv s) (mF 3 - 2))))))) 256).2.1)) ++ (zg ((mnF (ofJ z x y) (nv (nd (zo 3 (nv r) (nv (nd (zK 3 (nv s) (mF 3 - 2))))))) 256).2.2)))) 51]) ?_ ?_
 ·
  refine s_g1 [(1, .slice am (zf lm) cm), (4, pt Ek), (6, pt Ej), (7, pt Ed), (8, .bool false), (12, pt Eb), (13, pt Ea)] [0,1,2,3,4,5] [(50, .agg (zc (zg r))), (51, .agg (zc (zg (nd (zK 3 (nv s) (mF 3 - 2)))))), (52, .agg (zc (zg (nd (zo 3 (nv r) (nv (nd (zK 3 (nv s) (mF 3 - 2))))))))), (53, .agg (zc (([.bool z] : List Value) ++ ((zg x) ++ (zg y))))), (54, .agg (zc ((zg ((ofJ z x y).1)) ++ ((zg ((ofJ z x y).2.1)) ++ (zg ((ofJ z x y).2.2)))))), (55, .agg (zc ((zg ((mnF (ofJ z x y) (nv (nd (zo 3 (nv r) (nv (nd (zK 3 (nv s) (mF 3 - 2))))))) 256).1)) ++ ((zg ((mnF (ofJ z x y) (nv (nd (zo 3 (nv r) (nv (nd (zK 3 (nv s) (mF 3 - 2))))))) 256).2.1)) ++ (zg ((mnF (ofJ z x y) (nv (nd (zo 3 (nv r) (nv (nd (zK 3 (nv s) (mF 3 - 2))))))) 256).2.2))))))] 1 [(1, .slice am (zf lm) cm), (4, pt Ek), (6, pt Ej), (7, pt Ed), (8, .bool false), (12, pt Eb), (13, pt Ea), (55, .agg (zc ((zg ((mnF (ofJ z x y) (nv (nd (zo 3 (nv r) (nv (nd (zK 3 (nv s) (mF 3 - 2))))))) 256).1)) ++ ((zg ((mnF (ofJ z x y) (nv (nd (zo 3 (nv r) (nv (nd (zK 3 (nv s) (mF 3 - 2))))))) 256).2.1)) ++ (zg ((mnF (ofJ z x y) (nv (nd (zo 3 (nv r) (nv (nd (zK 3 (nv s) (mF 3 - 2))))))) 256).2.2))))))] 6 ((zg (zd 4 0)) ++ ((zg (zd 4 0)) ++ (zg (zd 4 0)))) (EY.sb) (Ew.trans (zN Ew.heap)) ?_ fun _ _ Ec EZ E0 => ?_
  ·
   refine s_a 1 0 4 (zg r) rfl (zn (za hr)) (za hr) <| s_a 3 0 4 (zg (nd (zK 3 (nv s) (mF 3 - 2)))) rfl (zn (za (zl _ _))) (za (zl _ _)) <| s_f (fun _ => hR3 _ r (nd (zK 3 (nv s) (mF 3 - 2))) hr (zl _ _)) ?_
   refine s_a 0 0 9 (([.bool z] : List Value) ++ ((zg x) ++ (zg y))) rfl (zn (zp rfl (zp (za hx) (za hy)))) (zp rfl (zp (za hx) (za hy))) <| s_f (fun _ => dof_go _ z x y hx hy) ?_
   refine s_f (fun _ => dmanyT_go _ (nd (zo 3 (nv r) (nv (nd (zK 3 (nv s) (mF 3 - 2)))))) (zl _ _) (ofJ z x y) (ZZ (z := z) hx hy)) ?_
   exact s_n
  refine q_u 7 ?_
  refine zW 5 12 ((zg ((mnF (ofJ z x y) (nv (nd (zo 3 (nv r) (nv (nd (zK 3 (nv s) (mF 3 - 2))))))) 256).1)) ++ ((zg ((mnF (ofJ z x y) (nv (nd (zo 3 (nv r) (nv (nd (zK 3 (nv s) (mF 3 - 2))))))) 256).2.1)) ++ (zg ((mnF (ofJ z x y) (nv (nd (zo 3 (nv r) (nv (nd (zK 3 (nv s) (mF 3 - 2))))))) 256).2.2)))) _ EZ E0 rfl (zp (za (QL (p := (ofJ z x y)) (ZZ (z := z) hx hy) (nv (nd (zo 3 (nv r) (nv (nd (zK 3 (nv s) (mF 3 - 2))))))) 256).x) (zp (za (QL (p := (ofJ z x y)) (ZZ (z := z) hx hy) (nv (nd (zo 3 (nv r) (nv (nd (zK 3 (nv s) (mF 3 - 2))))))) 256).y) (za (QL (p := (ofJ z x y)) (ZZ (z := z) hx hy) (nv (nd (zo 3 (nv r) (nv (nd (zK 3 (nv s) (mF 3 - 2))))))) 256).z))) (zp (za (zh)) (zp (za (zh)) (za (zh)))) (Zd (zq _) (Zd (zq _) (zq _))) rfl fun _ _ E1 E2 => ?_
  exact a_e ⟨Ec, E1.sb, E2.pk [0, 1, 2, 3, 4, 5]⟩
 rintro _ _ ⟨Ec, E3, Es⟩
 refine ze <| wp_seq <| zj <| f_o <| Zn 4 12 ((zg ((mnF (ofJ false (nd GX) (nd GY)) (nv (nd (zo 3 (nv (nd (nuV lm))) (nv (nd (zK 3 (nv s) (mF 3 - 2))))))) 256).1)) ++ ((zg ((mnF (ofJ false (nd GX) (nd GY)) (nv (nd (zo 3 (nv (nd (nuV lm))) (nv (nd (zK 3 (nv s) (mF 3 - 2))))))) 256).2.1)) ++ (zg ((mnF (ofJ false (nd GX) (nd GY)) (nv (nd (zo 3 (nv (nd (nuV lm))) (nv (nd (zK 3 (nv s) (mF 3 - 2))))))) 256).2.2)))) E3 Es rfl (zp (za (QL (p := (ofJ false (nd GX) (nd GY))) (ZZ (z := false) lGX lGY) (nv (nd (zo 3 (nv (nd (nuV lm))) (nv (nd (zK 3 (nv s) (mF 3 - 2))))))) 256).x) (zp (za (QL (p := (ofJ false (nd GX) (nd GY))) (ZZ (z := false) lGX lGY) (nv (nd (zo 3 (nv (nd (nuV lm))) (nv (nd (zK 3 (nv s) (mF 3 - 2))))))) 256).y) (za (QL (p := (ofJ false (nd GX) (nd GY))) (ZZ (z := false) lGX lGY) (nv (nd (zo 3 (nv (nd (nuV lm))) (nv (nd (zK 3 (nv s) (mF 3 - 2))))))) 256).z))) fun _ E4 => f_o <| Zn 5 12 ((zg ((mnF (ofJ z x y) (nv (nd (zo 3 (nv r) (nv (nd (zK 3 (nv s) (mF 3 - 2))))))) 256).1)) ++ ((zg ((mnF (ofJ z x y) (nv (nd (zo 3 (nv r) (nv (nd (zK 3 (nv s) (mF 3 - 2))))))) 256).2.1)) ++ (zg ((mnF (ofJ z x y) (nv (nd (zo 3 (nv r) (nv (nd (zK 3 (nv s) (mF 3 - 2))))))) 256).2.2)))) E4 Es rfl (zp (za (QL (p := (ofJ z x y)) (ZZ (z := z) hx hy) (nv (nd (zo 3 (nv r) (nv (nd (zK 3 (nv s) (mF 3 - 2))))))) 256).x) (zp (za (QL (p := (ofJ z x y)) (ZZ (z := z) hx hy) (nv (nd (zo 3 (nv r) (nv (nd (zK 3 (nv s) (mF 3 - 2))))))) 256).y) (za (QL (p := (ofJ z x y)) (ZZ (z := z) hx hy) (nv (nd (zo 3 (nv r) (nv (nd (zK 3 (nv s) (mF 3 - 2))))))) 256).z))) fun _ E5 => f_o <| c_p E5 Es (dplusT_go _ (mnF (ofJ false (nd GX) (nd GY)) (nv (nd (zo 3 (nv (nd (nuV lm))) (nv (nd (zK 3 (nv s) (mF 3 - 2))))))) 256) (mnF (ofJ z x y) (nv (nd (zo 3 (nv r) (nv (nd (zK 3 (nv s) (mF 3 - 2))))))) 256) (QL (p := (ofJ false (nd GX) (nd GY))) (ZZ (z := false) lGX lGY) (nv (nd (zo 3 (nv (nd (nuV lm))) (nv (nd (zK 3 (nv s) (mF 3 - 2))))))) 256) (QL (p := (ofJ z x y)) (ZZ (z := z) hx hy) (nv (nd (zo 3 (nv r) (nv (nd (zK 3 (nv s) (mF 3 - 2))))))) 256)) fun _ _ E6 E7 => f_o <| c_p E6 E7 (dbackQ_go _ (uA lm s) (uB r s) (uA_lt _ _) (uB_lt _ _) z x y hx hy (by assumption) (uA_txt lm s) (uB_txt r s) rfl ((jpL_len (QL (p := (ofJ false (nd GX) (nd GY))) (ZZ (z := false) lGX lGY) (nv (nd (zo 3 (nv (nd (nuV lm))) (nv (nd (zK 3 (nv s) (mF 3 - 2))))))) 256) (QL (p := (ofJ z x y)) (ZZ (z := z) hx hy) (nv (nd (zo 3 (nv r) (nv (nd (zK 3 (nv s) (mF 3 - 2))))))) 256)).x) ((jpL_len (QL (p := (ofJ false (nd GX) (nd GY))) (ZZ (z := false) lGX lGY) (nv (nd (zo 3 (nv (nd (nuV lm))) (nv (nd (zK 3 (nv s) (mF 3 - 2))))))) 256) (QL (p := (ofJ z x y)) (ZZ (z := z) hx hy) (nv (nd (zo 3 (nv r) (nv (nd (zK 3 (nv s) (mF 3 - 2))))))) 256)).y) ((jpL_len (QL (p := (ofJ false (nd GX) (nd GY))) (ZZ (z := false) lGX lGY) (nv (nd (zo 3 (nv (nd (nuV lm))) (nv (nd (zK 3 (nv s) (mF 3 - 2))))))) 256) (QL (p := (ofJ z x y)) (ZZ (z := z) hx hy) (nv (nd (zo 3 (nv r) (nv (nd (zK 3 (nv s) (mF 3 - 2))))))) 256)).z)) fun _ _ E8 E9 => f_o <| m_z 27 (([.bool false] : List Value) ++ ((zg (zd 4 0)) ++ (zg (zd 4 0)))) E8 E9 fun _ _ Ef Ha Hb => f_o <| zW 6 9 (([.bool ((qP (uA lm s) (uB r s) (z, x, y)).1)] : List Value) ++ ((zg ((qP (uA lm s) (uB r s) (z, x, y)).2.1)) ++ (zg ((qP (uA lm s) (uB r s) (z, x, y)).2.2)))) [.box Ek (([.bool z] : List Value) ++ ((zg x) ++ (zg y))) 27, .box Ej (zg r) 24, .box Ed (zg s) 24, .box Eb (zg (nd (zK 3 (nv s) (mF 3 - 2)))) 24, .box Ea ((zg ((mnF (ofJ false (nd GX) (nd GY)) (nv (nd (zo 3 (nv (nd (nuV lm))) (nv (nd (zK 3 (nv s) (mF 3 - 2))))))) 256).1)) ++ ((zg ((mnF (ofJ false (nd GX) (nd GY)) (nv (nd (zo 3 (nv (nd (nuV lm))) (nv (nd (zK 3 (nv s) (mF 3 - 2))))))) 256).2.1)) ++ (zg ((mnF (ofJ false (nd GX) (nd GY)) (nv (nd (zo 3 (nv (nd (nuV lm))) (nv (nd (zK 3 (nv s) (mF 3 - 2))))))) 256).2.2)))) 51, .box Ec ((zg ((mnF (ofJ z x y) (nv (nd (zo 3 (nv r) (nv (nd (zK 3 (nv s) (mF 3 - 2))))))) 256).1)) ++ ((zg ((mnF (ofJ z x y) (nv (nd (zo 3 (nv r) (nv (nd (zK 3 (nv s) (mF 3 - 2))))))) 256).2.1)) ++ (zg ((mnF (ofJ z x y) (nv (nd (zo 3 (nv r) (nv (nd (zK 3 (nv s) (mF 3 - 2))))))) 256).2.2)))) 51, .box Ef (([.bool ((qP (uA lm s) (uB r s) (z, x, y)).1)] : List Value) ++ ((zg ((qP (uA lm s) (uB r s) (z, x, y)).2.1)) ++ (zg ((qP (uA lm s) (uB r s) (z, x, y)).2.2)))) 27] Ha Hb rfl (zp rfl (zp (za (qP_len _ _ _).1) (za (qP_len _ _ _).2))) (zp rfl (zp (za (zh)) (za (zh)))) (Zd (one_all (by kernel_rfl)) (Zd (zq _) (zq _))) rfl fun _ _ Ex El => ?_
 refine f_e <| ze <| wp_seq ?_
 rcases zM (!((qP (uA lm s) (uB r s) (z, x, y)).1)) with Ee | Ee
 ·
  have hb279p : ¬ ((qP (uA lm s) (uB r s) (z, x, y)).1 = true) := by simpa using Ee
  refine r_c (fun ac wo => Env ac 71 [(1, .slice am (zf lm) cm), (4, pt Ek), (6, pt Ej), (7, pt Ed), (8, .bool ((nd (zo 3 (nv ((qP (uA lm s) (uB r s) (z, x, y)).2.1)) (nv ([1, 0, 0, 0] : List UInt64)))) == r)), (12, pt Eb), (13, pt Ea), (14, pt Ec), (15, pt Ef)] ∧ Ev w [] wo [.box Ek (([.bool z] : List Value) ++ ((zg x) ++ (zg y))) 27, .box Ej (zg r) 24, .box Ed (zg s) 24, .box Eb (zg (nd (zK 3 (nv s) (mF 3 - 2)))) 24, .box Ea ((zg ((mnF (ofJ false (nd GX) (nd GY)) (nv (nd (zo 3 (nv (nd (nuV lm))) (nv (nd (zK 3 (nv s) (mF 3 - 2))))))) 256).1)) ++ ((zg ((mnF (ofJ false (nd GX) (nd GY)) (nv (nd (zo 3 (nv (nd (nuV lm))) (nv (nd (zK 3 (nv s) (mF 3 - 2))))))) 256).2.1)) ++ (zg ((mnF (ofJ false (nd GX) (nd GY)) (nv (nd (zo 3 (nv (nd (nuV lm))) (nv (nd (zK 3 (nv s) (mF 3 - 2))))))) 256).2.2)))) 51, .box Ec ((zg ((mnF (ofJ z x y) (nv (nd (zo 3 (nv r) (nv (nd (zK 3 (nv s) (mF 3 - 2))))))) 256).1)) ++ ((zg ((mnF (ofJ z x y) (nv (nd (zo 3 (nv r) (nv (nd (zK 3 (nv s) (mF 3 - 2))))))) 256).2.1)) ++ (zg ((mnF (ofJ z x y) (nv (nd (zo 3 (nv r) (nv (nd (zK 3 (nv s) (mF 3 - 2))))))) 256).2.2)))) 51, .box Ef (([.bool ((qP (uA lm s) (uB r s) (z, x, y)).1)] : List Value) ++ ((zg ((qP (uA lm s) (uB r s) (z, x, y)).2.1)) ++ (zg ((qP (uA lm s) (uB r s) (z, x, y)).2.2)))) 27]) ?_ ?_
  ·
   refine h_s (fun wv => Ev w [] wv [.box Ej (zg r) 24, .box Ef (([.bool ((qP (uA lm s) (uB r s) (z, x, y)).1)] : List Value) ++ ((zg ((qP (uA lm s) (uB r s) (z, x, y)).2.1)) ++ (zg ((qP (uA lm s) (uB r s) (z, x, y)).2.2)))) 27]) [] 12 ?_
   have Eg := El.trans (zN El.heap)
   refine q_s [0] [] 11 Ex (Eg.pk [1, 6]) fun _ Hc => q_r 1 (s := Instr.loadAt 4 (pt Ef)) (v := .bool ((qP (uA lm s) (uB r s) (z, x, y)).1)) Hc (fun w hS => Zt (by kernel_rfl) (hS.heap.cell (k := 1) rfl (J4 rfl))) (Eg.pk [1, 6]) fun _ Hd => q_s [2,3] [] 8 Hd (Eg.pk [1, 6]) fun _ He => ?_
   have Hf := He.fx (t := 62) (congrArg Value.bool Ee)
   have Hg := Hf.fx (t := 63) (congrArg Value.bool Ee)
   refine q_s [4] [] 7 Hg (Eg.pk [1, 6]) fun _ Hh => q_r 5 (s := Instr.loadAt 24 (.pointer (some ⟨Ef, 1, none⟩))) (v := .agg (zc (zg ((qP (uA lm s) (uB r s) (z, x, y)).2.1)))) Hh (fun w hS => Za (m := 4) (cs := zg ((qP (uA lm s) (uB r s) (z, x, y)).2.1)) (za (qP_len _ _ _).1) (by kernel_rfl) (by kernel_rfl) (hS.heap.cells (k := 1) (off := 1) (m := 4) rfl (by simp [za (qP_len _ _ _).1, za (qP_len _ _ _).2, zu, zv]))) (Eg.pk [1, 6]) fun _ Hi => q_s [6] [] 5 Hi (Eg.pk [1, 6]) fun _ Hj => q_r 8 (s := Instr.loadAt 24 (pt Ej)) (v := .agg (zc (zg r))) Hj (fun w hS => Za (m := 4) (cs := zg r) (za hr) (by kernel_rfl) (by kernel_rfl) (hS.heap.cells (k := 0) (off := 0) (m := 4) rfl (zn (za hr)))) (Eg.pk [1, 6]) fun _ Hk => q_t 7 ?_
   refine c_p Hk Eg (hR3 _ ((qP (uA lm s) (uB r s) (z, x, y)).2.1) ([1, 0, 0, 0] : List UInt64) (qP_len _ _ _).1 (show zf ([1, 0, 0, 0] : List UInt64) = 4 from rfl)) fun _ _ Hl Em => ⟨fun _ => Em.pk [1, 6], ?_⟩
   refine q_f 9 (s := eqOp .eql 24 (.tmp 67) (.tmp 68) (.agg (zc (zg (nd (zo 3 (nv ((qP (uA lm s) (uB r s) (z, x, y)).2.1)) (nv ([1, 0, 0, 0] : List UInt64))))))) (.agg (zc (zg r)))) (v := .bool ((nd (zo 3 (nv ((qP (uA lm s) (uB r s) (z, x, y)).2.1)) (nv ([1, 0, 0, 0] : List UInt64)))) == r)) Hl (fun _ => ZI (a := (.tmp 67)) (b := (.tmp 68)) (e := 22) (m := 4) (by kernel_rfl) (by kernel_rfl) (by kernel_rfl) (by kernel_rfl) (by kernel_rfl) (zl _ _) hr _) (fun _ => Em.pk [1, 6]) fun _ Hm => q_s [10,11] [] 0 Hm (Em.pk [1, 6]) fun _ Hn => ?_
   exact h_e ⟨Hn.sb, Em.pk [0, 1, 2, 3, 4, 5, 6]⟩
  rintro _ _ ⟨Ho, Hp⟩
  refine ze <| wp_ret <| ZH (t := 8) (v := .bool ((nd (zo 3 (nv ((qP (uA lm s) (uB r s) (z, x, y)).2.1)) (nv ([1, 0, 0, 0] : List UInt64)))) == r)) Ho (by kernel_rfl) (by kernel_rfl) ?_
  exact ⟨ret_b ((show _ = okV r (qP (uA lm s) (uB r s) (z, x, y)) from by rw [okV, Ee, Q9, one3n]).trans (ver_yes (p := (z, x, y)) (show onN z x y = true by assumption) (show ¬ z = true by assumption) (by omega) (by assumption) (by assumption))), Hp.pk []⟩
 have hb279p : (qP (uA lm s) (uB r s) (z, x, y)).1 = true := by simpa using Ee
 refine r_c (fun ac wo => Env ac 71 [(1, .slice am (zf lm) cm), (4, pt Ek), (6, pt Ej), (7, pt Ed), (8, .bool false), (12, pt Eb), (13, pt Ea), (14, pt Ec), (15, pt Ef)] ∧ Ev w [] wo [.box Ek (([.bool z] : List Value) ++ ((zg x) ++ (zg y))) 27, .box Ej (zg r) 24, .box Ed (zg s) 24, .box Eb (zg (nd (zK 3 (nv s) (mF 3 - 2)))) 24, .box Ea ((zg ((mnF (ofJ false (nd GX) (nd GY)) (nv (nd (zo 3 (nv (nd (nuV lm))) (nv (nd (zK 3 (nv s) (mF 3 - 2))))))) 256).1)) ++ ((zg ((mnF (ofJ false (nd GX) (nd GY)) (nv (nd (zo 3 (nv (nd (nuV lm))) (nv (nd (zK 3 (nv s) (mF 3 - 2))))))) 256).2.1)) ++ (zg ((mnF (ofJ false (nd GX) (nd GY)) (nv (nd (zo 3 (nv (nd (nuV lm))) (nv (nd (zK 3 (nv s) (mF 3 - 2))))))) 256).2.2)))) 51, .box Ec ((zg ((mnF (ofJ z x y) (nv (nd (zo 3 (nv r) (nv (nd (zK 3 (nv s) (mF 3 - 2))))))) 256).1)) ++ ((zg ((mnF (ofJ z x y) (nv (nd (zo 3 (nv r) (nv (nd (zK 3 (nv s) (mF 3 - 2))))))) 256).2.1)) ++ (zg ((mnF (ofJ z x y) (nv (nd (zo 3 (nv r) (nv (nd (zK 3 (nv s) (mF 3 - 2))))))) 256).2.2)))) 51, .box Ef (([.bool ((qP (uA lm s) (uB r s) (z, x, y)).1)] : List Value) ++ ((zg ((qP (uA lm s) (uB r s) (z, x, y)).2.1)) ++ (zg ((qP (uA lm s) (uB r s) (z, x, y)).2.2)))) 27]) ?_ ?_
 ·
  refine QR (by kernel_rfl) 12 (by kernel_rfl) ?_
  have Ey := El.trans (zN El.heap)
  refine q_a [0] [] 11 Ex fun _ Hq => q_u 1 ?_
  refine m_v 6 0 (.bool ((qP (uA lm s) (uB r s) (z, x, y)).1)) Hq Ey rfl (J4 rfl) fun _ Hr => q_a [2,3] [] 8 Hr fun _ Hs => ?_
  have Ht := Hs.fx (t := 62) (congrArg Value.bool Ee)
  have Hu := Ht.fx (t := 63) (congrArg Value.bool Ee)
  refine q_a [4,5,6,7,8,9,10,11] [] 0 Hu fun _ Hv => ?_
  exact a_e ⟨Hv.sb, Ey.pk [0, 1, 2, 3, 4, 5, 6]⟩
 rintro _ _ ⟨Hw, Hx⟩
 refine ze <| wp_ret <| ZH (t := 8) (v := .bool false) Hw (by kernel_rfl) (by kernel_rfl) ?_
 exact ⟨ret_b ((show false = okV r (qP (uA lm s) (uB r s) (z, x, y)) from by rw [okV, Ee, Yc]).trans (ver_yes (p := (z, x, y)) (show onN z x y = true by assumption) (show ¬ z = true by assumption) (by omega) (by assumption) (by assumption))), Hx.pk []⟩
end Go.Proofs.YtpfhmbbiadpbeaaGreat
