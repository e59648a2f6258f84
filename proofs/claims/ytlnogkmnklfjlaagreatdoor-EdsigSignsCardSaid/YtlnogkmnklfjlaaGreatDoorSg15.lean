import Derived.Test.YtlnogkmnklfjlaaGreatDoorSg13
import Derived.Test.YtlnogkmnklfjlaaGreatDoorSg14
import Derived.Test.YtlnogkmnklfjlaaGreatDoorSg1
import Derived.Test.YtlnogkmnklfjlaaGreatDoorRows
import Derived.Test.YtlnogkmnklfjlaaGreatDoorSg10
import Derived.Deep.DeepHandedRow
import Derived.Lib.LaidTab
import Derived.Stop.LaidErr
open List renaming getD → za, length → zb, replicate → zd, toArray → zg, length_replicate → zi, take → zn, set → zp, length_take → zs, length_drop → zu, forall_mem_cons → zA, length_append → zC, getElem?_eq_getElem → zN, getElem?_eq_some_iff → Zm, flatMap_cons → Zn, append_nil → Zr, not_mem_nil → Zs, flatMap_nil → ZF, getElem?_eq_none → ZS, length_set → ZV, flatMap → ZY, ext_getElem? → Q9, getElem?_set → Jx, flatMap_append → J0
open Go.Dbr renaming then_normal → ze, u64s_lenh → zf, u64s → zh, region_from → zk, load_whole → zq, u64s_one → zt, block_normal → zv, then_exit → zy, bys_lenh → zH, block_exit → zL, run_loadAgg2 → zM, m_gw → zQ, bys_one → Zj, h_from → Zl, bys_len → ZD, op_lit → ZO, op_slicearr → ZQ, bys_getD → Z9, h_ways → Qk, h_to → Ql, bys_inbox → Qo, bys_vcap → Yd, op_slice → YV, bys_set → Y3, bys_in → X0
open Go.Proofs.YtlnogkmnklfjlaaGreatDoor renaming nds_len → zl, mulM → zr, puE_len → zD, lb_len → zY, ahE_len → z3, addM → Zh, s3_len → Zi, baseD → Yb, clE_len → J5, siE_len → Xy, dbytesB_go → X9, many12_go → Kl, dbase_go → Kv
open Go.Dbr.Ev renaming cellAgg → zB, drew → zO
open UInt8 renaming ofNat → zK, toNat → ZJ
open Go.Dbr.Reads renaming src → Zg
open Nat renaming mul_one → ZA, le_refl → ZP, zero_add → Qp
namespace Go.Proofs.YtlnogkmnklfjlaaGreatDoor
open Go.Dbr
set_option maxRecDepth 100000
set_option maxHeartbeats 2000000
set_option linter.unusedVariables false
set_option linter.unusedSimpArgs false
def cqF (s : List UInt8) : Nat → List UInt8
  | 0 => zd 32 0
  | i + 1 => zp (cqF s i) i (za s i 0)
theorem cqF_len (s : List UInt8) : ∀ i, (cqF s i).length = 32
  | 0 => zi
  | i + 1 => by rw [cqF, ZV, cqF_len s i]
theorem getD_at {l : List UInt8} {i : Nat} (h : i < l.length) : l[i]? = some (za l i 0) := by
  rw [List.getD_eq_getElem?_getD, zN h]
  rfl
theorem cqF_at {s : List UInt8} (h : s.length = 64) : ∀ i, i ≤ 32 → ∀ j, j < i → (cqF s i)[j]? = s[j]?
  | 0, _, j, hj => absurd hj (by omega)
  | i + 1, hi, j, hj => by
    rw [cqF, Jx]
    split
    · rename_i e
      subst e
      rw [if_pos (by rw [cqF_len]; omega), getD_at (by omega)]
    · exact cqF_at h i (by omega) j (by omega)
theorem cq_all {s : List UInt8} (h : s.length = 64) : cqF s 32 = zn 32 s := by
  refine Q9 fun j => ?_
  rw [List.getElem?_take]
  split
  · rename_i hj
    rw [cqF_at h 32 (ZP _) j hj]
  · rw [ZS (by rw [cqF_len]; omega)]
def twF (a b : List UInt8) : Nat → List UInt8
  | 0 => zd 64 0
  | i + 1 => zp (zp (twF a b i) i (za a i 0)) (32 + i) (za b i 0)
theorem twF_len (a b : List UInt8) : ∀ i, (twF a b i).length = 64
  | 0 => zi
  | i + 1 => by rw [twF, ZV, ZV, twF_len a b i]
theorem twF_at {a b : List UInt8} (ha : a.length = 32) (hb : b.length = 32) : ∀ i, i ≤ 32 → ∀ j, (j < i ∨ 32 ≤ j ∧ j < 32 + i) → (twF a b i)[j]? = (a ++ b)[j]?
  | 0, _, j, hj => absurd hj (by omega)
  | i + 1, hi, j, hj => by
    rw [twF, Jx, ZV, twF_len]
    split
    · rename_i e
      subst e
      rw [if_pos (by omega), ← getD_at (by omega), List.getElem?_append_right (by omega), ha, Nat.add_sub_cancel_left]
    · rw [Jx, twF_len]
      split
      · rename_i e
        subst e
        rw [if_pos (by omega), ← getD_at (by omega), List.getElem?_append_left (by omega)]
      · exact twF_at ha hb i (by omega) j (by omega)
theorem tw_all {a b : List UInt8} (ha : a.length = 32) (hb : b.length = 32) : twF a b 32 = a ++ b := by
  refine Q9 fun j => ?_
  by_cases h : j < 64
  · exact twF_at ha hb 32 (ZP _) j (by omega)
  · rw [ZS (by rw [twF_len]; omega), ZS (by rw [zC]; omega)]
theorem cl_dec : ∀ x : Fin 256, (zK x.val &&& 127 ||| 64) = (zK x.val &&& 63 ||| 64) := by decide +kernel
theorem cl_same (k : List UInt8) : zp (zp k 0 (za k 0 0 &&& 248)) 31 (za (zp k 0 (za k 0 0 &&& 248)) 31 0 &&& 127 ||| 64) = clE k := by
  have h := cl_dec ⟨(za (zp k 0 (za k 0 0 &&& 248)) 31 0).toNat, UInt8.toNat_lt _⟩
  simp only [UInt8.ofNat_toNat] at h
  rw [clE, h]
theorem flat_take_succ {l : List (Sl UInt8)} {k : Nat} {x : Sl UInt8} (h : l[k]? = some x) : (l.take (k + 1)).flatMap (fun s => s.l) = (l.take k).flatMap (fun s => s.l) ++ x.l := by
  rw [List.take_add_one, h, J0]
  simp
theorem flat_le {l : List (Sl UInt8)} {k : Nat} {x : Sl UInt8} (h : l[k]? = some x) {B : Nat} (hB : (l.flatMap (fun s => s.l)).length ≤ B) : ((l.take k).flatMap (fun s => s.l)).length + x.l.length ≤ B := by
  have e := flat_take_succ h
  have t : (l.flatMap (fun s => s.l)) = ((l.take (k + 1)).flatMap (fun s => s.l)) ++ ((l.drop (k + 1)).flatMap (fun s => s.l)) := by rw [← J0, List.take_append_drop]
  rw [t, zC, e, zC] at hB
  omega
theorem dnumber_go (w : World) (ax : Option Addr) (nx cx : Nat) (lx : List (Sl UInt8)) (ex : nx = zb lx) (ix : InS (fun s : Sl UInt8 => s.f) 24 (fun x : Sl UInt8 => InB w [] x.a x.c x.l) w [] ax cx lx) (hT2 : zb (ZY (fun s : Sl UInt8 => s.l) lx) ≤ 140737488353280) {b : List UInt8} (hb : (ZY (fun s : Sl UInt8 => s.l) lx) = b) : Calls Tryz.prog 25 #[.slice ax nx cx] w fun e w' => e = .returned (.agg (zg (zh (nd (nE b))))) ∧ Ev w [] w' [] := by
 subst ex
 have hs := ix.small
 have EP := ix.cap
 refine d_0 [(0, .slice ax (zb lx) cx)] 20 Go.Proofs.Tryz.func25 Go.Proofs.Tryz.ntmps25 (Heap.nil _) fun EH EI EJ => wp_seq <| zk <| f_o <| m_z 33 (zh (zd 4 0)) EI EJ fun _ _ Em EK EL => f_e <| ze <| wp_seq <| d_r [0,2,3] [] EK fun _ EM => ze <| wp_seq <| wp_seq <| d_r [0,2,3,4] [] EM fun _ EN => ?_
 refine ze <| wp_block ?_
 have En := Ev.nil (sz := 1) (T := 5) EL
 refine loop_m (fun Eo ac wo => ∃ (k : Nat) (ar : Option Addr) (cr : Nat) (al : List UInt8), Eo = (zb lx - k : Nat) ∧ Env ac 20 [(0, .slice ax (zb lx) cx), (2, pt Em), (3, .slice ar (zb al) cr), (4, ni k)] ∧ Ev w [] wo [.vec ar cr 1 (bys al) 5, .box Em (zh (zd 4 0)) 33] ∧ (k ≤ zb lx) ∧ (al = (ZY (fun s : Sl UInt8 => s.l) (zn k lx)))) ⟨_, 0, none, 0, [], rfl, EN.sb, En.pk [1, 0], by omega, by rfl⟩ ?_
 rintro EO _ _ ⟨k, ar, cr, al, rfl, Ep, Ea, hk, hal⟩
 refine wp_seq <| wp_seq <| d_r [0,2,3,4,8] [] Ep fun _ Ed => ?_
 refine ze <| c_d (((k : Nat) : Int) < ((zb lx : Nat) : Int)) Ed (fun Eq => ?_) (fun Eq => ?_)
 ·
  refine wp_skip <| ze <| wp_seq <| wp_block ?_
  have Ee : k < zb lx := (by omega)
  obtain ⟨Eb, Ec⟩ := some_of ix.nz Ee
  have Er : k < zb lx := by omega
  obtain ⟨⟨a_x26, c_x26, x26⟩, hx25⟩ : ∃ x, (lx)[k]? = some x := ⟨_, zN Er⟩
  obtain i_x26 := ix.each _ (List.mem_of_getElem? hx25)
  replace i_x26 : InB w [] a_x26 c_x26 x26 := i_x26
  refine zk <| d_k [0,2,3,4,11,12,13] [] 3 Ed fun _ Es => f_o <| q_v (x := Instr.indexAt 72 (.slice ax (zb lx) cx) (ni k)) (v := .pointer (some (Addr.add Eb k))) Es (Go.Dbr.run_indexsl (e := 23) (sz := 1) (j := k) (jo := k) Ec (by kernel_rfl) (by kernel_rfl) (by omega) Ee (ZA _) _) fun _ Et => f_o <| op_loadf (d := some 15) (t := 23) (ad := Eb) (ao := ax) (ys := ZY (fun s : Sl UInt8 => s.f) lx) (o := k) (v := .slice a_x26 (zb x26) c_x26) Et (by kernel_rfl) rfl (ix.ro.ev Ea).reads Ec ((flat_get1 (fun _ _ => rfl) hx25).trans rfl) (by kernel_rfl) ?_
  intro _ Eu
  refine f_o ?_
  have EG := i_x26.small
  have hfl := flat_le hx25 hT2
  rw [← hal] at hfl
  simp only at hfl
  refine op_append (d := some 16) (t := 23) (tx := 23) (ty := 23) (k := 0) (p := zb al) (m := zb x26) (x := .slice a_x26 (zb x26) c_x26) (bytes := 1) Eu (by kernel_rfl) Ea rfl (ZD _) (Zg (size := 1) (tx := 23) (e' := 5) (by kernel_rfl) (i_x26.ev Ea).reads (ZD _) i_x26.nz (Zj _)) (by kernel_rfl) (z := .int .u8 0) (by kernel_rfl) rfl (by decide) (by omega) (by unfold maxLen; omega) ?_
  intro _ _ Ew Ex Ef Eg hnz _
  clear hnz
  rw [← bys_append] at Eg
  have Eh : (zb al) + (zb x26) = zb (al ++ x26) := (by first | (simp; done) | (simp; omega) | omega)
  rw [Eh] at Ef
  refine d_e [0,2,3,4] [] Ef fun _ Ey => zv <| ze <| d_r [0,2,3,4] [(1, g_n (w_a k 1))] Ey fun _ Ez => ze <| ⟨_, ⟨k + 1, Ew, Ex, (al ++ x26), rfl, Ez.sb, Eg.pk [0, 1], by omega, by rw [flat_take_succ hx25, hal]⟩, ?_⟩
  omega
 refine wp_exit <| zy <| zy <| zL <| ze <| wp_seq ?_
 have hkk : k = zb lx := by omega
 have hae : al = (ZY (fun s : Sl UInt8 => s.l) lx) := by rw [hal, hkk, List.take_length]
 have hal2 : zb al ≤ 140737488353280 := by rw [hae]; exact hT2
 have hs3l := Zi al
 refine zk <| d_k [0,2,3,4,17] [] 1 Ed fun _ EA => f_o <| c_0 EA Ea (Sh.docof3 _ ar (zb al) cr al (by first | rfl | (simp; done) | (simp; omega) | omega) (X0 Ea.heap (k := 0) rfl [] (by kernel_rfl) rfl (by first | omega | (simp; done) | (simp; omega)))) ?_
 rintro _ _ ⟨Ei, Ej, rfl, EB⟩
 refine ⟨_, _, _, rfl, EB, rfl, fun _ EC Ek => ?_⟩
 refine f_o <| c_p EC Ek (rwide_go _ 4 h4f hL4 Ei (zb (Sh.sumF 3 al)) Ej (Sh.sumF 3 al) (by first | rfl | (simp; done) | (simp; omega) | omega) (X0 Ek.heap (k := 0) rfl [] (by kernel_rfl) rfl (by first | omega | (simp; done) | (simp; omega)))) fun _ _ ED EE => f_o <| zQ 2 4 (zh (nd (lv (Sh.sumF 3 al) % mF 4))) _ ED EE rfl (zf (zl _ _)) (zf (zi)) (zt _) rfl fun _ _ EF El => f_e <| ze <| wp_ret <| d_cell1 (v := .agg (zg (zh (nd (lv (Sh.sumF 3 al) % mF 4))))) (t := 2) (T := 33) (ad := ⟨Em, 0, none⟩) EF (by kernel_rfl) (by kernel_rfl) (zB (t := 33) (k := 2) (off := 0) (m := 4) (xs := zh (nd (lv (Sh.sumF 3 al) % mF 4))) El rfl (zq (zf (zl _ _))) (zf (zl _ _)) (by kernel_rfl) (by kernel_rfl)) ?_
 exact ⟨by rw [← hb, ← hae]; rfl, El.pk []⟩
theorem dsecret_go (w : World) (sd : List UInt8) (hsd : zb sd = 32) : Calls Tryz.prog 17 #[.agg (zg (bys sd))] w fun e w' => ∃ ao co, e = .returned (.tuple #[.agg (zg (zh (nd (sE sd)))), .slice ao (zb (ahE sd)) co]) ∧ Ev w [] w' [.vec ao co 1 (bys (ahE sd)) 5] := by
 refine d_0 [(0, .agg (zg (bys sd)))] 32 Go.Proofs.Tryz.func17 Go.Proofs.Tryz.ntmps17 (Heap.nil _) fun Hs Ht Hu => wp_seq <| zk <| f_o <| m_m 22 (bys sd) Ht Hu fun _ _ Hr Hv Hw => f_o <| m_z 33 (zh (zd 4 0)) Hv Hw fun _ _ Ed Hx Eu => d_e [1,2,3] [] Hx fun _ EU => ?_
 refine ze <| wp_seq <| zk <| f_o <| ZQ (d := some 7) (t := 22) (e := 5) (sz := 1) (m := 32) (lo := 0) (hi := 32) (b := Hr) (off := 0) (lov := none) (hiv := none) (o := 0) EU (by kernel_rfl) (by kernel_rfl) (by kernel_rfl) (by omega) (by omega) (by omega) (.inl ⟨rfl, rfl⟩) (.inl ⟨rfl, rfl⟩) (by omega) ?_
 intro _ EV
 refine f_o <| c_0 EV Eu (Sh.docof3 _ (some ⟨Hr, 0, none⟩) 32 32 sd (by first | rfl | (simp; done) | (simp; omega) | omega) (Qo (Eu.heap.roBox (k := 0) (m := 32) rfl (zq (zH hsd)) [] (by kernel_rfl) rfl) hsd (by first | decide | (dsimp only; decide)))) ?_
 rintro _ _ ⟨Eb, Ea, rfl, EW⟩
 refine ⟨_, _, _, rfl, EW, rfl, fun _ EX EY => ?_⟩
 refine d_e [2,3,4] [] EX fun _ EZ => ze <| wp_seq ?_
 have hs3 := Zi sd
 have hst := s3_take sd
 refine zk <| f_o <| m_z 22 (bys (zd 32 0)) EZ EY fun _ _ Ec E0 E1 => f_e <| ze <| wp_seq <| wp_seq <| d_r [2,3,4,5,6] [] E0 fun _ E2 => ze <| wp_block <| loop_m (fun E3 ac wo => ∃ (i : Nat) (cl : List UInt8), E3 = (32 - i : Nat) ∧ Env ac 32 [(2, pt Ed), (3, .slice none 0 0), (4, .slice Eb (zb (Sh.sumF 3 sd)) Ea), (5, pt Ec), (6, ni i)] ∧ Ev w [] wo [.box Ec (bys cl) 22, .vec Eb Ea 1 (bys (Sh.sumF 3 sd)) 5, .box Ed (zh (zd 4 0)) 33] ∧ (i ≤ 32) ∧ (zb cl = 32) ∧ (cl = cqF (Sh.sumF 3 sd) i)) ⟨_, 0, zd 32 0, rfl, E2.sb, E1.pk [3, 0, 2], by omega, (zi), rfl⟩ ?_
 rintro Hy _ _ ⟨i, cl, rfl, E4, Ee, hicl, hlcl, hecl⟩
 refine wp_seq <| wp_seq <| d_r [2,3,4,5,6,10] [] E4 fun _ Es => ?_
 refine ze <| c_d (((i : Nat) : Int) < (32 : Int)) Es (fun E5 => ?_) (fun E5 => ?_)
 ·
  refine wp_skip <| ze <| wp_seq <| wp_block ?_
  have Ew : i < zb (Sh.sumF 3 sd) := (by omega)
  obtain ⟨El, Em⟩ := some_of (bys_vnz Ee.heap (k := 1) rfl) Ew
  refine zk <| d_k [2,3,4,5,6,13,14,15] [] 3 Es fun _ E6 => f_o <| q_v (x := Instr.indexAt 23 (.slice Eb (zb (Sh.sumF 3 sd)) Ea) (ni i)) (v := .pointer (some (Addr.add El i))) E6 (Go.Dbr.run_indexsl (e := 5) (sz := 1) (j := i) (jo := i) Em (by kernel_rfl) (by kernel_rfl) (by omega) Ew (ZA _) _) fun _ E7 => f_o ?_
  have E8 : i < zb (Sh.sumF 3 sd) := by omega
  refine op_loadel (d := some 17) (t := 5) (ad := El) (ao := Eb) (xs := bys (Sh.sumF 3 sd)) (j := i) (v := bv (za (Sh.sumF 3 sd) i 0)) E7 (by kernel_rfl) (Ee.heap.reads (k := 1) rfl) Em (Z9 E8) (by kernel_rfl) ?_
  intro _ E9
  refine f_o <| q_v (x := Instr.indexAt 22 (pt Ec) (ni i)) (v := .pointer (some ⟨Ec, i, none⟩)) E9 (Go.Dbr.run_indexarr (e := 5) (sz := 1) (m := 32) (j := i) (o := i) (by kernel_rfl) (by kernel_rfl) (by omega) (by omega) (by omega) _) fun _ Ha => f_o ?_
  have Hb : i < zb cl := by rw [hlcl]; omega
  refine m_t 0 i (bv (za (Sh.sumF 3 sd) i 0)) _ Ha Ee rfl (Z9 Hb) (Y3 _ _ _) rfl fun _ _ Hc Hd => f_e <| zv <| ze <| d_r [2,3,4,5,6] [(1, g_n (w_a i 1))] Hc fun _ He => ze <| ⟨_, ⟨i + 1, (zp cl i (za (Sh.sumF 3 sd) i 0)), rfl, He.sb, Hd.pk [0, 1, 2], by omega, (List.length_set.trans hlcl), by first | (rw [hecl]; rfl) | (rw [hecl, Hz]; rfl) | rfl⟩, ?_⟩
  omega
 refine wp_exit <| zy <| zy <| zL <| ze <| wp_seq ?_
 have hncl : i = 32 := by omega
 have hfcl : cl = cqF (Sh.sumF 3 sd) 32 := by rw [hecl, hncl] <;> rfl
 rw [show cl = (cqF (Sh.sumF 3 sd) 32) from hfcl] at Ee
 rw [show (cqF (Sh.sumF 3 sd) 32) = (zn 32 (Sh.sumF 3 sd)) from (cq_all hs3)] at Ee
 refine zk <| d_k [2,3,4,5,6,19] [] 1 Es fun _ Hf => f_o ?_
 have Hg : 0 < zb (zn 32 (Sh.sumF 3 sd)) := by rw [hst]; omega
 refine m_v 0 0 (bv (za (zn 32 (Sh.sumF 3 sd)) 0 0)) Hf Ee rfl (Z9 Hg) fun _ Hh => d_k [2,3,4,5,6,21,22] [(2, g_i .u8 (Go.Dbr.u8_and (x := za (zn 32 (Sh.sumF 3 sd)) 0 0) (y := (248 : UInt8)) rfl rfl))] 4 Hh fun _ Hi => f_o ?_
 have Hj : 0 < zb (zn 32 (Sh.sumF 3 sd)) := by rw [hst]; omega
 refine m_t 0 0 (bv ((za (zn 32 (Sh.sumF 3 sd)) 0 0) &&& (248 : UInt8))) [.box Ec (bys (zp (zn 32 (Sh.sumF 3 sd)) 0 ((za (zn 32 (Sh.sumF 3 sd)) 0 0) &&& (248 : UInt8)))) 22, .vec Eb Ea 1 (bys (Sh.sumF 3 sd)) 5, .box Ed (zh (zd 4 0)) 33] Hi Ee rfl (Z9 Hj) (Y3 _ _ _) rfl fun _ _ Hk Ex => f_e <| ze <| wp_seq <| zk <| d_k [2,3,4,5,6,23] [] 1 Hk fun _ Hl => f_o ?_
 have Hm : 31 < zb (zp (zn 32 (Sh.sumF 3 sd)) 0 ((za (zn 32 (Sh.sumF 3 sd)) 0 0) &&& (248 : UInt8))) := by rw [(List.length_set.trans hst)]; omega
 refine m_v 0 31 (bv (za (zp (zn 32 (Sh.sumF 3 sd)) 0 ((za (zn 32 (Sh.sumF 3 sd)) 0 0) &&& (248 : UInt8))) 31 0)) Hl Ex rfl (Z9 Hm) fun _ Hn => d_k [2,3,4,5,6,26,27] [(2, g_i .u8 (Go.Dbr.u8_and (x := za (zp (zn 32 (Sh.sumF 3 sd)) 0 ((za (zn 32 (Sh.sumF 3 sd)) 0 0) &&& (248 : UInt8))) 31 0) (y := (127 : UInt8)) rfl rfl)), (3, g_i .u8 (Go.Dbr.u8_or (x := (za (zp (zn 32 (Sh.sumF 3 sd)) 0 ((za (zn 32 (Sh.sumF 3 sd)) 0 0) &&& (248 : UInt8))) 31 0) &&& (127 : UInt8)) (y := (64 : UInt8)) rfl rfl))] 5 Hn fun _ Ho => f_o ?_
 have Hp : 31 < zb (zp (zn 32 (Sh.sumF 3 sd)) 0 ((za (zn 32 (Sh.sumF 3 sd)) 0 0) &&& (248 : UInt8))) := by rw [(List.length_set.trans hst)]; omega
 refine m_t 0 31 (bv (((za (zp (zn 32 (Sh.sumF 3 sd)) 0 ((za (zn 32 (Sh.sumF 3 sd)) 0 0) &&& (248 : UInt8))) 31 0) &&& (127 : UInt8)) ||| (64 : UInt8))) _ Ho Ex rfl (Z9 Hp) (Y3 _ _ _) rfl fun _ _ Hq Et => f_e <| ze <| wp_seq ?_
 rw [show (zp (zp (zn 32 (Sh.sumF 3 sd)) 0 ((za (zn 32 (Sh.sumF 3 sd)) 0 0) &&& (248 : UInt8))) 31 (((za (zp (zn 32 (Sh.sumF 3 sd)) 0 ((za (zn 32 (Sh.sumF 3 sd)) 0 0) &&& (248 : UInt8))) 31 0) &&& (127 : UInt8)) ||| (64 : UInt8))) = (clE (zn 32 (Sh.sumF 3 sd))) from (cl_same _)] at Et
 refine r_c (fun ac wo => Env ac 32 [(2, pt Ed), (3, .slice (cutAt Eb Ea 32 1) ((zb (Sh.sumF 3 sd)) - 32) (Ea - 32)), (4, .slice Eb (zb (Sh.sumF 3 sd)) Ea), (5, pt Ec), (6, ni i)] ∧ Ev w [] wo [.box Ec (bys (clE (zn 32 (Sh.sumF 3 sd)))) 22, .vec Eb Ea 1 (bys (Sh.sumF 3 sd)) 5, .box Ed (zh (nd (lv (clE (zn 32 (Sh.sumF 3 sd)))))) 33]) ?_ ?_
 ·
  refine h_s (fun wv => Ev w [] wv [.box Ec (bys (clE (zn 32 (Sh.sumF 3 sd)))) 22, .vec Eb Ea 1 (bys (Sh.sumF 3 sd)) 5]) [] 6 ?_
  have Eh := Et.trans (zO Et.heap)
  refine h_name fun G hG => ?_
  have nd194 : ∀ (ac : Act) (wo : World), Env ac 32 [(2, pt Ed), (3, .slice none 0 0), (4, .slice Eb (zb (Sh.sumF 3 sd)) Ea), (5, pt Ec), (6, ni i), (29, .agg (zg (zh (nd (lv (clE (zn 32 (Sh.sumF 3 sd)))))))), (31, .slice (cutAt Eb Ea 32 1) ((zb (Sh.sumF 3 sd)) - 32) (Ea - 32))] → Ev w [] wo [.box Ec (bys (clE (zn 32 (Sh.sumF 3 sd)))) 22, .vec Eb Ea 1 (bys (Sh.sumF 3 sd)) 5, .box Ed (zh (zd 4 0)) 33] → G 2 #[true, true, true, true, false, false] ac wo := by
   intro _ _ Ey Ez
   refine Zl hG ?_
   refine q_t 4 ?_
   refine zQ 2 4 (zh (nd (lv (clE (zn 32 (Sh.sumF 3 sd)))))) [.box Ec (bys (clE (zn 32 (Sh.sumF 3 sd)))) 22, .vec Eb Ea 1 (bys (Sh.sumF 3 sd)) 5, .box Ed (zh (nd (lv (clE (zn 32 (Sh.sumF 3 sd)))))) 33] Ey Ez rfl (zf (zl _ _)) (zf (zi)) (zt _) rfl fun _ _ EA Ei => ⟨fun _ => Ei.pk [0, 1], ?_⟩
   refine q_s [5] [] 0 EA (Ei.pk [0, 1]) fun _ EB => ?_
   exact h_e ⟨EB.sb, Ei.pk [0, 1, 2]⟩
  have nd205 : ∀ (ac : Act) (wo : World), Env ac 32 [(2, pt Ed), (3, .slice none 0 0), (4, .slice Eb (zb (Sh.sumF 3 sd)) Ea), (5, pt Ec), (6, ni i), (30, .slice Eb (zb (Sh.sumF 3 sd)) Ea)] → Ev w [] wo [.box Ec (bys (clE (zn 32 (Sh.sumF 3 sd)))) 22, .vec Eb Ea 1 (bys (Sh.sumF 3 sd)) 5, .box Ed (zh (nd (lv (clE (zn 32 (Sh.sumF 3 sd)))))) 33] → G 2 #[true, true, true, false, true, false] ac wo := by
   intro _ _ EC Ef
   refine Zl hG ?_
   refine q_t 3 ?_
   have EQ := Yd Ef.heap (k := 1) rfl
   refine YV (d := some 31) (t := 23) (e := 5) (sz := 1) (len := zb (Sh.sumF 3 sd)) (cap := Ea) (lo := 32) (hi := zb (Sh.sumF 3 sd)) (ao := Eb) (lov := (some (.int .i64 32))) (hiv := none) EC (by kernel_rfl) (by kernel_rfl) (by kernel_rfl) (by omega) (by omega) (.inr ⟨.i64, rfl⟩) (.inl ⟨rfl, rfl⟩) ?_
   intro _ ED
   refine ⟨fun _ => Ef.pk [0, 1], ?_⟩
   refine q_s [5] [] 0 ED (Ef.pk [0, 1]) fun _ EE => ?_
   exact h_e ⟨EE.sb, Ef.pk [0, 1, 2]⟩
  have nd215 : ∀ (ac : Act) (wo : World), Env ac 32 [(2, pt Ed), (3, .slice none 0 0), (4, .slice Eb (zb (Sh.sumF 3 sd)) Ea), (5, pt Ec), (6, ni i), (29, .agg (zg (zh (nd (lv (clE (zn 32 (Sh.sumF 3 sd)))))))), (30, .slice Eb (zb (Sh.sumF 3 sd)) Ea)] → Ev w [] wo [.box Ec (bys (clE (zn 32 (Sh.sumF 3 sd)))) 22, .vec Eb Ea 1 (bys (Sh.sumF 3 sd)) 5, .box Ed (zh (zd 4 0)) 33] → G 3 #[true, true, true, false, false, false] ac wo := by
   intro _ _ En Eg
   refine Zl hG ?_
   refine Qk [3, 4] (by kernel_rfl) rfl ?_
   refine ⟨?_, ?_, trivial⟩
   ·
    rintro _ rfl
    have ER := Yd Eg.heap (k := 1) rfl
    refine YV (d := some 31) (t := 23) (e := 5) (sz := 1) (len := zb (Sh.sumF 3 sd)) (cap := Ea) (lo := 32) (hi := zb (Sh.sumF 3 sd)) (ao := Eb) (lov := (some (.int .i64 32))) (hiv := none) En (by kernel_rfl) (by kernel_rfl) (by kernel_rfl) (by omega) (by omega) (.inr ⟨.i64, rfl⟩) (.inl ⟨rfl, rfl⟩) ?_
    intro _ EF
    refine ⟨fun _ => Eg.pk [0, 1], ?_⟩
    exact Ql hG (by kernel_rfl) (nd194 _ _ (EF.sb) (Eg.pk [0, 1, 2]))
   rintro _ rfl
   refine zQ 2 4 (zh (nd (lv (clE (zn 32 (Sh.sumF 3 sd)))))) _ En Eg rfl (zf (zl _ _)) (zf (zi)) (zt _) rfl fun _ _ EG Eo => ⟨fun _ => Eo.pk [0, 1], ?_⟩
   exact Ql hG (by kernel_rfl) (nd205 _ _ (EG.sb) (Eo.pk [0, 1, 2]))
  have nd227 : ∀ (ac : Act) (wo : World), Env ac 32 [(2, pt Ed), (3, .slice none 0 0), (4, .slice Eb (zb (Sh.sumF 3 sd)) Ea), (5, pt Ec), (6, ni i), (28, .agg (zg (bys (clE (zn 32 (Sh.sumF 3 sd)))))), (31, .slice (cutAt Eb Ea 32 1) ((zb (Sh.sumF 3 sd)) - 32) (Ea - 32))] → Ev w [] wo [.box Ec (bys (clE (zn 32 (Sh.sumF 3 sd)))) 22, .vec Eb Ea 1 (bys (Sh.sumF 3 sd)) 5, .box Ed (zh (zd 4 0)) 33] → G 3 #[true, false, true, true, false, false] ac wo := by
   intro _ _ EH EI
   refine Zl hG ?_
   refine q_t 1 ?_
   refine c_p EH EI (rfromle_go _ (clE (zn 32 (Sh.sumF 3 sd))) (J5 hst)) fun _ _ EJ Ep => ⟨fun _ => Ep.pk [0, 1], ?_⟩
   refine q_t 4 ?_
   refine zQ 2 4 (zh (nd (lv (clE (zn 32 (Sh.sumF 3 sd)))))) [.box Ec (bys (clE (zn 32 (Sh.sumF 3 sd)))) 22, .vec Eb Ea 1 (bys (Sh.sumF 3 sd)) 5, .box Ed (zh (nd (lv (clE (zn 32 (Sh.sumF 3 sd)))))) 33] EJ Ep rfl (zf (zl _ _)) (zf (zi)) (zt _) rfl fun _ _ EK Ej => ⟨fun _ => Ej.pk [0, 1], ?_⟩
   refine q_s [5] [] 0 EK (Ej.pk [0, 1]) fun _ EL => ?_
   exact h_e ⟨EL.sb, Ej.pk [0, 1, 2]⟩
  refine Zl hG ?_
  refine q_r 0 (s := Instr.loadAt 22 (pt Ec)) (v := .agg (zg (bys (clE (zn 32 (Sh.sumF 3 sd)))))) Hq (fun w hS => zM (m := 32) (cs := bys (clE (zn 32 (Sh.sumF 3 sd)))) (zH (J5 hst)) (by kernel_rfl) (by kernel_rfl) (hS.heap.cells (k := 0) (off := 0) (m := 32) rfl (zq (zH (J5 hst))))) (Eh.pk [0, 1]) fun _ EM => q_s [2] [] 4 EM (Eh.pk [0, 1]) fun _ Eq => Qk [1, 3] (by kernel_rfl) rfl ?_
  refine ⟨?_, ?_, trivial⟩
  ·
   rintro _ rfl
   refine c_p Eq Eh (rfromle_go _ (clE (zn 32 (Sh.sumF 3 sd))) (J5 hst)) fun _ _ EN Er => ⟨fun _ => Er.pk [0, 1], ?_⟩
   exact Ql hG (by kernel_rfl) (nd215 _ _ (EN.sb) (Er.pk [0, 1, 2]))
  rintro _ rfl
  have ES := Yd Eh.heap (k := 1) rfl
  refine YV (d := some 31) (t := 23) (e := 5) (sz := 1) (len := zb (Sh.sumF 3 sd)) (cap := Ea) (lo := 32) (hi := zb (Sh.sumF 3 sd)) (ao := Eb) (lov := (some (.int .i64 32))) (hiv := none) Eq (by kernel_rfl) (by kernel_rfl) (by kernel_rfl) (by omega) (by omega) (.inr ⟨.i64, rfl⟩) (.inl ⟨rfl, rfl⟩) ?_
  intro _ EO
  refine ⟨fun _ => Eh.pk [0, 1], ?_⟩
  exact Ql hG (by kernel_rfl) (nd227 _ _ (EO.sb) (Eh.pk [0, 1, 2]))
 rintro _ _ ⟨EP, Ek⟩
 refine ze <| wp_ret <| d_cell_tmp (v := .agg (zg (zh (nd (lv (clE (zn 32 (Sh.sumF 3 sd)))))))) (x := .slice (cutAt Eb Ea 32 1) ((zb (Sh.sumF 3 sd)) - 32) (Ea - 32)) (t := 2) (T := 33) (ad := ⟨Ed, 0, none⟩) (u := 3) EP (by kernel_rfl) (by kernel_rfl) (zB (t := 33) (k := 2) (off := 0) (m := 4) (xs := zh (nd (lv (clE (zn 32 (Sh.sumF 3 sd)))))) Ek rfl (zq (zf (zl _ _))) (zf (zl _ _)) (by kernel_rfl) (by kernel_rfl)) (by kernel_rfl) ?_
 have ET := Yd Ek.heap (k := 1) rfl
 have Hf263 := Ev.cut (k := 1) (n := zb (Sh.sumF 3 sd)) (sz := 1) Ek rfl (ZD _) (by omega) 32 (zb (Sh.sumF 3 sd)) (by omega) (by omega)
 rw [bys_cutw (l := Sh.sumF 3 sd) (lo := 32) (n := zb (Sh.sumF 3 sd)) (by simp)] at Hf263
 exact ⟨_, _, by rw [show zb (ahE sd) = zb (Sh.sumF 3 sd) - 32 from zu]; first | done | rfl, Hf263.pk [1]⟩
theorem dpublic_go (w : World) (sd : List UInt8) (hsd : zb sd = 32) : Calls Tryz.prog 7 #[.agg (zg (bys sd))] w fun e w' => e = .returned (.agg (zg (bys (puE (sE sd))))) ∧ Ev w [] w' [] := by
 refine d_0 [(0, .agg (zg (bys sd)))] 18 Go.Proofs.Tryz.func7 Go.Proofs.Tryz.ntmps7 (Heap.nil _) fun ED EE EF => wp_seq <| zk <| f_o <| m_m 22 (bys sd) EE EF fun _ _ EG EH EI => f_o <| m_z 22 (bys (zd 32 0)) EH EI fun _ _ Ed EJ El => f_e <| ze <| wp_seq <| zk <| f_o <| c_p EJ El (dd_go _) fun _ _ Em En => ?_
 refine f_o <| m_z 33 (zh (zd 4 0)) Em En fun _ _ Ea Eo Ep => f_o <| zQ 2 4 (zh (nd DN)) _ Eo Ep rfl (zf (zl _ _)) (zf (zi)) (zt _) rfl fun _ _ Eq Ee => f_e <| ze <| wp_seq <| zk <| f_o <| m_aw 0 32 (bys sd) Eq Ee rfl (zH hsd) fun _ Er => f_o <| c_0 Er Ee (dsecret_go _ sd hsd) ?_
 rintro _ _ ⟨Ef, Eg, rfl, Es⟩
 refine ⟨_, _, _, rfl, Es, rfl, fun _ Et Eu => ?_⟩
 refine d_k [2,3,10,11] [] 5 Et fun _ Ew => f_o <| m_z 33 (zh (zd 4 0)) Ew Eu fun _ _ Eb Ex Ey => f_o <| zQ 4 4 (zh (nd (sE sd))) [.vec Ef Eg 1 (bys (ahE sd)) 5, .box EG (bys sd) 22, .box Ed (bys (zd 32 0)) 22, .box Ea (zh (nd DN)) 33, .box Eb (zh (nd (sE sd))) 33] Ex Ey rfl (zf (zl _ _)) (zf (zi)) (zt _) rfl fun _ _ Ez Eh => d_e [2,3,4] [] Ez fun _ EA => ?_
 refine ze <| wp_seq <| r_c (fun ac wo => Env ac 18 [(2, pt Ed), (3, pt Ea), (4, pt Eb)] ∧ Ev w [] wo [.box Ed (bys (puE (sE sd))) 22, .box Ea (zh (nd DN)) 33, .box Eb (zh (nd (sE sd))) 33]) ?_ ?_
 ·
  refine s_g0 [(2, pt Ed), (3, pt Ea), (4, pt Eb)] [0,1,2,3,4,5] [(12, .agg (zg (zh (nd (sE sd))))), (13, .agg (zg (zh (nd DN)))), (14, .agg (zg (zh Yb))), (15, .agg (zg (zh (nd DN)))), (16, .agg (zg (zh (mnF Yb (nv (nd (sE sd))) 256)))), (17, .agg (zg (bys (puE (sE sd)))))] 1 [(2, pt Ed), (3, pt Ea), (4, pt Eb), (17, .agg (zg (bys (puE (sE sd)))))] (EA.sb) (Eh.trans (zO Eh.heap)) ?_ fun _ _ EB EC => ?_
  ·
   refine s_a 4 0 4 (zh (nd (sE sd))) rfl (zq (zf (zl _ _))) (zf (zl _ _)) ?_
   refine s_a 3 0 4 (zh (nd DN)) rfl (zq (zf (zl _ _))) (zf (zl _ _)) ?_
   refine s_f (fun _ => Kv _) ?_
   refine s_a 3 0 4 (zh (nd DN)) rfl (zq (zf (zl _ _))) (zf (zl _ _)) ?_
   refine s_f (fun _ => Kl _ Yb (nd (sE sd)) (ptD_len _ _) (zl _ _)) ?_
   refine s_f (fun _ => X9 _ (sE sd) (sE_lt _)) ?_
   exact s_n
  refine q_u 6 ?_
  refine zQ 2 32 (bys (puE (sE sd))) _ EB EC rfl (zH (zD _)) (zH (zi)) (Zj _) rfl fun _ _ Ei Ej => ?_
  exact a_e ⟨Ei.sb, Ej.pk [2, 3, 4]⟩
 rintro _ _ ⟨Ek, Ec⟩
 refine ze <| wp_ret <| d_cell1 (v := .agg (zg (bys (puE (sE sd))))) (t := 2) (T := 22) (ad := ⟨Ed, 0, none⟩) Ek (by kernel_rfl) (by kernel_rfl) (zB (t := 22) (k := 0) (off := 0) (m := 32) (xs := bys (puE (sE sd))) Ec rfl (zq (zH (zD _))) (zH (zD _)) (by kernel_rfl) (by kernel_rfl)) ?_
 exact ⟨rfl, Ec.pk []⟩
theorem dsign_go (w : World) (sd : List UInt8) (hsd : zb sd = 32) (am : Option Addr) (nm cm : Nat) (lm : List UInt8) (em : nm = zb lm) (im : InB w [] am cm lm) (hBt : zb lm ≤ 140737488351232) : Calls Tryz.prog 9 #[.agg (zg (bys sd)), .slice am nm cm] w fun e w' => e = .returned (.agg (zg (bys (siE sd lm)))) ∧ Ev w [] w' [] := by
 have hah := z3 sd
 subst em
 have hs := im.small
 have a3 := im.cap
 refine d_0 [(0, .agg (zg (bys sd))), (1, .slice am (zb lm) cm)] 64 Go.Proofs.Tryz.func9 Go.Proofs.Tryz.ntmps9 (Heap.nil _) fun a4 a5 a6 => wp_seq <| zk <| f_o <| m_m 22 (bys sd) a5 a6 fun _ _ a7 a8 a9 => f_o <| m_z 26 (bys (zd 64 0)) a8 a9 fun _ _ Ef ba aL => f_e <| ze <| wp_seq <| zk <| f_o <| c_p ba aL (dd_go _) fun _ _ aM aN => ?_
 refine f_o <| m_z 33 (zh (zd 4 0)) aM aN fun _ _ Ed aO aP => f_o <| zQ 2 4 (zh (nd DN)) _ aO aP rfl (zf (zl _ _)) (zf (zi)) (zt _) rfl fun _ _ aQ He => f_e <| ze <| wp_seq <| zk <| f_o <| m_aw 0 32 (bys sd) aQ He rfl (zH hsd) fun _ aR => f_o <| c_0 aR He (dsecret_go _ sd hsd) ?_
 rintro _ _ ⟨Ei, Ej, rfl, aS⟩
 refine ⟨_, _, _, rfl, aS, rfl, fun _ aT aU => ?_⟩
 refine d_k [1,4,5,19,20] [] 5 aT fun _ aV => f_o <| m_z 33 (zh (zd 4 0)) aV aU fun _ _ Ee aW aX => f_o <| zQ 4 4 (zh (nd (sE sd))) [.vec Ei Ej 1 (bys (ahE sd)) 5, .box a7 (bys sd) 22, .box Ef (bys (zd 64 0)) 26, .box Ed (zh (nd DN)) 33, .box Ee (zh (nd (sE sd))) 33] aW aX rfl (zf (zl _ _)) (zf (zi)) (zt _) rfl fun _ _ aY Hf => d_e [1,4,5,6,7] [] aY fun _ aZ => ?_
 refine ze <| wp_seq <| r_c (fun ac wo => ∃ (Eb : Nat), Env ac 64 [(1, .slice am (zb lm) cm), (4, pt Ef), (5, pt Ed), (6, pt Ee), (7, .slice Ei (zb (ahE sd)) Ej), (8, pt Eb)] ∧ Ev w [] wo [.vec Ei Ej 1 (bys (ahE sd)) 5, .box Ef (bys (zd 64 0)) 26, .box Ed (zh (nd DN)) 33, .box Ee (zh (nd (sE sd))) 33, .box Eb (bys (puE (sE sd))) 22]) ?_ ?_
 ·
  refine s_g1 [(1, .slice am (zb lm) cm), (4, pt Ef), (5, pt Ed), (6, pt Ee), (7, .slice Ei (zb (ahE sd)) Ej)] [0,1,2,3,4,5] [(21, .agg (zg (zh (nd (sE sd))))), (22, .agg (zg (zh (nd DN)))), (23, .agg (zg (zh Yb))), (24, .agg (zg (zh (nd DN)))), (25, .agg (zg (zh (mnF Yb (nv (nd (sE sd))) 256)))), (26, .agg (zg (bys (puE (sE sd)))))] 1 [(1, .slice am (zb lm) cm), (4, pt Ef), (5, pt Ed), (6, pt Ee), (7, .slice Ei (zb (ahE sd)) Ej), (26, .agg (zg (bys (puE (sE sd)))))] 6 (bys (zd 32 0)) (aZ.sb) (Hf.trans (zO Hf.heap)) ?_ fun _ _ Eb a0 a1 => ?_
  ·
   refine s_a 4 0 4 (zh (nd (sE sd))) rfl (zq (zf (zl _ _))) (zf (zl _ _)) ?_
   refine s_a 3 0 4 (zh (nd DN)) rfl (zq (zf (zl _ _))) (zf (zl _ _)) ?_
   refine s_f (fun _ => Kv _) ?_
   refine s_a 3 0 4 (zh (nd DN)) rfl (zq (zf (zl _ _))) (zf (zl _ _)) ?_
   refine s_f (fun _ => Kl _ Yb (nd (sE sd)) (ptD_len _ _) (zl _ _)) ?_
   refine s_f (fun _ => X9 _ (sE sd) (sE_lt _)) ?_
   exact s_n
  refine q_u 7 ?_
  refine zQ 5 32 (bys (puE (sE sd))) _ a0 a1 rfl (zH (zD _)) (zH (zi)) (Zj _) rfl fun _ _ Hg Hh => ?_
  exact a_e ⟨Eb, Hg.sb, Hh.pk [0, 2, 3, 4, 5]⟩
 rintro _ _ ⟨Eb, Hi, Hj⟩
 refine ze <| wp_seq <| zk <| d_k [1,4,5,6,8,27,28] [] 2 Hi fun _ Hk => f_o <| ZO (d := some 29) (t := 72) (T := 23) (m := 2) (parts := #[(0, .slice Ei (zb (ahE sd)) Ej), (1, .slice am (zb lm) cm)]) (xs := [.slice Ei (zb (ahE sd)) Ej, .slice am (zb lm) cm]) (sz := 1) Hk (by kernel_rfl) (by kernel_rfl) rfl (by decide) Hj ?_
 intro _ _ EF Hl Ex
 refine f_o <| c_p Hl Ex (dnumber_go _ (some ⟨EF, 0, none⟩) 2 2 ([⟨Ei, Ej, ahE sd⟩, ⟨am, cm, lm⟩] : List (Sl UInt8)) (by first | rfl | (simp; done) | (simp; omega) | omega) ⟨Ex.heap.ro (k := 5) rfl [] (by kernel_rfl) rfl, (fun e => by cases e), (by simp), (by simp), (zA.2 ⟨(X0 Ex.heap (k := 0) rfl [] (by kernel_rfl) rfl (by first | decide | (dsimp only; omega) | (simp; done) | (simp; omega) | omega)), (zA.2 ⟨((im.ev Ex).pick [] (by kernel_rfl)), (fun x h => absurd h Zs)⟩)⟩)⟩ (by simp only [Zn, ZF, Zr, zC, zD, z3, Zi, zs, zu, zY, hsd]; omega) (b := (ahE sd) ++ (lm)) (by simp only [Zn, ZF, Zr])) fun _ _ Hm Hn => f_o <| m_z 33 (zh (zd 4 0)) Hm Hn fun _ _ Ec Ho Hp => f_o <| zQ 6 4 (zh (nd (nE ((ahE sd) ++ (lm))))) [.vec Ei Ej 1 (bys (ahE sd)) 5, .box Ef (bys (zd 64 0)) 26, .box Ed (zh (nd DN)) 33, .box Ee (zh (nd (sE sd))) 33, .box Eb (bys (puE (sE sd))) 22, .vec (some ⟨EF, 0, none⟩) 2 1 [.slice Ei (zb (ahE sd)) Ej, .slice am (zb lm) cm] 23, .box Ec (zh (nd (nE ((ahE sd) ++ (lm))))) 33] Ho Hp rfl (zf (zl _ _)) (zf (zi)) (zt _) rfl fun _ _ Hq EG => ?_
 refine f_e <| ze <| wp_seq <| r_c (fun ac wo => ∃ (Ea : Nat), Env ac 64 [(1, .slice am (zb lm) cm), (4, pt Ef), (5, pt Ed), (6, pt Ee), (8, pt Eb), (9, pt Ec), (10, pt Ea)] ∧ Ev w [] wo [.box Ef (bys (zd 64 0)) 26, .box Ed (zh (nd DN)) 33, .box Ee (zh (nd (sE sd))) 33, .box Eb (bys (puE (sE sd))) 22, .box Ec (zh (nd (nE ((ahE sd) ++ (lm))))) 33, .box Ea (bys (puE (nE ((ahE sd) ++ (lm))))) 22]) ?_ ?_
 ·
  refine s_g1 [(1, .slice am (zb lm) cm), (4, pt Ef), (5, pt Ed), (6, pt Ee), (8, pt Eb), (9, pt Ec)] [0,1,2,3,4,5] [(31, .agg (zg (zh (nd (nE ((ahE sd) ++ (lm))))))), (32, .agg (zg (zh (nd DN)))), (33, .agg (zg (zh Yb))), (34, .agg (zg (zh (nd DN)))), (35, .agg (zg (zh (mnF Yb (nv (nd (nE ((ahE sd) ++ (lm))))) 256)))), (36, .agg (zg (bys (puE (nE ((ahE sd) ++ (lm)))))))] 1 [(1, .slice am (zb lm) cm), (4, pt Ef), (5, pt Ed), (6, pt Ee), (8, pt Eb), (9, pt Ec), (36, .agg (zg (bys (puE (nE ((ahE sd) ++ (lm)))))))] 6 (bys (zd 32 0)) (Hq.sb) (EG.trans (zO EG.heap)) ?_ fun _ _ Ea Hr Hs => ?_
  ·
   refine s_a 6 0 4 (zh (nd (nE ((ahE sd) ++ (lm))))) rfl (zq (zf (zl _ _))) (zf (zl _ _)) ?_
   refine s_a 2 0 4 (zh (nd DN)) rfl (zq (zf (zl _ _))) (zf (zl _ _)) ?_
   refine s_f (fun _ => Kv _) ?_
   refine s_a 2 0 4 (zh (nd DN)) rfl (zq (zf (zl _ _))) (zf (zl _ _)) ?_
   refine s_f (fun _ => Kl _ Yb (nd (nE ((ahE sd) ++ (lm)))) (ptD_len _ _) (zl _ _)) ?_
   refine s_f (fun _ => X9 _ (nE ((ahE sd) ++ (lm))) (nE_lt _)) ?_
   exact s_n
  refine q_u 7 ?_
  refine zQ 7 32 (bys (puE (nE ((ahE sd) ++ (lm))))) _ Hr Hs rfl (zH (zD _)) (zH (zi)) (Zj _) rfl fun _ _ Ht Hu => ?_
  exact a_e ⟨Ea, Ht.sb, Hu.pk [1, 2, 3, 4, 6, 7]⟩
 rintro _ _ ⟨Ea, Hv, EH⟩
 refine ze <| wp_seq <| r_c (fun ac wo => ∃ (Eg : Nat), Env ac 64 [(1, .slice am (zb lm) cm), (4, pt Ef), (5, pt Ed), (6, pt Ee), (8, pt Eb), (9, pt Ec), (10, pt Ea), (11, pt Eg)] ∧ Ev w [] wo [.box Ef (bys (zd 64 0)) 26, .box Ed (zh (nd DN)) 33, .box Ee (zh (nd (sE sd))) 33, .box Eb (bys (puE (sE sd))) 22, .box Ec (zh (nd (nE ((ahE sd) ++ (lm))))) 33, .box Ea (bys (puE (nE ((ahE sd) ++ (lm))))) 22, .box Eg (zh (nd (nE ((puE (nE ((ahE sd) ++ (lm)))) ++ ((puE (sE sd)) ++ (lm)))))) 33]) ?_ ?_
 ·
  refine h_s (fun wv => Ev w [] wv [.box Eb (bys (puE (sE sd))) 22, .box Ea (bys (puE (nE ((ahE sd) ++ (lm))))) 22]) [] 7 ?_
  have Er := EH.trans (zO EH.heap)
  refine h_name fun G hG => ?_
  have nd438 : ∀ (ac : Act) (wo : World), Env ac 64 [(1, .slice am (zb lm) cm), (4, pt Ef), (5, pt Ed), (6, pt Ee), (8, pt Eb), (9, pt Ec), (10, pt Ea), (41, .agg (zg (zh (nd (nE ((puE (nE ((ahE sd) ++ (lm)))) ++ ((puE (sE sd)) ++ (lm))))))))] → Ev w [] wo [.box Ef (bys (zd 64 0)) 26, .box Ed (zh (nd DN)) 33, .box Ee (zh (nd (sE sd))) 33, .box Eb (bys (puE (sE sd))) 22, .box Ec (zh (nd (nE ((ahE sd) ++ (lm))))) 33, .box Ea (bys (puE (nE ((ahE sd) ++ (lm))))) 22] → G 2 #[true, true, true, true, true, false, false] ac wo := by
   intro _ _ Hw Hx
   refine Zl hG ?_
   refine q_t 5 ?_
   refine m_z 33 (zh (zd 4 0)) Hw Hx fun _ _ EI Hy EJ => ⟨fun _ => EJ.pk [3, 5], ?_⟩
   refine q_t 6 ?_
   refine zQ 6 4 (zh (nd (nE ((puE (nE ((ahE sd) ++ (lm)))) ++ ((puE (sE sd)) ++ (lm)))))) [.box Ef (bys (zd 64 0)) 26, .box Ed (zh (nd DN)) 33, .box Ee (zh (nd (sE sd))) 33, .box Eb (bys (puE (sE sd))) 22, .box Ec (zh (nd (nE ((ahE sd) ++ (lm))))) 33, .box Ea (bys (puE (nE ((ahE sd) ++ (lm))))) 22, .box EI (zh (nd (nE ((puE (nE ((ahE sd) ++ (lm)))) ++ ((puE (sE sd)) ++ (lm)))))) 33] Hy EJ rfl (zf (zl _ _)) (zf (zi)) (zt _) rfl fun _ _ Hz EK => ⟨fun _ => EK.pk [3, 5], ?_⟩
   exact h_e ⟨EI, Hz.sb, EK.pk [0, 1, 2, 3, 4, 5, 6]⟩
  have nd452 : ∀ (ac : Act) (wo : World) (Ek : Nat) (Ey : Nat), Env ac 64 [(1, .slice am (zb lm) cm), (4, pt Ef), (5, pt Ed), (6, pt Ee), (8, pt Eb), (9, pt Ec), (10, pt Ea), (11, pt Ey), (40, .slice (some ⟨Ek, 0, none⟩) 3 3)] → Ev w [] wo [.box Ef (bys (zd 64 0)) 26, .box Ed (zh (nd DN)) 33, .box Ee (zh (nd (sE sd))) 33, .box Eb (bys (puE (sE sd))) 22, .box Ec (zh (nd (nE ((ahE sd) ++ (lm))))) 33, .box Ea (bys (puE (nE ((ahE sd) ++ (lm))))) 22, .vec (some ⟨Ek, 0, none⟩) 3 1 [.slice (some ⟨Ea, 0, none⟩) 32 32, .slice (some ⟨Eb, 0, none⟩) 32 32, .slice am (zb lm) cm] 23, .box Ey (zh (zd 4 0)) 33] → G 2 #[true, true, true, true, false, true, false] ac wo := by
   intro _ _ Ek Ey HA Eq
   refine Zl hG ?_
   refine q_t 4 ?_
   rw [show (.slice (some ⟨Ea, 0, none⟩) 32 32 : Value) = .slice (some ⟨Ea, 0, none⟩) (zb (puE (nE ((ahE sd) ++ (lm))))) 32 from by rw [show zb (puE (nE ((ahE sd) ++ (lm)))) = 32 from by first | omega | (simp only [zD, z3, Zi, zs, zu, zY, hsd]; omega) | (simp only [zD, z3, Zi, zs, zu, zY, hsd])]] at Eq
   rw [show (.slice (some ⟨Eb, 0, none⟩) 32 32 : Value) = .slice (some ⟨Eb, 0, none⟩) (zb (puE (sE sd))) 32 from by rw [show zb (puE (sE sd)) = 32 from by first | omega | (simp only [zD, z3, Zi, zs, zu, zY, hsd]; omega) | (simp only [zD, z3, Zi, zs, zu, zY, hsd])]] at Eq
   refine c_p HA Eq (dnumber_go _ (some ⟨Ek, 0, none⟩) 3 3 ([⟨some ⟨Ea, 0, none⟩, 32, puE (nE ((ahE sd) ++ (lm)))⟩, ⟨some ⟨Eb, 0, none⟩, 32, puE (sE sd)⟩, ⟨am, cm, lm⟩] : List (Sl UInt8)) (by first | rfl | (simp; done) | (simp; omega) | omega) ⟨Eq.heap.ro (k := 6) rfl [] (by kernel_rfl) rfl, (fun e => by cases e), (by simp), (by simp), (zA.2 ⟨(Qo (Eq.heap.roBox (k := 5) (m := 32) rfl (zq (zH (zD _))) [] (by kernel_rfl) rfl) (zD _) (by first | decide | (dsimp only; decide))), (zA.2 ⟨(Qo (Eq.heap.roBox (k := 3) (m := 32) rfl (zq (zH (zD _))) [] (by kernel_rfl) rfl) (zD _) (by first | decide | (dsimp only; decide))), (zA.2 ⟨((im.ev Eq).pick [] (by kernel_rfl)), (fun x h => absurd h Zs)⟩)⟩)⟩)⟩ (by simp only [Zn, ZF, Zr, zC, zD, z3, Zi, zs, zu, zY, hsd]; omega) (b := (puE (nE ((ahE sd) ++ (lm)))) ++ ((puE (sE sd)) ++ (lm))) (by simp only [Zn, ZF, Zr])) fun _ _ HB EL => ⟨fun _ => EL.pk [3, 5], ?_⟩
   refine q_t 6 ?_
   refine zQ 7 4 (zh (nd (nE ((puE (nE ((ahE sd) ++ (lm)))) ++ ((puE (sE sd)) ++ (lm)))))) _ HB EL rfl (zf (zl _ _)) (zf (zi)) (zt _) rfl fun _ _ HC EM => ⟨fun _ => EM.pk [3, 5], ?_⟩
   exact h_e ⟨Ey, HC.sb, EM.pk [0, 1, 2, 3, 4, 5, 7]⟩
  have nd468 : ∀ (ac : Act) (wo : World) (Ek : Nat), Env ac 64 [(1, .slice am (zb lm) cm), (4, pt Ef), (5, pt Ed), (6, pt Ee), (8, pt Eb), (9, pt Ec), (10, pt Ea), (40, .slice (some ⟨Ek, 0, none⟩) 3 3)] → Ev w [] wo [.box Ef (bys (zd 64 0)) 26, .box Ed (zh (nd DN)) 33, .box Ee (zh (nd (sE sd))) 33, .box Eb (bys (puE (sE sd))) 22, .box Ec (zh (nd (nE ((ahE sd) ++ (lm))))) 33, .box Ea (bys (puE (nE ((ahE sd) ++ (lm))))) 22, .vec (some ⟨Ek, 0, none⟩) 3 1 [.slice (some ⟨Ea, 0, none⟩) 32 32, .slice (some ⟨Eb, 0, none⟩) 32 32, .slice am (zb lm) cm] 23] → G 3 #[true, true, true, true, false, false, false] ac wo := by
   intro _ _ Ek EN El
   refine Zl hG ?_
   refine Qk [4, 5] (by kernel_rfl) rfl ?_
   refine ⟨?_, ?_, trivial⟩
   ·
    rintro _ rfl
    rw [show (.slice (some ⟨Ea, 0, none⟩) 32 32 : Value) = .slice (some ⟨Ea, 0, none⟩) (zb (puE (nE ((ahE sd) ++ (lm))))) 32 from by rw [show zb (puE (nE ((ahE sd) ++ (lm)))) = 32 from by first | omega | (simp only [zD, z3, Zi, zs, zu, zY, hsd]; omega) | (simp only [zD, z3, Zi, zs, zu, zY, hsd])]] at El
    rw [show (.slice (some ⟨Eb, 0, none⟩) 32 32 : Value) = .slice (some ⟨Eb, 0, none⟩) (zb (puE (sE sd))) 32 from by rw [show zb (puE (sE sd)) = 32 from by first | omega | (simp only [zD, z3, Zi, zs, zu, zY, hsd]; omega) | (simp only [zD, z3, Zi, zs, zu, zY, hsd])]] at El
    refine c_p EN El (dnumber_go _ (some ⟨Ek, 0, none⟩) 3 3 ([⟨some ⟨Ea, 0, none⟩, 32, puE (nE ((ahE sd) ++ (lm)))⟩, ⟨some ⟨Eb, 0, none⟩, 32, puE (sE sd)⟩, ⟨am, cm, lm⟩] : List (Sl UInt8)) (by first | rfl | (simp; done) | (simp; omega) | omega) ⟨El.heap.ro (k := 6) rfl [] (by kernel_rfl) rfl, (fun e => by cases e), (by simp), (by simp), (zA.2 ⟨(Qo (El.heap.roBox (k := 5) (m := 32) rfl (zq (zH (zD _))) [] (by kernel_rfl) rfl) (zD _) (by first | decide | (dsimp only; decide))), (zA.2 ⟨(Qo (El.heap.roBox (k := 3) (m := 32) rfl (zq (zH (zD _))) [] (by kernel_rfl) rfl) (zD _) (by first | decide | (dsimp only; decide))), (zA.2 ⟨((im.ev El).pick [] (by kernel_rfl)), (fun x h => absurd h Zs)⟩)⟩)⟩)⟩ (by simp only [Zn, ZF, Zr, zC, zD, z3, Zi, zs, zu, zY, hsd]; omega) (b := (puE (nE ((ahE sd) ++ (lm)))) ++ ((puE (sE sd)) ++ (lm))) (by simp only [Zn, ZF, Zr])) fun _ _ HD EO => ⟨fun _ => EO.pk [3, 5], ?_⟩
    exact Ql hG (by kernel_rfl) (nd438 _ _ (HD.sb) (EO.pk [0, 1, 2, 3, 4, 5]))
   rintro _ rfl
   refine m_z 33 (zh (zd 4 0)) EN El fun _ _ HE HF EP => ⟨fun _ => EP.pk [3, 5], ?_⟩
   exact Ql hG (by kernel_rfl) (nd452 _ _ Ek HE (HF.sb) (EP.pk [0, 1, 2, 3, 4, 5, 6, 7]))
  have nd485 : ∀ (ac : Act) (wo : World) (Et : Nat), Env ac 64 [(1, .slice am (zb lm) cm), (4, pt Ef), (5, pt Ed), (6, pt Ee), (8, pt Eb), (9, pt Ec), (10, pt Ea), (11, pt Et), (37, .slice (some ⟨Ea, 0, none⟩) 32 32), (38, .slice (some ⟨Eb, 0, none⟩) 32 32), (39, .slice am (zb lm) cm)] → Ev w [] wo [.box Ef (bys (zd 64 0)) 26, .box Ed (zh (nd DN)) 33, .box Ee (zh (nd (sE sd))) 33, .box Eb (bys (puE (sE sd))) 22, .box Ec (zh (nd (nE ((ahE sd) ++ (lm))))) 33, .box Ea (bys (puE (nE ((ahE sd) ++ (lm))))) 22, .box Et (zh (zd 4 0)) 33] → G 3 #[true, true, true, false, false, true, false] ac wo := by
   intro _ _ Et HG HH
   refine Zl hG ?_
   refine q_t 3 ?_
   refine ZO (d := some 40) (t := 72) (T := 23) (m := 3) (parts := #[(0, .slice (some ⟨Ea, 0, none⟩) 32 32), (1, .slice (some ⟨Eb, 0, none⟩) 32 32), (2, .slice am (zb lm) cm)]) (xs := [.slice (some ⟨Ea, 0, none⟩) 32 32, .slice (some ⟨Eb, 0, none⟩) 32 32, .slice am (zb lm) cm]) (sz := 1) HG (by kernel_rfl) (by kernel_rfl) rfl (by decide) HH ?_
   intro _ _ EQ HI Em
   refine ⟨fun _ => Em.pk [3, 5], ?_⟩
   refine q_t 4 ?_
   rw [show (.slice (some ⟨Ea, 0, none⟩) 32 32 : Value) = .slice (some ⟨Ea, 0, none⟩) (zb (puE (nE ((ahE sd) ++ (lm))))) 32 from by rw [show zb (puE (nE ((ahE sd) ++ (lm)))) = 32 from by first | omega | (simp only [zD, z3, Zi, zs, zu, zY, hsd]; omega) | (simp only [zD, z3, Zi, zs, zu, zY, hsd])]] at Em
   rw [show (.slice (some ⟨Eb, 0, none⟩) 32 32 : Value) = .slice (some ⟨Eb, 0, none⟩) (zb (puE (sE sd))) 32 from by rw [show zb (puE (sE sd)) = 32 from by first | omega | (simp only [zD, z3, Zi, zs, zu, zY, hsd]; omega) | (simp only [zD, z3, Zi, zs, zu, zY, hsd])]] at Em
   refine c_p HI Em (dnumber_go _ (some ⟨EQ, 0, none⟩) 3 3 ([⟨some ⟨Ea, 0, none⟩, 32, puE (nE ((ahE sd) ++ (lm)))⟩, ⟨some ⟨Eb, 0, none⟩, 32, puE (sE sd)⟩, ⟨am, cm, lm⟩] : List (Sl UInt8)) (by first | rfl | (simp; done) | (simp; omega) | omega) ⟨Em.heap.ro (k := 7) rfl [] (by kernel_rfl) rfl, (fun e => by cases e), (by simp), (by simp), (zA.2 ⟨(Qo (Em.heap.roBox (k := 5) (m := 32) rfl (zq (zH (zD _))) [] (by kernel_rfl) rfl) (zD _) (by first | decide | (dsimp only; decide))), (zA.2 ⟨(Qo (Em.heap.roBox (k := 3) (m := 32) rfl (zq (zH (zD _))) [] (by kernel_rfl) rfl) (zD _) (by first | decide | (dsimp only; decide))), (zA.2 ⟨((im.ev Em).pick [] (by kernel_rfl)), (fun x h => absurd h Zs)⟩)⟩)⟩)⟩ (by simp only [Zn, ZF, Zr, zC, zD, z3, Zi, zs, zu, zY, hsd]; omega) (b := (puE (nE ((ahE sd) ++ (lm)))) ++ ((puE (sE sd)) ++ (lm))) (by simp only [Zn, ZF, Zr])) fun _ _ HJ ER => ⟨fun _ => ER.pk [3, 5], ?_⟩
   refine q_t 6 ?_
   refine zQ 6 4 (zh (nd (nE ((puE (nE ((ahE sd) ++ (lm)))) ++ ((puE (sE sd)) ++ (lm)))))) [.box Ef (bys (zd 64 0)) 26, .box Ed (zh (nd DN)) 33, .box Ee (zh (nd (sE sd))) 33, .box Eb (bys (puE (sE sd))) 22, .box Ec (zh (nd (nE ((ahE sd) ++ (lm))))) 33, .box Ea (bys (puE (nE ((ahE sd) ++ (lm))))) 22, .box Et (zh (nd (nE ((puE (nE ((ahE sd) ++ (lm)))) ++ ((puE (sE sd)) ++ (lm)))))) 33, .vec (some ⟨EQ, 0, none⟩) 3 1 [.slice (some ⟨Ea, 0, none⟩) (zb (puE (nE ((ahE sd) ++ (lm))))) 32, .slice (some ⟨Eb, 0, none⟩) (zb (puE (sE sd))) 32, .slice am (zb lm) cm] 23] HJ ER rfl (zf (zl _ _)) (zf (zi)) (zt _) rfl fun _ _ HK ES => ⟨fun _ => ES.pk [3, 5], ?_⟩
   exact h_e ⟨Et, HK.sb, ES.pk [0, 1, 2, 3, 4, 5, 6]⟩
  have nd506 : ∀ (ac : Act) (wo : World), Env ac 64 [(1, .slice am (zb lm) cm), (4, pt Ef), (5, pt Ed), (6, pt Ee), (8, pt Eb), (9, pt Ec), (10, pt Ea), (37, .slice (some ⟨Ea, 0, none⟩) 32 32), (38, .slice (some ⟨Eb, 0, none⟩) 32 32), (39, .slice am (zb lm) cm)] → Ev w [] wo [.box Ef (bys (zd 64 0)) 26, .box Ed (zh (nd DN)) 33, .box Ee (zh (nd (sE sd))) 33, .box Eb (bys (puE (sE sd))) 22, .box Ec (zh (nd (nE ((ahE sd) ++ (lm))))) 33, .box Ea (bys (puE (nE ((ahE sd) ++ (lm))))) 22] → G 4 #[true, true, true, false, false, false, false] ac wo := by
   intro _ _ ET EU
   refine Zl hG ?_
   refine Qk [3, 5] (by kernel_rfl) rfl ?_
   refine ⟨?_, ?_, trivial⟩
   ·
    rintro _ rfl
    refine ZO (d := some 40) (t := 72) (T := 23) (m := 3) (parts := #[(0, .slice (some ⟨Ea, 0, none⟩) 32 32), (1, .slice (some ⟨Eb, 0, none⟩) 32 32), (2, .slice am (zb lm) cm)]) (xs := [.slice (some ⟨Ea, 0, none⟩) 32 32, .slice (some ⟨Eb, 0, none⟩) 32 32, .slice am (zb lm) cm]) (sz := 1) ET (by kernel_rfl) (by kernel_rfl) rfl (by decide) EU ?_
    intro _ _ HL HM EV
    refine ⟨fun _ => EV.pk [3, 5], ?_⟩
    exact Ql hG (by kernel_rfl) (nd468 _ _ HL (HM.sb) (EV.pk [0, 1, 2, 3, 4, 5, 6]))
   rintro _ rfl
   refine m_z 33 (zh (zd 4 0)) ET EU fun _ _ HN HO EW => ⟨fun _ => EW.pk [3, 5], ?_⟩
   exact Ql hG (by kernel_rfl) (nd485 _ _ HN (HO.sb) (EW.pk [0, 1, 2, 3, 4, 5, 6]))
  have nd521 : ∀ (ac : Act) (wo : World) (Ez : Nat), Env ac 64 [(1, .slice am (zb lm) cm), (4, pt Ef), (5, pt Ed), (6, pt Ee), (8, pt Eb), (9, pt Ec), (10, pt Ea), (11, pt Ez), (37, .slice (some ⟨Ea, 0, none⟩) 32 32), (39, .slice am (zb lm) cm)] → Ev w [] wo [.box Ef (bys (zd 64 0)) 26, .box Ed (zh (nd DN)) 33, .box Ee (zh (nd (sE sd))) 33, .box Eb (bys (puE (sE sd))) 22, .box Ec (zh (nd (nE ((ahE sd) ++ (lm))))) 33, .box Ea (bys (puE (nE ((ahE sd) ++ (lm))))) 22, .box Ez (zh (zd 4 0)) 33] → G 4 #[true, false, true, false, false, true, false] ac wo := by
   intro _ _ Ez HP EX
   refine Zl hG ?_
   refine q_t 1 ?_
   refine ZQ (d := some 38) (t := 22) (e := 5) (sz := 1) (m := 32) (lo := 0) (hi := 32) (b := Eb) (off := 0) (lov := none) (hiv := none) (o := 0) HP (by kernel_rfl) (by kernel_rfl) (by kernel_rfl) (by omega) (by omega) (by omega) (.inl ⟨rfl, rfl⟩) (.inl ⟨rfl, rfl⟩) (by omega) ?_
   intro _ HQ
   refine ⟨fun _ => EX.pk [3, 5], ?_⟩
   refine q_t 3 ?_
   refine ZO (d := some 40) (t := 72) (T := 23) (m := 3) (parts := #[(0, .slice (some ⟨Ea, 0, none⟩) 32 32), (1, .slice (some ⟨Eb, 0, none⟩) 32 32), (2, .slice am (zb lm) cm)]) (xs := [.slice (some ⟨Ea, 0, none⟩) 32 32, .slice (some ⟨Eb, 0, none⟩) 32 32, .slice am (zb lm) cm]) (sz := 1) HQ (by kernel_rfl) (by kernel_rfl) rfl (by decide) EX ?_
   intro _ _ HR HS En
   refine ⟨fun _ => En.pk [3, 5], ?_⟩
   refine q_t 4 ?_
   rw [show (.slice (some ⟨Ea, 0, none⟩) 32 32 : Value) = .slice (some ⟨Ea, 0, none⟩) (zb (puE (nE ((ahE sd) ++ (lm))))) 32 from by rw [show zb (puE (nE ((ahE sd) ++ (lm)))) = 32 from by first | omega | (simp only [zD, z3, Zi, zs, zu, zY, hsd]; omega) | (simp only [zD, z3, Zi, zs, zu, zY, hsd])]] at En
   rw [show (.slice (some ⟨Eb, 0, none⟩) 32 32 : Value) = .slice (some ⟨Eb, 0, none⟩) (zb (puE (sE sd))) 32 from by rw [show zb (puE (sE sd)) = 32 from by first | omega | (simp only [zD, z3, Zi, zs, zu, zY, hsd]; omega) | (simp only [zD, z3, Zi, zs, zu, zY, hsd])]] at En
   refine c_p HS En (dnumber_go _ (some ⟨HR, 0, none⟩) 3 3 ([⟨some ⟨Ea, 0, none⟩, 32, puE (nE ((ahE sd) ++ (lm)))⟩, ⟨some ⟨Eb, 0, none⟩, 32, puE (sE sd)⟩, ⟨am, cm, lm⟩] : List (Sl UInt8)) (by first | rfl | (simp; done) | (simp; omega) | omega) ⟨En.heap.ro (k := 7) rfl [] (by kernel_rfl) rfl, (fun e => by cases e), (by simp), (by simp), (zA.2 ⟨(Qo (En.heap.roBox (k := 5) (m := 32) rfl (zq (zH (zD _))) [] (by kernel_rfl) rfl) (zD _) (by first | decide | (dsimp only; decide))), (zA.2 ⟨(Qo (En.heap.roBox (k := 3) (m := 32) rfl (zq (zH (zD _))) [] (by kernel_rfl) rfl) (zD _) (by first | decide | (dsimp only; decide))), (zA.2 ⟨((im.ev En).pick [] (by kernel_rfl)), (fun x h => absurd h Zs)⟩)⟩)⟩)⟩ (by simp only [Zn, ZF, Zr, zC, zD, z3, Zi, zs, zu, zY, hsd]; omega) (b := (puE (nE ((ahE sd) ++ (lm)))) ++ ((puE (sE sd)) ++ (lm))) (by simp only [Zn, ZF, Zr])) fun _ _ HT EY => ⟨fun _ => EY.pk [3, 5], ?_⟩
   refine q_t 6 ?_
   refine zQ 6 4 (zh (nd (nE ((puE (nE ((ahE sd) ++ (lm)))) ++ ((puE (sE sd)) ++ (lm)))))) _ HT EY rfl (zf (zl _ _)) (zf (zi)) (zt _) rfl fun _ _ HU EZ => ⟨fun _ => EZ.pk [3, 5], ?_⟩
   exact h_e ⟨Ez, HU.sb, EZ.pk [0, 1, 2, 3, 4, 5, 6]⟩
  have nd544 : ∀ (ac : Act) (wo : World) (Eu : Nat), Env ac 64 [(1, .slice am (zb lm) cm), (4, pt Ef), (5, pt Ed), (6, pt Ee), (8, pt Eb), (9, pt Ec), (10, pt Ea), (11, pt Eu), (38, .slice (some ⟨Eb, 0, none⟩) 32 32), (39, .slice am (zb lm) cm)] → Ev w [] wo [.box Ef (bys (zd 64 0)) 26, .box Ed (zh (nd DN)) 33, .box Ee (zh (nd (sE sd))) 33, .box Eb (bys (puE (sE sd))) 22, .box Ec (zh (nd (nE ((ahE sd) ++ (lm))))) 33, .box Ea (bys (puE (nE ((ahE sd) ++ (lm))))) 22, .box Eu (zh (zd 4 0)) 33] → G 4 #[false, true, true, false, false, true, false] ac wo := by
   intro _ _ Eu HV E0
   refine Zl hG ?_
   refine q_t 0 ?_
   refine ZQ (d := some 37) (t := 22) (e := 5) (sz := 1) (m := 32) (lo := 0) (hi := 32) (b := Ea) (off := 0) (lov := none) (hiv := none) (o := 0) HV (by kernel_rfl) (by kernel_rfl) (by kernel_rfl) (by omega) (by omega) (by omega) (.inl ⟨rfl, rfl⟩) (.inl ⟨rfl, rfl⟩) (by omega) ?_
   intro _ HW
   refine ⟨fun _ => E0.pk [3, 5], ?_⟩
   refine q_t 3 ?_
   refine ZO (d := some 40) (t := 72) (T := 23) (m := 3) (parts := #[(0, .slice (some ⟨Ea, 0, none⟩) 32 32), (1, .slice (some ⟨Eb, 0, none⟩) 32 32), (2, .slice am (zb lm) cm)]) (xs := [.slice (some ⟨Ea, 0, none⟩) 32 32, .slice (some ⟨Eb, 0, none⟩) 32 32, .slice am (zb lm) cm]) (sz := 1) HW (by kernel_rfl) (by kernel_rfl) rfl (by decide) E0 ?_
   intro _ _ E1 HX Eo
   refine ⟨fun _ => Eo.pk [3, 5], ?_⟩
   refine q_t 4 ?_
   rw [show (.slice (some ⟨Ea, 0, none⟩) 32 32 : Value) = .slice (some ⟨Ea, 0, none⟩) (zb (puE (nE ((ahE sd) ++ (lm))))) 32 from by rw [show zb (puE (nE ((ahE sd) ++ (lm)))) = 32 from by first | omega | (simp only [zD, z3, Zi, zs, zu, zY, hsd]; omega) | (simp only [zD, z3, Zi, zs, zu, zY, hsd])]] at Eo
   rw [show (.slice (some ⟨Eb, 0, none⟩) 32 32 : Value) = .slice (some ⟨Eb, 0, none⟩) (zb (puE (sE sd))) 32 from by rw [show zb (puE (sE sd)) = 32 from by first | omega | (simp only [zD, z3, Zi, zs, zu, zY, hsd]; omega) | (simp only [zD, z3, Zi, zs, zu, zY, hsd])]] at Eo
   refine c_p HX Eo (dnumber_go _ (some ⟨E1, 0, none⟩) 3 3 ([⟨some ⟨Ea, 0, none⟩, 32, puE (nE ((ahE sd) ++ (lm)))⟩, ⟨some ⟨Eb, 0, none⟩, 32, puE (sE sd)⟩, ⟨am, cm, lm⟩] : List (Sl UInt8)) (by first | rfl | (simp; done) | (simp; omega) | omega) ⟨Eo.heap.ro (k := 7) rfl [] (by kernel_rfl) rfl, (fun e => by cases e), (by simp), (by simp), (zA.2 ⟨(Qo (Eo.heap.roBox (k := 5) (m := 32) rfl (zq (zH (zD _))) [] (by kernel_rfl) rfl) (zD _) (by first | decide | (dsimp only; decide))), (zA.2 ⟨(Qo (Eo.heap.roBox (k := 3) (m := 32) rfl (zq (zH (zD _))) [] (by kernel_rfl) rfl) (zD _) (by first | decide | (dsimp only; decide))), (zA.2 ⟨((im.ev Eo).pick [] (by kernel_rfl)), (fun x h => absurd h Zs)⟩)⟩)⟩)⟩ (by simp only [Zn, ZF, Zr, zC, zD, z3, Zi, zs, zu, zY, hsd]; omega) (b := (puE (nE ((ahE sd) ++ (lm)))) ++ ((puE (sE sd)) ++ (lm))) (by simp only [Zn, ZF, Zr])) fun _ _ HY E2 => ⟨fun _ => E2.pk [3, 5], ?_⟩
   refine q_t 6 ?_
   refine zQ 6 4 (zh (nd (nE ((puE (nE ((ahE sd) ++ (lm)))) ++ ((puE (sE sd)) ++ (lm)))))) [.box Ef (bys (zd 64 0)) 26, .box Ed (zh (nd DN)) 33, .box Ee (zh (nd (sE sd))) 33, .box Eb (bys (puE (sE sd))) 22, .box Ec (zh (nd (nE ((ahE sd) ++ (lm))))) 33, .box Ea (bys (puE (nE ((ahE sd) ++ (lm))))) 22, .box Eu (zh (nd (nE ((puE (nE ((ahE sd) ++ (lm)))) ++ ((puE (sE sd)) ++ (lm)))))) 33, .vec (some ⟨E1, 0, none⟩) 3 1 [.slice (some ⟨Ea, 0, none⟩) (zb (puE (nE ((ahE sd) ++ (lm))))) 32, .slice (some ⟨Eb, 0, none⟩) (zb (puE (sE sd))) 32, .slice am (zb lm) cm] 23] HY E2 rfl (zf (zl _ _)) (zf (zi)) (zt _) rfl fun _ _ HZ E3 => ⟨fun _ => E3.pk [3, 5], ?_⟩
   exact h_e ⟨Eu, HZ.sb, E3.pk [0, 1, 2, 3, 4, 5, 6]⟩
  have nd567 : ∀ (ac : Act) (wo : World), Env ac 64 [(1, .slice am (zb lm) cm), (4, pt Ef), (5, pt Ed), (6, pt Ee), (8, pt Eb), (9, pt Ec), (10, pt Ea), (37, .slice (some ⟨Ea, 0, none⟩) 32 32), (39, .slice am (zb lm) cm)] → Ev w [] wo [.box Ef (bys (zd 64 0)) 26, .box Ed (zh (nd DN)) 33, .box Ee (zh (nd (sE sd))) 33, .box Eb (bys (puE (sE sd))) 22, .box Ec (zh (nd (nE ((ahE sd) ++ (lm))))) 33, .box Ea (bys (puE (nE ((ahE sd) ++ (lm))))) 22] → G 5 #[true, false, true, false, false, false, false] ac wo := by
   intro _ _ E4 EB
   refine Zl hG ?_
   refine Qk [1, 5] (by kernel_rfl) rfl ?_
   refine ⟨?_, ?_, trivial⟩
   ·
    rintro _ rfl
    refine ZQ (d := some 38) (t := 22) (e := 5) (sz := 1) (m := 32) (lo := 0) (hi := 32) (b := Eb) (off := 0) (lov := none) (hiv := none) (o := 0) E4 (by kernel_rfl) (by kernel_rfl) (by kernel_rfl) (by omega) (by omega) (by omega) (.inl ⟨rfl, rfl⟩) (.inl ⟨rfl, rfl⟩) (by omega) ?_
    intro _ H0
    refine ⟨fun _ => EB.pk [3, 5], ?_⟩
    exact Ql hG (by kernel_rfl) (nd506 _ _ (H0.sb) (EB.pk [0, 1, 2, 3, 4, 5]))
   rintro _ rfl
   refine m_z 33 (zh (zd 4 0)) E4 EB fun _ _ H1 H2 E5 => ⟨fun _ => E5.pk [3, 5], ?_⟩
   exact Ql hG (by kernel_rfl) (nd521 _ _ H1 (H2.sb) (E5.pk [0, 1, 2, 3, 4, 5, 6]))
  have nd579 : ∀ (ac : Act) (wo : World), Env ac 64 [(1, .slice am (zb lm) cm), (4, pt Ef), (5, pt Ed), (6, pt Ee), (8, pt Eb), (9, pt Ec), (10, pt Ea), (38, .slice (some ⟨Eb, 0, none⟩) 32 32), (39, .slice am (zb lm) cm)] → Ev w [] wo [.box Ef (bys (zd 64 0)) 26, .box Ed (zh (nd DN)) 33, .box Ee (zh (nd (sE sd))) 33, .box Eb (bys (puE (sE sd))) 22, .box Ec (zh (nd (nE ((ahE sd) ++ (lm))))) 33, .box Ea (bys (puE (nE ((ahE sd) ++ (lm))))) 22] → G 5 #[false, true, true, false, false, false, false] ac wo := by
   intro _ _ E6 EC
   refine Zl hG ?_
   refine Qk [0, 5] (by kernel_rfl) rfl ?_
   refine ⟨?_, ?_, trivial⟩
   ·
    rintro _ rfl
    refine ZQ (d := some 37) (t := 22) (e := 5) (sz := 1) (m := 32) (lo := 0) (hi := 32) (b := Ea) (off := 0) (lov := none) (hiv := none) (o := 0) E6 (by kernel_rfl) (by kernel_rfl) (by kernel_rfl) (by omega) (by omega) (by omega) (.inl ⟨rfl, rfl⟩) (.inl ⟨rfl, rfl⟩) (by omega) ?_
    intro _ H3
    refine ⟨fun _ => EC.pk [3, 5], ?_⟩
    exact Ql hG (by kernel_rfl) (nd506 _ _ (H3.sb) (EC.pk [0, 1, 2, 3, 4, 5]))
   rintro _ rfl
   refine m_z 33 (zh (zd 4 0)) E6 EC fun _ _ H4 H5 E7 => ⟨fun _ => E7.pk [3, 5], ?_⟩
   exact Ql hG (by kernel_rfl) (nd544 _ _ H4 (H5.sb) (E7.pk [0, 1, 2, 3, 4, 5, 6]))
  have nd591 : ∀ (ac : Act) (wo : World) (Ew : Nat), Env ac 64 [(1, .slice am (zb lm) cm), (4, pt Ef), (5, pt Ed), (6, pt Ee), (8, pt Eb), (9, pt Ec), (10, pt Ea), (11, pt Ew), (39, .slice am (zb lm) cm)] → Ev w [] wo [.box Ef (bys (zd 64 0)) 26, .box Ed (zh (nd DN)) 33, .box Ee (zh (nd (sE sd))) 33, .box Eb (bys (puE (sE sd))) 22, .box Ec (zh (nd (nE ((ahE sd) ++ (lm))))) 33, .box Ea (bys (puE (nE ((ahE sd) ++ (lm))))) 22, .box Ew (zh (zd 4 0)) 33] → G 5 #[false, false, true, false, false, true, false] ac wo := by
   intro _ _ Ew E8 EA
   refine Zl hG ?_
   refine Qk [0, 1] (by kernel_rfl) rfl ?_
   refine ⟨?_, ?_, trivial⟩
   ·
    rintro _ rfl
    refine ZQ (d := some 37) (t := 22) (e := 5) (sz := 1) (m := 32) (lo := 0) (hi := 32) (b := Ea) (off := 0) (lov := none) (hiv := none) (o := 0) E8 (by kernel_rfl) (by kernel_rfl) (by kernel_rfl) (by omega) (by omega) (by omega) (.inl ⟨rfl, rfl⟩) (.inl ⟨rfl, rfl⟩) (by omega) ?_
    intro _ H6
    refine ⟨fun _ => EA.pk [3, 5], ?_⟩
    exact Ql hG (by kernel_rfl) (nd521 _ _ Ew (H6.sb) (EA.pk [0, 1, 2, 3, 4, 5, 6]))
   rintro _ rfl
   refine ZQ (d := some 38) (t := 22) (e := 5) (sz := 1) (m := 32) (lo := 0) (hi := 32) (b := Eb) (off := 0) (lov := none) (hiv := none) (o := 0) E8 (by kernel_rfl) (by kernel_rfl) (by kernel_rfl) (by omega) (by omega) (by omega) (.inl ⟨rfl, rfl⟩) (.inl ⟨rfl, rfl⟩) (by omega) ?_
   intro _ H7
   refine ⟨fun _ => EA.pk [3, 5], ?_⟩
   exact Ql hG (by kernel_rfl) (nd544 _ _ Ew (H7.sb) (EA.pk [0, 1, 2, 3, 4, 5, 6]))
  refine Zl hG ?_
  refine q_s [2] [] 6 Hv (Er.pk [3, 5]) fun _ ED => Qk [0, 1, 5] (by kernel_rfl) rfl ?_
  refine ⟨?_, ?_, ?_, trivial⟩
  ·
   rintro _ rfl
   refine ZQ (d := some 37) (t := 22) (e := 5) (sz := 1) (m := 32) (lo := 0) (hi := 32) (b := Ea) (off := 0) (lov := none) (hiv := none) (o := 0) ED (by kernel_rfl) (by kernel_rfl) (by kernel_rfl) (by omega) (by omega) (by omega) (.inl ⟨rfl, rfl⟩) (.inl ⟨rfl, rfl⟩) (by omega) ?_
   intro _ H8
   refine ⟨fun _ => Er.pk [3, 5], ?_⟩
   exact Ql hG (by kernel_rfl) (nd567 _ _ (H8.sb) (Er.pk [0, 1, 2, 3, 4, 5]))
  ·
   rintro _ rfl
   refine ZQ (d := some 38) (t := 22) (e := 5) (sz := 1) (m := 32) (lo := 0) (hi := 32) (b := Eb) (off := 0) (lov := none) (hiv := none) (o := 0) ED (by kernel_rfl) (by kernel_rfl) (by kernel_rfl) (by omega) (by omega) (by omega) (.inl ⟨rfl, rfl⟩) (.inl ⟨rfl, rfl⟩) (by omega) ?_
   intro _ H9
   refine ⟨fun _ => Er.pk [3, 5], ?_⟩
   exact Ql hG (by kernel_rfl) (nd579 _ _ (H9.sb) (Er.pk [0, 1, 2, 3, 4, 5]))
  rintro _ rfl
  refine m_z 33 (zh (zd 4 0)) ED Er fun _ _ aa ab E9 => ⟨fun _ => E9.pk [3, 5], ?_⟩
  exact Ql hG (by kernel_rfl) (nd591 _ _ aa (ab.sb) (E9.pk [0, 1, 2, 3, 4, 5, 6]))
 rintro _ _ ⟨Eg, ae, Ha⟩
 refine ze <| wp_seq <| r_c (fun ac wo => ∃ (Eh : Nat), Env ac 64 [(1, .slice am (zb lm) cm), (4, pt Ef), (5, pt Ed), (6, pt Ee), (8, pt Eb), (9, pt Ec), (10, pt Ea), (11, pt Eg), (12, pt Eh)] ∧ Ev w [] wo [.box Ef (bys (zd 64 0)) 26, .box Ed (zh (nd DN)) 33, .box Ee (zh (nd (sE sd))) 33, .box Eb (bys (puE (sE sd))) 22, .box Ec (zh (nd (nE ((ahE sd) ++ (lm))))) 33, .box Ea (bys (puE (nE ((ahE sd) ++ (lm))))) 22, .box Eg (zh (nd (nE ((puE (nE ((ahE sd) ++ (lm)))) ++ ((puE (sE sd)) ++ (lm)))))) 33, .box Eh (bys (lb 32 (nv (nd (Zh 4 (nv (nd (nE ((ahE sd) ++ (lm))))) (nv (nd (zr 4 (nv (nd (nE ((puE (nE ((ahE sd) ++ (lm)))) ++ ((puE (sE sd)) ++ (lm)))))) (nv (nd (sE sd))))))))))) 22]) ?_ ?_
 ·
  refine s_g1 [(1, .slice am (zb lm) cm), (4, pt Ef), (5, pt Ed), (6, pt Ee), (8, pt Eb), (9, pt Ec), (10, pt Ea), (11, pt Eg)] [0,1,2,3,4,5] [(42, .agg (zg (zh (nd (nE ((ahE sd) ++ (lm))))))), (43, .agg (zg (zh (nd (nE ((puE (nE ((ahE sd) ++ (lm)))) ++ ((puE (sE sd)) ++ (lm)))))))), (44, .agg (zg (zh (nd (sE sd))))), (45, .agg (zg (zh (nd (zr 4 (nv (nd (nE ((puE (nE ((ahE sd) ++ (lm)))) ++ ((puE (sE sd)) ++ (lm)))))) (nv (nd (sE sd)))))))), (46, .agg (zg (zh (nd (Zh 4 (nv (nd (nE ((ahE sd) ++ (lm))))) (nv (nd (zr 4 (nv (nd (nE ((puE (nE ((ahE sd) ++ (lm)))) ++ ((puE (sE sd)) ++ (lm)))))) (nv (nd (sE sd))))))))))), (47, .agg (zg (bys (lb 32 (nv (nd (Zh 4 (nv (nd (nE ((ahE sd) ++ (lm))))) (nv (nd (zr 4 (nv (nd (nE ((puE (nE ((ahE sd) ++ (lm)))) ++ ((puE (sE sd)) ++ (lm)))))) (nv (nd (sE sd)))))))))))))] 1 [(1, .slice am (zb lm) cm), (4, pt Ef), (5, pt Ed), (6, pt Ee), (8, pt Eb), (9, pt Ec), (10, pt Ea), (11, pt Eg), (47, .agg (zg (bys (lb 32 (nv (nd (Zh 4 (nv (nd (nE ((ahE sd) ++ (lm))))) (nv (nd (zr 4 (nv (nd (nE ((puE (nE ((ahE sd) ++ (lm)))) ++ ((puE (sE sd)) ++ (lm)))))) (nv (nd (sE sd)))))))))))))] 6 (bys (zd 32 0)) (ae.sb) (Ha.trans (zO Ha.heap)) ?_ fun _ _ Eh af ag => ?_
  ·
   refine s_a 4 0 4 (zh (nd (nE ((ahE sd) ++ (lm))))) rfl (zq (zf (zl _ _))) (zf (zl _ _)) ?_
   refine s_a 6 0 4 (zh (nd (nE ((puE (nE ((ahE sd) ++ (lm)))) ++ ((puE (sE sd)) ++ (lm)))))) rfl (zq (zf (zl _ _))) (zf (zl _ _)) ?_
   refine s_a 2 0 4 (zh (nd (sE sd))) rfl (zq (zf (zl _ _))) (zf (zl _ _)) ?_
   refine s_f (fun _ => hR4 _ (nd (nE ((puE (nE ((ahE sd) ++ (lm)))) ++ ((puE (sE sd)) ++ (lm))))) (nd (sE sd)) (zl _ _) (zl _ _)) ?_
   refine s_f (fun _ => radd_go _ 4 h4f hL4 (nd (nE ((ahE sd) ++ (lm)))) (nd (zr 4 (nv (nd (nE ((puE (nE ((ahE sd) ++ (lm)))) ++ ((puE (sE sd)) ++ (lm)))))) (nv (nd (sE sd))))) (zl _ _) (zl _ _)) ?_
   refine s_f (fun _ => rtole_go _ (nd (Zh 4 (nv (nd (nE ((ahE sd) ++ (lm))))) (nv (nd (zr 4 (nv (nd (nE ((puE (nE ((ahE sd) ++ (lm)))) ++ ((puE (sE sd)) ++ (lm)))))) (nv (nd (sE sd)))))))) (zl _ _)) ?_
   exact s_n
  refine q_u 7 ?_
  refine zQ 7 32 (bys (lb 32 (nv (nd (Zh 4 (nv (nd (nE ((ahE sd) ++ (lm))))) (nv (nd (zr 4 (nv (nd (nE ((puE (nE ((ahE sd) ++ (lm)))) ++ ((puE (sE sd)) ++ (lm)))))) (nv (nd (sE sd))))))))))) _ af ag rfl (zH (zY _ _)) (zH (zi)) (Zj _) rfl fun _ _ ah ai => ?_
  exact a_e ⟨Eh, ah.sb, ai.pk [0, 1, 2, 3, 4, 5, 6, 7]⟩
 rintro _ _ ⟨Eh, aj, Hb⟩
 refine ze <| wp_seq ?_
 rw [show (lb 32 (nv (nd (Zh 4 (nv (nd (nE ((ahE sd) ++ (lm))))) (nv (nd (zr 4 (nv (nd (nE ((puE (nE ((ahE sd) ++ (lm)))) ++ ((puE (sE sd)) ++ (lm)))))) (nv (nd (sE sd)))))))))) = (lb 32 (zS sd lm)) from (zS_txt sd lm)] at Hb
 refine zk <| f_o <| m_z 26 (bys (zd 64 0)) aj Hb fun _ _ Ep ak al => f_e <| ze <| wp_seq <| wp_seq <| d_r [1,4,5,6,8,9,10,11,12,13,14] [] ak fun _ an => ze <| wp_block <| loop_m (fun ao ac wo => ∃ (i : Nat) (tl : List UInt8), ao = (32 - i : Nat) ∧ Env ac 64 [(1, .slice am (zb lm) cm), (4, pt Ef), (5, pt Ed), (6, pt Ee), (8, pt Eb), (9, pt Ec), (10, pt Ea), (11, pt Eg), (12, pt Eh), (13, pt Ep), (14, ni i)] ∧ Ev w [] wo [.box Ep (bys tl) 26, .box Ef (bys (zd 64 0)) 26, .box Ed (zh (nd DN)) 33, .box Ee (zh (nd (sE sd))) 33, .box Eb (bys (puE (sE sd))) 22, .box Ec (zh (nd (nE ((ahE sd) ++ (lm))))) 33, .box Ea (bys (puE (nE ((ahE sd) ++ (lm))))) 22, .box Eg (zh (nd (nE ((puE (nE ((ahE sd) ++ (lm)))) ++ ((puE (sE sd)) ++ (lm)))))) 33, .box Eh (bys (lb 32 (zS sd lm))) 22] ∧ (i ≤ 32) ∧ (zb tl = 64) ∧ (tl = twF (puE (nE (ahE sd ++ lm))) (lb 32 (zS sd lm)) i)) ⟨_, 0, zd 64 0, rfl, an.sb, al.pk [8, 0, 1, 2, 3, 4, 5, 6, 7], by omega, (zi), rfl⟩ ?_
 rintro a2 _ _ ⟨i, tl, rfl, ap, Es, hitl, hltl, hetl⟩
 refine wp_seq <| wp_seq <| d_r [1,4,5,6,8,9,10,11,12,13,14,49] [] ap fun _ EE => ?_
 refine ze <| c_d (((i : Nat) : Int) < (32 : Int)) EE (fun aq => ?_) (fun aq => ?_)
 ·
  refine wp_skip <| ze <| wp_seq <| wp_block <| wp_seq <| zk <| d_k [1,4,5,6,8,9,10,11,12,13,14,52,53] [] 2 EE fun _ ar => f_o <| q_v (x := Instr.indexAt 22 (pt Ea) (ni i)) (v := .pointer (some ⟨Ea, i, none⟩)) ar (Go.Dbr.run_indexarr (e := 5) (sz := 1) (m := 32) (j := i) (o := i) (by kernel_rfl) (by kernel_rfl) (by omega) (by omega) (by omega) _) fun _ au => f_o ?_
  have av : i < zb (puE (nE ((ahE sd) ++ (lm)))) := by rw [(zD _)]; omega
  refine m_v 6 i (bv (za (puE (nE ((ahE sd) ++ (lm)))) i 0)) au Es rfl (Z9 av) fun _ aw => f_o <| q_v (x := Instr.indexAt 26 (pt Ep) (ni i)) (v := .pointer (some ⟨Ep, i, none⟩)) aw (Go.Dbr.run_indexarr (e := 5) (sz := 1) (m := 64) (j := i) (o := i) (by kernel_rfl) (by kernel_rfl) (by omega) (by omega) (by omega) _) fun _ ax => f_o ?_
  have ay : i < zb tl := by rw [hltl]; omega
  refine m_t 0 i (bv (za (puE (nE ((ahE sd) ++ (lm)))) i 0)) [.box Ep (bys (zp tl i (za (puE (nE ((ahE sd) ++ (lm)))) i 0))) 26, .box Ef (bys (zd 64 0)) 26, .box Ed (zh (nd DN)) 33, .box Ee (zh (nd (sE sd))) 33, .box Eb (bys (puE (sE sd))) 22, .box Ec (zh (nd (nE ((ahE sd) ++ (lm))))) 33, .box Ea (bys (puE (nE ((ahE sd) ++ (lm))))) 22, .box Eg (zh (nd (nE ((puE (nE ((ahE sd) ++ (lm)))) ++ ((puE (sE sd)) ++ (lm)))))) 33, .box Eh (bys (lb 32 (zS sd lm))) 22] ax Es rfl (Z9 ay) (Y3 _ _ _) rfl fun _ _ az Hc => f_e <| ze <| zk <| d_k [1,4,5,6,8,9,10,11,12,13,14,58,59] [(1, g_n (w_a 32 i))] 3 az fun _ aA => f_o <| q_v (x := Instr.indexAt 22 (pt Eh) (ni i)) (v := .pointer (some ⟨Eh, i, none⟩)) aA (Go.Dbr.run_indexarr (e := 5) (sz := 1) (m := 32) (j := i) (o := i) (by kernel_rfl) (by kernel_rfl) (by omega) (by omega) (by omega) _) fun _ aB => f_o ?_
  have aC : i < zb (lb 32 (zS sd lm)) := by rw [(zY _ _)]; omega
  refine m_v 8 i (bv (za (lb 32 (zS sd lm)) i 0)) aB Hc rfl (Z9 aC) fun _ aD => f_o <| q_v (x := Instr.indexAt 26 (pt Ep) (ni (32 + i))) (v := .pointer (some ⟨Ep, 32 + i, none⟩)) aD (Go.Dbr.run_indexarr (e := 5) (sz := 1) (m := 64) (j := 32 + i) (o := 32 + i) (by kernel_rfl) (by kernel_rfl) (by omega) (by omega) (by omega) _) fun _ aE => f_o ?_
  have aF : 32 + i < zb (zp tl i (za (puE (nE ((ahE sd) ++ (lm)))) i 0)) := by rw [(List.length_set.trans hltl)]; omega
  refine m_t 0 (32 + i) (bv (za (lb 32 (zS sd lm)) i 0)) _ aE Hc rfl (Z9 aF) (Y3 _ _ _) rfl fun _ _ aG aH => f_e <| zv <| ze <| d_r [1,4,5,6,8,9,10,11,12,13,14] [(1, g_n (w_a i 1))] aG fun _ aI => ze <| ⟨_, ⟨i + 1, (zp (zp tl i (za (puE (nE ((ahE sd) ++ (lm)))) i 0)) (32 + i) (za (lb 32 (zS sd lm)) i 0)), rfl, aI.sb, aH.pk [0, 1, 2, 3, 4, 5, 6, 7, 8], by omega, (List.length_set.trans (List.length_set.trans hltl)), by first | (rw [hetl]; rfl) | (rw [hetl, a3]; rfl) | rfl⟩, ?_⟩
  omega
 refine wp_exit <| zy <| zy <| zL <| ze <| wp_seq ?_
 have hntl : i = 32 := by omega
 have hftl : tl = twF (puE (nE (ahE sd ++ lm))) (lb 32 (zS sd lm)) 32 := by rw [hetl, hntl] <;> rfl
 rw [show tl = (twF (puE (nE (ahE sd ++ lm))) (lb 32 (zS sd lm)) 32) from hftl] at Es
 rw [show (twF (puE (nE (ahE sd ++ lm))) (lb 32 (zS sd lm)) 32) = (siE sd lm) from (tw_all (zD _) (zY _ _))] at Es
 refine zk <| f_o <| m_aw 0 64 (bys (siE sd lm)) EE Es rfl (zH (Xy _ _)) fun _ aJ => f_o <| zQ 1 64 (bys (siE sd lm)) [.box Ep (bys (siE sd lm)) 26, .box Ef (bys (siE sd lm)) 26, .box Ed (zh (nd DN)) 33, .box Ee (zh (nd (sE sd))) 33, .box Eb (bys (puE (sE sd))) 22, .box Ec (zh (nd (nE ((ahE sd) ++ (lm))))) 33, .box Ea (bys (puE (nE ((ahE sd) ++ (lm))))) 22, .box Eg (zh (nd (nE ((puE (nE ((ahE sd) ++ (lm)))) ++ ((puE (sE sd)) ++ (lm)))))) 33, .box Eh (bys (lb 32 (zS sd lm))) 22] aJ Es rfl (zH (Xy _ _)) (zH (zi)) (Zj _) rfl fun _ _ aK Hd => f_e <| ze <| wp_ret <| d_cell1 (v := .agg (zg (bys (siE sd lm)))) (t := 4) (T := 26) (ad := ⟨Ef, 0, none⟩) aK (by kernel_rfl) (by kernel_rfl) (zB (t := 26) (k := 1) (off := 0) (m := 64) (xs := bys (siE sd lm)) Hd rfl (zq (zH (Xy _ _))) (zH (Xy _ _)) (by kernel_rfl) (by kernel_rfl)) ?_
 exact ⟨rfl, Hd.pk []⟩
end Go.Proofs.YtlnogkmnklfjlaaGreatDoor

namespace Go.Proofs.YtlnogkmnklfjlaaGreatDoor
open Go.Dbr
set_option maxRecDepth 100000
set_option maxHeartbeats 2000000
set_option linter.unusedVariables false
set_option linter.unusedSimpArgs false
end Go.Proofs.YtlnogkmnklfjlaaGreatDoor

namespace Go.Proofs.YtlnogkmnklfjlaaGreatDoor
open Go.Dbr
set_option maxRecDepth 100000
set_option maxHeartbeats 2000000
set_option linter.unusedVariables false
set_option linter.unusedSimpArgs false
def seedH : List UInt8 := [157, 97, 177, 157, 239, 253, 90, 96, 186, 132, 74, 244, 146, 236, 44, 196, 68, 73, 197, 105, 123, 50, 105, 25, 112, 59, 172, 3, 28, 174, 127, 96]
def pubH : List UInt8 := [215, 90, 152, 1, 130, 177, 10, 183, 213, 75, 254, 211, 201, 100, 7, 58, 14, 225, 114, 243, 218, 166, 35, 37, 175, 2, 26, 104, 247, 7, 81, 26]
theorem sE_head : sE seedH = 36144925721603087658594284515452164870581325872720374094707712194495455132720 := by decide +kernel
theorem puN {n f : Nat} (h : n < 2 ^ f) : outN (zr 1 (mulG f n (BX, BY_, 1, zr 1 BX BY_)).1 (ivE (mulG f n (BX, BY_, 1, zr 1 BX BY_)).2.2.1)) (zr 1 (mulG f n (BX, BY_, 1, zr 1 BX BY_)).2.1 (ivE (mulG f n (BX, BY_, 1, zr 1 BX BY_)).2.2.1)) = puE n := by
  have r := repN_mul f n _ gB h repB
  rw [puE, outE, aff_x r.1 r.2.1, aff_x r.1 r.2.2.1]
theorem pu_head : puE (sE seedH) = pubH := by
  rw [sE_head, ← puN (n := 36144925721603087658594284515452164870581325872720374094707712194495455132720) (f := 255) (by decide), ivE_pw]
  decide +kernel
theorem public_head (w : World) (gk32 : InU32 w [] (some ⟨0, 0, none⟩) 64 Sh.K32) (gk64 : InU64 w [] (some ⟨1, 0, none⟩) 80 Sh.K64) : Calls Tryz.prog 6 #[.agg #[.int .u8 157, .int .u8 97, .int .u8 177, .int .u8 157, .int .u8 239, .int .u8 253, .int .u8 90, .int .u8 96, .int .u8 186, .int .u8 132, .int .u8 74, .int .u8 244, .int .u8 146, .int .u8 236, .int .u8 44, .int .u8 196, .int .u8 68, .int .u8 73, .int .u8 197, .int .u8 105, .int .u8 123, .int .u8 50, .int .u8 105, .int .u8 25, .int .u8 112, .int .u8 59, .int .u8 172, .int .u8 3, .int .u8 28, .int .u8 174, .int .u8 127, .int .u8 96]] w fun e w' => e = .returned (.agg (zg (bys pubH))) ∧ Ev w [] w' [] := by
  have h := public_go w seedH rfl gk32 gk64
  rw [pu_head] at h
  exact h
theorem head_ok (w : World) (gk32 : InU32 w [] (some ⟨0, 0, none⟩) 64 Sh.K32) (gk64 : InU64 w [] (some ⟨1, 0, none⟩) 80 Sh.K64) : Calls Tryz.prog 5 #[] w fun e w' => e = .returned (.bool true) ∧ Ev w [] w' [] := by
 have hpH : zb pubH = 32 := rfl
 refine d_0 [] 24 Go.Proofs.Tryz.func5 Go.Proofs.Tryz.ntmps5 (Heap.nil _) fun Ey Ez EA => d_s [0] [] Ez fun _ EB => wp_seq <| zk <| d_k [0,3] [] 1 EB fun _ EC => f_o <| m_z 22 (bys (zd 32 0)) EC EA fun _ _ ED EE EF => ?_
 refine f_o <| zQ 0 32 (bys ([157, 97, 177, 157, 239, 253, 90, 96, 186, 132, 74, 244, 146, 236, 44, 196, 68, 73, 197, 105, 123, 50, 105, 25, 112, 59, 172, 3, 28, 174, 127, 96] : List UInt8)) _ EE EF rfl (zH (show zb ([157, 97, 177, 157, 239, 253, 90, 96, 186, 132, 74, 244, 146, 236, 44, 196, 68, 73, 197, 105, 123, 50, 105, 25, 112, 59, 172, 3, 28, 174, 127, 96] : List UInt8) = 32 from rfl)) (zH (zi)) (Zj _) rfl fun _ _ Ec Eb => f_e <| ze <| wp_seq <| zk <| f_o <| m_aw 0 32 (bys ([157, 97, 177, 157, 239, 253, 90, 96, 186, 132, 74, 244, 146, 236, 44, 196, 68, 73, 197, 105, 123, 50, 105, 25, 112, 59, 172, 3, 28, 174, 127, 96] : List UInt8)) Ec Eb rfl (zH (show zb ([157, 97, 177, 157, 239, 253, 90, 96, 186, 132, 74, 244, 146, 236, 44, 196, 68, 73, 197, 105, 123, 50, 105, 25, 112, 59, 172, 3, 28, 174, 127, 96] : List UInt8) = 32 from rfl)) fun _ Ed => f_o <| c_p Ed Eb (public_head _ ((gk32.ev Eb).pick [] (by kernel_rfl)) ((gk64.ev Eb).pick [] (by kernel_rfl))) fun _ _ Ee Ef => f_o <| m_z 22 (bys (zd 32 0)) Ee Ef fun _ _ Eg Eh Ei => ?_
 refine f_o <| zQ 1 32 (bys pubH) [.box ED (bys ([157, 97, 177, 157, 239, 253, 90, 96, 186, 132, 74, 244, 146, 236, 44, 196, 68, 73, 197, 105, 123, 50, 105, 25, 112, 59, 172, 3, 28, 174, 127, 96] : List UInt8)) 22, .box Eg (bys pubH) 22] Eh Ei rfl (zH hpH) (zH (zi)) (Zj _) rfl fun _ _ Ej Ea => f_e <| ze <| wp_seq <| zk <| d_k [0,1,2,6] [] 1 Ej fun _ Ek => f_o ?_
 have El : 0 < zb pubH := by rw [hpH]; omega
 refine m_v 1 0 (bv (za pubH 0 0)) Ek Ea rfl (Z9 El) fun _ Em => d_k [0,1,2,9,10] [(2, g_b (show (((ZJ (za pubH 0 0) : Nat) : Int) == (215 : Int)) = true from (by decide)))] 5 Em fun _ En => f_o ?_
 have Eo : 1 < zb pubH := by rw [hpH]; omega
 refine m_v 1 1 (bv (za pubH 1 0)) En Ea rfl (Z9 Eo) fun _ Ep => d_k [0,1,2,14,15] [(6, g_b (show (((ZJ (za pubH 1 0) : Nat) : Int) == (90 : Int)) = true from (by decide)))] 10 Ep fun _ Eq => f_o ?_
 have Er : 30 < zb pubH := by rw [hpH]; omega
 refine m_v 1 30 (bv (za pubH 30 0)) Eq Ea rfl (Z9 Er) fun _ Es => d_k [0,1,2,19,20] [(11, g_b (show (((ZJ (za pubH 30 0) : Nat) : Int) == (81 : Int)) = true from (by decide)))] 15 Es fun _ Et => f_o ?_
 have Eu : 31 < zb pubH := by rw [hpH]; omega
 refine m_v 1 31 (bv (za pubH 31 0)) Et Ea rfl (Z9 Eu) fun _ Ew => d_e [0,1,2] [(16, g_b (show (((ZJ (za pubH 31 0) : Nat) : Int) == (26 : Int)) = true from (by decide)))] Ew fun _ Ex => ze <| wp_ret <| d_ret1 (t := 0) (v := .bool true) Ex (by kernel_rfl) (by kernel_rfl) ?_
 exact ⟨rfl, Ea.pk []⟩
end Go.Proofs.YtlnogkmnklfjlaaGreatDoor

namespace Go.Proofs.YtlnogkmnklfjlaaGreatDoor
open Go.Dbr
set_option maxRecDepth 100000
set_option maxHeartbeats 2000000
set_option linter.unusedVariables false
set_option linter.unusedSimpArgs false
theorem signs_walk (sd : List UInt8) (a_m : Option Addr) (c_m : Nat) (m : List UInt8) (w : World) (n_sd : (zb sd = 32)) (i_m : InB w [] a_m c_m m) (s_m : zb m ≤ 140737488351232) (gk32 : InU32 w [] (some ⟨0, 0, none⟩) 64 Sh.K32) (gk64 : InU64 w [] (some ⟨1, 0, none⟩) 80 Sh.K64) : Calls Tryz.prog 3 #[.agg (zg (bys sd)), .slice a_m (zb m) c_m] w fun e w' => e = .returned (.bool true) ∧ Ev w [] w' [] := by
 have hs := i_m.small
 have EW := i_m.cap
 refine d_0 [(0, .agg (zg (bys sd))), (1, .slice a_m (zb m) c_m)] 35 Go.Proofs.Tryz.func3 Go.Proofs.Tryz.ntmps3 (Heap.nil _) fun EQ ER ES => wp_seq <| zk <| f_o <| m_m 22 (bys sd) ER ES fun _ _ Ei ET EI => d_e [1,2,4] [] ET fun _ EU => ze <| wp_seq <| zk <| f_o <| c_p EU EI (head_ok _ ((gk32.ev EI).pick [] (by kernel_rfl)) ((gk64.ev EI).pick [] (by kernel_rfl))) fun _ _ EJ EK => ?_
 refine d_e [1,2,4,5] [] EJ fun _ EL => ze <| wp_seq <| zk <| f_o <| ZO (d := some 8) (t := 23) (T := 5) (m := 0) (parts := #[]) (xs := bys []) (sz := 1) EL (by kernel_rfl) (by kernel_rfl) rfl (by decide) EK ?_
 intro _ _ EV EM Ej
 refine d_k [1,2,4,5,8,9] [] 2 EM fun _ EN => f_o ?_
 have EP := i_m.small
 refine op_append (d := some 10) (t := 23) (tx := 23) (ty := 23) (k := 1) (p := 0) (m := zb m) (x := .slice a_m (zb m) c_m) (bytes := 1) EN (by kernel_rfl) Ej rfl rfl (Zg (size := 1) (tx := 23) (e' := 5) (by kernel_rfl) (i_m.ev Ej).reads (ZD _) i_m.nz (Zj _)) (by kernel_rfl) (z := .int .u8 0) (by kernel_rfl) rfl (by decide) (by omega) (by unfold maxLen; omega) ?_
 intro _ _ Ef Eg Ek Eh hnz _
 clear hnz
 rw [bys_nil_append] at Eh
 have El : 0 + (zb m) = zb m := (by first | (simp; done) | (simp; omega) | omega)
 rw [El] at Ek
 refine d_e [1,2,4,5,6] [] Ek fun _ EO => ?_
 refine ze <| wp_seq <| r_c (fun ac wo => Env ac 35 [(1, .slice a_m (zb m) c_m), (4, .bool true)] ∧ Ev w [] wo []) ?_ ?_
 ·
  refine h_s (fun wv => Ev w [] wv [.box Ei (bys sd) 22, .vec Ef Eg 1 (bys m) 5]) [] 25 ?_
  have Ec := Eh.trans (zO Eh.heap)
  refine q_s [0,1] [] 23 EO (Ec.pk [0, 1]) fun _ Em => q_r 2 (s := Instr.loadAt 22 (pt Ei)) (v := .agg (zg (bys sd))) Em (fun w hS => zM (m := 32) (cs := bys sd) (zH n_sd) (by kernel_rfl) (by kernel_rfl) (hS.heap.cells (k := 0) (off := 0) (m := 32) rfl (zq (zH n_sd)))) (Ec.pk [0, 1]) fun _ En => q_r 4 (s := Instr.loadAt 22 (pt Ei)) (v := .agg (zg (bys sd))) En (fun w hS => zM (m := 32) (cs := bys sd) (zH n_sd) (by kernel_rfl) (by kernel_rfl) (hS.heap.cells (k := 0) (off := 0) (m := 32) rfl (zq (zH n_sd)))) (Ec.pk [0, 1]) fun _ Eo => q_t 3 ?_
  refine c_p Eo Ec (public_go _ sd n_sd ((gk32.ev Ec).pick [] (by kernel_rfl)) ((gk64.ev Ec).pick [] (by kernel_rfl))) fun _ _ Ep Ee => ⟨fun _ => Ee.pk [0, 1], ?_⟩
  refine q_t 5 ?_
  refine c_p Ep Ee (dpublic_go _ sd n_sd) fun _ _ Eq Ea => ⟨fun _ => Ea.pk [0, 1], ?_⟩
  refine q_f 6 (s := eqOp .eql 22 (.tmp 14) (.tmp 16) (.agg (zg (bys (puE (sE sd))))) (.agg (zg (bys (puE (sE sd)))))) (v := .bool true) Eq (fun _ => Go.Dbr.run_is (fun w => Go.Dbr.bys_eqop (a := (.tmp 14)) (b := (.tmp 16)) (e := 5) (m := 32) (by kernel_rfl) (by kernel_rfl) (by kernel_rfl) (by kernel_rfl) (by kernel_rfl) (zD _) (zD _) w) (beq_self_eq_true _) _) (fun _ => Ea.pk [0, 1]) fun _ Er => q_s [7,8] [] 16 Er (Ea.pk [0, 1]) fun _ Es => q_r 9 (s := Instr.loadAt 22 (pt Ei)) (v := .agg (zg (bys sd))) Es (fun w hS => zM (m := 32) (cs := bys sd) (zH n_sd) (by kernel_rfl) (by kernel_rfl) (hS.heap.cells (k := 0) (off := 0) (m := 32) rfl (zq (zH n_sd)))) (Ea.pk [0, 1]) fun _ Et => q_s [10] [] 14 Et (Ea.pk [0, 1]) fun _ Eu => ?_
  refine q_r 12 (s := Instr.loadAt 22 (pt Ei)) (v := .agg (zg (bys sd))) Eu (fun w hS => zM (m := 32) (cs := bys sd) (zH n_sd) (by kernel_rfl) (by kernel_rfl) (hS.heap.cells (k := 0) (off := 0) (m := 32) rfl (zq (zH n_sd)))) (Ea.pk [0, 1]) fun _ Ew => q_s [13] [] 12 Ew (Ea.pk [0, 1]) fun _ Ex => q_t 11 ?_
  refine c_p Ex Ea (sign_go _ sd n_sd Ef (zb m) Eg m (by first | rfl | (simp; done) | (simp; omega) | omega) (X0 Ea.heap (k := 1) rfl [] (by kernel_rfl) rfl (by first | omega | (simp; done) | (simp; omega))) ((gk32.ev Ea).pick [] (by kernel_rfl)) ((gk64.ev Ea).pick [] (by kernel_rfl))) fun _ _ Ey Ed => ⟨fun _ => Ed.pk [0, 1], ?_⟩
  refine q_t 14 ?_
  refine c_p Ey Ed (dsign_go _ sd n_sd a_m (zb m) c_m m (by first | rfl | (simp; done) | (simp; omega) | omega) ((i_m.ev Ed).pick [] (by kernel_rfl)) s_m) fun _ _ Ez Eb => ⟨fun _ => Eb.pk [0, 1], ?_⟩
  refine q_f 15 (s := eqOp .eql 26 (.tmp 22) (.tmp 25) (.agg (zg (bys (siE sd m)))) (.agg (zg (bys (siE sd m))))) (v := .bool true) Ez (fun _ => Go.Dbr.run_is (fun w => Go.Dbr.bys_eqop (a := (.tmp 22)) (b := (.tmp 25)) (e := 5) (m := 64) (by kernel_rfl) (by kernel_rfl) (by kernel_rfl) (by kernel_rfl) (by kernel_rfl) (Xy _ _) (Xy _ _) w) (beq_self_eq_true _) _) (fun _ => Eb.pk [0, 1]) fun _ EA => q_s [16,17,18] [] 6 EA (Eb.pk [0, 1]) fun _ EB => q_r 19 (s := convert 23 9 (.slice Ef (zb m) Eg)) (v := .string (bstr m)) EB (fun w hS => run_str2 (e := 5) (bs := m) rfl (by kernel_rfl) (by kernel_rfl) (by kernel_rfl) (hS.heap.reads (k := 1) rfl) (bys_vnz hS.heap (k := 1) rfl)) (Eb.pk [0, 1]) fun _ EC => q_s [20] [] 4 EC (Eb.pk [0, 1]) fun _ ED => ?_
  refine q_r 21 (s := convert 23 9 (.slice a_m (zb m) c_m)) (v := .string (bstr m)) ED (fun w hS => run_str2 (e := 5) (bs := m) rfl (by kernel_rfl) (by kernel_rfl) (by kernel_rfl) (i_m.ev hS).reads i_m.nz) (Eb.pk [0, 1]) fun _ EE => q_s [22,23,24] [(22, g_v (show (.bool (ByteArray.toList (bstr m) == ByteArray.toList (bstr m)) : Value) = .bool true by rw [Go.Dbr.bstr_eq m m, show (m == m) = true from (beq_self_eq_true _)] <;> rfl))] 0 EE (Eb.pk [0, 1]) fun _ EF => ?_
  exact h_e ⟨EF.sb, Eb.pk []⟩
 rintro _ _ ⟨EG, EH⟩
 refine ze <| wp_ret <| d_ret1 (t := 4) (v := .bool true) EG (by kernel_rfl) (by kernel_rfl) ?_
 exact ⟨rfl, EH.pk []⟩
end Go.Proofs.YtlnogkmnklfjlaaGreatDoor

namespace Go.Proofs.YtlnogkmnklfjlaaGreatDoor
open Go Go.Dbr
set_option maxRecDepth 100000
theorem g32 : Tryz.prog.globalNamed "drawbridge/sha.k32" = some 0 := by kernel_rfl
theorem g64 : Tryz.prog.globalNamed "drawbridge/sha.k64" = some 1 := by kernel_rfl
theorem ty32 : (Tryz.prog.globals[0]?).map (·.type) = some 121 := by kernel_rfl
theorem ty64 : (Tryz.prog.globals[1]?).map (·.type) = some 129 := by kernel_rfl
def zs32 : List Int := Sh.K32.map fun x => ((UInt32.toNat x : Nat) : Int)
def zs64 : List Int := Sh.K64.map fun x => ((UInt64.toNat x : Nat) : Int)
theorem tab32 {W : World} (h : laidMetH Tryz.prog Rows.edsigSignsRow.laid W) : Lib.TabIs Tryz.prog W "drawbridge/sha.k32" .u32 zs32 :=
  Lib.tabIs_of_head (rest := [("drawbridge/sha.k64", Rows.laid_drawbridge_sha_k64)]) (n := 64) (e := 112) g32 ty32 (by kernel_rfl) (by kernel_rfl) (by kernel_rfl) (by kernel_rfl) h
theorem tab64 {W : World} (h : laidMetH Tryz.prog Rows.edsigSignsRow.laid W) : Lib.TabIs Tryz.prog W "drawbridge/sha.k64" .u64 zs64 :=
  Lib.tabIs_of_head (rest := []) (n := 80) (e := 31) g64 ty64 (by kernel_rfl) (by kernel_rfl) (by kernel_rfl) (by kernel_rfl) (laidMet.tail (x := ("drawbridge/sha.k32", Rows.laid_drawbridge_sha_k32)) h)
theorem in32_laid {W : World} (h : laidMetH Tryz.prog Rows.edsigSignsRow.laid W) : InU32 W [] (some ⟨0, 0, none⟩) 64 Sh.K32 := by
  refine ⟨⟨fun j u hj => ?_, fun _ _ _ => Owns.nil⟩, fun e => (by cases e), (by decide), (by decide)⟩
  have hl : j < zs32.length := by
    have := (Zm.1 hj).1
    rw [u32s_length] at this
    exact this
  have hc := (tab32 h).cell g32 j hl
  rw [add_off, Qp, hc, ← hj]
  have hk : j < Sh.K32.length := by simpa [zs32] using hl
  rw [u32s_getD hk]
  simp [zs32, zN hk]
  first | done | rfl
theorem in64_laid {W : World} (h : laidMetH Tryz.prog Rows.edsigSignsRow.laid W) : InU64 W [] (some ⟨1, 0, none⟩) 80 Sh.K64 := by
  refine ⟨⟨fun j u hj => ?_, fun _ _ _ => Owns.nil⟩, fun e => (by cases e), (by decide), (by decide)⟩
  have hl : j < zs64.length := by
    have := (Zm.1 hj).1
    rw [u64s_length] at this
    exact this
  have hc := (tab64 h).cell g64 j hl
  rw [add_off, Qp, hc, ← hj]
  have hk : j < Sh.K64.length := by simpa [zs64] using hl
  rw [u64s_getD hk]
  simp [zs64, zN hk]
  first | done | rfl
end Go.Proofs.YtlnogkmnklfjlaaGreatDoor
