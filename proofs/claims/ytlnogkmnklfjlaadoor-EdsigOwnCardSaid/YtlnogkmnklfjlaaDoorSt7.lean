import Derived.Test.YtlnogkmnklfjlaaDoorSt6
import Derived.Test.YtlnogkmnklfjlaaDoorSt5
import Derived.Laws.StructEq
import Derived.Laws.Tables
open List renaming length → za, getD → zb, replicate → ze, length_replicate → zf, toArray → zi, drop_append → zw, take_append → zx, set → zy, getElem?_append_left → zP, getElem?_eq_getElem → zT, length_append → zU, getElem?_append_right → zW, not_mem_nil → z3, all_eq_true → z8, getD_eq_getElem?_getD → Zf, contains_iff_mem → Zg, take_of_length_le → Zk, append_nil → Zw, map_append → ZE, length_set → ZI, mem_cons_of_mem → Ql, mem_cons → Qo, drop_drop → Qw, drop_left' → QA, mem_cons_self → QE, map_cons → QF, range → QS, take_append_drop → QV, mem_append → QY, take_left' → Yr, mem_map → YJ, nodup_cons → Jp, nodup_append → JH, map_map → JU, drop_of_length_le → JY, length_singleton → J4, mem_append_right → J5, nodup_nil → Xb, mem_map_of_mem → Xk, countP_cons → XB, map_nil → XU
open Go.Dbr renaming u64s_lenh → zc, then_normal → zg, u64s → zh, region_from → zm, load_whole → zq, store_whole → zs, u64s_one → zv, len_app → zD, lu_57896044618658097711785492504343953926634992332820282019728792003956564819949 → Zb, d_cell1 → Zj, look → Qy, one_app → QH, opTy → YP, look_self → YW, nodupO_spec → YY, nodupO → JW, zeroV → XO
open Go.Proofs.YtlnogkmnklfjlaaDoor renaming nds_len → zl, mulM → zt, subM → Zd, addM → ZA, nv_nd → Qd, rootN → YG
open UInt8 renaming ofNat → zF
open Nat renaming mod_eq_of_lt → zK, mul_comm → z5, pow_succ → Zl, mod_lt → ZB, le_refl → ZK, div_div_eq_div_mul → ZT, lt_trans → Z4, lt_or_ge → Z9, pow_zero → Qf, zero_mod → QI, beq → QK, eq_of_beq_eq_true → QU, div_add_mod → Yo, testBit → YF, sub_self → Js, testBit_or → JA, beq_eq → JX, div_one → Xd
open Go.Dbr.Ev renaming cellAgg → zM, drew → z4
open Bool renaming and_eq_true → zX, true_and → Qp, cond_false → Ys, cond_true → YH, or_eq_true → YS
open Array renaming getElem?_setIfInBounds_ne → Za, getElem?_eq_some_iff → Zt, getElem?_toList → ZL, all_eq_true_iff_forall_mem → Q5, ext → XW
/- Layer 12: numbers and points of the curve. -/


namespace Go.Proofs.YtlnogkmnklfjlaaDoor
open Go.Dbr
set_option maxRecDepth 100000
set_option maxHeartbeats 2000000
set_option linter.unusedVariables false
set_option linter.unusedSimpArgs false

abbrev PE : Nat := 57896044618658097711785492504343953926634992332820282019728792003956564819949
theorem mF1 : mF 1 = PE := rfl
theorem PE_pos : 0 < PE := by decide
theorem PE_lt : PE < W256 := by decide
instance nzE : NeZero PE := ⟨by decide⟩
theorem fldE : Go.Wei.Fld PE := Go.Wei.fld_of Zb (by decide)
abbrev fE (x : Nat) : Fin PE := Go.Wei.fn PE x
def DN : Nat := 37095705934669439343138083508754565189542113879843219016388785533085940283555
def D2N : Nat := 16295367250680780974490674513165176452449235426866156013048779062215315747161
def IN : Nat := 19681161376707505956807079304988542015446066515923890162744021073123829784752
theorem iE : fE IN * fE IN = -1 := by decide +kernel
theorem d2E : fE D2N = fE DN + fE DN := by decide +kernel
theorem one_neE : (1 : Fin PE) ≠ 0 := by decide +kernel
theorem nsq_abs {w p m e d : Nat} (f : w ^ e % p = 1) (he : 2 * m = e) (hd : w * w % p = d) (hm : m < 2 ^ 256) (g : pw p 256 d m ≠ 1) : False := by
  refine g ?_
  rw [pw_eq 256 d m hm, ← hd, ← Nat.pow_mod, ← Nat.pow_two, ← Nat.pow_mul, he, f]
/-- d is no square -/
theorem nsqE (x : Fin PE) : x * x ≠ fE DN := fun h => by
  have e := congrArg Fin.val h
  rw [Go.Wei.fin_mul, show (fE DN).val = DN from by decide +kernel] at e
  generalize x.val = w at e
  have h0 : w % PE ≠ 0 := fun g => by
    rw [Nat.mul_mod, g, Nat.zero_mul, QI] at e
    exact absurd e (by decide)
  have f := Zb.2 w h0
  exact nsq_abs (f := f) (m := (PE - 1) / 2) (by decide +kernel) e (by decide +kernel) (by decide +kernel)
/-- the curve -/
def cvE : Go.Ed.Ec PE := ⟨fE DN, fE IN, fldE, iE, nsqE, one_neE⟩
abbrev GE := cvE.G
theorem e_mul (x y : Nat) : fE (zt 1 x y) = fE x * fE y := by rw [zt, mF1]; exact Go.Wei.fn_mul x y
theorem e_add (x y : Nat) : fE (ZA 1 x y) = fE x + fE y := by rw [ZA, mF1]; exact Go.Wei.fn_add x y
theorem e_sub (x y : Nat) : fE (Zd 1 x y) = fE x - fE y := by rw [Zd, mF1]; exact Go.Wei.fn_sub x y
theorem el_mul (x y : Nat) : zt 1 x y < PE := ZB _ PE_pos
theorem el_sub (x y : Nat) : Zd 1 x y < PE := ZB _ PE_pos
theorem e_inj {x y : Nat} (hx : x < PE) (hy : y < PE) (h : fE x = fE y) : x = y := Go.Wei.fn_inj hx hy h
theorem e_of (x : Fin PE) : fE x.val = x := Go.Wei.fn_of x
theorem e_one : fE 1 = 1 := Go.Wei.fn_one
theorem e_zero : fE 0 = 0 := Go.Wei.fn_zero
/-- the inverse -/
def ivE (z : Nat) : Nat := powM 1 z (mF 1 - 2)
theorem e_iv {c : Nat} (h : fE c ≠ 0) : fE c * fE (ivE c) = 1 := by
  have hv : c % mF 1 ≠ 0 := fun g => h (Fin.ext (g.trans Go.Wei.fin_zero.symm))
  have e : zt 1 c (ivE c) = 1 := inv_yes (.inl rfl) hv
  rw [← e_mul, e]
  exact e_one
/-! the program's sum -/
def oA (x1 y1 x2 y2 : Nat) : Nat := zt 1 (Zd 1 y1 x1) (Zd 1 y2 x2)
def oB (x1 y1 x2 y2 : Nat) : Nat := zt 1 (ZA 1 y1 x1) (ZA 1 y2 x2)
def oC (t1 t2 : Nat) : Nat := zt 1 (zt 1 t1 t2) D2N
def oD (z1 z2 : Nat) : Nat := ZA 1 (zt 1 z1 z2) (zt 1 z1 z2)
def oE (x1 y1 x2 y2 : Nat) : Nat := Zd 1 (oB x1 y1 x2 y2) (oA x1 y1 x2 y2)
def oF (z1 t1 z2 t2 : Nat) : Nat := Zd 1 (oD z1 z2) (oC t1 t2)
def oG (z1 t1 z2 t2 : Nat) : Nat := ZA 1 (oD z1 z2) (oC t1 t2)
def oH (x1 y1 x2 y2 : Nat) : Nat := ZA 1 (oB x1 y1 x2 y2) (oA x1 y1 x2 y2)
abbrev L4 := List UInt64
def l4 (a b c d : Nat) : L4 := nd a ++ (nd b ++ (nd c ++ nd d))
theorem ndl (a : Nat) : (nd a).length = 4 := zl 4 a
theorem l4_len (a b c d : Nat) : (l4 a b c d).length = 16 := by simp only [l4, zU, nd, zl]
abbrev k1 (p : L4) : Nat := nv (p.take 4)
abbrev k2 (p : L4) : Nat := nv ((p.drop 4).take 4)
abbrev k3 (p : L4) : Nat := nv ((p.drop 8).take 4)
abbrev k4 (p : L4) : Nat := nv (p.drop 12)
theorem l4_1 (a b c d : Nat) : (l4 a b c d).take 4 = nd a := by rw [l4, Yr (ndl a)]
theorem l4_2 (a b c d : Nat) : ((l4 a b c d).drop 4).take 4 = nd b := by rw [l4, QA (ndl a), Yr (ndl b)]
theorem l4_3 (a b c d : Nat) : ((l4 a b c d).drop 8).take 4 = nd c := by
  rw [l4, show (8 : Nat) = 4 + 4 from rfl, ← Qw, QA (ndl a), QA (ndl b), Yr (ndl c)]
theorem l4_4 (a b c d : Nat) : (l4 a b c d).drop 12 = nd d := by
  rw [l4, show (12 : Nat) = 4 + (4 + 4) from rfl, ← Qw, ← Qw, QA (ndl a), QA (ndl b), QA (ndl c)]
def wtE (p q : L4) : L4 := l4 (zt 1 (oE (k1 p) (k2 p) (k1 q) (k2 q)) (oF (k3 p) (k4 p) (k3 q) (k4 q))) (zt 1 (oG (k3 p) (k4 p) (k3 q) (k4 q)) (oH (k1 p) (k2 p) (k1 q) (k2 q))) (zt 1 (oF (k3 p) (k4 p) (k3 q) (k4 q)) (oG (k3 p) (k4 p) (k3 q) (k4 q))) (zt 1 (oE (k1 p) (k2 p) (k1 q) (k2 q)) (oH (k1 p) (k2 p) (k1 q) (k2 q)))
theorem wtE_len (p q : L4) : (wtE p q).length = 16 := l4_len _ _ _ _
/-- a point's four numbers -/
structure RepE (l : L4) (P : GE) : Prop where
  len : l.length = 16
  lt1 : k1 l < PE
  lt2 : k2 l < PE
  lt3 : k3 l < PE
  lt4 : k4 l < PE
  rep : Go.Ed.Rep4 (fE (k1 l)) (fE (k2 l)) (fE (k3 l)) (fE (k4 l)) P.1
theorem nvE {a : Nat} (ha : a < PE) : nv (nd a) = a := Qd (Z4 ha PE_lt)
theorem k1_l4 {a b c d : Nat} (ha : a < PE) : k1 (l4 a b c d) = a := by rw [k1, l4_1, nvE ha]
theorem k2_l4 {a b c d : Nat} (ha : b < PE) : k2 (l4 a b c d) = b := by rw [k2, l4_2, nvE ha]
theorem k3_l4 {a b c d : Nat} (ha : c < PE) : k3 (l4 a b c d) = c := by rw [k3, l4_3, nvE ha]
theorem k4_l4 {a b c d : Nat} (ha : d < PE) : k4 (l4 a b c d) = d := by rw [k4, l4_4, nvE ha]
theorem rep_l4 {a b c d : Nat} {P : GE} (ha : a < PE) (hb : b < PE) (hc : c < PE) (hd : d < PE) (h : Go.Ed.Rep4 (fE a) (fE b) (fE c) (fE d) P.1) : RepE (l4 a b c d) P :=
  ⟨l4_len _ _ _ _, by rw [k1_l4 ha]; exact ha, by rw [k2_l4 hb]; exact hb, by rw [k3_l4 hc]; exact hc, by rw [k4_l4 hd]; exact hd, by rw [k1_l4 ha, k2_l4 hb, k3_l4 hc, k4_l4 hd]; exact h⟩
theorem rep4_sum {x1 y1 z1 t1 x2 y2 z2 t2 : Nat} {P Q : GE} (hp : Go.Ed.Rep4 (fE x1) (fE y1) (fE z1) (fE t1) P.1) (hq : Go.Ed.Rep4 (fE x2) (fE y2) (fE z2) (fE t2) Q.1) :
    Go.Ed.Rep4 (fE (zt 1 (oE x1 y1 x2 y2) (oF z1 t1 z2 t2))) (fE (zt 1 (oG z1 t1 z2 t2) (oH x1 y1 x2 y2))) (fE (zt 1 (oF z1 t1 z2 t2) (oG z1 t1 z2 t2))) (fE (zt 1 (oE x1 y1 x2 y2) (oH x1 y1 x2 y2))) (Go.Ed.Ec.add P Q).1 := by
  rw [e_mul, e_mul, e_mul, e_mul]
  exact Go.Ed.rep4_add (C := cvE) hp hq (a := fE (oA x1 y1 x2 y2)) (b := fE (oB x1 y1 x2 y2)) (c := fE (oC t1 t2)) (d := fE (oD z1 z2)) (by rw [oA, e_mul, e_sub, e_sub]) (by rw [oB, e_mul, e_add, e_add]) (by rw [oC, e_mul, e_mul, d2E]; rfl) (by rw [oD, e_add, e_mul]) (by rw [oE, e_sub]) (by rw [oF, e_sub]) (by rw [oG, e_add]) (by rw [oH, e_add])
theorem rep_wt {p q : L4} {P Q : GE} (hp : RepE p P) (hq : RepE q Q) : RepE (wtE p q) (Go.Ed.Ec.add P Q) :=
  rep_l4 (el_mul _ _) (el_mul _ _) (el_mul _ _) (el_mul _ _) (rep4_sum hp.rep hq.rep)
def zero16 : L4 := l4 0 1 1 0
theorem rep_zero : RepE zero16 Go.Ed.Ec.zero := rep_l4 (by decide) (by decide) (by decide) (by decide) (by
  rw [e_one, e_zero]
  refine ⟨one_neE, ?_, ?_, ?_⟩
  · show (0 : Fin PE) = 0 * 1; decide +kernel
  · show (1 : Fin PE) = 1 * 1; decide +kernel
  · show (0 : Fin PE) = 0 * 1 * 1; decide +kernel)
def rowF (p : L4) : Nat → L4
  | 0 => zero16
  | i + 1 => wtE (rowF p i) p
def dblF (o : L4) : Nat → L4
  | 0 => o
  | j + 1 => wtE (dblF o j) (dblF o j)
theorem rep_row {p : L4} {P : GE} (h : RepE p P) : ∀ i, RepE (rowF p i) (Go.Ed.Ec.mul i P)
  | 0 => rep_zero
  | i + 1 => rep_wt (rep_row h i) h
theorem rep_dbl {o : L4} {P : GE} (h : RepE o P) : ∀ j, RepE (dblF o j) (Go.Ed.Ec.mul (2 ^ j) P)
  | 0 => by rw [Qf, Go.Ed.Ec.mul_one]; exact h
  | j + 1 => by
    rw [Zl, z5, Nat.two_mul, Go.Ed.Ec.mul_add]
    exact rep_wt (rep_dbl h j) (rep_dbl h j)
/-- the digit of four bits -/
def nib (k i : Nat) : Nat := k / 16 ^ i % 16
def tmF (p : L4) (k : Nat) : Nat → L4
  | 0 => zero16
  | j + 1 => wtE (dblF (tmF p k j) 4) (rowF p (nib k (63 - j)))
theorem tmF_len (p : L4) (k : Nat) : ∀ j, (tmF p k j).length = 16
  | 0 => l4_len _ _ _ _
  | i + 1 => wtE_len _ _
theorem nibs_step (k i : Nat) : k / 16 ^ i = 16 * (k / 16 ^ (i + 1)) + nib k i := by
  rw [nib, Zl, ← ZT]
  exact (Yo _ _).symm
theorem rep_tm {p : L4} {P : GE} {k : Nat} (h : RepE p P) (hk : k < W256) : ∀ j, j ≤ 64 → RepE (tmF p k j) (Go.Ed.Ec.mul (k / 16 ^ (64 - j)) P)
  | 0, _ => by
    rw [Nat.div_eq_of_lt (show k < 16 ^ (64 - 0) from hk)]
    exact rep_zero
  | j + 1, hj => by
    have ih := rep_tm h hk j (by omega)
    have e : 64 - j = 63 - j + 1 := by omega
    rw [show 64 - (j + 1) = 63 - j by omega, nibs_step, Go.Ed.Ec.mul_add, z5, z5 _ 16, Go.Ed.Ec.mul_mul, ← e]
    exact rep_wt (rep_dbl ih 4) (rep_row h _)
theorem rep_times {p : L4} {P : GE} {k : Nat} (h : RepE p P) (hk : k < W256) : RepE (tmF p k 64) (Go.Ed.Ec.mul k P) := by
  have := rep_tm h hk 64 (ZK _)
  rwa [Js, Qf, Xd] at this
end Go.Proofs.YtlnogkmnklfjlaaDoor

/- Layer 12: points of bytes, bytes of points. -/

namespace Go.Proofs.YtlnogkmnklfjlaaDoor
open Go.Dbr
set_option maxRecDepth 100000
set_option maxHeartbeats 2000000
set_option linter.unusedVariables false
set_option linter.unusedSimpArgs false

def clr (b : List UInt8) : List UInt8 := zy b 31 (zb b 31 0 &&& 127)
def yE (b : List UInt8) : Nat := lv (clr b)
def odE (b : List UInt8) : Bool := decide (128 ≤ (zb b 31 0).toNat)
/-- what the root is drawn of, the root, its sign -/
def tA (y : Nat) : Nat := zt 1 (Zd 1 (zt 1 y y) 1) (ivE (ZA 1 (zt 1 DN (zt 1 y y)) 1))
def rE (y : Nat) : Nat := YG 1 (tA y)
def xOkE (y : Nat) (odd : Bool) : Bool := rootOk 1 (tA y) && !(odd && decide (rE y = 0))
def xE (y : Nat) (odd : Bool) : Nat := bif odd then Zd 1 0 (rE y) else rE y
def isE (b : List UInt8) : Bool := decide (yE b < mF 1) && xOkE (yE b) (odE b)
theorem clr_len {b : List UInt8} (h : b.length = 32) : (clr b).length = 32 := by rw [clr, ZI, h]
theorem rs_lt1 (A : Nat) : rs 1 A < PE := rs_ltM (.inl rfl) A
theorem rootN_lt1 (A : Nat) : YG 1 A < PE := by
  unfold YG
  split
  · split
    · exact el_sub _ _
    · exact rs_lt1 A
  · decide
theorem root_sq {A : Nat} (hA : A < PE) (h : rootOk 1 A = true) : zt 1 (YG 1 A) (YG 1 A) = A ∧ YG 1 A % 2 = 0 := by
  have e := (of_decide_eq_true h).2
  rw [mulM_one, mF1, zK hA] at e
  have s := sq_law (f := 1) (.inl rfl) (rs 1 A)
  rw [e] at s
  exact s.2
theorem tA_lt (y : Nat) : tA y < PE := by rw [tA]; exact el_mul _ _
theorem rE_lt (y : Nat) : rE y < PE := by rw [rE]; exact rootN_lt1 _
theorem xE_t (y : Nat) : xE y true = Zd 1 0 (rE y) := by rw [xE, YH]
theorem xE_f (y : Nat) : xE y false = rE y := by rw [xE, Ys]
theorem xE_lt (y : Nat) (odd : Bool) : xE y odd < PE := by
  cases odd with
  | true => rw [xE_t]; exact el_sub _ _
  | false => rw [xE_f]; exact rE_lt y
theorem xE_sq {y : Nat} {odd : Bool} (h : xOkE y odd = true) : fE (xE y odd) * fE (xE y odd) = fE (tA y) := by
  simp only [xOkE, zX] at h
  have s := (root_sq (A := tA y) (tA_lt y) h.1).1
  have s2 : fE (rE y) * fE (rE y) = fE (tA y) := by rw [rE, ← e_mul, s]
  cases odd with
  | true =>
    rw [xE_t, e_sub, e_zero, ← s2]
    generalize fE (rE y) = r
    clear s s2 h
    grind -lia
  | false => rw [xE_f]; exact s2
/-- what divides -/
theorem den_iv (y : Nat) : (cvE.d * (fE y * fE y) + 1) * fE (ivE (ZA 1 (zt 1 DN (zt 1 y y)) 1)) = 1 := by
  have e : fE (ZA 1 (zt 1 DN (zt 1 y y)) 1) = cvE.d * (fE y * fE y) + 1 := by rw [e_add, e_mul, e_mul, e_one]; rfl
  rw [← e]
  exact e_iv (by rw [e]; exact Go.Ed.den_ne (fE y))
theorem tA_eq (y : Nat) : fE (tA y) = (fE y * fE y - 1) * fE (ivE (ZA 1 (zt 1 DN (zt 1 y y)) 1)) := by rw [tA, e_mul, e_sub, e_mul, e_one]
theorem pt_on {y : Nat} {odd : Bool} (h : xOkE y odd = true) : Go.Ed.OnE cvE.d (fE (xE y odd)) (fE y) :=
  Go.Ed.on_of (C := cvE) (den_iv y) (by rw [xE_sq h, tA_eq])
/-- the point that bytes tell -/
noncomputable def gPt (b : List UInt8) : GE := if h : xOkE (yE b) (odE b) = true then ⟨(fE (xE (yE b) (odE b)), fE (yE b)), pt_on h⟩ else Go.Ed.Ec.zero
theorem gPt_val {b : List UInt8} (h : xOkE (yE b) (odE b) = true) : (gPt b).1 = (fE (xE (yE b) (odE b)), fE (yE b)) := by
  unfold gPt
  exact congrArg Subtype.val (dif_pos h)
theorem is_x {b : List UInt8} (h : isE b = true) : xOkE (yE b) (odE b) = true := by
  simp only [isE, zX] at h
  exact h.2
theorem is_y {b : List UInt8} (h : isE b = true) : yE b < PE := by
  simp only [isE, zX, decide_eq_true_eq] at h
  exact h.1
def ptL (y : Nat) (odd : Bool) : L4 := l4 (xE y odd) y 1 (zt 1 (xE y odd) y)
theorem ptL_len (y : Nat) (odd : Bool) : (ptL y odd).length = 16 := l4_len _ _ _ _
theorem rep_pt {b : List UInt8} (h : isE b = true) : RepE (ptL (yE b) (odE b)) (gPt b) := by
  refine rep_l4 (xE_lt _ _) (is_y h) (by decide) (el_mul _ _) ?_
  rw [gPt_val (is_x h), e_mul, e_one]
  generalize fE (xE (yE b) (odE b)) = x
  generalize fE (yE b) = y
  refine ⟨one_neE, ?_, ?_, ?_⟩ <;> simp only <;> grind -lia
/-- the bytes of two numbers -/
def outN (x y : Nat) : List UInt8 := zy (lb 32 y) 31 (zb (lb 32 y) 31 0 ||| (zF (x % 2) <<< 7))
def outE (P : GE) : List UInt8 := outN P.1.1.val P.1.2.val
theorem outN_len (x y : Nat) : (outN x y).length = 32 := by rw [outN, ZI, lb_len]
theorem outE_len (P : GE) : (outE P).length = 32 := outN_len _ _
theorem top_dec : ∀ (n : Fin 128) (x : Fin 2), ((zF n.val ||| (zF x.val <<< 7)) &&& 127 = zF n.val) ∧ decide (128 ≤ (zF n.val ||| (zF x.val <<< 7)).toNat) = decide (x.val = 1) := by decide +kernel
theorem lv_digE : ∀ (l : List UInt8) (j : Nat), (zb l j 0).toNat = lv l / 256 ^ j % 256
  | [], j => by simp [lv]
  | x :: r, 0 => by have := x.toNat_lt; rw [List.getD_cons_zero, lv, Qf, Xd]; omega
  | x :: r, j + 1 => by
    have := x.toNat_lt
    rw [List.getD_cons_succ, lv_digE r j, lv, Zl, z5 (_ ^ j), ← ZT]
    congr 2
    omega
theorem top_lt {y : Nat} (h : y < PE) : (zb (lb 32 y) 31 0).toNat < 128 := by
  rw [lv_digE, lb_val, zK (show y < 256 ^ 32 from Z4 h (by decide))]
  exact Nat.lt_of_le_of_lt (Nat.mod_le _ _) (Nat.div_lt_of_lt_mul (Z4 h (by decide)))
theorem set_getD {l : List UInt8} {i : Nat} (h : i < l.length) : zy l i (zb l i 0) = l := by
  refine List.ext_getElem (by simp) fun j h1 h2 => ?_
  rw [List.getElem_set]
  split
  · rename_i e
    subst e
    rw [Zf, zT h]
    rfl
  · rfl
theorem out_top (x y : Nat) : zb (outN x y) 31 0 = zb (lb 32 y) 31 0 ||| (zF (x % 2) <<< 7) := by
  rw [outN, Zf, List.getElem?_set_self (by rw [lb_len]; decide)]
  rfl
theorem clr_out {x y : Nat} (h : y < PE) : clr (outN x y) = lb 32 y ∧ odE (outN x y) = decide (x % 2 = 1) := by
  have hb := top_lt h
  have ht := out_top x y
  have d := top_dec ⟨_, hb⟩ ⟨x % 2, ZB _ (by decide)⟩
  simp only [UInt8.ofNat_toNat] at d
  refine ⟨?_, ?_⟩
  · rw [clr, ht, d.1, outN, List.set_set, set_getD (by rw [lb_len]; decide)]
  · rw [odE, ht, d.2]
theorem y_out {x y : Nat} (h : y < PE) : yE (outN x y) = y := by
  rw [yE, (clr_out h).1, lb_val, zK (show y < 256 ^ 32 from Z4 h (by decide))]
theorem tA_on {x y : Nat} (hx : x < PE) (h : Go.Ed.OnE cvE.d (fE x) (fE y)) : tA y = zt 1 x x := by
  refine e_inj (el_mul _ _) (el_mul _ _) ?_
  rw [tA_eq, e_mul]
  exact (Go.Ed.of_on (C := cvE) (den_iv y) h).symm
theorem sqE {r x : Nat} (hr : r < PE) (hx : x < PE) (h : zt 1 r r = zt 1 x x) : r = x ∨ r = PE - x ∧ x ≠ 0 := by
  have e := congrArg fE h
  rw [e_mul, e_mul] at e
  have z : (fE r - fE x) * (fE r + fE x) = 0 := by
    have : (fE r - fE x) * (fE r + fE x) = fE r * fE r - fE x * fE x := by clear e h; grind -lia
    rw [this, e]
    clear this e h
    grind -lia
  rcases fldE.nz _ _ z with g | g
  · left
    refine e_inj hr hx ?_
    clear e h z
    grind -lia
  · by_cases h0 : x = 0
    · left
      subst h0
      refine e_inj hr hx ?_
      rw [e_zero] at g ⊢
      clear e h z
      grind -lia
    · right
      have e2 : fE (r + x) = 0 := by
        have := e_add r x
        rw [ZA, mF1, show fE ((r + x) % PE) = fE (r + x) from Go.Wei.fn_mod _] at this
        rw [this, g]
      have e3 : (r + x) % PE = 0 := by
        have := congrArg Fin.val e2
        rwa [Go.Wei.fin_zero] at this
      refine ⟨?_, h0⟩
      rcases Z9 (r + x) PE with q | q
      · rw [zK q] at e3
        omega
      · rw [Nat.mod_eq_sub_mod q, zK (by omega)] at e3
        omega
/-- what was written is read again -/
theorem out_in (P : GE) : isE (outE P) = true ∧ gPt (outE P) = P := by
  have ho : Go.Ed.OnE cvE.d (fE P.1.1.val) (fE P.1.2.val) := by rw [e_of, e_of]; exact P.2
  have hx : P.1.1.val < PE := P.1.1.isLt
  have hy : P.1.2.val < PE := P.1.2.isLt
  have ey : yE (outE P) = P.1.2.val := y_out hy
  have eo : odE (outE P) = decide (P.1.1.val % 2 = 1) := (clr_out hy).2
  have t := tA_on hx ho
  have s := sq_law (f := 1) (.inl rfl) P.1.1.val
  rw [← t] at s
  have hr : rE P.1.2.val < PE := rE_lt _
  have h2 : rE P.1.2.val = P.1.1.val ∨ rE P.1.2.val = PE - P.1.1.val ∧ P.1.1.val ≠ 0 := sqE hr hx (by rw [rE]; exact s.2.1.trans t)
  have hev : rE P.1.2.val % 2 = 0 := by rw [rE]; exact s.2.2
  have hp : PE % 2 = 1 := by decide
  have ex : xE P.1.2.val (decide (P.1.1.val % 2 = 1)) = P.1.1.val ∧ (decide (P.1.1.val % 2 = 1) = true → rE P.1.2.val ≠ 0) := by
    by_cases g : P.1.1.val % 2 = 1
    · rw [decide_eq_true g, xE_t]
      rcases h2 with h2 | ⟨h2, h3⟩
      · omega
      · refine ⟨?_, fun _ => by omega⟩
        rw [Zd, h2, mF1, QI, zK (show PE - P.1.1.val < PE by omega), show 0 + PE - (PE - P.1.1.val) = P.1.1.val by omega, zK hx]
    · rw [decide_eq_false g, xE_f]
      rcases h2 with h2 | ⟨h2, h3⟩
      · exact ⟨h2, fun h => by cases h⟩
      · omega
  have ok : xOkE (yE (outE P)) (odE (outE P)) = true := by
    rw [ey, eo, xOkE, s.1, Qp]
    by_cases g : decide (P.1.1.val % 2 = 1) = true
    · rw [g, Qp, decide_eq_false (ex.2 g)]
      rfl
    · rw [Bool.eq_false_iff.2 g]
      rfl
  refine ⟨?_, ?_⟩
  · rw [isE, ok, ey, Bool.and_true]
    exact decide_eq_true hy
  · refine Subtype.ext ((gPt_val ok).trans ?_)
    rw [ey, eo, ex.1, e_of, e_of]
/-- the bytes of a point's numbers -/
theorem aff_x {x z : Nat} {X : Fin PE} (hz : fE z ≠ 0) (h : fE x = X * fE z) : zt 1 x (ivE z) = X.val := by
  refine e_inj (el_mul _ _) X.isLt ?_
  rw [e_mul, h, e_of]
  have i1 := e_iv hz
  generalize fE (ivE z) = i at *
  generalize fE z = k at *
  clear h hz
  grind -lia
theorem by4 {l : L4} {P : GE} (h : RepE l P) : outN (zt 1 (k1 l) (ivE (k3 l))) (zt 1 (k2 l) (ivE (k3 l))) = outE P := by
  rw [outE, aff_x h.rep.1 h.rep.2.1, aff_x h.rep.1 h.rep.2.2.1]
/-- the same point? -/
def sameN (x1 y1 z1 x2 y2 z2 : Nat) : Bool := nd (zt 1 x1 z2) == nd (zt 1 x2 z1) && nd (zt 1 y1 z2) == nd (zt 1 y2 z1)
instance : DecidableEq GE := fun P Q => if h : P.1 = Q.1 then isTrue (Subtype.ext h) else isFalse fun g => h (congrArg Subtype.val g)
theorem nd_eqE {a b : Nat} (ha : a < PE) (hb : b < PE) : (nd a == nd b) = decide (fE a = fE b) := by
  by_cases h : a = b
  · subst h
    rw [decide_eq_true rfl, beq_self_eq_true]
  · rw [decide_eq_false (fun g => h (e_inj ha hb g))]
    refine beq_false_of_ne fun g => h ?_
    have := congrArg nv g
    rwa [nvE ha, nvE hb] at this
theorem sameN_ok {x1 y1 z1 x2 y2 z2 : Nat} {P Q : GE} (hp : Go.Ed.Rep3 (fE x1) (fE y1) (fE z1) P.1) (hq : Go.Ed.Rep3 (fE x2) (fE y2) (fE z2) Q.1) : sameN x1 y1 z1 x2 y2 z2 = decide (P = Q) := by
  rw [sameN, nd_eqE (el_mul _ _) (el_mul _ _), nd_eqE (el_mul _ _) (el_mul _ _), e_mul, e_mul, e_mul, e_mul, ← Bool.decide_and]
  have k := Go.Ed.rep3_same (C := cvE) hp hq
  refine decide_eq_decide.2 (k.trans ⟨fun g => Subtype.ext g, fun g => congrArg Subtype.val g⟩)

end Go.Proofs.YtlnogkmnklfjlaaDoor

/- Layer 12: the base, its order. -/

namespace Go.Proofs.YtlnogkmnklfjlaaDoor
open Go.Dbr
set_option maxRecDepth 100000
set_option maxHeartbeats 2000000
set_option linter.unusedVariables false
set_option linter.unusedSimpArgs false

abbrev N4 := Nat × Nat × Nat × Nat
def wtN : N4 → N4 → N4
  | (x1, y1, z1, t1), (x2, y2, z2, t2) => (zt 1 (oE x1 y1 x2 y2) (oF z1 t1 z2 t2), zt 1 (oG z1 t1 z2 t2) (oH x1 y1 x2 y2), zt 1 (oF z1 t1 z2 t2) (oG z1 t1 z2 t2), zt 1 (oE x1 y1 x2 y2) (oH x1 y1 x2 y2))
def RepN (s : N4) (P : GE) : Prop := Go.Ed.Rep4 (fE s.1) (fE s.2.1) (fE s.2.2.1) (fE s.2.2.2) P.1
theorem repN_wt {s t : N4} {P Q : GE} (hs : RepN s P) (ht : RepN t Q) : RepN (wtN s t) (Go.Ed.Ec.add P Q) := by
  obtain ⟨x1, y1, z1, t1⟩ := s
  obtain ⟨x2, y2, z2, t2⟩ := t
  exact rep4_sum hs ht
def mulG : Nat → Nat → N4 → N4
  | 0, _, _ => (0, 1, 1, 0)
  | f + 1, e, g => cond (QK (e % 2) 1) (wtN (mulG f (e / 2) (wtN g g)) g) (mulG f (e / 2) (wtN g g))
theorem repN_mul : ∀ (f e : Nat) (g : N4) (P : GE), e < 2 ^ f → RepN g P → RepN (mulG f e g) (Go.Ed.Ec.mul e P)
  | 0, e, g, P, he, _ => by
    have : e = 0 := by simp at he; exact he
    subst this
    have := rep_zero.rep
    rw [zero16, k1_l4 (by decide), k2_l4 (by decide), k3_l4 (by decide), k4_l4 (by decide)] at this
    exact this
  | f + 1, e, g, P, he, h => by
    have ih := repN_mul f (e / 2) (wtN g g) (Go.Ed.Ec.add P P) (by rw [Zl] at he; omega) (repN_wt h h)
    have e2 : Go.Ed.Ec.mul (e / 2) (Go.Ed.Ec.add P P) = Go.Ed.Ec.mul (e / 2 * 2) P := by
      rw [Go.Ed.Ec.mul_mul]
      congr 1
      show _ = Go.Ed.Ec.add (Go.Ed.Ec.add Go.Ed.Ec.zero P) P
      rw [Go.Ed.Ec.zero_add]
    rw [e2] at ih
    unfold mulG
    cases hb : QK (e % 2) 1 with
    | true =>
      have h1 : e % 2 = 1 := QU hb
      have : e = e / 2 * 2 + 1 := by omega
      have k := repN_wt ih h
      rw [show Go.Ed.Ec.add (Go.Ed.Ec.mul (e / 2 * 2) P) P = Go.Ed.Ec.mul e P from (by
        conv => rhs; rw [this]
        rfl)] at k
      exact k
    | false =>
      have h1 : e % 2 ≠ 1 := Nat.ne_of_beq_eq_false hb
      have : e / 2 * 2 = e := by omega
      rw [this] at ih
      exact ih
def BX : Nat := 15112221349535400772501151409588531511454012693041857206046113283949847762202
def BY_ : Nat := 46316835694926478169428394003475163141307993866256225615783033603165251855960
def ORD : Nat := 7237005577332262213973186563042994240857116359379907606001950938285454250989
theorem ord_mF : mF 4 = ORD := rfl
theorem onB : Go.Ed.OnE cvE.d (fE BX) (fE BY_) := by
  show fE BY_ * fE BY_ - fE BX * fE BX = 1 + fE DN * (fE BX * fE BX) * (fE BY_ * fE BY_)
  decide +kernel
/-- the base -/
def gB : GE := ⟨(fE BX, fE BY_), onB⟩
theorem repB : RepN (BX, BY_, 1, zt 1 BX BY_) gB := by
  show Go.Ed.Rep4 (fE BX) (fE BY_) (fE 1) (fE (zt 1 BX BY_)) (fE BX, fE BY_)
  rw [e_mul, e_one]
  generalize fE BX = x
  generalize fE BY_ = y
  refine ⟨one_neE, ?_, ?_, ?_⟩ <;> simp only <;> grind -lia
theorem ord_1 : (mulG 253 ORD (BX, BY_, 1, zt 1 BX BY_)).1 = 0 ∧ (mulG 253 ORD (BX, BY_, 1, zt 1 BX BY_)).2.1 = (mulG 253 ORD (BX, BY_, 1, zt 1 BX BY_)).2.2.1 := by decide +kernel
theorem ord_B : Go.Ed.Ec.mul ORD gB = Go.Ed.Ec.zero := by
  obtain ⟨hz, hx, hy, _⟩ := repN_mul 253 ORD _ gB (by decide) repB
  apply Subtype.ext
  rw [ord_1.1, e_zero] at hx
  rw [ord_1.2] at hy
  generalize fE (mulG 253 ORD (BX, BY_, 1, zt 1 BX BY_)).2.2.1 = z at *
  generalize (Go.Ed.Ec.mul ORD gB).1 = P at *
  obtain ⟨x, y⟩ := P
  simp only at hx hy
  show (x, y) = (0, 1)
  have e1 : x = 0 := Go.Wei.Fld.eq (F := fldE) hz (by clear hy; grind -lia)
  have e2 : y = 1 := Go.Wei.Fld.eq (F := fldE) hz (by clear hx e1; grind -lia)
  rw [e1, e2]
theorem mul_modB (k : Nat) : Go.Ed.Ec.mul (k % ORD) gB = Go.Ed.Ec.mul k gB := by
  conv => rhs; rw [← Yo k ORD, z5, Go.Ed.Ec.mul_add, Go.Ed.Ec.mul_mul, ord_B, Go.Ed.Ec.mul_zero, Go.Ed.Ec.zero_add]
/-- the base's bytes tell the base -/
def baseB : List UInt8 := [88, 102, 102, 102, 102, 102, 102, 102, 102, 102, 102, 102, 102, 102, 102, 102, 102, 102, 102, 102, 102, 102, 102, 102, 102, 102, 102, 102, 102, 102, 102, 102]
theorem powN (x : Nat) {n : Nat} (h : n < 2 ^ 256) : powM 1 x n = pw PE 256 x n := powM_pw x h
theorem ivE_pw (x : Nat) : ivE x = pw PE 256 x (PE - 2) := powN x (by decide)
theorem base_y : yE baseB = BY_ ∧ odE baseB = false := by decide +kernel
theorem base_out : outE gB = baseB := by decide +kernel
theorem base_pt : isE baseB = true ∧ gPt baseB = gB := by rw [← base_out]; exact out_in gB
def baseL : L4 := ptL BY_ false
theorem rep_base : RepE baseL gB := by
  have h := rep_pt base_pt.1
  rw [base_pt.2, base_y.1, base_y.2] at h
  exact h
/-- the bytes of so many times the base -/
noncomputable def puE (n : Nat) : List UInt8 := outE (Go.Ed.Ec.mul n gB)
theorem puE_len (n : Nat) : (puE n).length = 32 := outE_len _
theorem pu_is (n : Nat) : isE (puE n) = true := (out_in _).1
theorem pu_pt (n : Nat) : gPt (puE n) = Go.Ed.Ec.mul n gB := (out_in _).2
theorem pu_L {k : Nat} (hk : k < W256) : outN (zt 1 (k1 (tmF baseL k 64)) (ivE (k3 (tmF baseL k 64)))) (zt 1 (k2 (tmF baseL k 64)) (ivE (k3 (tmF baseL k 64)))) = puE k := by4 (rep_times rep_base hk)
/-- a signature is its text's -/
theorem own_sum (r k a : Nat) : Go.Ed.Ec.mul (ZA 4 r (zt 4 k a)) gB = Go.Ed.Ec.add (Go.Ed.Ec.mul r gB) (Go.Ed.Ec.mul k (Go.Ed.Ec.mul a gB)) := by
  rw [ZA, zt, ord_mF, mul_modB, Nat.add_comm, Go.Ed.Ec.mul_add, mul_modB, Go.Ed.Ec.mul_mul, Go.Ed.Ec.comm]

end Go.Proofs.YtlnogkmnklfjlaaDoor

/- Layer 4: roots of each field. -/

namespace Go.Proofs.YtlnogkmnklfjlaaDoor
open Go.Dbr
set_option maxRecDepth 100000
set_option maxHeartbeats 2000000
set_option linter.unusedVariables false
set_option linter.unusedSimpArgs false

end Go.Proofs.YtlnogkmnklfjlaaDoor

/- Drawn regions whose operations each yield their value in every world that keeps what stands: one fact an operation. -/

namespace Go.Dbr
open Go Go.RowKit
set_option linter.unusedSimpArgs false
set_option linter.unusedVariables false

/-! ## who waits for whom, by masks -/
def cloStep (acc : List Nat) : List Edge → Nat
  | [] => 0
  | e :: r => bif Region.binds .any e then 2 ^ e.on ||| acc.getD e.on 0 ||| cloStep acc r else cloStep acc r
def clo : List Oper → List Nat → List Nat
  | [], acc => acc
  | o :: r, acc => clo r (acc ++ [cloStep acc o.after.toList])
theorem cloStep_spec {acc : List Nat} {i : Nat} : ∀ (es : List Edge), YF (cloStep acc es) i = true → ∃ e ∈ es, Region.binds .any e = true ∧ (e.on = i ∨ YF (acc.getD e.on 0) i = true)
  | [], h => by simp [cloStep] at h
  | e :: r, h => by
    unfold cloStep at h
    cases hb : Region.binds .any e with
    | true =>
      rw [hb, YH, JA, JA, YS, YS] at h
      rcases h with (h | h) | h
      · refine ⟨e, QE .., hb, .inl ?_⟩
        rw [Nat.testBit_two_pow] at h
        exact of_decide_eq_true h
      · exact ⟨e, QE .., hb, .inr h⟩
      · obtain ⟨e', he, hr⟩ := cloStep_spec r h
        exact ⟨e', Ql _ he, hr⟩
    | false =>
      rw [hb, Ys] at h
      obtain ⟨e', he, hr⟩ := cloStep_spec r h
      exact ⟨e', Ql _ he, hr⟩
theorem WaitsT.of {ops : Array Oper} {i s : Nat} {o : Oper} {e : Edge} (ho : ops[s]? = some o) (he : e ∈ o.after) (hb : Region.binds .any e = true) (h : e.on = i ∨ WaitsT ops i e.on) : WaitsT ops i s := h.elim (.one ho he hb) (.step ho he hb)
theorem clo_spec {ops : Array Oper} {i : Nat} : ∀ (l : List Oper) (acc : List Nat), (∀ (k : Nat) (o : Oper), l[k]? = some o → ops[acc.length + k]? = some o) → (∀ j, YF (acc.getD j 0) i = true → WaitsT ops i j) → ∀ j, YF ((clo l acc).getD j 0) i = true → WaitsT ops i j
  | [], acc, _, h, j, hj => h j hj
  | o :: r, acc, hl, h, j, hj => by
    refine clo_spec r (acc ++ [cloStep acc o.after.toList]) (fun k o' hk => ?_) (fun j' hj' => ?_) j hj
    · have := hl (k + 1) o' (by simpa using hk)
      rw [zU, J4]
      rw [show acc.length + (k + 1) = acc.length + 1 + k by omega] at this
      exact this
    · rcases Nat.lt_trichotomy j' acc.length with c | c | c
      · rw [Zf, zP c, ← Zf] at hj'
        exact h j' hj'
      · subst c
        rw [Zf, zW (ZK _), Js] at hj'
        obtain ⟨e, he, hb, hr⟩ := cloStep_spec _ hj'
        have ho := hl 0 o rfl
        rw [Nat.add_zero] at ho
        exact .of ho (by simpa using he) hb (hr.imp id (h _))
      · rw [Zf, List.getElem?_eq_none (by rw [zU, J4]; omega)] at hj'
        simp at hj'

def maskOf : List Nat → Nat
  | [] => 0
  | i :: r => 2 ^ i ||| maskOf r
theorem maskOf_spec {i : Nat} : ∀ {l : List Nat}, i ∈ l → YF (maskOf l) i = true
  | j :: r, h => by
    unfold maskOf
    rw [JA]
    rcases Qo.1 h with rfl | h'
    · rw [Nat.testBit_two_pow_self, Bool.true_or]
    · rw [maskOf_spec h', Bool.or_true]
def restB (I : List Nat) (m : Nat) : List Nat → Nat → Bool
  | [], _ => true
  | c :: r, j => (I.contains j || QK (m &&& c) m) && restB I m r (j + 1)
theorem restB_spec {I : List Nat} {m : Nat} : ∀ (l : List Nat) (k : Nat), restB I m l k = true → ∀ (j : Nat) (c : Nat), l[j]? = some c → I.contains (k + j) = true ∨ m &&& c = m
  | [], k, _, j, c, h => by simp at h
  | x :: r, k, h, j, c, hc => by
    unfold restB at h
    simp only [zX, YS, JX] at h
    cases j with
    | zero => simp at hc; subst hc; exact h.1
    | succ j =>
      have := restB_spec r (k + 1) h.2 j c (by simpa using hc)
      rwa [show k + 1 + j = k + (j + 1) by omega] at this
def inB (ops : Array Oper) (I : List Nat) (l0 : List (Nat × Value)) (i : Nat) : Bool := match ops[i]? with
  | some o => (o.after.all fun e => !Region.binds .any e || (Nat.blt e.on i && I.contains e.on)) && (match o.dst with | some d => (Qy l0 d).isNone | none => true)
  | none => false
/-- the first ones: what they wait for is among them, each has a place of its own; all others wait for all of them -/
def stabB (ops : Array Oper) (I : List Nat) (l0 : List (Nat × Value)) : Bool := JW ops.toList 0 && (I.all fun i => inB ops I l0 i) && restB I (maskOf I) (clo ops.toList []) 0 && QK (clo ops.toList []).length ops.size
/-- where an operand's value comes from -/
def srcOf (ops : Array Oper) (l0 L : List (Nat × Value)) (i t : Nat) : Option Value := match ops[i]? with
  | some o => bif (o.after.any fun e => Region.binds .any e && (match ops[e.on]? with | some q => (match q.dst with | some c => QK c t | none => false) | none => false)) then Qy L t else Qy l0 t
  | none => none
def oneL (ops : Array Oper) (L : List (Nat × Value)) (i : Nat) : List (Nat × Value) := match ops[i]? with
  | some o => (match o.dst with | some d => [(d, (Qy L d).getD undef)] | none => [])
  | none => []

theorem leastN {P : Nat → Prop} : ∀ n, P n → ∃ k, P k ∧ ∀ j, j < k → ¬ P j := fun n => by
  induction n using Nat.strongRecOn with
  | _ n ih =>
    intro h
    by_cases e : ∃ j, j < n ∧ P j
    · obtain ⟨j, hj, hp⟩ := e
      exact ih j hj hp
    · exact ⟨n, h, fun j hj hp => e ⟨j, hj, hp⟩⟩
theorem look_map_some2 {f : Nat → Option Value} {l : List (Nat × Value)} (h : l.map (fun p => f p.1) = l.map (fun p => some p.2)) : ∀ i v, Qy l i = some v → f i = some v := by
  induction l with
  | nil => intro i v hv; cases hv
  | cons x r ih =>
    intro i v hv
    simp only [QF, List.cons.injEq] at h
    unfold Qy at hv
    cases hb : QK x.1 i with
    | true =>
      rw [hb, YH] at hv
      cases hv
      have := QU hb
      rw [← this]
      exact h.1
    | false =>
      rw [hb, Ys] at hv
      exact ih h.2 i v hv
section
variable {P : Program} {ops : Array Oper} {Q : Exit → Act → World → Prop} {n : Nat} {S : World → Prop} {l0 L : List (Nat × Value)} {I : List Nat}
def Stab (P : Program) (ops : Array Oper) (Q : Exit → Act → World → Prop) (n : Nat) (S : World → Prop) (l0 L : List (Nat × Value)) (i : Nat) : Prop :=
  ∃ E : List (Nat × Value), E.map (fun p => srcOf ops l0 L i p.1) = E.map (fun p => some p.2) ∧ ∀ a w, Env a n E → S w → wpOp P ops Q i (fun a' w' => Env a' n (oneL ops L i) ∧ S w') a w
structure Know (ops : Array Oper) (n : Nat) (l0 L : List (Nat × Value)) (I : List Nat) (a : Act) (listed : Array Bool) : Prop where
  size : a.tmps.size = n
  defers : a.defers = []
  old : ∀ t v, Qy l0 t = some v → a.tmps[t]? = some v
  new : ∀ i o d, i ∈ I → ops[i]? = some o → o.dst = some d → listed.getD i false = true → a.tmps[d]? = some ((Qy L d).getD undef)
theorem wpOp_put {i : Nat} {a : Act} {w : World} {K : Act → World → Prop} {o : Oper} (ho : ops[i]? = some o) (hd : ∀ a' w', K a' w' → a'.defers = []) (h : wpOp P ops Q i K a w) : wpOp P ops Q i (fun a' w' => K a' w' ∧ ∃ v, a' = a.put o.dst v) a w := by
  unfold wpOp at *
  simp only [ho] at h ⊢
  split
  · rename_i hw
    simp only [hw, if_true] at h
    refine h.imp (fun hh => ?_) id
    unfold Oper.wp at *
    generalize (execOp a.eval o).run P w = r at *
    cases r with
    | ok nx w' =>
      cases nx <;> simp only [Oper.upon] at hh ⊢
      all_goals first
        | exact ⟨hh, _, rfl⟩
        | exact Calls.mono hh (fun e w'' he => by cases e <;> first | exact ⟨he, _, rfl⟩ | exact he)
        | exact Rows.mono hh (fun _ _ he => ⟨he, _, rfl⟩)
        | (have := hd _ _ hh; cases hdst : o.dst <;> simp [Act.put, hdst] at this)
        | exact hh
    | halt x w' => cases x <;> simp only [Oper.upon] at hh ⊢ <;> exact hh
  · rename_i hw
    simp only [hw] at h
    exact ⟨h, _, rfl⟩
def cntF (l : Array Bool) : Nat := l.toList.countP fun b => !b
theorem cnt_set {l : List Bool} : ∀ {i : Nat}, l[i]? = some false → (l.set i true).countP (fun b => !b) + 1 = l.countP fun b => !b := by
  induction l with
  | nil => intro i h; simp at h
  | cons x r ih =>
    intro i h
    cases i with
    | zero =>
      simp at h
      subst h
      simp [XB]
    | succ i =>
      have := ih (i := i) (by simpa using h)
      simp only [List.set_cons_succ, XB]
      omega
theorem cntF_set {l : Array Bool} {i : Nat} (h : l.getD i true = false) : cntF (l.setIfInBounds i true) + 1 = cntF l := by
  have hi : i < l.size := by
    rcases Z9 i l.size with g | g
    · exact g
    · simp [g] at h
  have e : l.toList[i]? = some false := by
    simp [hi] at h
    simp [hi, h]
  have := cnt_set e
  unfold cntF
  rw [Array.toList_setIfInBounds]
  exact this
/-- just the first ones have run -/
def LI (ops : Array Oper) (I : List Nat) : Array Bool := ((QS ops.size).map fun j => I.contains j).toArray
def envI (ops : Array Oper) (l0 L : List (Nat × Value)) (i : Nat) : List (Nat × Value) := match ops[i]? with
  | some o => (o.looksAt ops).map fun t => (t, (srcOf ops l0 L i t).getD undef)
  | none => []
theorem stab_go {J : Array Bool → Act → World → Prop} (hB : stabB ops I l0 = true)
    (step : ∀ i ∈ I, ∀ (listed : Array Bool) (a : Act) (w : World) (o : Oper), ops[i]? = some o → listed.size = ops.size → listed.getD i true = false → (∀ e ∈ o.after, Region.binds .any e = true → e.on ∈ I ∧ listed.getD e.on false = true) → (∀ d, o.dst = some d → Qy l0 d = none) → J listed a w → wpOp P ops Q i (fun a' w' => J (listed.setIfInBounds i true) a' w') a w)
    (next : ∀ a w, J (LI ops I) a w → wpAny P .any ops Q (cntF (LI ops I)) (LI ops I) a w) :
    ∀ (m : Nat) (listed : Array Bool) (a : Act) (w : World), m = cntF listed → listed.size = ops.size → (∀ j, listed.getD j false = true → j ∈ I) → Closed ops listed → J listed a w → wpAny P .any ops Q m listed a w := by
  have hB' := hB
  unfold stabB at hB'
  simp only [zX, z8, JX] at hB'
  obtain ⟨⟨⟨hnd, hin⟩, hrest⟩, hlen⟩ := hB'
  have inS : ∀ i ∈ I, ∃ o, ops[i]? = some o ∧ (∀ e ∈ o.after, Region.binds .any e = true → e.on < i ∧ e.on ∈ I) ∧ ∀ d, o.dst = some d → Qy l0 d = none := fun i hi => by
    have h := hin i hi
    unfold inB at h
    cases ho : ops[i]? with
    | none => rw [ho] at h; cases h
    | some o =>
      rw [ho] at h
      simp only [zX] at h
      refine ⟨o, rfl, fun e he hb => ?_, fun d hd => ?_⟩
      · have h1 := (Q5.1 h.1) e he
        rw [hb] at h1
        simp only [Bool.not_true, Bool.false_or, zX, Nat.blt_eq] at h1
        exact ⟨h1.1, Zg.1 h1.2⟩
      · have h2 := h.2
        rw [hd] at h2
        exact Option.isNone_iff_eq_none.1 h2
  intro m
  induction m with
  | zero =>
    intro listed a w hm hs hsub hcl hk
    have hall : ∀ j, j < ops.size → listed.getD j false = true := fun j hj => by
      cases h : listed.getD j false with
      | true => rfl
      | false =>
        have : listed.getD j true = false := by
          have hj' : j < listed.size := by omega
          simp [hj'] at h ⊢
          exact h
        have := cntF_set this
        omega
    have e : listed = LI ops I := by
      refine XW (by simp [LI, hs]) fun j h1 h2 => ?_
      have h3 := hall j (by omega)
      have h4 := hsub j h3
      simp [h1] at h3
      simp [LI, h3, Zg, h4]
    subst e
    rw [hm]
    exact next a w hk
  | succ m ih =>
    intro listed a w hm hs hsub hcl hk
    by_cases hall : ∀ i ∈ I, listed.getD i false = true
    · have e : listed = LI ops I := by
        refine XW (by simp [LI, hs]) fun j h1 h2 => ?_
        by_cases hj : j ∈ I
        · have h3 := hall j hj
          simp [h1] at h3
          simp [LI, h3, Zg, hj]
        · cases h3 : listed.getD j false with
          | true => exact absurd (hsub j h3) hj
          | false =>
            simp [h1] at h3
            simp [LI, h3, Zg, hj]
      subst e
      rw [hm]
      exact next a w hk
    · have ⟨i0, h0⟩ : ∃ i, i ∈ I ∧ listed.getD i false = false := Classical.byContradiction fun hno => hall fun i hi => by
        cases h : listed.getD i false with
        | true => rfl
        | false => exact absurd ⟨i, hi, h⟩ hno
      obtain ⟨k, ⟨hkI, hku⟩, hmin⟩ := Go.Dbr.leastN (P := fun i => i ∈ I ∧ listed.getD i false = false) i0 h0
      obtain ⟨ok, hok, hafk, _⟩ := inS k hkI
      have hkt : listed.getD k true = false := by
        have : k < listed.size := by rw [hs]; exact (Zt.1 hok).1
        simp [this] at hku ⊢
        exact hku
      have hkr : k ∈ Region.ready .any ops listed := mem_ready.2 ⟨hkt, ok, hok, fun e he hb => by
        obtain ⟨h1, h2⟩ := hafk e he hb
        cases h : listed.getD e.on false with
        | true => rfl
        | false => exact absurd ⟨h2, h⟩ (hmin _ h1)⟩
      refine ⟨fun hr => absurd hkr (by rw [hr]; exact z3), fun i hi => ?_⟩
      obtain ⟨hiu, o, ho, haf⟩ := mem_ready.1 hi
      have hiI : i ∈ I := Classical.byContradiction fun hno => by
        have hib := (Zt.1 ho).1
        have hc : (clo ops.toList [])[i]? = some ((clo ops.toList []).getD i 0) := by
          rw [Zf, zT (by omega)]
          rfl
        rcases restB_spec _ 0 hrest i _ hc with h | h
        · rw [Nat.zero_add] at h
          exact hno (Zg.1 h)
        · have hb := maskOf_spec hkI
          rw [← h, Nat.testBit_and, zX] at hb
          have hw := clo_spec (ops := ops) (i := k) ops.toList [] (fun j o' hj => by simpa using hj) (fun j hj => by simp at hj) i hb.2
          have := hw.no hcl o ho haf
          rw [hku] at this
          cases this
      obtain ⟨o', ho', hafI, hdn⟩ := inS i hiI
      rw [ho] at ho'
      cases ho'
      refine wpOp_mono (fun a' w' h => ?_) (step i hiI listed a w o ho hs hiu (fun e he hb => ⟨(hafI e he hb).2, haf e he hb⟩) hdn hk)
      exact ih (listed.setIfInBounds i true) a' w' (by have := cntF_set hiu; omega) (by simp [hs]) (fun j hj => by
        by_cases e : i = j
        · exact e ▸ hiI
        · refine hsub j ?_
          simp [Za e] at hj ⊢
          exact hj) (hcl.set hi) h
/-- what one of them knows and leaves -/
theorem stab_step (hnd : JW ops.toList 0 = true) {i : Nat} {listed : Array Bool} {a : Act} {w : World} {o : Oper} (hiI : i ∈ I) (hst : Stab P ops Q n S l0 L i) (ho : ops[i]? = some o) (hs : listed.size = ops.size) (hiu : listed.getD i true = false)
    (haf : ∀ e ∈ o.after, Region.binds .any e = true → e.on ∈ I ∧ listed.getD e.on false = true) (hdn : ∀ d, o.dst = some d → Qy l0 d = none) (hk : Know ops n l0 L I a listed) (hS : S w) :
    wpOp P ops Q i (fun a' w' => Know ops n l0 L I a' (listed.setIfInBounds i true) ∧ S w' ∧ ∃ v, a' = a.put o.dst v) a w := by
  obtain ⟨E, hE, hrun⟩ := hst
  have env : Env a n E := ⟨hk.size, hk.defers, fun t v hv => by
    have h1 := look_map_some2 hE t v hv
    unfold srcOf at h1
    rw [ho] at h1
    simp only at h1
    cases hany : (o.after.any fun e => Region.binds .any e && (match ops[e.on]? with | some q => (match q.dst with | some c => QK c t | none => false) | none => false)) with
    | true =>
      rw [hany, YH] at h1
      obtain ⟨e, he, hb⟩ := Array.any_eq_true'.1 hany
      simp only [zX] at hb
      cases hq : ops[e.on]? with
      | none => rw [hq] at hb; cases hb.2
      | some q =>
        rw [hq] at hb
        cases hc : q.dst with
        | none => simp [hc] at hb
        | some c =>
          simp only [hc, JX] at hb
          have := hk.new e.on q t (haf e he hb.1).1 hq (by rw [hc, hb.2]) (haf e he hb.1).2
          rw [h1] at this
          exact this
    | false =>
      rw [hany, Ys] at h1
      exact hk.old t v h1⟩
  have hrun2 := wpOp_put ho (fun a' w' h => h.1.defers) (hrun a w env hS)
  refine wpOp_mono (fun a' w' h => ?_) hrun2
  obtain ⟨⟨hE', hS'⟩, v', rfl⟩ := h
  have keep : ∀ t, o.dst ≠ some t → (a.put o.dst v').tmps[t]? = a.tmps[t]? := fun t ht => by
    cases hd : o.dst with
    | none => rfl
    | some d =>
      have : d ≠ t := fun e => ht (by rw [hd, e])
      simp [Act.put, Za this]
  refine ⟨⟨hE'.size, hE'.defers, fun t v hv => ?_, fun i' oi d hi' hoi hd hl => ?_⟩, hS', v', rfl⟩
  · rw [keep t (fun e => by rw [hdn t e] at hv; cases hv)]
    exact hk.old t v hv
  · by_cases e : i = i'
    · subst e
      rw [ho] at hoi
      cases hoi
      refine hE'.slot d _ ?_
      unfold oneL
      rw [ho]
      simp only [hd, YW]
    · rw [keep d (fun g => e ((YY _ _ hnd).2 i i' o oi d (by rw [ZL]; exact ho) (by rw [ZL]; exact hoi) g hd))]
      refine hk.new i' oi d hi' hoi hd ?_
      simp [Za e] at hl ⊢
      exact hl
end

/-! ## in a text -/
section
variable {P : Program} {ops : Array Oper} {Q : Exit → Act → World → Prop} {n : Nat} {l0 L : List (Nat × Value)} {I A : List Nat} {a : Act} {w w0 : World} {L0 Lh : List Ent}
def StabL (P : Program) (ops : Array Oper) (Q : Exit → Act → World → Prop) (n : Nat) (w0 : World) (L0 Lh : List Ent) (l0 L : List (Nat × Value)) : List Nat → Prop
  | [] => True
  | i :: r => (∀ M, Stab P ops Q n (fun wv => Ev w0 L0 wv (Lh ++ M)) l0 L i) ∧ StabL P ops Q n w0 L0 Lh l0 L r
theorem StabL.all : ∀ {I : List Nat}, StabL P ops Q n w0 L0 Lh l0 L I → ∀ i ∈ I, ∀ M, Stab P ops Q n (fun wv => Ev w0 L0 wv (Lh ++ M)) l0 L i
  | _ :: _, h, i, hi => (Qo.1 hi).elim (fun e => e ▸ h.1) (h.2.all i)
def srcE (ops : Array Oper) (I : List Nat) (l0 L : List (Nat × Value)) (t : Nat) : Option Value := bif I.any fun i => (match opD ops i with | some d => QK d t | none => false) then Qy L t else Qy l0 t
theorem Know.env {listed : Array Bool} {l' : List (Nat × Value)} (k : Know ops n l0 L I a listed) (hl : ∀ i ∈ I, listed.getD i false = true) (h : l'.map (fun p => srcE ops I l0 L p.1) = l'.map (fun p => some p.2)) : Env a n l' := ⟨k.size, k.defers, fun t v hv => by
  have h1 := look_map_some2 h t v hv
  unfold srcE at h1
  cases hany : (I.any fun i => (match opD ops i with | some d => QK d t | none => false)) with
  | true =>
    rw [hany, YH] at h1
    obtain ⟨i, hi, hb⟩ := List.any_eq_true.1 hany
    unfold opD at hb
    cases ho : ops[i]? with
    | none => rw [ho] at hb; cases hb
    | some o =>
      rw [ho] at hb
      simp only at hb
      cases hd : o.dst with
      | none => rw [hd] at hb; cases hb
      | some d =>
        rw [hd] at hb
        simp only [JX] at hb
        subst hb
        have := k.new i o d hi ho hd (hl i hi)
        rw [h1] at this
        exact this
  | false =>
    rw [hany, Ys] at h1
    exact k.old t v h1⟩
theorem put_keep {o : Oper} {v : Value} {t : Nat} (ht : o.dst ≠ some t) : (a.put o.dst v).tmps[t]? = a.tmps[t]? := by
  cases hd : o.dst with
  | none => rfl
  | some d =>
    have : d ≠ t := fun e => ht (by rw [hd, e])
    simp [Act.put, Za this]
theorem Know.put {listed : Array Bool} {i : Nat} {o : Oper} {v : Value} (hnd : JW ops.toList 0 = true) (hk : Know ops n l0 L I a listed) (ho : ops[i]? = some o) (hiI : i ∉ I) (hdn : ∀ d, o.dst = some d → Qy l0 d = none) : Know ops n l0 L I (a.put o.dst v) (listed.setIfInBounds i true) := by
  refine ⟨?_, ?_, fun t v hv => ?_, fun i' oi d hi' hoi hd hl => ?_⟩
  · cases o.dst with
    | none => exact hk.size
    | some d => simp [Act.put, hk.size]
  · cases o.dst with
    | none => exact hk.defers
    | some d => exact hk.defers
  · rw [put_keep (fun e => by rw [hdn t e] at hv; cases hv)]
    exact hk.old t v hv
  · have e : i ≠ i' := fun e => hiI (e ▸ hi')
    rw [put_keep (fun g => e ((YY _ _ hnd).2 i i' o oi d (by rw [ZL]; exact ho) (by rw [ZL]; exact hoi) g hd))]
    refine hk.new i' oi d hi' hoi hd ?_
    simp [Za e] at hl ⊢
    exact hl
/-- new variables, in whatever order -/
def Alc (ops : Array Oper) (A : List Nat) (cA : Nat → List Value) (tA : Nat → TypeId) (w0 : World) (L0 Lh : List Ent) (listed : Array Bool) (a : Act) (w : World) : Prop :=
  ∃ bs : List (Nat × Nat), (bs.map Prod.fst).Nodup ∧ (∀ i, i ∈ bs.map Prod.fst ↔ i ∈ A ∧ listed.getD i false = true) ∧ (∀ p ∈ bs, ∀ o d, ops[p.1]? = some o → o.dst = some d → a.tmps[d]? = some (.pointer (some ⟨p.2, 0, none⟩))) ∧ Ev w0 L0 w (Lh ++ bs.map fun p => .box p.2 (cA p.1) (tA p.1))
def alcB (ops : Array Oper) (I A : List Nat) : Bool := (I.all fun i => match ops[i]? with
    | some o => o.after.all fun e => !Region.binds .any e || I.contains e.on
    | none => false) && (A.all fun i => !I.contains i && (match opD ops i with | some _ => true | none => false)) && nodupB A
def dN (ops : Array Oper) (i : Nat) : Nat := (opD ops i).getD 0
theorem Alc.put {cA : Nat → List Value} {tA : Nat → TypeId} {listed : Array Bool} {i : Nat} {o : Oper} {v : Value} {w' : World} {bs : List (Nat × Nat)} (hnd : JW ops.toList 0 = true) (ho : ops[i]? = some o) (hiA : i ∉ A)
    (h1 : (bs.map Prod.fst).Nodup) (h2 : ∀ i, i ∈ bs.map Prod.fst ↔ i ∈ A ∧ listed.getD i false = true) (h3 : ∀ p ∈ bs, ∀ o d, ops[p.1]? = some o → o.dst = some d → a.tmps[d]? = some (.pointer (some ⟨p.2, 0, none⟩))) (h4 : Ev w0 L0 w' (Lh ++ bs.map fun p => .box p.2 (cA p.1) (tA p.1))) :
    Alc ops A cA tA w0 L0 Lh (listed.setIfInBounds i true) (a.put o.dst v) w' := by
  refine ⟨bs, h1, fun j => ?_, fun p hp o' d ho' hd => ?_, h4⟩
  · rw [h2 j]
    by_cases e : i = j
    · subst e
      exact ⟨fun h => absurd h.1 hiA, fun h => absurd h.1 hiA⟩
    · simp [Za e]
  · have hpA := ((h2 p.1).1 (Xk hp)).1
    have e : i ≠ p.1 := fun e => hiA (e ▸ hpA)
    rw [put_keep (fun g => e ((YY _ _ hnd).2 i p.1 o o' d (by rw [ZL]; exact ho) (by rw [ZL]; exact ho') g hd))]
    exact h3 p hp o' d ho' hd
/-- a new variable more -/
theorem Alc.step {cA : Nat → List Value} {tA : Nat → TypeId} {listed : Array Bool} {i : Nat} {o : Oper} (hnd : JW ops.toList 0 = true) (ho : ops[i]? = some o) (hiA : i ∈ A) (hiI : i ∉ I) (hs : listed.size = ops.size) (hiu : listed.getD i true = false)
    (hdn : ∀ d, o.dst = some d → Qy l0 d = none) (hk : Know ops n l0 L I a listed) (hA : Alc ops A cA tA w0 L0 Lh listed a w)
    (hop : opAt ops n i [] = some (.run (opD ops i) (nv (Instr.alloc (tA i) true (.tuple #[]))))) (hz : (fun w => (zeroValue (tA i)).run P w) = fun w => .ok (XO P (tA i)) w) (hc : (XO P (tA i)).cells.toList = cA i) (hsome : ∃ d, opD ops i = some d) :
    wpOp P ops Q i (fun a' w' => Know ops n l0 L I a' (listed.setIfInBounds i true) ∧ Alc ops A cA tA w0 L0 Lh (listed.setIfInBounds i true) a' w') a w := by
  obtain ⟨bs, h1, h2, h3, h4⟩ := hA
  have hil : i < listed.size := by rw [hs]; exact (Zt.1 ho).1
  have hif : listed.getD i false = false := by
    simp [hil] at hiu ⊢
    exact hiu
  have E0 : Env a n [] := ⟨hk.size, hk.defers, fun t v hv => by cases hv⟩
  have hrun : wpOp P ops Q i (fun a' w' => ∃ b, Env a' n (putl (opD ops i) (.pointer (some ⟨b, 0, none⟩)) []) ∧ Ev w0 L0 w' ((Lh ++ bs.map fun p => .box p.2 (cA p.1) (tA p.1)) ++ [.box b (cA i) (tA i)])) a w :=
    m_z (tA i) (cA i) E0 h4 (fun a' w' b E' H' => ⟨b, E', H'⟩) hop hz hc
  refine wpOp_mono (fun a' w' h => ?_) (wpOp_put ho (fun a' w' h => by obtain ⟨b, E', _⟩ := h; exact E'.defers) hrun)
  obtain ⟨⟨b, E', H'⟩, v, rfl⟩ := h
  obtain ⟨d, hd⟩ := hsome
  have hod : o.dst = some d := by
    unfold opD at hd
    rw [ho] at hd
    exact hd
  refine ⟨hk.put hnd ho hiI hdn, bs ++ [(i, b)], ?_, fun j => ?_, fun p hp o' d' ho' hd' => ?_, ?_⟩
  · rw [ZE, JH]
    refine ⟨h1, by simp, fun x hx y hy e => ?_⟩
    simp at hy
    have := ((h2 x).1 hx).2
    rw [e, hy, hif] at this
    cases this
  · rw [ZE, QY, h2 j]
    by_cases e : i = j
    · subst e
      simp [hil, hiA]
    · have e' : j ≠ i := fun g => e g.symm
      simp [Za e, e']
  · rcases QY.1 hp with hp | hp
    · have hpl := ((h2 p.1).1 (Xk hp)).2
      have e : i ≠ p.1 := fun e => by rw [← e, hif] at hpl; cases hpl
      rw [put_keep (fun g => e ((YY _ _ hnd).2 i p.1 o o' d' (by rw [ZL]; exact ho) (by rw [ZL]; exact ho') g hd'))]
      exact h3 p hp o' d' ho' hd'
    · simp at hp
      subst hp
      rw [ho] at ho'
      cases ho'
      rw [hod] at hd'
      cases hd'
      refine E'.slot d _ ?_
      rw [hd]
      exact YW _ _ _
  · rw [ZE, ← List.append_assoc]
    exact H'
def blkOf (bs : List (Nat × Nat)) (i : Nat) : Nat := ((bs.find? fun p => p.1 == i).map Prod.snd).getD 0
theorem look_alc {ops : Array Oper} {B : Nat → Nat} {l' : List (Nat × Value)} {t : Nat} {v : Value} : ∀ (A : List Nat), Qy ((A.map fun i => (dN ops i, Value.pointer (some ⟨B i, 0, none⟩))) ++ l') t = some v → (∃ i ∈ A, dN ops i = t ∧ v = .pointer (some ⟨B i, 0, none⟩)) ∨ Qy l' t = some v
  | [], h => .inr h
  | i :: r, h => by
    rw [QF, List.cons_append] at h
    by_cases e : dN ops i = t
    · left
      refine ⟨i, QE .., e, ?_⟩
      subst e
      rw [YW] at h
      cases h
      rfl
    · rw [look_other _ _ e] at h
      rcases look_alc r h with ⟨j, hj, h1⟩ | h1
      · exact .inl ⟨j, Ql _ hj, h1⟩
      · exact .inr h1
end
section
variable {P : Program} {ops : Array Oper} {Q : Exit → Act → World → Prop} {n : Nat} {l0 L : List (Nat × Value)} {I A : List Nat} {a : Act} {w w0 : World} {L0 Lh : List Ent}
/-- in the order of the text -/
theorem Alc.order {cA : Nat → List Value} {tA : Nat → TypeId} {listed : Array Bool} (hA : Alc ops A cA tA w0 L0 Lh listed a w) (hnA : A.Nodup) (hl : ∀ i ∈ A, listed.getD i false = true) (hd : ∀ i ∈ A, ∃ o d, ops[i]? = some o ∧ o.dst = some d) :
    ∃ B : Nat → Nat, (∀ i ∈ A, a.tmps[dN ops i]? = some (.pointer (some ⟨B i, 0, none⟩))) ∧ Ev w0 L0 w (Lh ++ A.map fun i => .box (B i) (cA i) (tA i)) := by
  obtain ⟨bs, h1, h2, h3, h4⟩ := hA
  have hB : ∀ i ∈ A, ∃ k, ∃ p : Nat × Nat, bs[k]? = some p ∧ p.1 = i ∧ blkOf bs i = p.2 := fun i hi => by
    have hm := (h2 i).2 ⟨hi, hl i hi⟩
    obtain ⟨p0, hp0, e0⟩ := YJ.1 hm
    have hf : ∃ p, bs.find? (fun p => p.1 == i) = some p := by
      cases h : bs.find? (fun p => p.1 == i) with
      | some p => exact ⟨p, rfl⟩
      | none => exact absurd (List.find?_eq_none.1 h p0 hp0) (by simp [e0])
    obtain ⟨p, hp⟩ := hf
    have hpm := List.mem_of_find?_eq_some hp
    have hpe := List.find?_some hp
    obtain ⟨k, hk⟩ := List.getElem?_of_mem hpm
    refine ⟨k, p, hk, by simpa using hpe, ?_⟩
    unfold blkOf
    rw [hp]
    rfl
  refine ⟨blkOf bs, fun i hi => ?_, ?_⟩
  · obtain ⟨k, p, hk, hp, hb⟩ := hB i hi
    obtain ⟨o, d, ho, hdd⟩ := hd i hi
    rw [hb]
    refine h3 p (List.mem_of_getElem? hk) o (dN ops i) (by rw [hp]; exact ho) ?_
    unfold dN opD
    rw [ho]
    simp [hdd]
  · have ix : ∀ (A' : List Nat), (∀ i ∈ A', i ∈ A) → A'.Nodup → ∃ ks : List Nat, (∀ k ∈ ks, ∃ p : Nat × Nat, bs[k]? = some p ∧ p.1 ∈ A') ∧ ks.Nodup ∧ (A'.map fun i => some (Ent.box (blkOf bs i) (cA i) (tA i))) = ks.map fun k => (bs.map fun p => Ent.box p.2 (cA p.1) (tA p.1))[k]? := fun A' => by
      induction A' with
      | nil => exact fun _ _ => ⟨[], by simp, Xb, rfl⟩
      | cons i r ih =>
        intro hs hn
        obtain ⟨ks, h5, h6, h7⟩ := ih (fun j hj => hs j (Ql _ hj)) (Jp.1 hn).2
        obtain ⟨k, p, hk, hp, hb⟩ := hB i (hs i (QE ..))
        refine ⟨k :: ks, fun j hj => ?_, Jp.2 ⟨fun hm => ?_, h6⟩, ?_⟩
        · rcases Qo.1 hj with rfl | hj
          · exact ⟨p, hk, by rw [hp]; exact QE ..⟩
          · obtain ⟨q, hq, hq2⟩ := h5 j hj
            exact ⟨q, hq, Ql _ hq2⟩
        · obtain ⟨q, hq, hq2⟩ := h5 k hm
          rw [hk] at hq
          cases hq
          rw [hp] at hq2
          exact (Jp.1 hn).1 hq2
        · rw [QF, QF, h7, List.getElem?_map, hk]
          simp [hp, hb]
    obtain ⟨ks, h5, h6, h7⟩ := ix A (fun _ h => h) hnA
    refine h4.pick ((QS Lh.length) ++ ks.map (Lh.length + ·)) ?_ ?_
    · rw [ZE, ZE, JU]
      congr 1
      · refine List.ext_getElem? fun j => ?_
        rcases Z9 j Lh.length with h | h
        · simp [h, zP]
        · simp [h]
      · rw [JU]
        refine Eq.trans (by rfl) (h7.trans ?_)
        refine List.map_congr_left fun k hk => ?_
        show _ = (Lh ++ bs.map fun p => Ent.box p.2 (cA p.1) (tA p.1))[Lh.length + k]?
        rw [zW (Nat.le_add_right _ _), Nat.add_sub_cancel_left]
    · rw [JH]
      refine ⟨List.nodup_range, ?_, fun x hx y hy e => ?_⟩
      · exact List.Pairwise.map _ (fun x y h g => h (by simpa using g)) h6
      · obtain ⟨k, _, rfl⟩ := YJ.1 hy
        have := List.mem_range.1 hx
        omega
def alcOk (P : Program) (ops : Array Oper) (n : Nat) (cA : Nat → List Value) (tA : Nat → TypeId) (i : Nat) : Prop :=
  opAt ops n i [] = some (.run (opD ops i) (nv (Instr.alloc (tA i) true (.tuple #[])))) ∧ ((fun w => (zeroValue (tA i)).run P w) = fun w => .ok (XO P (tA i)) w) ∧ (XO P (tA i)).cells.toList = cA i
/-- a drawn region: what is stable and what makes variables first, whatever the order -/
theorem s_gen {F : Act → World → Prop} {id : Nat} (cA : Nat → List Value) (tA : Nat → TypeId) (m' : Nat) (l' : List (Nat × Value)) (E : Env a n l0) (H : Ev w0 L0 w.drew Lh) (hst : StabL P ops (HQ F) n w0 L0 Lh l0 L I) (hal : ∀ i ∈ A, alcOk P ops n cA tA i)
    (next : ∀ a' w' (B : Nat → Nat), Env a' n ((A.map fun i => (dN ops i, Value.pointer (some ⟨B i, 0, none⟩))) ++ l') → Ev w0 L0 w' (Lh ++ A.map fun i => .box (B i) (cA i) (tA i)) → wpAny P .any ops (HQ F) m' (LI ops (I ++ A)) a' w')
    (hp : P.follows .mixedOrders = true) (hB : stabB ops (I ++ A) l0 = true) (hC : alcB ops I A = true) (hl : l'.map (fun p => srcE ops I l0 L p.1) = l'.map (fun p => some p.2)) (hm : cntF (LI ops (I ++ A)) = m') : (Code.region id ops true).wp P (HQ F) a w := by
  have hB' := hB
  unfold stabB at hB'
  simp only [zX, z8] at hB'
  have hnd := hB'.1.1.1
  have key : ∀ i ∈ I ++ A, ∃ o, ops[i]? = some o := fun i hi => by
    have h := hB'.1.1.2 i hi
    unfold inB at h
    cases ho : ops[i]? with
    | none => rw [ho] at h; cases h
    | some o => exact ⟨o, rfl⟩
  unfold alcB at hC
  simp only [zX, z8] at hC
  have hIA : ∀ i ∈ A, i ∉ I := fun i hi h => by
    have := (hC.1.2 i hi).1
    rw [Zg.2 h] at this
    cases this
  have hAd : ∀ i ∈ A, ∃ o d, ops[i]? = some o ∧ o.dst = some d := fun i hi => by
    obtain ⟨o, ho⟩ := key i (J5 _ hi)
    have h := (hC.1.2 i hi).2
    unfold opD at h
    rw [ho] at h
    cases hd : o.dst with
    | none => simp [hd] at h
    | some d => exact ⟨o, d, ho, hd⟩
  have hlist : ∀ i ∈ I ++ A, (LI ops (I ++ A)).getD i false = true := fun i hi => by
    obtain ⟨o, ho⟩ := key i hi
    have hib := (Zt.1 ho).1
    simp only [QY] at hi
    simp [LI, hib, hi]
  refine draw_any hp ops.size rfl ?_
  refine stab_go (J := fun listed a w => Know ops n l0 L I a listed ∧ Alc ops A cA tA w0 L0 Lh listed a w) hB (fun i hi listed a w o ho hs hiu haf hdn hJ => ?_) (fun a' w' hJ => ?_) ops.size (Array.replicate ops.size false) a w.drew (by simp [cntF, List.countP_replicate]) (by simp) (fun j hj => ?_) ?_ ⟨⟨E.size, E.defers, E.slot, fun i o d hi ho hd hl => ?_⟩, [], Xb, fun i => ?_, (fun p hp => by cases hp), (by rw [XU, Zw]; exact H)⟩
  · obtain ⟨hk, hA⟩ := hJ
    rcases QY.1 hi with hi | hi
    · obtain ⟨bs, h1, h2, h3, h4⟩ := hA
      have haf' : ∀ e ∈ o.after, Region.binds .any e = true → e.on ∈ I ∧ listed.getD e.on false = true := fun e he hb => by
        have h := hC.1.1 i hi
        rw [ho] at h
        have h1 := (Q5.1 h) e he
        rw [hb] at h1
        exact ⟨Zg.1 (by simpa using h1), (haf e he hb).2⟩
      refine wpOp_mono (fun a' w' h => ?_) (stab_step hnd hi (hst.all i hi (bs.map fun p => .box p.2 (cA p.1) (tA p.1))) ho hs hiu haf' hdn hk h4)
      obtain ⟨hk', hS', v, rfl⟩ := h
      exact ⟨hk', Alc.put hnd ho (fun h => hIA i h hi) h1 h2 h3 hS'⟩
    · obtain ⟨h1, h2, h3⟩ := hal i hi
      obtain ⟨o', d, ho', hd⟩ := hAd i hi
      exact Alc.step hnd ho hi (hIA i hi) hs hiu hdn hk hA h1 h2 h3 ⟨d, by unfold opD; rw [ho']; exact hd⟩
  · obtain ⟨hk, hA⟩ := hJ
    obtain ⟨B, hB1, hB2⟩ := Alc.order hA (nodup_of hC.2) (fun i hi => hlist i (J5 _ hi)) hAd
    rw [hm]
    have E' := hk.env (fun i hi => hlist i (List.mem_append_left _ hi)) hl
    refine next a' w' B ⟨E'.size, E'.defers, fun t v hv => ?_⟩ hB2
    rcases look_alc A hv with ⟨i, hi, rfl, rfl⟩ | h
    · exact hB1 i hi
    · exact E'.slot t v h
  · rcases Z9 j ops.size with h | h
    · simp [h] at hj
    · simp [h] at hj
  · intro j o hj hl
    rcases Z9 j ops.size with h | h
    · simp [h] at hl
    · simp [h] at hl
  · rcases Z9 i ops.size with h | h
    · simp [h] at hl
    · simp [h] at hl
  · rcases Z9 i ops.size with h | h
    · simp [h]
    · simp [h]
/-- cells of a variable that an operation makes -/
def cAl (P : Program) (ops : Array Oper) (i : Nat) : List Value := (XO P (YP ops i)).cells.toList
theorem s_g0 {F : Act → World → Prop} {id : Nat} (l0 : List (Nat × Value)) (I : List Nat) (L : List (Nat × Value)) (m' : Nat) (l' : List (Nat × Value)) (E : Env a n l0) (H : Ev w0 L0 w.drew Lh) (hst : StabL P ops (HQ F) n w0 L0 Lh l0 L I)
    (next : ∀ a' w', Env a' n (l') → Ev w0 L0 w' Lh → wpAny P .any ops (HQ F) m' (LI ops (I ++ [])) a' w')
    (hp : P.follows .mixedOrders = true := by kernel_rfl) (hB : stabB ops (I ++ []) l0 = true := by kernel_rfl) (hC : alcB ops I [] = true := by kernel_rfl) (hl : l'.map (fun p => srcE ops I l0 L p.1) = l'.map (fun p => some p.2) := by kernel_rfl) (hm : cntF (LI ops (I ++ [])) = m' := by kernel_rfl) : (Code.region id ops true).wp P (HQ F) a w := by
  exact s_gen (A := []) (cAl P ops) (YP ops) m' l' E H hst (fun i hi => by cases hi) (fun a' w' B E' H' => next a' w' E' (by rw [XU, Zw] at H'; exact H')) hp hB hC hl hm
theorem s_g1 {F : Act → World → Prop} {id : Nat} (l0 : List (Nat × Value)) (I : List Nat) (L : List (Nat × Value)) (m' : Nat) (l' : List (Nat × Value)) (i1 : Nat) (c1 : List Value) (E : Env a n l0) (H : Ev w0 L0 w.drew Lh) (hst : StabL P ops (HQ F) n w0 L0 Lh l0 L I)
    (next : ∀ a' w' (b1 : Nat), Env a' n ((dN ops i1, .pointer (some ⟨b1, 0, none⟩)) :: l') → Ev w0 L0 w' (Lh ++ [.box b1 c1 (YP ops i1)]) → wpAny P .any ops (HQ F) m' (LI ops (I ++ [i1])) a' w')
    (hp : P.follows .mixedOrders = true := by kernel_rfl) (hB : stabB ops (I ++ [i1]) l0 = true := by kernel_rfl) (hC : alcB ops I [i1] = true := by kernel_rfl) (hl : l'.map (fun p => srcE ops I l0 L p.1) = l'.map (fun p => some p.2) := by kernel_rfl) (hm : cntF (LI ops (I ++ [i1])) = m' := by kernel_rfl) (e1 : alcOk P ops n (cAl P ops) (YP ops) i1 := by exact ⟨by kernel_rfl, by kernel_rfl, rfl⟩) (f1 : cAl P ops i1 = c1 := by kernel_rfl) : (Code.region id ops true).wp P (HQ F) a w := by
  subst f1
  exact s_gen (A := [i1]) (cAl P ops) (YP ops) m' l' E H hst (fun i hi => by simp only [Qo, z3, or_false] at hi; rcases hi with rfl <;> assumption) (fun a' w' B E' H' => next a' w' (B i1) E' H') hp hB hC hl hm
theorem s_g4 {F : Act → World → Prop} {id : Nat} (l0 : List (Nat × Value)) (I : List Nat) (L : List (Nat × Value)) (m' : Nat) (l' : List (Nat × Value)) (i1 i2 i3 i4 : Nat) (c1 c2 c3 c4 : List Value) (E : Env a n l0) (H : Ev w0 L0 w.drew Lh) (hst : StabL P ops (HQ F) n w0 L0 Lh l0 L I)
    (next : ∀ a' w' (b1 b2 b3 b4 : Nat), Env a' n ((dN ops i1, .pointer (some ⟨b1, 0, none⟩)) :: (dN ops i2, .pointer (some ⟨b2, 0, none⟩)) :: (dN ops i3, .pointer (some ⟨b3, 0, none⟩)) :: (dN ops i4, .pointer (some ⟨b4, 0, none⟩)) :: l') → Ev w0 L0 w' (Lh ++ [.box b1 c1 (YP ops i1), .box b2 c2 (YP ops i2), .box b3 c3 (YP ops i3), .box b4 c4 (YP ops i4)]) → wpAny P .any ops (HQ F) m' (LI ops (I ++ [i1, i2, i3, i4])) a' w')
    (hp : P.follows .mixedOrders = true := by kernel_rfl) (hB : stabB ops (I ++ [i1, i2, i3, i4]) l0 = true := by kernel_rfl) (hC : alcB ops I [i1, i2, i3, i4] = true := by kernel_rfl) (hl : l'.map (fun p => srcE ops I l0 L p.1) = l'.map (fun p => some p.2) := by kernel_rfl) (hm : cntF (LI ops (I ++ [i1, i2, i3, i4])) = m' := by kernel_rfl) (e1 : alcOk P ops n (cAl P ops) (YP ops) i1 := by exact ⟨by kernel_rfl, by kernel_rfl, rfl⟩) (f1 : cAl P ops i1 = c1 := by kernel_rfl) (e2 : alcOk P ops n (cAl P ops) (YP ops) i2 := by exact ⟨by kernel_rfl, by kernel_rfl, rfl⟩) (f2 : cAl P ops i2 = c2 := by kernel_rfl) (e3 : alcOk P ops n (cAl P ops) (YP ops) i3 := by exact ⟨by kernel_rfl, by kernel_rfl, rfl⟩) (f3 : cAl P ops i3 = c3 := by kernel_rfl) (e4 : alcOk P ops n (cAl P ops) (YP ops) i4 := by exact ⟨by kernel_rfl, by kernel_rfl, rfl⟩) (f4 : cAl P ops i4 = c4 := by kernel_rfl) : (Code.region id ops true).wp P (HQ F) a w := by
  subst f1 f2 f3 f4
  exact s_gen (A := [i1, i2, i3, i4]) (cAl P ops) (YP ops) m' l' E H hst (fun i hi => by simp only [Qo, z3, or_false] at hi; rcases hi with rfl | rfl | rfl | rfl <;> assumption) (fun a' w' B E' H' => next a' w' (B i1) (B i2) (B i3) (B i4) E' H') hp hB hC hl hm
theorem app_at {M : List Ent} {k : Nat} {e : Ent} (h : Lh[k]? = some e) : (Lh ++ M)[k]? = some e := by rw [zP (List.getElem?_eq_some_iff.1 h).1]; exact h
theorem s_n : StabL P ops Q n w0 L0 Lh l0 L [] := trivial
/-- an operation, whatever it is -/
theorem s_c {i : Nat} {r : List Nat} (h : ∀ M a w, Env a n (envI ops l0 L i) → Ev w0 L0 w (Lh ++ M) → wpOp P ops Q i (fun a' w' => Env a' n (oneL ops L i) ∧ Ev w0 L0 w' (Lh ++ M)) a w) (hr : StabL P ops Q n w0 L0 Lh l0 L r)
    (hE : (envI ops l0 L i).map (fun p => srcOf ops l0 L i p.1) = (envI ops l0 L i).map (fun p => some p.2) := by kernel_rfl) : StabL P ops Q n w0 L0 Lh l0 L (i :: r) := ⟨fun M => ⟨_, hE, h M⟩, hr⟩
/-- a function that changes nothing -/
theorem s_f {i : Nat} {r : List Nat} {f : FuncId} {args : Array Value} {v : Value} (hc : ∀ w, Calls P f args w fun e w' => e = .returned v ∧ Ev w [] w' []) (hr : StabL P ops Q n w0 L0 Lh l0 L r)
    (h : opRuns P ops n i (envI ops l0 L i) = some (opD ops i, fun w => .ok (.enter f args) w) := by kernel_rfl)
    (h1 : (oneL ops L i).map (fun p => Qy (putl (opD ops i) v (envI ops l0 L i)) p.1) = (oneL ops L i).map (fun p => some p.2) := by kernel_rfl)
    (hE : (envI ops l0 L i).map (fun p => srcOf ops l0 L i p.1) = (envI ops l0 L i).map (fun p => some p.2) := by kernel_rfl) : StabL P ops Q n w0 L0 Lh l0 L (i :: r) :=
  s_c (fun M a w E H => c_p E H (hc w) (fun a' w' E' H' => ⟨E'.sub h1, H'⟩) h) hr hE
/-- an operation without memory -/
theorem s_p {i : Nat} {r : List Nat} (fs : List (Nat × FV)) (hr : StabL P ops Q n w0 L0 Lh l0 L r)
    (h : (fun w => resA P ops n w (envI ops l0 L i) i) = (fun w => expA P ops n fs w (envI ops l0 L i) i) := by kernel_rfl)
    (h1 : (oneL ops L i).map (fun p => Qy (nextL P ops n fs (envI ops l0 L i) i) p.1) = (oneL ops L i).map (fun p => some p.2) := by kernel_rfl)
    (hE : (envI ops l0 L i).map (fun p => srcOf ops l0 L i p.1) = (envI ops l0 L i).map (fun p => some p.2) := by kernel_rfl) : StabL P ops Q n w0 L0 Lh l0 L (i :: r) :=
  s_c (fun M a w E H => by
    have h2 := congrFun h w
    unfold resA expA at h2
    have go : ∀ a', Env a' n (nextL P ops n fs (envI ops l0 L i) i) → Env a' n (oneL ops L i) ∧ Ev w0 L0 w (Lh ++ M) := fun a' E' => ⟨E'.sub h1, H⟩
    unfold nextL at go
    cases ho : opAt ops n i (envI ops l0 L i) with
    | none => simp [ho] at h2
    | some x =>
      cases x with
      | run d s =>
        simp only [ho, Option.some.injEq] at h2 go
        rw [raw_fin] at h2
        exact any_run E ho h2 go
      | skip d =>
        simp only [ho] at go
        obtain ⟨o, hq, hw, rfl, hf⟩ := opAt_skip E ho
        simp only [wpOp, hq, hw, Bool.false_eq_true, if_false]
        exact go _ (E.put undef hf)) hr hE
/-- a load of several cells -/
theorem s_a {i : Nat} {r : List Nat} (k off m : Nat) (xs : List Value) {b : Nat} {cs : List Value} {T : TypeId} (hk : Lh[k]? = some (.box b cs T)) (hx : (cs.drop off).take m = xs) (hm : xs.length = m) (hr : StabL P ops Q n w0 L0 Lh l0 L r)
    (h : opAt ops n i (envI ops l0 L i) = some (.run (opD ops i) (nv (Instr.loadAt (YP ops i) (.pointer (some ⟨b, off, none⟩))))) := by kernel_rfl)
    (ht : (fun w => (isAgg (YP ops i)).run P w) = fun w => .ok true w := by kernel_rfl) (hs : (fun w => (sizeOf (YP ops i)).run P w) = fun w => .ok m w := by kernel_rfl)
    (h1 : (oneL ops L i).map (fun p => Qy (putl (opD ops i) (.agg xs.toArray) (envI ops l0 L i)) p.1) = (oneL ops L i).map (fun p => some p.2) := by kernel_rfl)
    (hE : (envI ops l0 L i).map (fun p => srcOf ops l0 L i p.1) = (envI ops l0 L i).map (fun p => some p.2) := by kernel_rfl) : StabL P ops Q n w0 L0 Lh l0 L (i :: r) :=
  s_c (fun M a w E H => m_a k off m xs E H (app_at hk) hx hm (fun a' E' => ⟨E'.sub h1, H⟩) h ht hs) hr hE
/-- what is left of it -/
theorem s_e {i : Nat} {l : List (Nat × Value)} {a' : Act} {w' : World} {Lh : List Ent} (E : Env a' n l) (H : Ev w0 L0 w' Lh) (h1 : (oneL ops L i).map (fun p => Qy l p.1) = (oneL ops L i).map (fun p => some p.2) := by kernel_rfl) : Env a' n (oneL ops L i) ∧ Ev w0 L0 w' Lh := ⟨E.sub h1, H⟩
end
end Go.Dbr

/- Layer 12: points together, as the program reckons. -/



namespace Go.Proofs.YtlnogkmnklfjlaaDoor
open Go.Dbr
set_option maxRecDepth 100000
set_option maxHeartbeats 2000000
set_option linter.unusedVariables false
set_option linter.unusedSimpArgs false

theorem nv_m1 (x y : Nat) : nv (nd (zt 1 x y)) = zt 1 x y := Qd (mulM_lt h1f x y)
theorem nv_a1 (x y : Nat) : nv (nd (ZA 1 x y)) = ZA 1 x y := Qd (addM_lt h1f x y)
theorem nv_s1 (x y : Nat) : nv (nd (Zd 1 x y)) = Zd 1 x y := Qd (subM_lt h1f x y)
theorem nv_d2 : nv (nd D2N) = D2N := Qd (by decide)
theorem nv_dn : nv (nd DN) = DN := Qd (by decide)
theorem nv_iv (x : Nat) : nv (nd (powM 1 x (mF 1 - 2))) = ivE x := Qd (powM_lt h1f x _)
theorem cut16 (p : L4) : zh (p.take 4) ++ (zh ((p.drop 4).take 4) ++ (zh ((p.drop 8).take 4) ++ zh (p.drop 12))) = zh p := by
  unfold zh
  rw [← ZE, ← ZE, ← ZE]
  congr 1
  have h : p.drop 8 = (p.drop 4).drop 4 := by rw [Qw]
  have h2 : p.drop 12 = (p.drop 8).drop 4 := by rw [Qw]
  rw [h2, QV, h, QV, QV]
theorem cat16 (a b c d : L4) : zh a ++ (zh b ++ (zh c ++ zh d)) = zh (a ++ (b ++ (c ++ d))) := by
  unfold zh
  rw [ZE, ZE, ZE]
theorem ret4 {x y z t x' y' z' t' : List UInt64} (h1 : x = x') (h2 : y = y') (h3 : z = z') (h4 : t = t') : Ending.returned (.agg (zi ((zh x) ++ ((zh y) ++ ((zh z) ++ (zh t)))))) = Ending.returned (.agg (zi ((zh x') ++ ((zh y') ++ ((zh z') ++ (zh t')))))) := by rw [h1, h2, h3, h4]

theorem emul_go (w : World) (a b : List UInt64) (ha : za a = 4) (hb : za b = 4) : Calls Tryd.prog 31 #[.agg (zi (zh a)), .agg (zi (zh b))] w fun e w' => e = .returned (.agg (zi (zh (nd (zt 1 (nv a) (nv b)))))) ∧ Ev w [] w' [] := by
 refine d_0 [(0, .agg (zi (zh a))), (1, .agg (zi (zh b)))] 8 Go.Proofs.Tryd.func31 Go.Proofs.Tryd.ntmps31 (Heap.nil _) fun act0 En0 Hv0 => ?_
 refine wp_seq <| zm <| f_o <| m_m 34 (zh a) En0 Hv0 fun _ _ bk1 En4 Hv5 => ?_
 refine f_o <| m_m 34 (zh b) En4 Hv5 fun _ _ bk6 En9 Hv10 => ?_
 refine f_o <| m_z 34 (zh (ze 4 0)) En9 Hv10 fun _ _ bk11 En14 Hv15 => ?_
 refine f_e <| zg <| wp_seq <| zm <| f_o <| m_a 0 0 4 (zh a) En14 Hv15 rfl (zq (zc ha)) (zc ha) fun _ En17 => ?_
 refine f_o <| m_a 1 0 4 (zh b) En17 Hv15 rfl (zq (zc hb)) (zc hb) fun _ En19 => ?_
 refine f_o <| c_p En19 Hv15 (hM1 _ a b ha hb) fun _ _ En25 Hv26 => ?_
 refine f_o <| m_g 2 0 4 (zh (nd (zt 1 (nv a) (nv b)))) _ [.box bk1 (zh a) 34, .box bk6 (zh b) 34, .box bk11 (zh (nd (zt 1 (nv a) (nv b)))) 34] En25 Hv26 rfl (zc (zl _ _)) (by rw [(zc (zf))]; first | decide | (simp; done)) (zv _) (zs (zc (zf))) rfl fun _ _ En29 Hv30 => ?_
 refine f_e <| zg <| wp_ret <| Zj (v := .agg (zi (zh (nd (zt 1 (nv a) (nv b)))))) (t := 4) (T := 34) (ad := ⟨bk11, 0, none⟩) En29 (by kernel_rfl) (by kernel_rfl) (zM (t := 34) (k := 2) (off := 0) (m := 4) (xs := zh (nd (zt 1 (nv a) (nv b)))) Hv30 rfl (zq (zc (zl _ _))) (zc (zl _ _)) (by kernel_rfl) (by kernel_rfl)) ?_
 exact ⟨rfl, Hv30.pk []⟩

theorem esum_go (w : World) (a b : List UInt64) (ha : za a = 4) (hb : za b = 4) : Calls Tryd.prog 36 #[.agg (zi (zh a)), .agg (zi (zh b))] w fun e w' => e = .returned (.agg (zi (zh (nd (ZA 1 (nv a) (nv b)))))) ∧ Ev w [] w' [] := by
 refine d_0 [(0, .agg (zi (zh a))), (1, .agg (zi (zh b)))] 8 Go.Proofs.Tryd.func36 Go.Proofs.Tryd.ntmps36 (Heap.nil _) fun act0 En0 Hv0 => ?_
 refine wp_seq <| zm <| f_o <| m_m 34 (zh a) En0 Hv0 fun _ _ bk1 En4 Hv5 => ?_
 refine f_o <| m_m 34 (zh b) En4 Hv5 fun _ _ bk6 En9 Hv10 => ?_
 refine f_o <| m_z 34 (zh (ze 4 0)) En9 Hv10 fun _ _ bk11 En14 Hv15 => ?_
 refine f_e <| zg <| wp_seq <| zm <| f_o <| m_a 0 0 4 (zh a) En14 Hv15 rfl (zq (zc ha)) (zc ha) fun _ En17 => ?_
 refine f_o <| m_a 1 0 4 (zh b) En17 Hv15 rfl (zq (zc hb)) (zc hb) fun _ En19 => ?_
 refine f_o <| c_p En19 Hv15 (add_go _ 1 h1f a b ha hb) fun _ _ En25 Hv26 => ?_
 refine f_o <| m_g 2 0 4 (zh (nd (ZA 1 (nv a) (nv b)))) _ [.box bk1 (zh a) 34, .box bk6 (zh b) 34, .box bk11 (zh (nd (ZA 1 (nv a) (nv b)))) 34] En25 Hv26 rfl (zc (zl _ _)) (by rw [(zc (zf))]; first | decide | (simp; done)) (zv _) (zs (zc (zf))) rfl fun _ _ En29 Hv30 => ?_
 refine f_e <| zg <| wp_ret <| Zj (v := .agg (zi (zh (nd (ZA 1 (nv a) (nv b)))))) (t := 4) (T := 34) (ad := ⟨bk11, 0, none⟩) En29 (by kernel_rfl) (by kernel_rfl) (zM (t := 34) (k := 2) (off := 0) (m := 4) (xs := zh (nd (ZA 1 (nv a) (nv b)))) Hv30 rfl (zq (zc (zl _ _))) (zc (zl _ _)) (by kernel_rfl) (by kernel_rfl)) ?_
 exact ⟨rfl, Hv30.pk []⟩

theorem edif_go (w : World) (a b : List UInt64) (ha : za a = 4) (hb : za b = 4) : Calls Tryd.prog 35 #[.agg (zi (zh a)), .agg (zi (zh b))] w fun e w' => e = .returned (.agg (zi (zh (nd (Zd 1 (nv a) (nv b)))))) ∧ Ev w [] w' [] := by
 refine d_0 [(0, .agg (zi (zh a))), (1, .agg (zi (zh b)))] 8 Go.Proofs.Tryd.func35 Go.Proofs.Tryd.ntmps35 (Heap.nil _) fun act0 En0 Hv0 => ?_
 refine wp_seq <| zm <| f_o <| m_m 34 (zh a) En0 Hv0 fun _ _ bk1 En4 Hv5 => ?_
 refine f_o <| m_m 34 (zh b) En4 Hv5 fun _ _ bk6 En9 Hv10 => ?_
 refine f_o <| m_z 34 (zh (ze 4 0)) En9 Hv10 fun _ _ bk11 En14 Hv15 => ?_
 refine f_e <| zg <| wp_seq <| zm <| f_o <| m_a 0 0 4 (zh a) En14 Hv15 rfl (zq (zc ha)) (zc ha) fun _ En17 => ?_
 refine f_o <| m_a 1 0 4 (zh b) En17 Hv15 rfl (zq (zc hb)) (zc hb) fun _ En19 => ?_
 refine f_o <| c_p En19 Hv15 (sub_go _ 1 h1f a b ha hb) fun _ _ En25 Hv26 => ?_
 refine f_o <| m_g 2 0 4 (zh (nd (Zd 1 (nv a) (nv b)))) _ [.box bk1 (zh a) 34, .box bk6 (zh b) 34, .box bk11 (zh (nd (Zd 1 (nv a) (nv b)))) 34] En25 Hv26 rfl (zc (zl _ _)) (by rw [(zc (zf))]; first | decide | (simp; done)) (zv _) (zs (zc (zf))) rfl fun _ _ En29 Hv30 => ?_
 refine f_e <| zg <| wp_ret <| Zj (v := .agg (zi (zh (nd (Zd 1 (nv a) (nv b)))))) (t := 4) (T := 34) (ad := ⟨bk11, 0, none⟩) En29 (by kernel_rfl) (by kernel_rfl) (zM (t := 34) (k := 2) (off := 0) (m := 4) (xs := zh (nd (Zd 1 (nv a) (nv b)))) Hv30 rfl (zq (zc (zl _ _))) (zc (zl _ _)) (by kernel_rfl) (by kernel_rfl)) ?_
 exact ⟨rfl, Hv30.pk []⟩

theorem twiceD_go (w : World) : Calls Tryd.prog 32 #[] w fun e w' => e = .returned (.agg (zi (zh (nd D2N)))) ∧ Ev w [] w' [] := by
 refine d_0 [] 2 Go.Proofs.Tryd.func32 Go.Proofs.Tryd.ntmps32 (Heap.nil _) fun act0 En0 Hv0 => ?_
 refine wp_seq <| zm <| f_o <| m_z 34 (zh (ze 4 0)) En0 Hv0 fun _ _ bk1 En4 Hv5 => ?_
 refine f_e <| zg <| wp_seq <| zm <| d_k [0,1] [] 1 En4 fun _ En7 => ?_
 refine f_o <| m_g 0 0 4 (zh ([16993941304535871833, 63073048630374742, 1841551078520508720, 2596001775599221991] : List UInt64)) _ [.box bk1 (zh ([16993941304535871833, 63073048630374742, 1841551078520508720, 2596001775599221991] : List UInt64)) 34] En7 Hv5 rfl (zc (show za ([16993941304535871833, 63073048630374742, 1841551078520508720, 2596001775599221991] : List UInt64) = 4 from rfl)) (by rw [(zc (zf))]; first | decide | (simp; done)) (zv _) (zs (zc (zf))) rfl fun _ _ En10 Hv11 => ?_
 refine f_e <| zg <| wp_ret <| Zj (v := .agg (zi (zh ([16993941304535871833, 63073048630374742, 1841551078520508720, 2596001775599221991] : List UInt64)))) (t := 0) (T := 34) (ad := ⟨bk1, 0, none⟩) En10 (by kernel_rfl) (by kernel_rfl) (zM (t := 34) (k := 0) (off := 0) (m := 4) (xs := zh ([16993941304535871833, 63073048630374742, 1841551078520508720, 2596001775599221991] : List UInt64)) Hv11 rfl (zq (zc (show za ([16993941304535871833, 63073048630374742, 1841551078520508720, 2596001775599221991] : List UInt64) = 4 from rfl))) (zc (show za ([16993941304535871833, 63073048630374742, 1841551078520508720, 2596001775599221991] : List UInt64) = 4 from rfl)) (by kernel_rfl) (by kernel_rfl)) ?_
 exact ⟨by kernel_rfl, Hv11.pk []⟩

theorem nothing_go (w : World) : Calls Tryd.prog 47 #[] w fun e w' => e = .returned (.agg (zi (zh zero16))) ∧ Ev w [] w' [] := by
 refine d_0 [] 4 Go.Proofs.Tryd.func47 Go.Proofs.Tryd.ntmps47 (Heap.nil _) fun act0 En0 Hv0 => ?_
 refine wp_seq <| zm <| f_o <| m_z 43 ((zh (ze 4 0)) ++ ((zh (ze 4 0)) ++ ((zh (ze 4 0)) ++ (zh (ze 4 0))))) En0 Hv0 fun _ _ bk1 En4 Hv5 => ?_
 refine f_e <| zg <| wp_seq <| zm <| d_k [0,3] [] 3 En4 fun _ En7 => ?_
 refine f_o <| m_g 0 0 16 ((zh (ze 4 0)) ++ ((zh ([1, 0, 0, 0] : List UInt64)) ++ ((zh ([1, 0, 0, 0] : List UInt64)) ++ (zh (ze 4 0))))) _ [.box bk1 ((zh (ze 4 0)) ++ ((zh ([1, 0, 0, 0] : List UInt64)) ++ ((zh ([1, 0, 0, 0] : List UInt64)) ++ (zh (ze 4 0))))) 43] En7 Hv5 rfl (zD (zc (zf)) (zD (zc (show za ([1, 0, 0, 0] : List UInt64) = 4 from rfl)) (zD (zc (show za ([1, 0, 0, 0] : List UInt64) = 4 from rfl)) (zc (zf))))) (by rw [(zD (zc (zf)) (zD (zc (zf)) (zD (zc (zf)) (zc (zf)))))]; first | decide | (simp; done)) (QH (zv _) (QH (zv _) (QH (zv _) (zv _)))) (zs (zD (zc (zf)) (zD (zc (zf)) (zD (zc (zf)) (zc (zf)))))) rfl fun _ _ En10 Hv11 => ?_
 refine f_e <| zg <| wp_ret <| Zj (v := .agg (zi ((zh (ze 4 0)) ++ ((zh ([1, 0, 0, 0] : List UInt64)) ++ ((zh ([1, 0, 0, 0] : List UInt64)) ++ (zh (ze 4 0))))))) (t := 0) (T := 43) (ad := ⟨bk1, 0, none⟩) En10 (by kernel_rfl) (by kernel_rfl) (zM (t := 43) (k := 0) (off := 0) (m := 16) (xs := (zh (ze 4 0)) ++ ((zh ([1, 0, 0, 0] : List UInt64)) ++ ((zh ([1, 0, 0, 0] : List UInt64)) ++ (zh (ze 4 0))))) Hv11 rfl (zq (zD (zc (zf)) (zD (zc (show za ([1, 0, 0, 0] : List UInt64) = 4 from rfl)) (zD (zc (show za ([1, 0, 0, 0] : List UInt64) = 4 from rfl)) (zc (zf)))))) (zD (zc (zf)) (zD (zc (show za ([1, 0, 0, 0] : List UInt64) = 4 from rfl)) (zD (zc (show za ([1, 0, 0, 0] : List UInt64) = 4 from rfl)) (zc (zf))))) (by kernel_rfl) (by kernel_rfl)) ?_
 exact ⟨by first | rfl | kernel_rfl, Hv11.pk []⟩

theorem with_go (w : World) (x1 y1 z1 t1 x2 y2 z2 t2 : List UInt64) (hx1 : za x1 = 4) (hy1 : za y1 = 4) (hz1 : za z1 = 4) (ht1 : za t1 = 4) (hx2 : za x2 = 4) (hy2 : za y2 = 4) (hz2 : za z2 = 4) (ht2 : za t2 = 4) : Calls Tryd.prog 25 #[.agg (zi ((zh x1) ++ ((zh y1) ++ ((zh z1) ++ (zh t1))))), .agg (zi ((zh x2) ++ ((zh y2) ++ ((zh z2) ++ (zh t2)))))] w fun e w' => e = .returned (.agg (zi ((zh (nd (zt 1 (oE (nv x1) (nv y1) (nv x2) (nv y2)) (oF (nv z1) (nv t1) (nv z2) (nv t2))))) ++ ((zh (nd (zt 1 (oG (nv z1) (nv t1) (nv z2) (nv t2)) (oH (nv x1) (nv y1) (nv x2) (nv y2))))) ++ ((zh (nd (zt 1 (oF (nv z1) (nv t1) (nv z2) (nv t2)) (oG (nv z1) (nv t1) (nv z2) (nv t2))))) ++ (zh (nd (zt 1 (oE (nv x1) (nv y1) (nv x2) (nv y2)) (oH (nv x1) (nv y1) (nv x2) (nv y2)))))))))) ∧ Ev w [] w' [] := by
 refine d_0 [(0, .agg (zi ((zh x1) ++ ((zh y1) ++ ((zh z1) ++ (zh t1)))))), (1, .agg (zi ((zh x2) ++ ((zh y2) ++ ((zh z2) ++ (zh t2))))))] 75 Go.Proofs.Tryd.func25 Go.Proofs.Tryd.ntmps25 (Heap.nil _) fun act0 En0 Hv0 => ?_
 refine wp_seq <| zm <| f_o <| m_m 43 ((zh x1) ++ ((zh y1) ++ ((zh z1) ++ (zh t1)))) En0 Hv0 fun _ _ bk1 En4 Hv5 => ?_
 refine f_o <| m_m 43 ((zh x2) ++ ((zh y2) ++ ((zh z2) ++ (zh t2)))) En4 Hv5 fun _ _ bk6 En9 Hv10 => ?_
 refine f_o <| m_z 43 ((zh (ze 4 0)) ++ ((zh (ze 4 0)) ++ ((zh (ze 4 0)) ++ (zh (ze 4 0))))) En9 Hv10 fun _ _ bk11 En14 Hv15 => ?_
 refine f_e <| zg <| wp_seq <| r_c (fun ac wo => ∃ (bk67 : Nat), Env ac 75 [(2, pt bk1), (3, pt bk6), (4, pt bk11), (5, pt bk67)] ∧ Ev w [] wo [.box bk1 ((zh x1) ++ ((zh y1) ++ ((zh z1) ++ (zh t1)))) 43, .box bk6 ((zh x2) ++ ((zh y2) ++ ((zh z2) ++ (zh t2)))) 43, .box bk11 ((zh (ze 4 0)) ++ ((zh (ze 4 0)) ++ ((zh (ze 4 0)) ++ (zh (ze 4 0))))) 43, .box bk67 (zh (nd (zt 1 (nv (nd (Zd 1 (nv y1) (nv x1)))) (nv (nd (Zd 1 (nv y2) (nv x2))))))) 34]) ?_ ?_
 ·
  refine s_g1 [(2, pt bk1), (3, pt bk6), (4, pt bk11)] [0,1,2,3,4,5,6,7,8,9,10] [(13, .pointer (some ⟨bk1, 4, none⟩)), (14, .agg (zi (zh y1))), (15, pt bk1), (16, .agg (zi (zh x1))), (17, .agg (zi (zh (nd (Zd 1 (nv y1) (nv x1)))))), (18, .pointer (some ⟨bk6, 4, none⟩)), (19, .agg (zi (zh y2))), (20, pt bk6), (21, .agg (zi (zh x2))), (22, .agg (zi (zh (nd (Zd 1 (nv y2) (nv x2)))))), (23, .agg (zi (zh (nd (zt 1 (nv (nd (Zd 1 (nv y1) (nv x1)))) (nv (nd (Zd 1 (nv y2) (nv x2)))))))))] 1 [(2, pt bk1), (3, pt bk6), (4, pt bk11), (23, .agg (zi (zh (nd (zt 1 (nv (nd (Zd 1 (nv y1) (nv x1)))) (nv (nd (Zd 1 (nv y2) (nv x2)))))))))] 11 (zh (ze 4 0)) (En14.sb) (Hv15.trans (z4 Hv15.heap)) ?_ fun _ _ bk67 En65 Hv66 => ?_
  ·
   refine s_p [] ?_
   refine s_a 0 4 4 (zh y1) rfl (by simp [zc hx1, zc hy1, zc hz1, zc ht1, zw, zx]) (zc hy1) ?_
   refine s_p [] ?_
   refine s_a 0 0 4 (zh x1) rfl (by simp [zc hx1, zc hy1, zc hz1, zc ht1, zw, zx]) (zc hx1) ?_
   refine s_f (fun _ => edif_go _ y1 x1 hy1 hx1) ?_
   refine s_p [] ?_
   refine s_a 1 4 4 (zh y2) rfl (by simp [zc hx2, zc hy2, zc hz2, zc ht2, zw, zx]) (zc hy2) ?_
   refine s_p [] ?_
   refine s_a 1 0 4 (zh x2) rfl (by simp [zc hx2, zc hy2, zc hz2, zc ht2, zw, zx]) (zc hx2) ?_
   refine s_f (fun _ => edif_go _ y2 x2 hy2 hx2) ?_
   refine s_f (fun _ => emul_go _ (nd (Zd 1 (nv y1) (nv x1))) (nd (Zd 1 (nv y2) (nv x2))) (zl _ _) (zl _ _)) ?_
   exact s_n
  refine q_u 12 ?_
  refine m_g 3 0 4 (zh (nd (zt 1 (nv (nd (Zd 1 (nv y1) (nv x1)))) (nv (nd (Zd 1 (nv y2) (nv x2))))))) _ [.box bk1 ((zh x1) ++ ((zh y1) ++ ((zh z1) ++ (zh t1)))) 43, .box bk6 ((zh x2) ++ ((zh y2) ++ ((zh z2) ++ (zh t2)))) 43, .box bk11 ((zh (ze 4 0)) ++ ((zh (ze 4 0)) ++ ((zh (ze 4 0)) ++ (zh (ze 4 0))))) 43, .box bk67 (zh (nd (zt 1 (nv (nd (Zd 1 (nv y1) (nv x1)))) (nv (nd (Zd 1 (nv y2) (nv x2))))))) 34] En65 Hv66 rfl (zc (zl _ _)) (by rw [(zc (zf))]; first | decide | (simp; done)) (zv _) (zs (zc (zf))) rfl fun _ _ En74 Hv75 => ?_
  exact a_e ⟨bk67, En74.sb, Hv75.pk [0, 1, 2, 3]⟩
 rintro _ _ ⟨bk67, En78, Hv79⟩
 obtain ⟨qa, h_qa⟩ : ∃ q : List UInt64, q = nd (zt 1 (nv (nd (Zd 1 (nv y1) (nv x1)))) (nv (nd (Zd 1 (nv y2) (nv x2))))) := ⟨_, rfl⟩
 rw [← h_qa] at Hv79
 have n_qa : za qa = 4 := by rw [h_qa]; exact zl _ _
 refine zg <| wp_seq <| r_c (fun ac wo => ∃ (bk131 : Nat), Env ac 75 [(2, pt bk1), (3, pt bk6), (4, pt bk11), (5, pt bk67), (6, pt bk131)] ∧ Ev w [] wo [.box bk1 ((zh x1) ++ ((zh y1) ++ ((zh z1) ++ (zh t1)))) 43, .box bk6 ((zh x2) ++ ((zh y2) ++ ((zh z2) ++ (zh t2)))) 43, .box bk11 ((zh (ze 4 0)) ++ ((zh (ze 4 0)) ++ ((zh (ze 4 0)) ++ (zh (ze 4 0))))) 43, .box bk67 (zh qa) 34, .box bk131 (zh (nd (zt 1 (nv (nd (ZA 1 (nv y1) (nv x1)))) (nv (nd (ZA 1 (nv y2) (nv x2))))))) 34]) ?_ ?_
 ·
  refine s_g1 [(2, pt bk1), (3, pt bk6), (4, pt bk11), (5, pt bk67)] [0,1,2,3,4,5,6,7,8,9,10] [(24, .pointer (some ⟨bk1, 4, none⟩)), (25, .agg (zi (zh y1))), (26, pt bk1), (27, .agg (zi (zh x1))), (28, .agg (zi (zh (nd (ZA 1 (nv y1) (nv x1)))))), (29, .pointer (some ⟨bk6, 4, none⟩)), (30, .agg (zi (zh y2))), (31, pt bk6), (32, .agg (zi (zh x2))), (33, .agg (zi (zh (nd (ZA 1 (nv y2) (nv x2)))))), (34, .agg (zi (zh (nd (zt 1 (nv (nd (ZA 1 (nv y1) (nv x1)))) (nv (nd (ZA 1 (nv y2) (nv x2)))))))))] 1 [(2, pt bk1), (3, pt bk6), (4, pt bk11), (5, pt bk67), (34, .agg (zi (zh (nd (zt 1 (nv (nd (ZA 1 (nv y1) (nv x1)))) (nv (nd (ZA 1 (nv y2) (nv x2)))))))))] 11 (zh (ze 4 0)) (En78.sb) (Hv79.trans (z4 Hv79.heap)) ?_ fun _ _ bk131 En129 Hv130 => ?_
  ·
   refine s_p [] ?_
   refine s_a 0 4 4 (zh y1) rfl (by simp [zc hx1, zc hy1, zc hz1, zc ht1, zw, zx]) (zc hy1) ?_
   refine s_p [] ?_
   refine s_a 0 0 4 (zh x1) rfl (by simp [zc hx1, zc hy1, zc hz1, zc ht1, zw, zx]) (zc hx1) ?_
   refine s_f (fun _ => esum_go _ y1 x1 hy1 hx1) ?_
   refine s_p [] ?_
   refine s_a 1 4 4 (zh y2) rfl (by simp [zc hx2, zc hy2, zc hz2, zc ht2, zw, zx]) (zc hy2) ?_
   refine s_p [] ?_
   refine s_a 1 0 4 (zh x2) rfl (by simp [zc hx2, zc hy2, zc hz2, zc ht2, zw, zx]) (zc hx2) ?_
   refine s_f (fun _ => esum_go _ y2 x2 hy2 hx2) ?_
   refine s_f (fun _ => emul_go _ (nd (ZA 1 (nv y1) (nv x1))) (nd (ZA 1 (nv y2) (nv x2))) (zl _ _) (zl _ _)) ?_
   exact s_n
  refine q_u 12 ?_
  refine m_g 4 0 4 (zh (nd (zt 1 (nv (nd (ZA 1 (nv y1) (nv x1)))) (nv (nd (ZA 1 (nv y2) (nv x2))))))) _ [.box bk1 ((zh x1) ++ ((zh y1) ++ ((zh z1) ++ (zh t1)))) 43, .box bk6 ((zh x2) ++ ((zh y2) ++ ((zh z2) ++ (zh t2)))) 43, .box bk11 ((zh (ze 4 0)) ++ ((zh (ze 4 0)) ++ ((zh (ze 4 0)) ++ (zh (ze 4 0))))) 43, .box bk67 (zh qa) 34, .box bk131 (zh (nd (zt 1 (nv (nd (ZA 1 (nv y1) (nv x1)))) (nv (nd (ZA 1 (nv y2) (nv x2))))))) 34] En129 Hv130 rfl (zc (zl _ _)) (by rw [(zc (zf))]; first | decide | (simp; done)) (zv _) (zs (zc (zf))) rfl fun _ _ En138 Hv139 => ?_
  exact a_e ⟨bk131, En138.sb, Hv139.pk [0, 1, 2, 3, 4]⟩
 rintro _ _ ⟨bk131, En142, Hv143⟩
 obtain ⟨qb, h_qb⟩ : ∃ q : List UInt64, q = nd (zt 1 (nv (nd (ZA 1 (nv y1) (nv x1)))) (nv (nd (ZA 1 (nv y2) (nv x2))))) := ⟨_, rfl⟩
 rw [← h_qb] at Hv143
 have n_qb : za qb = 4 := by rw [h_qb]; exact zl _ _
 refine zg <| wp_seq <| zm <| d_k [2,3,4,5,6,35] [] 1 En142 fun _ En145 => ?_
 refine f_o <| m_a 0 12 4 (zh t1) En145 Hv143 rfl (by simp [zc hx1, zc hy1, zc hz1, zc ht1, zw, zx, Zk, JY]) (zc ht1) fun _ En147 => ?_
 refine d_k [2,3,4,5,6,36,37] [] 3 En147 fun _ En149 => ?_
 refine f_o <| m_a 1 12 4 (zh t2) En149 Hv143 rfl (by simp [zc hx2, zc hy2, zc hz2, zc ht2, zw, zx, Zk, JY]) (zc ht2) fun _ En151 => ?_
 refine f_o <| c_p En151 Hv143 (emul_go _ t1 t2 ht1 ht2) fun _ _ En157 Hv158 => ?_
 refine f_o <| c_p En157 Hv158 (twiceD_go _) fun _ _ En164 Hv165 => ?_
 refine f_o <| c_p En164 Hv165 (emul_go _ (nd (zt 1 (nv t1) (nv t2))) (nd D2N) (zl _ _) (zl _ _)) fun _ _ En171 Hv172 => ?_
 refine f_o <| m_z 34 (zh (ze 4 0)) En171 Hv172 fun _ _ bk173 En176 Hv177 => ?_
 refine f_o <| m_g 5 0 4 (zh (nd (zt 1 (nv (nd (zt 1 (nv t1) (nv t2)))) (nv (nd D2N))))) _ [.box bk1 ((zh x1) ++ ((zh y1) ++ ((zh z1) ++ (zh t1)))) 43, .box bk6 ((zh x2) ++ ((zh y2) ++ ((zh z2) ++ (zh t2)))) 43, .box bk11 ((zh (ze 4 0)) ++ ((zh (ze 4 0)) ++ ((zh (ze 4 0)) ++ (zh (ze 4 0))))) 43, .box bk67 (zh qa) 34, .box bk131 (zh qb) 34, .box bk173 (zh (nd (zt 1 (nv (nd (zt 1 (nv t1) (nv t2)))) (nv (nd D2N))))) 34] En176 Hv177 rfl (zc (zl _ _)) (by rw [(zc (zf))]; first | decide | (simp; done)) (zv _) (zs (zc (zf))) rfl fun _ _ En180 Hv181 => ?_
 refine f_e ?_
 obtain ⟨qc, h_qc⟩ : ∃ q : List UInt64, q = nd (zt 1 (nv (nd (zt 1 (nv t1) (nv t2)))) (nv (nd D2N))) := ⟨_, rfl⟩
 rw [← h_qc] at Hv181
 have n_qc : za qc = 4 := by rw [h_qc]; exact zl _ _
 refine zg <| wp_seq <| zm <| d_k [2,3,4,5,6,7,42] [] 1 En180 fun _ En183 => ?_
 refine f_o <| m_a 0 8 4 (zh z1) En183 Hv181 rfl (by simp [zc hx1, zc hy1, zc hz1, zc ht1, zw, zx]) (zc hz1) fun _ En185 => ?_
 refine d_k [2,3,4,5,6,7,43,44] [] 3 En185 fun _ En187 => ?_
 refine f_o <| m_a 1 8 4 (zh z2) En187 Hv181 rfl (by simp [zc hx2, zc hy2, zc hz2, zc ht2, zw, zx]) (zc hz2) fun _ En189 => ?_
 refine f_o <| c_p En189 Hv181 (emul_go _ z1 z2 hz1 hz2) fun _ _ En195 Hv196 => ?_
 refine f_o <| m_z 34 (zh (ze 4 0)) En195 Hv196 fun _ _ bk197 En200 Hv201 => ?_
 refine f_o <| m_g 6 0 4 (zh (nd (zt 1 (nv z1) (nv z2)))) _ [.box bk1 ((zh x1) ++ ((zh y1) ++ ((zh z1) ++ (zh t1)))) 43, .box bk6 ((zh x2) ++ ((zh y2) ++ ((zh z2) ++ (zh t2)))) 43, .box bk11 ((zh (ze 4 0)) ++ ((zh (ze 4 0)) ++ ((zh (ze 4 0)) ++ (zh (ze 4 0))))) 43, .box bk67 (zh qa) 34, .box bk131 (zh qb) 34, .box bk173 (zh qc) 34, .box bk197 (zh (nd (zt 1 (nv z1) (nv z2)))) 34] En200 Hv201 rfl (zc (zl _ _)) (by rw [(zc (zf))]; first | decide | (simp; done)) (zv _) (zs (zc (zf))) rfl fun _ _ En204 Hv205 => ?_
 refine f_e <| zg <| wp_seq <| zm <| f_o <| m_a 6 0 4 (zh (nd (zt 1 (nv z1) (nv z2)))) En204 Hv205 rfl (zq (zc (zl _ _))) (zc (zl _ _)) fun _ En207 => ?_
 refine f_o <| m_a 6 0 4 (zh (nd (zt 1 (nv z1) (nv z2)))) En207 Hv205 rfl (zq (zc (zl _ _))) (zc (zl _ _)) fun _ En209 => ?_
 refine f_o <| c_p En209 Hv205 (esum_go _ (nd (zt 1 (nv z1) (nv z2))) (nd (zt 1 (nv z1) (nv z2))) (zl _ _) (zl _ _)) fun _ _ En215 Hv216 => ?_
 refine f_o <| m_g 6 0 4 (zh (nd (ZA 1 (nv (nd (zt 1 (nv z1) (nv z2)))) (nv (nd (zt 1 (nv z1) (nv z2))))))) _ [.box bk1 ((zh x1) ++ ((zh y1) ++ ((zh z1) ++ (zh t1)))) 43, .box bk6 ((zh x2) ++ ((zh y2) ++ ((zh z2) ++ (zh t2)))) 43, .box bk11 ((zh (ze 4 0)) ++ ((zh (ze 4 0)) ++ ((zh (ze 4 0)) ++ (zh (ze 4 0))))) 43, .box bk67 (zh qa) 34, .box bk131 (zh qb) 34, .box bk173 (zh qc) 34, .box bk197 (zh (nd (ZA 1 (nv (nd (zt 1 (nv z1) (nv z2)))) (nv (nd (zt 1 (nv z1) (nv z2))))))) 34] En215 Hv216 rfl (zc (zl _ _)) (by rw [(zc (zl _ _))]; first | decide | (simp; done)) (zv _) (zs (zc (zl _ _))) rfl fun _ _ En219 Hv220 => ?_
 refine f_e ?_
 obtain ⟨qd, h_qd⟩ : ∃ q : List UInt64, q = nd (ZA 1 (nv (nd (zt 1 (nv z1) (nv z2)))) (nv (nd (zt 1 (nv z1) (nv z2))))) := ⟨_, rfl⟩
 rw [← h_qd] at Hv220
 have n_qd : za qd = 4 := by rw [h_qd]; exact zl _ _
 refine zg <| wp_seq <| r_c (fun ac wo => ∃ (bk301 : Nat) (bk302 : Nat) (bk303 : Nat) (bk304 : Nat), Env ac 75 [(2, pt bk1), (3, pt bk6), (4, pt bk11), (5, pt bk67), (6, pt bk131), (7, pt bk173), (8, pt bk197), (9, pt bk301), (10, pt bk302), (11, pt bk303), (12, pt bk304)] ∧ Ev w [] wo [.box bk1 ((zh x1) ++ ((zh y1) ++ ((zh z1) ++ (zh t1)))) 43, .box bk6 ((zh x2) ++ ((zh y2) ++ ((zh z2) ++ (zh t2)))) 43, .box bk11 ((zh (ze 4 0)) ++ ((zh (ze 4 0)) ++ ((zh (ze 4 0)) ++ (zh (ze 4 0))))) 43, .box bk67 (zh qa) 34, .box bk131 (zh qb) 34, .box bk173 (zh qc) 34, .box bk197 (zh qd) 34, .box bk301 (zh (nd (Zd 1 (nv qb) (nv qa)))) 34, .box bk302 (zh (nd (Zd 1 (nv qd) (nv qc)))) 34, .box bk303 (zh (nd (ZA 1 (nv qd) (nv qc)))) 34, .box bk304 (zh (nd (ZA 1 (nv qb) (nv qa)))) 34]) ?_ ?_
 ·
  refine s_g4 [(2, pt bk1), (3, pt bk6), (4, pt bk11), (5, pt bk67), (6, pt bk131), (7, pt bk173), (8, pt bk197)] [0,1,2,3,4,5,6,7,8,9,10,11] [(50, .agg (zi (zh qb))), (51, .agg (zi (zh qa))), (52, .agg (zi (zh (nd (Zd 1 (nv qb) (nv qa)))))), (53, .agg (zi (zh qd))), (54, .agg (zi (zh qc))), (55, .agg (zi (zh (nd (Zd 1 (nv qd) (nv qc)))))), (56, .agg (zi (zh qd))), (57, .agg (zi (zh qc))), (58, .agg (zi (zh (nd (ZA 1 (nv qd) (nv qc)))))), (59, .agg (zi (zh qb))), (60, .agg (zi (zh qa))), (61, .agg (zi (zh (nd (ZA 1 (nv qb) (nv qa))))))] 4 [(2, pt bk1), (3, pt bk6), (4, pt bk11), (5, pt bk67), (6, pt bk131), (7, pt bk173), (8, pt bk197), (52, .agg (zi (zh (nd (Zd 1 (nv qb) (nv qa)))))), (55, .agg (zi (zh (nd (Zd 1 (nv qd) (nv qc)))))), (58, .agg (zi (zh (nd (ZA 1 (nv qd) (nv qc)))))), (61, .agg (zi (zh (nd (ZA 1 (nv qb) (nv qa))))))] 12 13 14 15 (zh (ze 4 0)) (zh (ze 4 0)) (zh (ze 4 0)) (zh (ze 4 0)) (En219.sb) (Hv220.trans (z4 Hv220.heap)) ?_ fun _ _ bk301 bk302 bk303 bk304 En299 Hv300 => ?_
  ·
   refine s_a 4 0 4 (zh qb) rfl (zq (zc n_qb)) (zc n_qb) ?_
   refine s_a 3 0 4 (zh qa) rfl (zq (zc n_qa)) (zc n_qa) ?_
   refine s_f (fun _ => edif_go _ qb qa n_qb n_qa) ?_
   refine s_a 6 0 4 (zh qd) rfl (zq (zc n_qd)) (zc n_qd) ?_
   refine s_a 5 0 4 (zh qc) rfl (zq (zc n_qc)) (zc n_qc) ?_
   refine s_f (fun _ => edif_go _ qd qc n_qd n_qc) ?_
   refine s_a 6 0 4 (zh qd) rfl (zq (zc n_qd)) (zc n_qd) ?_
   refine s_a 5 0 4 (zh qc) rfl (zq (zc n_qc)) (zc n_qc) ?_
   refine s_f (fun _ => esum_go _ qd qc n_qd n_qc) ?_
   refine s_a 4 0 4 (zh qb) rfl (zq (zc n_qb)) (zc n_qb) ?_
   refine s_a 3 0 4 (zh qa) rfl (zq (zc n_qa)) (zc n_qa) ?_
   refine s_f (fun _ => esum_go _ qb qa n_qb n_qa) ?_
   exact s_n
  refine q_u 16 ?_
  refine m_g 7 0 4 (zh (nd (Zd 1 (nv qb) (nv qa)))) _ [.box bk1 ((zh x1) ++ ((zh y1) ++ ((zh z1) ++ (zh t1)))) 43, .box bk6 ((zh x2) ++ ((zh y2) ++ ((zh z2) ++ (zh t2)))) 43, .box bk11 ((zh (ze 4 0)) ++ ((zh (ze 4 0)) ++ ((zh (ze 4 0)) ++ (zh (ze 4 0))))) 43, .box bk67 (zh qa) 34, .box bk131 (zh qb) 34, .box bk173 (zh qc) 34, .box bk197 (zh qd) 34, .box bk301 (zh (nd (Zd 1 (nv qb) (nv qa)))) 34, .box bk302 (zh (ze 4 0)) 34, .box bk303 (zh (ze 4 0)) 34, .box bk304 (zh (ze 4 0)) 34] En299 Hv300 rfl (zc (zl _ _)) (by rw [(zc (zf))]; first | decide | (simp; done)) (zv _) (zs (zc (zf))) rfl fun _ _ En323 Hv324 => ?_
  refine q_u 17 ?_
  refine m_g 8 0 4 (zh (nd (Zd 1 (nv qd) (nv qc)))) _ [.box bk1 ((zh x1) ++ ((zh y1) ++ ((zh z1) ++ (zh t1)))) 43, .box bk6 ((zh x2) ++ ((zh y2) ++ ((zh z2) ++ (zh t2)))) 43, .box bk11 ((zh (ze 4 0)) ++ ((zh (ze 4 0)) ++ ((zh (ze 4 0)) ++ (zh (ze 4 0))))) 43, .box bk67 (zh qa) 34, .box bk131 (zh qb) 34, .box bk173 (zh qc) 34, .box bk197 (zh qd) 34, .box bk301 (zh (nd (Zd 1 (nv qb) (nv qa)))) 34, .box bk302 (zh (nd (Zd 1 (nv qd) (nv qc)))) 34, .box bk303 (zh (ze 4 0)) 34, .box bk304 (zh (ze 4 0)) 34] En323 Hv324 rfl (zc (zl _ _)) (by rw [(zc (zf))]; first | decide | (simp; done)) (zv _) (zs (zc (zf))) rfl fun _ _ En327 Hv328 => ?_
  refine q_u 18 ?_
  refine m_g 9 0 4 (zh (nd (ZA 1 (nv qd) (nv qc)))) _ [.box bk1 ((zh x1) ++ ((zh y1) ++ ((zh z1) ++ (zh t1)))) 43, .box bk6 ((zh x2) ++ ((zh y2) ++ ((zh z2) ++ (zh t2)))) 43, .box bk11 ((zh (ze 4 0)) ++ ((zh (ze 4 0)) ++ ((zh (ze 4 0)) ++ (zh (ze 4 0))))) 43, .box bk67 (zh qa) 34, .box bk131 (zh qb) 34, .box bk173 (zh qc) 34, .box bk197 (zh qd) 34, .box bk301 (zh (nd (Zd 1 (nv qb) (nv qa)))) 34, .box bk302 (zh (nd (Zd 1 (nv qd) (nv qc)))) 34, .box bk303 (zh (nd (ZA 1 (nv qd) (nv qc)))) 34, .box bk304 (zh (ze 4 0)) 34] En327 Hv328 rfl (zc (zl _ _)) (by rw [(zc (zf))]; first | decide | (simp; done)) (zv _) (zs (zc (zf))) rfl fun _ _ En331 Hv332 => ?_
  refine q_u 19 ?_
  refine m_g 10 0 4 (zh (nd (ZA 1 (nv qb) (nv qa)))) _ [.box bk1 ((zh x1) ++ ((zh y1) ++ ((zh z1) ++ (zh t1)))) 43, .box bk6 ((zh x2) ++ ((zh y2) ++ ((zh z2) ++ (zh t2)))) 43, .box bk11 ((zh (ze 4 0)) ++ ((zh (ze 4 0)) ++ ((zh (ze 4 0)) ++ (zh (ze 4 0))))) 43, .box bk67 (zh qa) 34, .box bk131 (zh qb) 34, .box bk173 (zh qc) 34, .box bk197 (zh qd) 34, .box bk301 (zh (nd (Zd 1 (nv qb) (nv qa)))) 34, .box bk302 (zh (nd (Zd 1 (nv qd) (nv qc)))) 34, .box bk303 (zh (nd (ZA 1 (nv qd) (nv qc)))) 34, .box bk304 (zh (nd (ZA 1 (nv qb) (nv qa)))) 34] En331 Hv332 rfl (zc (zl _ _)) (by rw [(zc (zf))]; first | decide | (simp; done)) (zv _) (zs (zc (zf))) rfl fun _ _ En335 Hv336 => ?_
  exact a_e ⟨bk301, bk302, bk303, bk304, En335.sb, Hv336.pk [0, 1, 2, 3, 4, 5, 6, 7, 8, 9, 10]⟩
 rintro _ _ ⟨bk301, bk302, bk303, bk304, En339, Hv340⟩
 obtain ⟨qe, h_qe⟩ : ∃ q : List UInt64, q = nd (Zd 1 (nv qb) (nv qa)) := ⟨_, rfl⟩
 rw [← h_qe] at Hv340
 have n_qe : za qe = 4 := by rw [h_qe]; exact zl _ _
 obtain ⟨qf, h_qf⟩ : ∃ q : List UInt64, q = nd (Zd 1 (nv qd) (nv qc)) := ⟨_, rfl⟩
 rw [← h_qf] at Hv340
 have n_qf : za qf = 4 := by rw [h_qf]; exact zl _ _
 obtain ⟨qg, h_qg⟩ : ∃ q : List UInt64, q = nd (ZA 1 (nv qd) (nv qc)) := ⟨_, rfl⟩
 rw [← h_qg] at Hv340
 have n_qg : za qg = 4 := by rw [h_qg]; exact zl _ _
 obtain ⟨qh, h_qh⟩ : ∃ q : List UInt64, q = nd (ZA 1 (nv qb) (nv qa)) := ⟨_, rfl⟩
 rw [← h_qh] at Hv340
 have n_qh : za qh = 4 := by rw [h_qh]; exact zl _ _
 refine zg <| wp_seq <| r_c (fun ac wo => Env ac 75 [(2, pt bk1), (3, pt bk6), (4, pt bk11), (5, pt bk67), (6, pt bk131), (7, pt bk173), (8, pt bk197), (9, pt bk301), (10, pt bk302), (11, pt bk303), (12, pt bk304)] ∧ Ev w [] wo [.box bk1 ((zh x1) ++ ((zh y1) ++ ((zh z1) ++ (zh t1)))) 43, .box bk6 ((zh x2) ++ ((zh y2) ++ ((zh z2) ++ (zh t2)))) 43, .box bk11 ((zh (nd (zt 1 (nv qe) (nv qf)))) ++ ((zh (nd (zt 1 (nv qg) (nv qh)))) ++ ((zh (nd (zt 1 (nv qf) (nv qg)))) ++ (zh (nd (zt 1 (nv qe) (nv qh))))))) 43, .box bk67 (zh qa) 34, .box bk131 (zh qb) 34, .box bk173 (zh qc) 34, .box bk197 (zh qd) 34, .box bk301 (zh qe) 34, .box bk302 (zh qf) 34, .box bk303 (zh qg) 34, .box bk304 (zh qh) 34]) ?_ ?_
 ·
  refine s_g0 [(2, pt bk1), (3, pt bk6), (4, pt bk11), (5, pt bk67), (6, pt bk131), (7, pt bk173), (8, pt bk197), (9, pt bk301), (10, pt bk302), (11, pt bk303), (12, pt bk304)] [0,1,2,3,4,5,6,7,8,9,10,11,12] [(62, .agg (zi (zh qe))), (63, .agg (zi (zh qf))), (64, .agg (zi (zh (nd (zt 1 (nv qe) (nv qf)))))), (65, .agg (zi (zh qg))), (66, .agg (zi (zh qh))), (67, .agg (zi (zh (nd (zt 1 (nv qg) (nv qh)))))), (68, .agg (zi (zh qf))), (69, .agg (zi (zh qg))), (70, .agg (zi (zh (nd (zt 1 (nv qf) (nv qg)))))), (71, .agg (zi (zh qe))), (72, .agg (zi (zh qh))), (73, .agg (zi (zh (nd (zt 1 (nv qe) (nv qh)))))), (74, .agg (zi ((zh (nd (zt 1 (nv qe) (nv qf)))) ++ ((zh (nd (zt 1 (nv qg) (nv qh)))) ++ ((zh (nd (zt 1 (nv qf) (nv qg)))) ++ (zh (nd (zt 1 (nv qe) (nv qh)))))))))] 1 [(2, pt bk1), (3, pt bk6), (4, pt bk11), (5, pt bk67), (6, pt bk131), (7, pt bk173), (8, pt bk197), (9, pt bk301), (10, pt bk302), (11, pt bk303), (12, pt bk304), (74, .agg (zi ((zh (nd (zt 1 (nv qe) (nv qf)))) ++ ((zh (nd (zt 1 (nv qg) (nv qh)))) ++ ((zh (nd (zt 1 (nv qf) (nv qg)))) ++ (zh (nd (zt 1 (nv qe) (nv qh)))))))))] (En339.sb) (Hv340.trans (z4 Hv340.heap)) ?_ fun _ _ En419 Hv420 => ?_
  ·
   refine s_a 7 0 4 (zh qe) rfl (zq (zc n_qe)) (zc n_qe) ?_
   refine s_a 8 0 4 (zh qf) rfl (zq (zc n_qf)) (zc n_qf) ?_
   refine s_f (fun _ => emul_go _ qe qf n_qe n_qf) ?_
   refine s_a 9 0 4 (zh qg) rfl (zq (zc n_qg)) (zc n_qg) ?_
   refine s_a 10 0 4 (zh qh) rfl (zq (zc n_qh)) (zc n_qh) ?_
   refine s_f (fun _ => emul_go _ qg qh n_qg n_qh) ?_
   refine s_a 8 0 4 (zh qf) rfl (zq (zc n_qf)) (zc n_qf) ?_
   refine s_a 9 0 4 (zh qg) rfl (zq (zc n_qg)) (zc n_qg) ?_
   refine s_f (fun _ => emul_go _ qf qg n_qf n_qg) ?_
   refine s_a 7 0 4 (zh qe) rfl (zq (zc n_qe)) (zc n_qe) ?_
   refine s_a 10 0 4 (zh qh) rfl (zq (zc n_qh)) (zc n_qh) ?_
   refine s_f (fun _ => emul_go _ qe qh n_qe n_qh) ?_
   refine s_p [] ?_
   exact s_n
  refine q_u 13 ?_
  refine m_g 2 0 16 ((zh (nd (zt 1 (nv qe) (nv qf)))) ++ ((zh (nd (zt 1 (nv qg) (nv qh)))) ++ ((zh (nd (zt 1 (nv qf) (nv qg)))) ++ (zh (nd (zt 1 (nv qe) (nv qh))))))) _ [.box bk1 ((zh x1) ++ ((zh y1) ++ ((zh z1) ++ (zh t1)))) 43, .box bk6 ((zh x2) ++ ((zh y2) ++ ((zh z2) ++ (zh t2)))) 43, .box bk11 ((zh (nd (zt 1 (nv qe) (nv qf)))) ++ ((zh (nd (zt 1 (nv qg) (nv qh)))) ++ ((zh (nd (zt 1 (nv qf) (nv qg)))) ++ (zh (nd (zt 1 (nv qe) (nv qh))))))) 43, .box bk67 (zh qa) 34, .box bk131 (zh qb) 34, .box bk173 (zh qc) 34, .box bk197 (zh qd) 34, .box bk301 (zh qe) 34, .box bk302 (zh qf) 34, .box bk303 (zh qg) 34, .box bk304 (zh qh) 34] En419 Hv420 rfl (zD (zc (zl _ _)) (zD (zc (zl _ _)) (zD (zc (zl _ _)) (zc (zl _ _))))) (by rw [(zD (zc (zf)) (zD (zc (zf)) (zD (zc (zf)) (zc (zf)))))]; first | decide | (simp; done)) (QH (zv _) (QH (zv _) (QH (zv _) (zv _)))) (zs (zD (zc (zf)) (zD (zc (zf)) (zD (zc (zf)) (zc (zf)))))) rfl fun _ _ En427 Hv428 => ?_
  exact a_e ⟨En427.sb, Hv428.pk [0, 1, 2, 3, 4, 5, 6, 7, 8, 9, 10]⟩
 rintro _ _ ⟨En431, Hv432⟩
 refine zg <| wp_ret <| Zj (v := .agg (zi ((zh (nd (zt 1 (nv qe) (nv qf)))) ++ ((zh (nd (zt 1 (nv qg) (nv qh)))) ++ ((zh (nd (zt 1 (nv qf) (nv qg)))) ++ (zh (nd (zt 1 (nv qe) (nv qh))))))))) (t := 4) (T := 43) (ad := ⟨bk11, 0, none⟩) En431 (by kernel_rfl) (by kernel_rfl) (zM (t := 43) (k := 2) (off := 0) (m := 16) (xs := (zh (nd (zt 1 (nv qe) (nv qf)))) ++ ((zh (nd (zt 1 (nv qg) (nv qh)))) ++ ((zh (nd (zt 1 (nv qf) (nv qg)))) ++ (zh (nd (zt 1 (nv qe) (nv qh))))))) Hv432 rfl (zq (zD (zc (zl _ _)) (zD (zc (zl _ _)) (zD (zc (zl _ _)) (zc (zl _ _)))))) (zD (zc (zl _ _)) (zD (zc (zl _ _)) (zD (zc (zl _ _)) (zc (zl _ _))))) (by kernel_rfl) (by kernel_rfl)) ?_
 have e0 : nd (zt 1 (nv qe) (nv qf)) = nd (zt 1 (oE (nv x1) (nv y1) (nv x2) (nv y2)) (oF (nv z1) (nv t1) (nv z2) (nv t2))) := by
  subst h_qh h_qg h_qf h_qe h_qd h_qc h_qb h_qa
  simp only [nv_m1, nv_a1, nv_s1, nv_d2, oE, oF, oG, oH, oA, oB, oC, oD]
 have e1 : nd (zt 1 (nv qg) (nv qh)) = nd (zt 1 (oG (nv z1) (nv t1) (nv z2) (nv t2)) (oH (nv x1) (nv y1) (nv x2) (nv y2))) := by
  subst h_qh h_qg h_qf h_qe h_qd h_qc h_qb h_qa
  simp only [nv_m1, nv_a1, nv_s1, nv_d2, oE, oF, oG, oH, oA, oB, oC, oD]
 have e2 : nd (zt 1 (nv qf) (nv qg)) = nd (zt 1 (oF (nv z1) (nv t1) (nv z2) (nv t2)) (oG (nv z1) (nv t1) (nv z2) (nv t2))) := by
  subst h_qh h_qg h_qf h_qe h_qd h_qc h_qb h_qa
  simp only [nv_m1, nv_a1, nv_s1, nv_d2, oE, oF, oG, oH, oA, oB, oC, oD]
 have e3 : nd (zt 1 (nv qe) (nv qh)) = nd (zt 1 (oE (nv x1) (nv y1) (nv x2) (nv y2)) (oH (nv x1) (nv y1) (nv x2) (nv y2))) := by
  subst h_qh h_qg h_qf h_qe h_qd h_qc h_qb h_qa
  simp only [nv_m1, nv_a1, nv_s1, nv_d2, oE, oF, oG, oH, oA, oB, oC, oD]
 exact ⟨ret4 e0 e1 e2 e3, Hv432.pk []⟩

theorem with16_go (w : World) (p q : L4) (hp : p.length = 16) (hq : q.length = 16) : Calls Tryd.prog 25 #[.agg (zi (zh p)), .agg (zi (zh q))] w fun e w' => e = .returned (.agg (zi (zh (wtE p q)))) ∧ Ev w [] w' [] := by
  have h := with_go w (p.take 4) ((p.drop 4).take 4) ((p.drop 8).take 4) (p.drop 12) (q.take 4) ((q.drop 4).take 4) ((q.drop 8).take 4) (q.drop 12) (by simp [hp]) (by simp [hp]) (by simp [hp]) (by simp [hp]) (by simp [hq]) (by simp [hq]) (by simp [hq]) (by simp [hq])
  rw [cut16, cut16, cat16] at h
  exact h

end Go.Proofs.YtlnogkmnklfjlaaDoor

/- Structs of a Boolean and two arrays of words, compared. -/


namespace Go.Dbr
open Go Go.RowKit
set_option linter.unusedSimpArgs false
set_option linter.unusedVariables false
section
variable {P : Program} {w : World}
end
end Go.Dbr

/- Structs that are built of parts whose cells are told. -/


namespace Go.Dbr
open Go Go.RowKit
set_option linter.unusedSimpArgs false
set_option linter.unusedVariables false
end Go.Dbr
