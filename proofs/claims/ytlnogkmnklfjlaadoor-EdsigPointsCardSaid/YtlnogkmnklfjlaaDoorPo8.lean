import Derived.Test.YtlnogkmnklfjlaaDoorPo7
import Derived.Test.YtlnogkmnklfjlaaDoorPo6
open Go.Dbr renaming u64s_lenh → zb, then_normal → zg, u64s → zh, region_from → zm, load_whole → zn, store_whole → zo, u64s_one → zu, lu_57896044618658097711785492504343953926634992332820282019728792003956564819949 → z0, d_cell_tmp → Zn, look → Qf, opTy → Yo, look_self → YC, nodupO_spec → YE, nodupO → JN, zeroV → Xx
open List renaming replicate → zc, length_replicate → zd, length → ze, getD → zf, toArray → zi, set → zp, getElem?_eq_getElem → zL, getElem?_append_left → zM, getD_eq_getElem?_getD → zR, getElem?_append_right → zT, all_eq_true → zW, length_append → z4, contains_iff_mem → z9, map_append → Zv, mem_cons_of_mem → Z7, mem_cons_self → Qm, map_cons → Qn, drop_drop → Qr, drop_left' → Qw, mem_cons → Qz, range → QP, length_set → Q6, mem_append → Q7, not_mem_nil → Yg, append_nil → Yt, take_left' → Yx, mem_map → YH, nodup_cons → Y5, nodup_append → Jq, map_map → JJ, length_singleton → JV, mem_append_right → JW, nodup_nil → J1, mem_map_of_mem → Xc, countP_cons → Xp, map_nil → XF
open Go.Proofs.YtlnogkmnklfjlaaDoor renaming nds_len → zk, mulM → zq, powM → zC, W256 → zH, subM → zJ, addM → Zf, rootN → QX, leftOk3 → Js, rmulOk → Xh, half_go → Xk
open Go.Dbr.Ev renaming cellAgg → zx
open UInt8 renaming ofNat → zA
open Nat renaming mod_eq_of_lt → zB, mul_comm → zY, pow_succ → z6, lt_trans → z8, add_zero → Zp, div_div_eq_div_mul → Zt, mod_lt → Zw, lt_or_ge → ZJ, pow_zero → ZK, zero_mul → ZQ, beq → Qs, zero_mod → Qy, eq_of_beq_eq_true → QE, le_refl → QY, testBit → Yd, div_one → Y3, sub_self → Y8, testBit_or → Jh, beq_eq → JO
open Bool renaming and_eq_true → zO, cond_false → ZZ, cond_true → Qe, true_and → QA, or_eq_true → Yv
open Array renaming getElem?_setIfInBounds_ne → zZ, getElem?_eq_some_iff → Zm, getElem?_toList → ZD, all_eq_true_iff_forall_mem → QL, ext → XI
/- The curve y^2 - x^2 = 1 + d x^2 y^2 over a prime: a group, when -1 is a square and d none. -/

namespace Go.Ed
open Go.Dbr Go.Wei
set_option linter.unusedVariables false
section
variable {p : Nat} [NeZero p]
/-- on the curve -/
def OnE (d x y : Fin p) : Prop := y*y - x*x = 1 + d*(x*x)*(y*y)
/-- the sum of two points -/
def SumE (d x1 y1 x2 y2 x3 y3 : Fin p) : Prop := x3*(1 + d*(x1*x2)*(y1*y2)) = x1*y2 + x2*y1 ∧ y3*(1 - d*(x1*x2)*(y1*y2)) = y1*y2 + x1*x2
structure Ec (p : Nat) [NeZero p] where
  d : Fin p
  i : Fin p
  F : Fld p
  hi : i*i = -1
  hd : ∀ x : Fin p, x*x ≠ d
  one : (1 : Fin p) ≠ 0
theorem sq_key {d i e x1 y1 x2 y2 : Fin p} (h1 : OnE d x1 y1) (h2 : OnE d x2 y2) (hi : i*i = -1) (he : e = d*(x1*x2)*(y1*y2)) (hs : e*e = 1) : d*((x1*y1*(i*x2+y2))*(x1*y1*(i*x2+y2))) = (i*x1+e*y1)*(i*x1+e*y1) := by
  unfold OnE at h1 h2
  have a1 : d*((x1*y1*(i*x2+y2))*(x1*y1*(i*x2+y2))) = d*(x1*x1)*(y1*y1)*(y2*y2-x2*x2) + (e+e)*(i*x1*y1) := by
    have : (i*x2+y2)*(i*x2+y2) = y2*y2 - x2*x2 + (i*x2*y2 + i*x2*y2) := by
      have : (i*x2+y2)*(i*x2+y2) = (i*i)*(x2*x2) + y2*y2 + (i*x2*y2 + i*x2*y2) := by grind -lia
      rw [this, hi]
      grind -lia
    have h : d*((x1*y1*(i*x2+y2))*(x1*y1*(i*x2+y2))) = d*(x1*x1)*(y1*y1)*((i*x2+y2)*(i*x2+y2)) := by clear this hs he h1 h2; grind -lia
    rw [h, this, he]
    clear this h hs he h1 h2
    grind -lia
  have a2 : (i*x1+e*y1)*(i*x1+e*y1) = y1*y1 - x1*x1 + (e+e)*(i*x1*y1) := by
    have : (i*x1+e*y1)*(i*x1+e*y1) = (i*i)*(x1*x1) + (e*e)*(y1*y1) + (e+e)*(i*x1*y1) := by clear h1 h2 hi he hs a1; grind -lia
    rw [this, hi, hs]
    clear this a1 h1 h2 hi he hs
    grind -lia
  rw [a1, a2, h2, h1]
  have a3 : d*(x1*x1)*(y1*y1)*(1 + d*(x2*x2)*(y2*y2)) = d*(x1*x1)*(y1*y1) + e*e := by rw [he]; clear a1 a2 h1 h2 hi he hs; grind -lia
  rw [a3, hs]
  clear a1 a2 a3 h1 h2 hi he hs
  grind -lia
theorem no_sq {C : Ec p} {a b : Fin p} (ha : a ≠ 0) (h : C.d*(a*a) = b*b) : False := by
  obtain ⟨v, hv⟩ := C.F.iv a ha
  apply C.hd (b*v)
  have : (b*v)*(b*v) = (b*b)*(v*v) := by grind -lia
  rw [this, ← h]
  have : C.d*(a*a)*(v*v) = C.d*((a*v)*(a*v)) := by grind -lia
  rw [this, hv]
  grind -lia
theorem Ec.two_ne {C : Ec p} {x : Fin p} (h : x ≠ 0) : x + x ≠ 0 := fun g => h (C.F.two _ g)
/-- it never divides by nothing -/
theorem complete {C : Ec p} {x1 y1 x2 y2 : Fin p} (h1 : OnE C.d x1 y1) (h2 : OnE C.d x2 y2) {e : Fin p} (he : e = C.d*(x1*x2)*(y1*y2)) : e*e ≠ 1 := by
  intro hs
  have hx : x1*y1 ≠ 0 := fun g => C.one (by
    have : e*e = (C.d*x2*y2)*(x1*y1)*e := by rw [he]; grind -lia
    rw [← hs, this, g]; grind -lia)
  have hy : x2*y2 ≠ 0 := fun g => C.one (by
    have : e*e = (C.d*x1*y1)*(x2*y2)*e := by rw [he]; grind -lia
    rw [← hs, this, g]; grind -lia)
  have k1 := sq_key h1 h2 C.hi he hs
  have h2' : OnE C.d x2 (-y2) := by unfold OnE at *; clear hx hy k1 h1 he hs; grind -lia
  have k2 := sq_key h1 h2' C.hi (e := -e) (by rw [he]; clear hx hy k1 h1 he hs h2'; grind -lia) (by rw [← hs]; clear hx hy k1 h1 he hs h2'; grind -lia)
  by_cases g : C.i*x2+y2 = 0
  · by_cases g2 : C.i*x2+(-y2) = 0
    · have : y2 + y2 = 0 := by
        have : y2 + y2 = (C.i*x2+y2) - (C.i*x2+(-y2)) := by clear hx hy k1 k2 h1 h2 h2' he hs g g2; grind -lia
        rw [this, g, g2]
        clear hx hy k1 k2 h1 h2 h2' he hs g g2 this
        grind -lia
      have y0 := C.F.two _ this
      exact hy (by rw [y0]; clear hx hy k1 k2 h1 h2 h2' he hs g g2 this; grind -lia)
    · exact no_sq (C := C) (Fld.mul (F := C.F) hx g2) k2
  · exact no_sq (C := C) (Fld.mul (F := C.F) hx g) k1
theorem comp_p {C : Ec p} {x1 y1 x2 y2 : Fin p} (h1 : OnE C.d x1 y1) (h2 : OnE C.d x2 y2) : 1 + C.d*(x1*x2)*(y1*y2) ≠ 0 := fun g => complete h1 h2 rfl (by
  have : C.d*(x1*x2)*(y1*y2) = -1 := by
    have : C.d*(x1*x2)*(y1*y2) = (1 + C.d*(x1*x2)*(y1*y2)) - 1 := by clear g h1 h2; grind -lia
    rw [this, g]
    clear this g h1 h2
    grind -lia
  rw [this]
  clear this g h1 h2
  grind -lia)
theorem comp_m {C : Ec p} {x1 y1 x2 y2 : Fin p} (h1 : OnE C.d x1 y1) (h2 : OnE C.d x2 y2) : 1 - C.d*(x1*x2)*(y1*y2) ≠ 0 := fun g => complete h1 h2 rfl (by
  have : C.d*(x1*x2)*(y1*y2) = 1 := by
    have : C.d*(x1*x2)*(y1*y2) = 1 - (1 - C.d*(x1*x2)*(y1*y2)) := by clear g h1 h2; grind -lia
    rw [this, g]
    clear this g h1 h2
    grind -lia
  rw [this]
  clear this g h1 h2
  grind -lia)
theorem sum_ex {C : Ec p} {x1 y1 x2 y2 : Fin p} (h1 : OnE C.d x1 y1) (h2 : OnE C.d x2 y2) : ∃ x3 y3, SumE C.d x1 y1 x2 y2 x3 y3 := by
  obtain ⟨u, hu⟩ := C.F.iv _ (comp_p h1 h2)
  obtain ⟨v, hv⟩ := C.F.iv _ (comp_m h1 h2)
  refine ⟨(x1*y2+x2*y1)*u, (y1*y2+x1*x2)*v, ?_, ?_⟩
  · have : (x1*y2+x2*y1)*u*(1 + C.d*(x1*x2)*(y1*y2)) = (x1*y2+x2*y1)*((1 + C.d*(x1*x2)*(y1*y2))*u) := by clear hu hv h1 h2; grind -lia
    rw [this, hu]
    clear this hu hv h1 h2
    grind -lia
  · have : (y1*y2+x1*x2)*v*(1 - C.d*(x1*x2)*(y1*y2)) = (y1*y2+x1*x2)*((1 - C.d*(x1*x2)*(y1*y2))*v) := by clear hu hv h1 h2; grind -lia
    rw [this, hv]
    clear this hu hv h1 h2
    grind -lia
theorem sum_uniq {C : Ec p} {x1 y1 x2 y2 x3 y3 x4 y4 : Fin p} (h1 : OnE C.d x1 y1) (h2 : OnE C.d x2 y2) (h : SumE C.d x1 y1 x2 y2 x3 y3) (h' : SumE C.d x1 y1 x2 y2 x4 y4) : x3 = x4 ∧ y3 = y4 := by
  refine ⟨Fld.eq (F := C.F) (comp_p h1 h2) ?_, Fld.eq (F := C.F) (comp_m h1 h2) ?_⟩
  · have a := h.1
    have b := h'.1
    rw [← b] at a
    clear h h' h1 h2 b
    grind -lia
  · have a := h.2
    have b := h'.2
    rw [← b] at a
    clear h h' h1 h2 b
    grind -lia
theorem on_core {d x1 y1 x2 y2 e A B : Fin p} (h1 : OnE d x1 y1) (h2 : OnE d x2 y2) (he : e = d*(x1*x2)*(y1*y2)) (hA : A = x1*y2 + x2*y1) (hB : B = y1*y2 + x1*x2) : (B*B)*((1+e)*(1+e)) - (A*A)*((1-e)*(1-e)) = ((1-e)*(1+e))*((1-e)*(1+e)) + d*(A*A)*(B*B) := by
  unfold OnE at h1 h2
  subst he hA hB
  grind -lia
theorem sum_on {C : Ec p} {x1 y1 x2 y2 x3 y3 : Fin p} (h1 : OnE C.d x1 y1) (h2 : OnE C.d x2 y2) (h : SumE C.d x1 y1 x2 y2 x3 y3) : OnE C.d x3 y3 := by
  have k := on_core h1 h2 rfl h.1 h.2
  have c1 := comp_p h1 h2
  have c2 := comp_m h1 h2
  generalize C.d*(x1*x2)*(y1*y2) = e at *
  refine Fld.eq (F := C.F) (k := ((1-e)*(1+e))*((1-e)*(1+e))) (Fld.mul (F := C.F) (Fld.mul (F := C.F) c2 c1) (Fld.mul (F := C.F) c2 c1)) ?_
  clear h h1 h2 c1 c2
  grind -lia
theorem as_x {d x1 y1 x2 y2 x3 y3 : Fin p} (h1 : OnE d x1 y1) (h2 : OnE d x2 y2) (h3 : OnE d x3 y3) :
    ((x1*y2+x2*y1)*(1-d*(x1*x2)*(y1*y2))*y3 + x3*((y1*y2+x1*x2)*(1+d*(x1*x2)*(y1*y2)))) * ((1-d*(x2*x3)*(y2*y3))*(1+d*(x2*x3)*(y2*y3)) + d*(x1*(x2*y3+x3*y2))*(y1*(y2*y3+x2*x3))) =
    (x1*((y2*y3+x2*x3)*(1+d*(x2*x3)*(y2*y3))) + (x2*y3+x3*y2)*(1-d*(x2*x3)*(y2*y3))*y1) * ((1-d*(x1*x2)*(y1*y2))*(1+d*(x1*x2)*(y1*y2)) + d*((x1*y2+x2*y1)*x3)*((y1*y2+x1*x2)*y3)) := by
  unfold OnE at h1 h2 h3
  grind -lia
theorem as_y {d x1 y1 x2 y2 x3 y3 : Fin p} (h1 : OnE d x1 y1) (h2 : OnE d x2 y2) (h3 : OnE d x3 y3) :
    ((y1*y2+x1*x2)*(1+d*(x1*x2)*(y1*y2))*y3 + (x1*y2+x2*y1)*(1-d*(x1*x2)*(y1*y2))*x3) * ((1-d*(x2*x3)*(y2*y3))*(1+d*(x2*x3)*(y2*y3)) - d*(x1*(x2*y3+x3*y2))*(y1*(y2*y3+x2*x3))) =
    (y1*((y2*y3+x2*x3)*(1+d*(x2*x3)*(y2*y3))) + x1*((x2*y3+x3*y2)*(1-d*(x2*x3)*(y2*y3)))) * ((1-d*(x1*x2)*(y1*y2))*(1+d*(x1*x2)*(y1*y2)) - d*((x1*y2+x2*y1)*x3)*((y1*y2+x1*x2)*y3)) := by
  unfold OnE at h1 h2 h3
  grind -lia
theorem fin_cancel {F : Fld p} {D1 D2 N1 N2 Q1 Q2 X Y : Fin p} (d1 : D1 ≠ 0) (d2 : D2 ≠ 0) (q1 : Q1 ≠ 0) (q2 : Q2 ≠ 0) (h : (D1*N1)*(D2*Q2) = (D2*N2)*(D1*Q1)) (hX : X*Q1 = N1) (hY : Y*Q2 = N2) : X = Y := by
  refine Fld.eq (F := F) (k := (D1*D2)*(Q1*Q2)) (Fld.mul (F := F) (Fld.mul (F := F) d1 d2) (Fld.mul (F := F) q1 q2)) ?_
  subst hX hY
  clear d1 d2 q1 q2
  grind -lia
theorem sum_assoc {C : Ec p} {x1 y1 x2 y2 x3 y3 xS yS xU yU X Y X' Y' : Fin p} (h1 : OnE C.d x1 y1) (h2 : OnE C.d x2 y2) (h3 : OnE C.d x3 y3)
    (hS : SumE C.d x1 y1 x2 y2 xS yS) (hU : SumE C.d x2 y2 x3 y3 xU yU) (hX : SumE C.d xS yS x3 y3 X Y) (hY : SumE C.d x1 y1 xU yU X' Y') : X = X' ∧ Y = Y' := by
  have oS := sum_on h1 h2 hS
  have oU := sum_on h2 h3 hU
  have a1 := comp_p h1 h2
  have a2 := comp_m h1 h2
  have a3 := comp_p h2 h3
  have a4 := comp_m h2 h3
  have a5 := comp_p oS h3
  have a6 := comp_m oS h3
  have a7 := comp_p h1 oU
  have a8 := comp_m h1 oU
  have kx := as_x h1 h2 h3
  have ky := as_y h1 h2 h3
  obtain ⟨s1, s2⟩ := hS
  obtain ⟨u1, u2⟩ := hU
  rw [← s1, ← s2, ← u1, ← u2] at kx ky
  have d1 := Fld.mul (F := C.F) a2 a1
  have d2 := Fld.mul (F := C.F) a4 a3
  constructor
  · refine fin_cancel (F := C.F) d1 d2 a5 a7 ?_ hX.1 hY.1
    clear oS oU hX hY h1 h2 h3 ky a1 a2 a3 a4 a5 a6 a7 a8 d1 d2
    clear s1 s2 u1 u2
    generalize C.d*(x1*x2)*(y1*y2) = e at *
    generalize C.d*(x2*x3)*(y2*y3) = f at *
    grind -lia
  · refine fin_cancel (F := C.F) d1 d2 a6 a8 ?_ hX.2 hY.2
    clear oS oU hX hY h1 h2 h3 kx a1 a2 a3 a4 a5 a6 a7 a8 d1 d2
    clear s1 s2 u1 u2
    generalize C.d*(x1*x2)*(y1*y2) = e at *
    generalize C.d*(x2*x3)*(y2*y3) = f at *
    grind -lia
/-- the points -/
def Ec.G (C : Ec p) : Type := {P : Fin p × Fin p // OnE C.d P.1 P.2}
noncomputable def Ec.add {C : Ec p} (P Q : C.G) : C.G := ⟨((sum_ex P.2 Q.2).choose, (sum_ex P.2 Q.2).choose_spec.choose), sum_on P.2 Q.2 (sum_ex P.2 Q.2).choose_spec.choose_spec⟩
theorem Ec.is {C : Ec p} (P Q : C.G) : SumE C.d P.1.1 P.1.2 Q.1.1 Q.1.2 (Ec.add P Q).1.1 (Ec.add P Q).1.2 := (sum_ex P.2 Q.2).choose_spec.choose_spec
theorem Ec.eq {C : Ec p} {P Q R : C.G} (h : SumE C.d P.1.1 P.1.2 Q.1.1 Q.1.2 R.1.1 R.1.2) : Ec.add P Q = R := by
  have := sum_uniq P.2 Q.2 (Ec.is P Q) h
  exact Subtype.ext (Prod.ext this.1 this.2)
theorem Ec.assoc {C : Ec p} (P Q R : C.G) : Ec.add (Ec.add P Q) R = Ec.add P (Ec.add Q R) := by
  have := sum_assoc P.2 Q.2 R.2 (Ec.is P Q) (Ec.is Q R) (Ec.is (Ec.add P Q) R) (Ec.is P (Ec.add Q R))
  exact Subtype.ext (Prod.ext this.1 this.2)
theorem Ec.comm {C : Ec p} (P Q : C.G) : Ec.add P Q = Ec.add Q P := Ec.eq (by
  have := Ec.is Q P
  generalize (Ec.add Q P).1 = R at *
  obtain ⟨h1, h2⟩ := this
  exact ⟨by grind -lia, by grind -lia⟩)
def Ec.zero {C : Ec p} : C.G := ⟨(0, 1), by unfold OnE; grind -lia⟩
theorem Ec.zero_add {C : Ec p} (P : C.G) : Ec.add Ec.zero P = P := Ec.eq (by
  obtain ⟨⟨x, y⟩, h⟩ := P
  show SumE C.d 0 1 x y x y
  clear h
  exact ⟨by grind -lia, by grind -lia⟩)
theorem Ec.add_zero {C : Ec p} (P : C.G) : Ec.add P Ec.zero = P := by rw [Ec.comm, Ec.zero_add]
noncomputable def Ec.mul {C : Ec p} : Nat → C.G → C.G
  | 0, _ => Ec.zero
  | n + 1, P => Ec.add (Ec.mul n P) P
theorem Ec.mul_add {C : Ec p} (P : C.G) (m : Nat) : ∀ n, Ec.mul (m + n) P = Ec.add (Ec.mul m P) (Ec.mul n P)
  | 0 => by rw [Zp, Ec.mul, Ec.add_zero]
  | n + 1 => by rw [← Nat.add_assoc, Ec.mul, Ec.mul_add P m n, Ec.mul, Ec.assoc]
theorem Ec.mul_one {C : Ec p} (P : C.G) : Ec.mul 1 P = P := by rw [Ec.mul, Ec.mul, Ec.zero_add]
theorem Ec.mul_mul {C : Ec p} (P : C.G) (n : Nat) : ∀ m, Ec.mul (m * n) P = Ec.mul m (Ec.mul n P)
  | 0 => by rw [ZQ, Ec.mul, Ec.mul]
  | m + 1 => by rw [Nat.succ_mul, Ec.mul_add, Ec.mul_mul P n m, Ec.mul]
def Rep4 (X Y Z T : Fin p) (P : Fin p × Fin p) : Prop := Z ≠ 0 ∧ X = P.1*Z ∧ Y = P.2*Z ∧ T = P.1*P.2*Z
/-- the program's sum -/
theorem rep4_add {C : Ec p} {P Q : C.G} {X1 Y1 Z1 T1 X2 Y2 Z2 T2 : Fin p} (hp : Rep4 X1 Y1 Z1 T1 P.1) (hq : Rep4 X2 Y2 Z2 T2 Q.1) {a b c d e f g h : Fin p} (ha : a = (Y1-X1)*(Y2-X2)) (hb : b = (Y1+X1)*(Y2+X2)) (hc : c = (T1*T2)*(C.d+C.d)) (hd : d = Z1*Z2+Z1*Z2) (he : e = b - a) (hf : f = d - c) (hg : g = d + c) (hh : h = b + a) :
    Rep4 (e*f) (g*h) (f*g) (e*h) (Ec.add P Q).1 := by
  have c1 := comp_p P.2 Q.2
  have c2 := comp_m P.2 Q.2
  have hs := Ec.is P Q
  generalize (Ec.add P Q).1 = R at *
  obtain ⟨⟨x1, y1⟩, o1⟩ := P
  obtain ⟨⟨x2, y2⟩, o2⟩ := Q
  obtain ⟨x3, y3⟩ := R
  obtain ⟨z1, rfl, rfl, rfl⟩ := hp
  obtain ⟨z2, rfl, rfl, rfl⟩ := hq
  simp only at c1 c2 hs ha hb hc hd ⊢
  clear o1 o2
  have zz := Fld.mul (F := C.F) z1 z2
  have k2 := Ec.two_ne (C := C) zz
  have e1 : f = (Z1*Z2+Z1*Z2)*(1 - C.d*(x1*x2)*(y1*y2)) := by rw [hf, hd, hc]; clear hs c1 c2 zz z1 z2 k2 ha hb hc hd he hf hg hh; grind -lia
  have e2 : g = (Z1*Z2+Z1*Z2)*(1 + C.d*(x1*x2)*(y1*y2)) := by rw [hg, hd, hc]; clear hs c1 c2 zz z1 z2 k2 ha hb hc hd he hf hg hh e1; grind -lia
  have e3 : e = (Z1*Z2+Z1*Z2)*(x1*y2+x2*y1) := by rw [he, hb, ha]; clear hs c1 c2 zz z1 z2 k2 ha hb hc hd he hf hg hh e1 e2; grind -lia
  have e4 : h = (Z1*Z2+Z1*Z2)*(y1*y2+x1*x2) := by rw [hh, hb, ha]; clear hs c1 c2 zz z1 z2 k2 ha hb hc hd he hf hg hh e1 e2 e3; grind -lia
  obtain ⟨s1, s2⟩ := hs
  rw [← s1] at e3
  rw [← s2] at e4
  rw [e1, e2, e3, e4]
  clear s1 s2 e1 e2 e3 e4 ha hb hc hd he hf hg hh
  generalize C.d*(x1*x2)*(y1*y2) = u at *
  generalize Z1*Z2+Z1*Z2 = k at *
  refine ⟨Fld.mul (F := C.F) (Fld.mul (F := C.F) k2 c2) (Fld.mul (F := C.F) k2 c1), ?_, ?_, ?_⟩
  · clear c1 c2 zz z1 z2 k2; simp only; grind -lia
  · clear c1 c2 zz z1 z2 k2; simp only; grind -lia
  · clear c1 c2 zz z1 z2 k2; simp only; grind -lia
/-- d y^2 + 1 is not nothing -/
theorem den_ne {C : Ec p} (y : Fin p) : C.d*(y*y) + 1 ≠ 0 := fun g => by
  have h : C.d*(y*y) = C.i*C.i := by rw [C.hi]; have : C.d*(y*y) = (C.d*(y*y) + 1) - 1 := by clear g; grind -lia
                                     rw [this, g]; clear this g; grind -lia
  by_cases hy : y = 0
  · subst hy
    exact C.one (by rw [← g]; clear g h; grind -lia)
  · exact no_sq (C := C) hy h
/-- an x that goes with a y -/
theorem on_of {C : Ec p} {x y v : Fin p} (hv : (C.d*(y*y) + 1)*v = 1) (h : x*x = (y*y - 1)*v) : OnE C.d x y := by
  have e : x*x*(C.d*(y*y) + 1) = (y*y-1)*((C.d*(y*y) + 1)*v) := by rw [h]; clear h hv; grind -lia
  rw [hv] at e
  unfold OnE
  clear hv h
  grind -lia
theorem of_on {C : Ec p} {x y v : Fin p} (hv : (C.d*(y*y) + 1)*v = 1) (h : OnE C.d x y) : x*x = (y*y - 1)*v := by
  unfold OnE at h
  have e : y*y - 1 = x*x*(C.d*(y*y)+1) := by
    have : y*y - 1 = x*x + (y*y - x*x) - 1 := by clear h hv; grind -lia
    rw [this, h]
    clear this h hv
    grind -lia
  rw [e]
  have : x*x*(C.d*(y*y)+1)*v = x*x*((C.d*(y*y)+1)*v) := by clear h hv e; grind -lia
  rw [this, hv]
  clear this h hv e
  grind -lia
end
end Go.Ed

/- Layer 12: numbers and points of the curve. -/


namespace Go.Proofs.YtlnogkmnklfjlaaDoor
open Go.Dbr
set_option maxRecDepth 100000
set_option maxHeartbeats 2000000
set_option linter.unusedVariables false
set_option linter.unusedSimpArgs false

abbrev PE : Nat := 57896044618658097711785492504343953926634992332820282019728792003956564819949
theorem mF1 : mF 1 = PE := rfl
theorem PE_pos : 0 < PE := by decide
theorem PE_lt : PE < zH := by decide
instance nzE : NeZero PE := ⟨by decide⟩
theorem fldE : Go.Wei.Fld PE := Go.Wei.fld_of z0 (by decide)
abbrev fE (x : Nat) : Fin PE := Go.Wei.fn PE x
def DN : Nat := 37095705934669439343138083508754565189542113879843219016388785533085940283555
def D2N : Nat := 16295367250680780974490674513165176452449235426866156013048779062215315747161
def IN : Nat := 19681161376707505956807079304988542015446066515923890162744021073123829784752
theorem iE : fE IN * fE IN = -1 := by decide +kernel
theorem d2E : fE D2N = fE DN + fE DN := by decide +kernel
theorem one_neE : (1 : Fin PE) ≠ 0 := by decide +kernel
theorem nsq_abs {w p m e d : Nat} (f : w ^ e % p = 1) (he : 2 * m = e) (hd : w * w % p = d) (hm : m < 2 ^ 256) (g : pw p 256 d m ≠ 1) : False := by
  refine g ?_
  rw [pw_eq 256 d m hm, ← hd, ← Nat.pow_mod, ← Nat.pow_two, ← Nat.pow_mul, he, f]
/-- d is no square -/
theorem nsqE (x : Fin PE) : x * x ≠ fE DN := fun h => by
  have e := congrArg Fin.val h
  rw [Go.Wei.fin_mul, show (fE DN).val = DN from by decide +kernel] at e
  generalize x.val = w at e
  have h0 : w % PE ≠ 0 := fun g => by
    rw [Nat.mul_mod, g, ZQ, Qy] at e
    exact absurd e (by decide)
  have f := z0.2 w h0
  exact nsq_abs (f := f) (m := (PE - 1) / 2) (by decide +kernel) e (by decide +kernel) (by decide +kernel)
/-- the curve -/
def cvE : Go.Ed.Ec PE := ⟨fE DN, fE IN, fldE, iE, nsqE, one_neE⟩
abbrev GE := cvE.G
theorem e_mul (x y : Nat) : fE (zq 1 x y) = fE x * fE y := by rw [zq, mF1]; exact Go.Wei.fn_mul x y
theorem e_add (x y : Nat) : fE (Zf 1 x y) = fE x + fE y := by rw [Zf, mF1]; exact Go.Wei.fn_add x y
theorem e_sub (x y : Nat) : fE (zJ 1 x y) = fE x - fE y := by rw [zJ, mF1]; exact Go.Wei.fn_sub x y
theorem el_mul (x y : Nat) : zq 1 x y < PE := Zw _ PE_pos
theorem el_sub (x y : Nat) : zJ 1 x y < PE := Zw _ PE_pos
theorem e_inj {x y : Nat} (hx : x < PE) (hy : y < PE) (h : fE x = fE y) : x = y := Go.Wei.fn_inj hx hy h
theorem e_of (x : Fin PE) : fE x.val = x := Go.Wei.fn_of x
theorem e_one : fE 1 = 1 := Go.Wei.fn_one
theorem e_zero : fE 0 = 0 := Go.Wei.fn_zero
/-- the inverse -/
def ivE (z : Nat) : Nat := zC 1 z (mF 1 - 2)
theorem e_iv {c : Nat} (h : fE c ≠ 0) : fE c * fE (ivE c) = 1 := by
  have hv : c % mF 1 ≠ 0 := fun g => h (Fin.ext (g.trans Go.Wei.fin_zero.symm))
  have e : zq 1 c (ivE c) = 1 := inv_yes (.inl rfl) hv
  rw [← e_mul, e]
  exact e_one
/-! the program's sum -/
def oA (x1 y1 x2 y2 : Nat) : Nat := zq 1 (zJ 1 y1 x1) (zJ 1 y2 x2)
def oB (x1 y1 x2 y2 : Nat) : Nat := zq 1 (Zf 1 y1 x1) (Zf 1 y2 x2)
def oC (t1 t2 : Nat) : Nat := zq 1 (zq 1 t1 t2) D2N
def oD (z1 z2 : Nat) : Nat := Zf 1 (zq 1 z1 z2) (zq 1 z1 z2)
def oE (x1 y1 x2 y2 : Nat) : Nat := zJ 1 (oB x1 y1 x2 y2) (oA x1 y1 x2 y2)
def oF (z1 t1 z2 t2 : Nat) : Nat := zJ 1 (oD z1 z2) (oC t1 t2)
def oG (z1 t1 z2 t2 : Nat) : Nat := Zf 1 (oD z1 z2) (oC t1 t2)
def oH (x1 y1 x2 y2 : Nat) : Nat := Zf 1 (oB x1 y1 x2 y2) (oA x1 y1 x2 y2)
abbrev L4 := List UInt64
def l4 (a b c d : Nat) : L4 := nd a ++ (nd b ++ (nd c ++ nd d))
theorem ndl (a : Nat) : (nd a).length = 4 := zk 4 a
theorem l4_len (a b c d : Nat) : (l4 a b c d).length = 16 := by simp only [l4, z4, nd, zk]
abbrev k1 (p : L4) : Nat := nv (p.take 4)
abbrev k2 (p : L4) : Nat := nv ((p.drop 4).take 4)
abbrev k3 (p : L4) : Nat := nv ((p.drop 8).take 4)
abbrev k4 (p : L4) : Nat := nv (p.drop 12)
theorem l4_1 (a b c d : Nat) : (l4 a b c d).take 4 = nd a := by rw [l4, Yx (ndl a)]
theorem l4_2 (a b c d : Nat) : ((l4 a b c d).drop 4).take 4 = nd b := by rw [l4, Qw (ndl a), Yx (ndl b)]
theorem l4_3 (a b c d : Nat) : ((l4 a b c d).drop 8).take 4 = nd c := by
  rw [l4, show (8 : Nat) = 4 + 4 from rfl, ← Qr, Qw (ndl a), Qw (ndl b), Yx (ndl c)]
theorem l4_4 (a b c d : Nat) : (l4 a b c d).drop 12 = nd d := by
  rw [l4, show (12 : Nat) = 4 + (4 + 4) from rfl, ← Qr, ← Qr, Qw (ndl a), Qw (ndl b), Qw (ndl c)]
def wtE (p q : L4) : L4 := l4 (zq 1 (oE (k1 p) (k2 p) (k1 q) (k2 q)) (oF (k3 p) (k4 p) (k3 q) (k4 q))) (zq 1 (oG (k3 p) (k4 p) (k3 q) (k4 q)) (oH (k1 p) (k2 p) (k1 q) (k2 q))) (zq 1 (oF (k3 p) (k4 p) (k3 q) (k4 q)) (oG (k3 p) (k4 p) (k3 q) (k4 q))) (zq 1 (oE (k1 p) (k2 p) (k1 q) (k2 q)) (oH (k1 p) (k2 p) (k1 q) (k2 q)))
theorem wtE_len (p q : L4) : (wtE p q).length = 16 := l4_len _ _ _ _
/-- a point's four numbers -/
structure RepE (l : L4) (P : GE) : Prop where
  len : l.length = 16
  lt1 : k1 l < PE
  lt2 : k2 l < PE
  lt3 : k3 l < PE
  lt4 : k4 l < PE
  rep : Go.Ed.Rep4 (fE (k1 l)) (fE (k2 l)) (fE (k3 l)) (fE (k4 l)) P.1
theorem nvE {a : Nat} (ha : a < PE) : nv (nd a) = a := nv_nd (z8 ha PE_lt)
theorem k1_l4 {a b c d : Nat} (ha : a < PE) : k1 (l4 a b c d) = a := by rw [k1, l4_1, nvE ha]
theorem k2_l4 {a b c d : Nat} (ha : b < PE) : k2 (l4 a b c d) = b := by rw [k2, l4_2, nvE ha]
theorem k3_l4 {a b c d : Nat} (ha : c < PE) : k3 (l4 a b c d) = c := by rw [k3, l4_3, nvE ha]
theorem k4_l4 {a b c d : Nat} (ha : d < PE) : k4 (l4 a b c d) = d := by rw [k4, l4_4, nvE ha]
theorem rep_l4 {a b c d : Nat} {P : GE} (ha : a < PE) (hb : b < PE) (hc : c < PE) (hd : d < PE) (h : Go.Ed.Rep4 (fE a) (fE b) (fE c) (fE d) P.1) : RepE (l4 a b c d) P :=
  ⟨l4_len _ _ _ _, by rw [k1_l4 ha]; exact ha, by rw [k2_l4 hb]; exact hb, by rw [k3_l4 hc]; exact hc, by rw [k4_l4 hd]; exact hd, by rw [k1_l4 ha, k2_l4 hb, k3_l4 hc, k4_l4 hd]; exact h⟩
theorem rep4_sum {x1 y1 z1 t1 x2 y2 z2 t2 : Nat} {P Q : GE} (hp : Go.Ed.Rep4 (fE x1) (fE y1) (fE z1) (fE t1) P.1) (hq : Go.Ed.Rep4 (fE x2) (fE y2) (fE z2) (fE t2) Q.1) :
    Go.Ed.Rep4 (fE (zq 1 (oE x1 y1 x2 y2) (oF z1 t1 z2 t2))) (fE (zq 1 (oG z1 t1 z2 t2) (oH x1 y1 x2 y2))) (fE (zq 1 (oF z1 t1 z2 t2) (oG z1 t1 z2 t2))) (fE (zq 1 (oE x1 y1 x2 y2) (oH x1 y1 x2 y2))) (Go.Ed.Ec.add P Q).1 := by
  rw [e_mul, e_mul, e_mul, e_mul]
  exact Go.Ed.rep4_add (C := cvE) hp hq (a := fE (oA x1 y1 x2 y2)) (b := fE (oB x1 y1 x2 y2)) (c := fE (oC t1 t2)) (d := fE (oD z1 z2)) (by rw [oA, e_mul, e_sub, e_sub]) (by rw [oB, e_mul, e_add, e_add]) (by rw [oC, e_mul, e_mul, d2E]; rfl) (by rw [oD, e_add, e_mul]) (by rw [oE, e_sub]) (by rw [oF, e_sub]) (by rw [oG, e_add]) (by rw [oH, e_add])
theorem rep_wt {p q : L4} {P Q : GE} (hp : RepE p P) (hq : RepE q Q) : RepE (wtE p q) (Go.Ed.Ec.add P Q) :=
  rep_l4 (el_mul _ _) (el_mul _ _) (el_mul _ _) (el_mul _ _) (rep4_sum hp.rep hq.rep)
def zero16 : L4 := l4 0 1 1 0
theorem rep_zero : RepE zero16 Go.Ed.Ec.zero := rep_l4 (by decide) (by decide) (by decide) (by decide) (by
  rw [e_one, e_zero]
  refine ⟨one_neE, ?_, ?_, ?_⟩
  · show (0 : Fin PE) = 0 * 1; decide +kernel
  · show (1 : Fin PE) = 1 * 1; decide +kernel
  · show (0 : Fin PE) = 0 * 1 * 1; decide +kernel)
def rowF (p : L4) : Nat → L4
  | 0 => zero16
  | i + 1 => wtE (rowF p i) p
def dblF (o : L4) : Nat → L4
  | 0 => o
  | j + 1 => wtE (dblF o j) (dblF o j)
theorem rep_row {p : L4} {P : GE} (h : RepE p P) : ∀ i, RepE (rowF p i) (Go.Ed.Ec.mul i P)
  | 0 => rep_zero
  | i + 1 => rep_wt (rep_row h i) h
theorem rep_dbl {o : L4} {P : GE} (h : RepE o P) : ∀ j, RepE (dblF o j) (Go.Ed.Ec.mul (2 ^ j) P)
  | 0 => by rw [ZK, Go.Ed.Ec.mul_one]; exact h
  | j + 1 => by
    rw [z6, zY, Nat.two_mul, Go.Ed.Ec.mul_add]
    exact rep_wt (rep_dbl h j) (rep_dbl h j)
/-- the digit of four bits -/
def nib (k i : Nat) : Nat := k / 16 ^ i % 16
def tmF (p : L4) (k : Nat) : Nat → L4
  | 0 => zero16
  | j + 1 => wtE (dblF (tmF p k j) 4) (rowF p (nib k (63 - j)))
theorem tmF_len (p : L4) (k : Nat) : ∀ j, (tmF p k j).length = 16
  | 0 => l4_len _ _ _ _
  | i + 1 => wtE_len _ _
theorem nibs_step (k i : Nat) : k / 16 ^ i = 16 * (k / 16 ^ (i + 1)) + nib k i := by
  rw [nib, z6, ← Zt]
  exact (Nat.div_add_mod _ _).symm
theorem rep_tm {p : L4} {P : GE} {k : Nat} (h : RepE p P) (hk : k < zH) : ∀ j, j ≤ 64 → RepE (tmF p k j) (Go.Ed.Ec.mul (k / 16 ^ (64 - j)) P)
  | 0, _ => by
    rw [Nat.div_eq_of_lt (show k < 16 ^ (64 - 0) from hk)]
    exact rep_zero
  | j + 1, hj => by
    have ih := rep_tm h hk j (by omega)
    have e : 64 - j = 63 - j + 1 := by omega
    rw [show 64 - (j + 1) = 63 - j by omega, nibs_step, Go.Ed.Ec.mul_add, zY, zY _ 16, Go.Ed.Ec.mul_mul, ← e]
    exact rep_wt (rep_dbl ih 4) (rep_row h _)
theorem rep_times {p : L4} {P : GE} {k : Nat} (h : RepE p P) (hk : k < zH) : RepE (tmF p k 64) (Go.Ed.Ec.mul k P) := by
  have := rep_tm h hk 64 (QY _)
  rwa [Y8, ZK, Y3] at this
/-! the document's sum -/
def l3 (a b c : Nat) : L4 := nd a ++ (nd b ++ nd c)
theorem l3_len (a b c : Nat) : (l3 a b c).length = 12 := by simp only [l3, z4, nd, zk]
end Go.Proofs.YtlnogkmnklfjlaaDoor

/- Layer 12: points of bytes, bytes of points. -/

namespace Go.Proofs.YtlnogkmnklfjlaaDoor
open Go.Dbr
set_option maxRecDepth 100000
set_option maxHeartbeats 2000000
set_option linter.unusedVariables false
set_option linter.unusedSimpArgs false

def clr (b : List UInt8) : List UInt8 := zp b 31 (zf b 31 0 &&& 127)
def yE (b : List UInt8) : Nat := lv (clr b)
def odE (b : List UInt8) : Bool := decide (128 ≤ (zf b 31 0).toNat)
/-- what the root is drawn of, the root, its sign -/
def tA (y : Nat) : Nat := zq 1 (zJ 1 (zq 1 y y) 1) (ivE (Zf 1 (zq 1 DN (zq 1 y y)) 1))
def rE (y : Nat) : Nat := QX 1 (tA y)
def xOkE (y : Nat) (odd : Bool) : Bool := rootOk 1 (tA y) && !(odd && decide (rE y = 0))
def xE (y : Nat) (odd : Bool) : Nat := bif odd then zJ 1 0 (rE y) else rE y
def isE (b : List UInt8) : Bool := decide (yE b < mF 1) && xOkE (yE b) (odE b)
theorem clr_len {b : List UInt8} (h : b.length = 32) : (clr b).length = 32 := by rw [clr, Q6, h]
theorem rs_lt1 (A : Nat) : rs 1 A < PE := rs_ltM (.inl rfl) A
theorem rootN_lt1 (A : Nat) : QX 1 A < PE := by
  unfold QX
  split
  · split
    · exact el_sub _ _
    · exact rs_lt1 A
  · decide
theorem root_sq {A : Nat} (hA : A < PE) (h : rootOk 1 A = true) : zq 1 (QX 1 A) (QX 1 A) = A ∧ QX 1 A % 2 = 0 := by
  have e := (of_decide_eq_true h).2
  rw [mulM_one, mF1, zB hA] at e
  have s := sq_law (f := 1) (.inl rfl) (rs 1 A)
  rw [e] at s
  exact s.2
theorem tA_lt (y : Nat) : tA y < PE := by rw [tA]; exact el_mul _ _
theorem rE_lt (y : Nat) : rE y < PE := by rw [rE]; exact rootN_lt1 _
theorem xE_t (y : Nat) : xE y true = zJ 1 0 (rE y) := by rw [xE, Qe]
theorem xE_f (y : Nat) : xE y false = rE y := by rw [xE, ZZ]
theorem xE_lt (y : Nat) (odd : Bool) : xE y odd < PE := by
  cases odd with
  | true => rw [xE_t]; exact el_sub _ _
  | false => rw [xE_f]; exact rE_lt y
theorem xE_sq {y : Nat} {odd : Bool} (h : xOkE y odd = true) : fE (xE y odd) * fE (xE y odd) = fE (tA y) := by
  simp only [xOkE, zO] at h
  have s := (root_sq (A := tA y) (tA_lt y) h.1).1
  have s2 : fE (rE y) * fE (rE y) = fE (tA y) := by rw [rE, ← e_mul, s]
  cases odd with
  | true =>
    rw [xE_t, e_sub, e_zero, ← s2]
    generalize fE (rE y) = r
    clear s s2 h
    grind -lia
  | false => rw [xE_f]; exact s2
/-- what divides -/
theorem den_iv (y : Nat) : (cvE.d * (fE y * fE y) + 1) * fE (ivE (Zf 1 (zq 1 DN (zq 1 y y)) 1)) = 1 := by
  have e : fE (Zf 1 (zq 1 DN (zq 1 y y)) 1) = cvE.d * (fE y * fE y) + 1 := by rw [e_add, e_mul, e_mul, e_one]; rfl
  rw [← e]
  exact e_iv (by rw [e]; exact Go.Ed.den_ne (fE y))
theorem tA_eq (y : Nat) : fE (tA y) = (fE y * fE y - 1) * fE (ivE (Zf 1 (zq 1 DN (zq 1 y y)) 1)) := by rw [tA, e_mul, e_sub, e_mul, e_one]
theorem pt_on {y : Nat} {odd : Bool} (h : xOkE y odd = true) : Go.Ed.OnE cvE.d (fE (xE y odd)) (fE y) :=
  Go.Ed.on_of (C := cvE) (den_iv y) (by rw [xE_sq h, tA_eq])
/-- the point that bytes tell -/
noncomputable def gPt (b : List UInt8) : GE := if h : xOkE (yE b) (odE b) = true then ⟨(fE (xE (yE b) (odE b)), fE (yE b)), pt_on h⟩ else Go.Ed.Ec.zero
theorem gPt_val {b : List UInt8} (h : xOkE (yE b) (odE b) = true) : (gPt b).1 = (fE (xE (yE b) (odE b)), fE (yE b)) := by
  unfold gPt
  exact congrArg Subtype.val (dif_pos h)
theorem is_x {b : List UInt8} (h : isE b = true) : xOkE (yE b) (odE b) = true := by
  simp only [isE, zO] at h
  exact h.2
theorem is_y {b : List UInt8} (h : isE b = true) : yE b < PE := by
  simp only [isE, zO, decide_eq_true_eq] at h
  exact h.1
def ptL (y : Nat) (odd : Bool) : L4 := l4 (xE y odd) y 1 (zq 1 (xE y odd) y)
def ptD (y : Nat) (odd : Bool) : L4 := l3 (xE y odd) y 1
theorem ptL_len (y : Nat) (odd : Bool) : (ptL y odd).length = 16 := l4_len _ _ _ _
theorem ptD_len (y : Nat) (odd : Bool) : (ptD y odd).length = 12 := l3_len _ _ _
theorem rep_pt {b : List UInt8} (h : isE b = true) : RepE (ptL (yE b) (odE b)) (gPt b) := by
  refine rep_l4 (xE_lt _ _) (is_y h) (by decide) (el_mul _ _) ?_
  rw [gPt_val (is_x h), e_mul, e_one]
  generalize fE (xE (yE b) (odE b)) = x
  generalize fE (yE b) = y
  refine ⟨one_neE, ?_, ?_, ?_⟩ <;> simp only <;> grind -lia
/-- the bytes of two numbers -/
def outN (x y : Nat) : List UInt8 := zp (lb 32 y) 31 (zf (lb 32 y) 31 0 ||| (zA (x % 2) <<< 7))
def outE (P : GE) : List UInt8 := outN P.1.1.val P.1.2.val
theorem outN_len (x y : Nat) : (outN x y).length = 32 := by rw [outN, Q6, lb_len]
theorem outE_len (P : GE) : (outE P).length = 32 := outN_len _ _
theorem top_dec : ∀ (n : Fin 128) (x : Fin 2), ((zA n.val ||| (zA x.val <<< 7)) &&& 127 = zA n.val) ∧ decide (128 ≤ (zA n.val ||| (zA x.val <<< 7)).toNat) = decide (x.val = 1) := by decide +kernel
theorem lv_digE : ∀ (l : List UInt8) (j : Nat), (zf l j 0).toNat = lv l / 256 ^ j % 256
  | [], j => by simp [lv]
  | x :: r, 0 => by have := x.toNat_lt; rw [List.getD_cons_zero, lv, ZK, Y3]; omega
  | x :: r, j + 1 => by
    have := x.toNat_lt
    rw [List.getD_cons_succ, lv_digE r j, lv, z6, zY (_ ^ j), ← Zt]
    congr 2
    omega
theorem top_lt {y : Nat} (h : y < PE) : (zf (lb 32 y) 31 0).toNat < 128 := by
  rw [lv_digE, lb_val, zB (show y < 256 ^ 32 from z8 h (by decide))]
  exact Nat.lt_of_le_of_lt (Nat.mod_le _ _) (Nat.div_lt_of_lt_mul (z8 h (by decide)))
theorem set_getD {l : List UInt8} {i : Nat} (h : i < l.length) : zp l i (zf l i 0) = l := by
  refine List.ext_getElem (by simp) fun j h1 h2 => ?_
  rw [List.getElem_set]
  split
  · rename_i e
    subst e
    rw [zR, zL h]
    rfl
  · rfl
theorem out_top (x y : Nat) : zf (outN x y) 31 0 = zf (lb 32 y) 31 0 ||| (zA (x % 2) <<< 7) := by
  rw [outN, zR, List.getElem?_set_self (by rw [lb_len]; decide)]
  rfl
theorem clr_out {x y : Nat} (h : y < PE) : clr (outN x y) = lb 32 y ∧ odE (outN x y) = decide (x % 2 = 1) := by
  have hb := top_lt h
  have ht := out_top x y
  have d := top_dec ⟨_, hb⟩ ⟨x % 2, Zw _ (by decide)⟩
  simp only [UInt8.ofNat_toNat] at d
  refine ⟨?_, ?_⟩
  · rw [clr, ht, d.1, outN, List.set_set, set_getD (by rw [lb_len]; decide)]
  · rw [odE, ht, d.2]
theorem y_out {x y : Nat} (h : y < PE) : yE (outN x y) = y := by
  rw [yE, (clr_out h).1, lb_val, zB (show y < 256 ^ 32 from z8 h (by decide))]
theorem tA_on {x y : Nat} (hx : x < PE) (h : Go.Ed.OnE cvE.d (fE x) (fE y)) : tA y = zq 1 x x := by
  refine e_inj (el_mul _ _) (el_mul _ _) ?_
  rw [tA_eq, e_mul]
  exact (Go.Ed.of_on (C := cvE) (den_iv y) h).symm
theorem sqE {r x : Nat} (hr : r < PE) (hx : x < PE) (h : zq 1 r r = zq 1 x x) : r = x ∨ r = PE - x ∧ x ≠ 0 := by
  have e := congrArg fE h
  rw [e_mul, e_mul] at e
  have z : (fE r - fE x) * (fE r + fE x) = 0 := by
    have : (fE r - fE x) * (fE r + fE x) = fE r * fE r - fE x * fE x := by clear e h; grind -lia
    rw [this, e]
    clear this e h
    grind -lia
  rcases fldE.nz _ _ z with g | g
  · left
    refine e_inj hr hx ?_
    clear e h z
    grind -lia
  · by_cases h0 : x = 0
    · left
      subst h0
      refine e_inj hr hx ?_
      rw [e_zero] at g ⊢
      clear e h z
      grind -lia
    · right
      have e2 : fE (r + x) = 0 := by
        have := e_add r x
        rw [Zf, mF1, show fE ((r + x) % PE) = fE (r + x) from Go.Wei.fn_mod _] at this
        rw [this, g]
      have e3 : (r + x) % PE = 0 := by
        have := congrArg Fin.val e2
        rwa [Go.Wei.fin_zero] at this
      refine ⟨?_, h0⟩
      rcases ZJ (r + x) PE with q | q
      · rw [zB q] at e3
        omega
      · rw [Nat.mod_eq_sub_mod q, zB (by omega)] at e3
        omega
/-- what was written is read again -/
theorem out_in (P : GE) : isE (outE P) = true ∧ gPt (outE P) = P := by
  have ho : Go.Ed.OnE cvE.d (fE P.1.1.val) (fE P.1.2.val) := by rw [e_of, e_of]; exact P.2
  have hx : P.1.1.val < PE := P.1.1.isLt
  have hy : P.1.2.val < PE := P.1.2.isLt
  have ey : yE (outE P) = P.1.2.val := y_out hy
  have eo : odE (outE P) = decide (P.1.1.val % 2 = 1) := (clr_out hy).2
  have t := tA_on hx ho
  have s := sq_law (f := 1) (.inl rfl) P.1.1.val
  rw [← t] at s
  have hr : rE P.1.2.val < PE := rE_lt _
  have h2 : rE P.1.2.val = P.1.1.val ∨ rE P.1.2.val = PE - P.1.1.val ∧ P.1.1.val ≠ 0 := sqE hr hx (by rw [rE]; exact s.2.1.trans t)
  have hev : rE P.1.2.val % 2 = 0 := by rw [rE]; exact s.2.2
  have hp : PE % 2 = 1 := by decide
  have ex : xE P.1.2.val (decide (P.1.1.val % 2 = 1)) = P.1.1.val ∧ (decide (P.1.1.val % 2 = 1) = true → rE P.1.2.val ≠ 0) := by
    by_cases g : P.1.1.val % 2 = 1
    · rw [decide_eq_true g, xE_t]
      rcases h2 with h2 | ⟨h2, h3⟩
      · omega
      · refine ⟨?_, fun _ => by omega⟩
        rw [zJ, h2, mF1, Qy, zB (show PE - P.1.1.val < PE by omega), show 0 + PE - (PE - P.1.1.val) = P.1.1.val by omega, zB hx]
    · rw [decide_eq_false g, xE_f]
      rcases h2 with h2 | ⟨h2, h3⟩
      · exact ⟨h2, fun h => by cases h⟩
      · omega
  have ok : xOkE (yE (outE P)) (odE (outE P)) = true := by
    rw [ey, eo, xOkE, s.1, QA]
    by_cases g : decide (P.1.1.val % 2 = 1) = true
    · rw [g, QA, decide_eq_false (ex.2 g)]
      rfl
    · rw [Bool.eq_false_iff.2 g]
      rfl
  refine ⟨?_, ?_⟩
  · rw [isE, ok, ey, Bool.and_true]
    exact decide_eq_true hy
  · refine Subtype.ext ((gPt_val ok).trans ?_)
    rw [ey, eo, ex.1, e_of, e_of]
/-- the bytes of a point's numbers -/
theorem aff_x {x z : Nat} {X : Fin PE} (hz : fE z ≠ 0) (h : fE x = X * fE z) : zq 1 x (ivE z) = X.val := by
  refine e_inj (el_mul _ _) X.isLt ?_
  rw [e_mul, h, e_of]
  have i1 := e_iv hz
  generalize fE (ivE z) = i at *
  generalize fE z = k at *
  clear h hz
  grind -lia
theorem by4 {l : L4} {P : GE} (h : RepE l P) : outN (zq 1 (k1 l) (ivE (k3 l))) (zq 1 (k2 l) (ivE (k3 l))) = outE P := by
  rw [outE, aff_x h.rep.1 h.rep.2.1, aff_x h.rep.1 h.rep.2.2.1]
instance : DecidableEq GE := fun P Q => if h : P.1 = Q.1 then isTrue (Subtype.ext h) else isFalse fun g => h (congrArg Subtype.val g)
end Go.Proofs.YtlnogkmnklfjlaaDoor

/- Layer 12: the base, its order. -/

namespace Go.Proofs.YtlnogkmnklfjlaaDoor
open Go.Dbr
set_option maxRecDepth 100000
set_option maxHeartbeats 2000000
set_option linter.unusedVariables false
set_option linter.unusedSimpArgs false

abbrev N4 := Nat × Nat × Nat × Nat
def wtN : N4 → N4 → N4
  | (x1, y1, z1, t1), (x2, y2, z2, t2) => (zq 1 (oE x1 y1 x2 y2) (oF z1 t1 z2 t2), zq 1 (oG z1 t1 z2 t2) (oH x1 y1 x2 y2), zq 1 (oF z1 t1 z2 t2) (oG z1 t1 z2 t2), zq 1 (oE x1 y1 x2 y2) (oH x1 y1 x2 y2))
def RepN (s : N4) (P : GE) : Prop := Go.Ed.Rep4 (fE s.1) (fE s.2.1) (fE s.2.2.1) (fE s.2.2.2) P.1
theorem repN_wt {s t : N4} {P Q : GE} (hs : RepN s P) (ht : RepN t Q) : RepN (wtN s t) (Go.Ed.Ec.add P Q) := by
  obtain ⟨x1, y1, z1, t1⟩ := s
  obtain ⟨x2, y2, z2, t2⟩ := t
  exact rep4_sum hs ht
def mulG : Nat → Nat → N4 → N4
  | 0, _, _ => (0, 1, 1, 0)
  | f + 1, e, g => cond (Qs (e % 2) 1) (wtN (mulG f (e / 2) (wtN g g)) g) (mulG f (e / 2) (wtN g g))
theorem repN_mul : ∀ (f e : Nat) (g : N4) (P : GE), e < 2 ^ f → RepN g P → RepN (mulG f e g) (Go.Ed.Ec.mul e P)
  | 0, e, g, P, he, _ => by
    have : e = 0 := by simp at he; exact he
    subst this
    have := rep_zero.rep
    rw [zero16, k1_l4 (by decide), k2_l4 (by decide), k3_l4 (by decide), k4_l4 (by decide)] at this
    exact this
  | f + 1, e, g, P, he, h => by
    have ih := repN_mul f (e / 2) (wtN g g) (Go.Ed.Ec.add P P) (by rw [z6] at he; omega) (repN_wt h h)
    have e2 : Go.Ed.Ec.mul (e / 2) (Go.Ed.Ec.add P P) = Go.Ed.Ec.mul (e / 2 * 2) P := by
      rw [Go.Ed.Ec.mul_mul]
      congr 1
      show _ = Go.Ed.Ec.add (Go.Ed.Ec.add Go.Ed.Ec.zero P) P
      rw [Go.Ed.Ec.zero_add]
    rw [e2] at ih
    unfold mulG
    cases hb : Qs (e % 2) 1 with
    | true =>
      have h1 : e % 2 = 1 := QE hb
      have : e = e / 2 * 2 + 1 := by omega
      have k := repN_wt ih h
      rw [show Go.Ed.Ec.add (Go.Ed.Ec.mul (e / 2 * 2) P) P = Go.Ed.Ec.mul e P from (by
        conv => rhs; rw [this]
        rfl)] at k
      exact k
    | false =>
      have h1 : e % 2 ≠ 1 := Nat.ne_of_beq_eq_false hb
      have : e / 2 * 2 = e := by omega
      rw [this] at ih
      exact ih
def BX : Nat := 15112221349535400772501151409588531511454012693041857206046113283949847762202
def BY_ : Nat := 46316835694926478169428394003475163141307993866256225615783033603165251855960
theorem onB : Go.Ed.OnE cvE.d (fE BX) (fE BY_) := by
  show fE BY_ * fE BY_ - fE BX * fE BX = 1 + fE DN * (fE BX * fE BX) * (fE BY_ * fE BY_)
  decide +kernel
/-- the base -/
def gB : GE := ⟨(fE BX, fE BY_), onB⟩
theorem repB : RepN (BX, BY_, 1, zq 1 BX BY_) gB := by
  show Go.Ed.Rep4 (fE BX) (fE BY_) (fE 1) (fE (zq 1 BX BY_)) (fE BX, fE BY_)
  rw [e_mul, e_one]
  generalize fE BX = x
  generalize fE BY_ = y
  refine ⟨one_neE, ?_, ?_, ?_⟩ <;> simp only <;> grind -lia
/-- the base's bytes tell the base -/
def baseB : List UInt8 := [88, 102, 102, 102, 102, 102, 102, 102, 102, 102, 102, 102, 102, 102, 102, 102, 102, 102, 102, 102, 102, 102, 102, 102, 102, 102, 102, 102, 102, 102, 102, 102]
theorem powN (x : Nat) {n : Nat} (h : n < 2 ^ 256) : zC 1 x n = pw PE 256 x n := powM_pw x h
theorem ivE_pw (x : Nat) : ivE x = pw PE 256 x (PE - 2) := powN x (by decide)
theorem base_y : yE baseB = BY_ ∧ odE baseB = false := by decide +kernel
theorem base_out : outE gB = baseB := by decide +kernel
theorem base_pt : isE baseB = true ∧ gPt baseB = gB := by rw [← base_out]; exact out_in gB
def baseL : L4 := ptL BY_ false
theorem rep_base : RepE baseL gB := by
  have h := rep_pt base_pt.1
  rw [base_pt.2, base_y.1, base_y.2] at h
  exact h
/-- the bytes of so many times the base -/
noncomputable def puE (n : Nat) : List UInt8 := outE (Go.Ed.Ec.mul n gB)
theorem puE_len (n : Nat) : (puE n).length = 32 := outE_len _
theorem pu_L {k : Nat} (hk : k < zH) : outN (zq 1 (k1 (tmF baseL k 64)) (ivE (k3 (tmF baseL k 64)))) (zq 1 (k2 (tmF baseL k 64)) (ivE (k3 (tmF baseL k 64)))) = puE k := by4 (rep_times rep_base hk)
end Go.Proofs.YtlnogkmnklfjlaaDoor

/- Layer 4: roots of each field. -/

namespace Go.Proofs.YtlnogkmnklfjlaaDoor
open Go.Dbr
set_option maxRecDepth 100000
set_option maxHeartbeats 2000000
set_option linter.unusedVariables false
set_option linter.unusedSimpArgs false

theorem rroot1_go (w : World) (a : List UInt64) (ha : ze a = 4) : Calls Tryd.prog 60 #[.int .i64 1, .agg (zi (zh a))] w fun e w' => e = .returned (.tuple #[.agg (zi (zh (nd (QX 1 (nv a))))), .bool (rootOk 1 (nv a))]) ∧ Ev w [] w' [] := by
 refine d_0 [(0, .int .i64 1), (1, .agg (zi (zh a)))] 89 Go.Proofs.Tryd.func60 Go.Proofs.Tryd.ntmps60 (Heap.nil _) fun act0 En0 Hv0 => ?_
 refine wp_seq <| zm <| f_o <| m_m 34 (zh a) En0 Hv0 fun _ _ bk1 En4 Hv5 => ?_
 refine f_o <| m_z 34 (zh (zc 4 0)) En4 Hv5 fun _ _ bk6 En9 Hv10 => ?_
 refine d_e [0,3,4,5] [] En9 fun _ En12 => ?_
 refine zg <| wp_seq <| zm <| d_k [0,3,4,5,16] [] 1 En12 fun _ En14 => ?_
 refine f_o <| c_p En14 Hv10 (rmodulus_go _ 1) fun _ _ En20 Hv21 => ?_
 refine f_o <| m_z 34 (zh (zc 4 0)) En20 Hv21 fun _ _ bk22 En25 Hv26 => ?_
 refine f_o <| m_g 2 0 4 (zh (nd (mF 1))) _ [.box bk1 (zh a) 34, .box bk6 (zh (zc 4 0)) 34, .box bk22 (zh (nd (mF 1))) 34] En25 Hv26 rfl (zb (zk _ _)) (by rw [(zb (zd))]; first | decide | (simp; done)) (zu _) (zo (zb (zd))) rfl fun _ _ En29 Hv30 => ?_
 refine f_e <| zg <| wp_seq <| zm <| d_k [0,3,4,5,6,18] [] 1 En29 fun _ En32 => ?_
 refine f_o <| m_z 34 (zh (zc 4 0)) En32 Hv30 fun _ _ bk33 En36 Hv37 => ?_
 refine f_o <| m_g 3 0 4 (zh ([0, 0, 0, 0] : List UInt64)) _ [.box bk1 (zh a) 34, .box bk6 (zh (zc 4 0)) 34, .box bk22 (zh (nd (mF 1))) 34, .box bk33 (zh ([0, 0, 0, 0] : List UInt64)) 34] En36 Hv37 rfl (zb (show ze ([0, 0, 0, 0] : List UInt64) = 4 from rfl)) (by rw [(zb (zd))]; first | decide | (simp; done)) (zu _) (zo (zb (zd))) rfl fun _ _ En40 Hv41 => ?_
 refine f_e <| zg <| wp_seq <| zm <| d_k [0,3,4,5,6,7,19] [] 1 En40 fun _ En43 => ?_
 refine f_o <| m_a 0 0 4 (zh a) En43 Hv41 rfl (zn (zb ha)) (zb ha) fun _ En45 => ?_
 refine d_k [0,3,4,5,6,7,19,20,21] [] 3 En45 fun _ En47 => ?_
 refine f_o <| c_p En47 Hv41 ((Xh h1f (Js (by decide))) _ a ([1, 0, 0, 0] : List UInt64) ha (show ze ([1, 0, 0, 0] : List UInt64) = 4 from rfl)) fun _ _ En53 Hv54 => ?_
 refine f_o <| m_z 34 (zh (zc 4 0)) En53 Hv54 fun _ _ bk55 En58 Hv59 => ?_
 refine f_o <| m_g 4 0 4 (zh (nd (zq 1 (nv a) (nv ([1, 0, 0, 0] : List UInt64))))) _ [.box bk1 (zh a) 34, .box bk6 (zh (zc 4 0)) 34, .box bk22 (zh (nd (mF 1))) 34, .box bk33 (zh ([0, 0, 0, 0] : List UInt64)) 34, .box bk55 (zh (nd (zq 1 (nv a) (nv ([1, 0, 0, 0] : List UInt64))))) 34] En58 Hv59 rfl (zb (zk _ _)) (by rw [(zb (zd))]; first | decide | (simp; done)) (zu _) (zo (zb (zd))) rfl fun _ _ En62 Hv63 => ?_
 refine f_e <| zg <| wp_seq <| wp_seq <| d_r [0,3,4,5,6,7,8,23] [] En62 fun _ En65 => ?_
 refine zg <| wp_block <| wp_seq <| d_r [0,3,4,5,6,7,8,23,25] [] En65 fun _ En67 => ?_
 refine zg <| c_f En67 ?_
 refine wp_seq <| d_r [0,3,4,5,6,7,8,23,39] [] En67 fun _ En69 => ?_
 refine zg <| c_t En69 ?_
 refine wp_seq <| zm <| f_o <| m_a 2 0 4 (zh (nd (mF 1))) En69 Hv63 rfl (zn (zb (zk _ _))) (zb (zk _ _)) fun _ En71 => ?_
 refine d_k [0,3,4,5,6,7,8,23,42,43] [] 2 En71 fun _ En73 => ?_
 refine f_o <| c_p En73 Hv63 (rplus_go _ (nd (mF 1)) ([3, 0, 0, 0] : List UInt64) (zk _ _) (show ze ([3, 0, 0, 0] : List UInt64) = 4 from rfl)) fun _ _ En79 Hv80 => ?_
 refine d_k [0,3,4,5,6,7,8,23,45,46] [] 6 En79 fun _ En82 => ?_
 refine f_o <| m_z 34 (zh (zc 4 0)) En82 Hv80 fun _ _ bk83 En86 Hv87 => ?_
 refine f_o <| m_g 5 0 4 (zh (nd (nv (nd (mF 1)) + nv ([3, 0, 0, 0] : List UInt64)))) _ [.box bk1 (zh a) 34, .box bk6 (zh (zc 4 0)) 34, .box bk22 (zh (nd (mF 1))) 34, .box bk33 (zh ([0, 0, 0, 0] : List UInt64)) 34, .box bk55 (zh (nd (zq 1 (nv a) (nv ([1, 0, 0, 0] : List UInt64))))) 34, .box bk83 (zh (nd (nv (nd (mF 1)) + nv ([3, 0, 0, 0] : List UInt64)))) 34] En86 Hv87 rfl (zb (zk _ _)) (by rw [(zb (zd))]; first | decide | (simp; done)) (zu _) (zo (zb (zd))) rfl fun _ _ En90 Hv91 => ?_
 refine d_e [0,3,4,5,6,7,8,11,23] [] En90 fun _ En93 => ?_
 refine zg <| wp_seq <| r_c (fun ac wo => Env ac 89 [(0, .int .i64 1), (3, pt bk1), (4, pt bk6), (5, .bool false), (6, pt bk22), (7, pt bk33), (8, pt bk55), (11, pt bk83), (23, .int .i64 1)] ∧ Ev w [] wo [.box bk1 (zh a) 34, .box bk6 (zh (zc 4 0)) 34, .box bk22 (zh (nd (mF 1))) 34, .box bk33 (zh (nd (zC 1 (nv a) (nv (nd (nv (nd (nv (nd (nv (nd (nv (nd (mF 1)) + nv ([3, 0, 0, 0] : List UInt64))) / 2)) / 2)) / 2)))))) 34, .box bk55 (zh (nd (zq 1 (nv a) (nv ([1, 0, 0, 0] : List UInt64))))) 34, .box bk83 (zh (nd (nv (nd (mF 1)) + nv ([3, 0, 0, 0] : List UInt64)))) 34]) ?_ ?_
 ·
  refine h_s (fun wv => Ev w [] wv [.box bk1 (zh a) 34, .box bk83 (zh (nd (nv (nd (mF 1)) + nv ([3, 0, 0, 0] : List UInt64)))) 34]) [] 8 ?_
  have wo94 := Hv91.trans (Ev.drew Hv91.heap)
  refine q_s [0] [] 7 En93 (wo94.pk [0, 5]) fun _ En289 => ?_
  refine q_r 1 (s := Instr.loadAt 34 (pt bk1)) (v := .agg (zi (zh a))) En289 (fun w hS => run_loadAgg2 (m := 4) (cs := zh a) (zb ha) (by kernel_rfl) (by kernel_rfl) (hS.heap.cells (k := 0) (off := 0) (m := 4) rfl (zn (zb ha)))) (wo94.pk [0, 5]) fun _ En291 => ?_
  refine q_r 2 (s := Instr.loadAt 34 (pt bk83)) (v := .agg (zi (zh (nd (nv (nd (mF 1)) + nv ([3, 0, 0, 0] : List UInt64)))))) En291 (fun w hS => run_loadAgg2 (m := 4) (cs := zh (nd (nv (nd (mF 1)) + nv ([3, 0, 0, 0] : List UInt64)))) (zb (zk _ _)) (by kernel_rfl) (by kernel_rfl) (hS.heap.cells (k := 1) (off := 0) (m := 4) rfl (zn (zb (zk _ _))))) (wo94.pk [0, 5]) fun _ En293 => ?_
  refine q_t 3 ?_
  refine c_p En293 wo94 (Xk _ (nd (nv (nd (mF 1)) + nv ([3, 0, 0, 0] : List UInt64))) (zk _ _)) fun _ _ En299 Hv300 => ?_
  refine ⟨fun _ => Hv300.pk [0, 5], ?_⟩
  refine q_t 4 ?_
  refine c_p En299 Hv300 (Xk _ (nd (nv (nd (nv (nd (mF 1)) + nv ([3, 0, 0, 0] : List UInt64))) / 2)) (zk _ _)) fun _ _ En306 Hv307 => ?_
  refine ⟨fun _ => Hv307.pk [0, 5], ?_⟩
  refine q_t 5 ?_
  refine c_p En306 Hv307 (Xk _ (nd (nv (nd (nv (nd (nv (nd (mF 1)) + nv ([3, 0, 0, 0] : List UInt64))) / 2)) / 2)) (zk _ _)) fun _ _ En313 Hv314 => ?_
  refine ⟨fun _ => Hv314.pk [0, 5], ?_⟩
  refine q_t 6 ?_
  refine c_p En313 Hv314 (rexp_go _ 1 h1f (Xh h1f (Js (by decide))) a (nd (nv (nd (nv (nd (nv (nd (nv (nd (mF 1)) + nv ([3, 0, 0, 0] : List UInt64))) / 2)) / 2)) / 2)) ha (zk _ _)) fun _ _ En320 Hv321 => ?_
  refine ⟨fun _ => Hv321.pk [0, 5], ?_⟩
  refine q_t 7 ?_
  refine m_g 3 0 4 (zh (nd (zC 1 (nv a) (nv (nd (nv (nd (nv (nd (nv (nd (nv (nd (mF 1)) + nv ([3, 0, 0, 0] : List UInt64))) / 2)) / 2)) / 2)))))) _ [.box bk1 (zh a) 34, .box bk6 (zh (zc 4 0)) 34, .box bk22 (zh (nd (mF 1))) 34, .box bk33 (zh (nd (zC 1 (nv a) (nv (nd (nv (nd (nv (nd (nv (nd (nv (nd (mF 1)) + nv ([3, 0, 0, 0] : List UInt64))) / 2)) / 2)) / 2)))))) 34, .box bk55 (zh (nd (zq 1 (nv a) (nv ([1, 0, 0, 0] : List UInt64))))) 34, .box bk83 (zh (nd (nv (nd (mF 1)) + nv ([3, 0, 0, 0] : List UInt64)))) 34] En320 Hv321 rfl (zb (zk _ _)) (by rw [(zb (show ze ([0, 0, 0, 0] : List UInt64) = 4 from rfl))]; first | decide | (simp; done)) (zu _) (zo (zb (show ze ([0, 0, 0, 0] : List UInt64) = 4 from rfl))) rfl fun _ _ En324 Hv325 => ?_
  refine ⟨fun _ => Hv325.pk [0, 5], ?_⟩
  exact h_e ⟨En324.sb, Hv325.pk [0, 1, 2, 3, 4, 5]⟩
 rintro _ _ ⟨En328, Hv329⟩
 refine zg <| wp_seq ?_
 rw [show (nd (zC 1 (nv a) (nv (nd (nv (nd (nv (nd (nv (nd (nv (nd (mF 1)) + nv ([3, 0, 0, 0] : List UInt64))) / 2)) / 2)) / 2))))) = (nd (rq 1 (nv a))) from (congrArg (fun e => nd (zC 1 (nv a) e)) (show _ = (mF 1 + 3) / 8 by decide +kernel))] at Hv329
 refine zm <| d_k [0,3,4,5,6,7,8,11,23,54] [] 1 En328 fun _ En331 => ?_
 refine f_o <| m_a 3 0 4 (zh (nd (rq 1 (nv a)))) En331 Hv329 rfl (zn (zb (zk _ _))) (zb (zk _ _)) fun _ En333 => ?_
 refine f_o <| m_a 3 0 4 (zh (nd (rq 1 (nv a)))) En333 Hv329 rfl (zn (zb (zk _ _))) (zb (zk _ _)) fun _ En335 => ?_
 refine f_o <| c_p En335 Hv329 ((Xh h1f (Js (by decide))) _ (nd (rq 1 (nv a))) (nd (rq 1 (nv a))) (zk _ _) (zk _ _)) fun _ _ En341 Hv342 => ?_
 refine f_o <| m_z 34 (zh (zc 4 0)) En341 Hv342 fun _ _ bk343 En346 Hv347 => ?_
 refine f_o <| m_g 6 0 4 (zh (nd (zq 1 (nv (nd (rq 1 (nv a)))) (nv (nd (rq 1 (nv a))))))) _ [.box bk1 (zh a) 34, .box bk6 (zh (zc 4 0)) 34, .box bk22 (zh (nd (mF 1))) 34, .box bk33 (zh (nd (rq 1 (nv a)))) 34, .box bk55 (zh (nd (zq 1 (nv a) (nv ([1, 0, 0, 0] : List UInt64))))) 34, .box bk83 (zh (nd (nv (nd (mF 1)) + nv ([3, 0, 0, 0] : List UInt64)))) 34, .box bk343 (zh (nd (zq 1 (nv (nd (rq 1 (nv a)))) (nv (nd (rq 1 (nv a))))))) 34] En346 Hv347 rfl (zb (zk _ _)) (by rw [(zb (zd))]; first | decide | (simp; done)) (zu _) (zo (zb (zd))) rfl fun _ _ En350 Hv351 => ?_
 refine f_e <| zg <| wp_seq <| zm <| f_o <| m_a 6 0 4 (zh (nd (zq 1 (nv (nd (rq 1 (nv a)))) (nv (nd (rq 1 (nv a))))))) En350 Hv351 rfl (zn (zb (zk _ _))) (zb (zk _ _)) fun _ En353 => ?_
 refine f_o <| m_a 4 0 4 (zh (nd (zq 1 (nv a) (nv ([1, 0, 0, 0] : List UInt64))))) En353 Hv351 rfl (zn (zb (zk _ _))) (zb (zk _ _)) fun _ En355 => ?_
 refine f_o <| q_v (x := eqOp .neq 34 (.tmp 58) (.tmp 59) (.agg (zi (zh (nd (zq 1 (nv (nd (rq 1 (nv a)))) (nv (nd (rq 1 (nv a))))))))) (.agg (zi (zh (nd (zq 1 (nv a) (nv ([1, 0, 0, 0] : List UInt64)))))))) (v := .bool (!((nd (zq 1 (nv (nd (rq 1 (nv a)))) (nv (nd (rq 1 (nv a)))))) == (nd (zq 1 (nv a) (nv ([1, 0, 0, 0] : List UInt64))))))) En355 (Go.Dbr.u64s_neop (a := (.tmp 58)) (b := (.tmp 59)) (e := 32) (m := 4) (by kernel_rfl) (by kernel_rfl) (by kernel_rfl) (by kernel_rfl) (by kernel_rfl) (zk _ _) (zk _ _) _) fun _ En357 => ?_
 refine f_e <| zg <| region_cut (F := fun ac wo => Env ac 89 [(0, .int .i64 1), (3, pt bk1), (4, pt bk6), (5, .bool false), (6, pt bk22), (7, pt bk33), (8, pt bk55), (11, pt bk83), (13, pt bk343), (23, .int .i64 1)] ∧ Ev w [] wo [.box bk6 (zh (zc 4 0)) 34, .box bk55 (zh (nd (zq 1 (nv a) (nv ([1, 0, 0, 0] : List UInt64))))) 34, .box bk33 (zh (nd (rs 1 (nv a)))) 34]) ?_ ?_
 ·
  refine cond_at En357 (t := !((nd (zq 1 (nv (nd (rq 1 (nv a)))) (nv (nd (rq 1 (nv a)))))) == (nd (zq 1 (nv a) (nv ([1, 0, 0, 0] : List UInt64)))))) (by kernel_rfl) (fun hc358 => ?_) (fun hc358 => ?_)
  ·
   replace hc358 : ¬ ((nd (zq 1 (nv (nd (rq 1 (nv a)))) (nv (nd (rq 1 (nv a)))))) = (nd (zq 1 (nv a) (nv ([1, 0, 0, 0] : List UInt64))))) := by simpa using hc358
   refine wp_seq <| zm <| d_k [0,3,4,5,6,7,8,11,13,23,61,62] [] 2 En357 fun _ En360 => ?_
   refine f_o <| m_a 2 0 4 (zh (nd (mF 1))) En360 Hv351 rfl (zn (zb (zk _ _))) (zb (zk _ _)) fun _ En362 => ?_
   refine d_k [0,3,4,5,6,7,8,11,13,23,61,62,63,64] [] 4 En362 fun _ En364 => ?_
   refine f_o <| c_p En364 Hv351 (rminus_go _ (nd (mF 1)) ([1, 0, 0, 0] : List UInt64) (zk _ _) (show ze ([1, 0, 0, 0] : List UInt64) = 4 from rfl)) fun _ _ En370 Hv371 => ?_
   refine f_o <| c_p En370 Hv371 (Xk _ (nd (nv (nd (mF 1)) + zH - nv ([1, 0, 0, 0] : List UInt64))) (zk _ _)) fun _ _ En377 Hv378 => ?_
   refine f_o <| c_p En377 Hv378 (Xk _ (nd (nv (nd (nv (nd (mF 1)) + zH - nv ([1, 0, 0, 0] : List UInt64))) / 2)) (zk _ _)) fun _ _ En384 Hv385 => ?_
   refine f_o <| c_p En384 Hv385 (rexp_go _ 1 h1f (Xh h1f (Js (by decide))) ([2, 0, 0, 0] : List UInt64) (nd (nv (nd (nv (nd (nv (nd (mF 1)) + zH - nv ([1, 0, 0, 0] : List UInt64))) / 2)) / 2)) (show ze ([2, 0, 0, 0] : List UInt64) = 4 from rfl) (zk _ _)) fun _ _ En391 Hv392 => ?_
   refine f_o <| m_z 34 (zh (zc 4 0)) En391 Hv392 fun _ _ bk393 En396 Hv397 => ?_
   refine f_o <| m_g 7 0 4 (zh (nd (zC 1 (nv ([2, 0, 0, 0] : List UInt64)) (nv (nd (nv (nd (nv (nd (nv (nd (mF 1)) + zH - nv ([1, 0, 0, 0] : List UInt64))) / 2)) / 2)))))) _ [.box bk1 (zh a) 34, .box bk6 (zh (zc 4 0)) 34, .box bk22 (zh (nd (mF 1))) 34, .box bk33 (zh (nd (rq 1 (nv a)))) 34, .box bk55 (zh (nd (zq 1 (nv a) (nv ([1, 0, 0, 0] : List UInt64))))) 34, .box bk83 (zh (nd (nv (nd (mF 1)) + nv ([3, 0, 0, 0] : List UInt64)))) 34, .box bk343 (zh (nd (zq 1 (nv (nd (rq 1 (nv a)))) (nv (nd (rq 1 (nv a))))))) 34, .box bk393 (zh (nd (zC 1 (nv ([2, 0, 0, 0] : List UInt64)) (nv (nd (nv (nd (nv (nd (nv (nd (mF 1)) + zH - nv ([1, 0, 0, 0] : List UInt64))) / 2)) / 2)))))) 34] En396 Hv397 rfl (zb (zk _ _)) (by rw [(zb (zd))]; first | decide | (simp; done)) (zu _) (zo (zb (zd))) rfl fun _ _ En400 Hv401 => ?_
   refine f_e <| zg <| zm <| d_k [0,3,4,5,6,7,8,11,13,14,23,69] [] 1 En400 fun _ En403 => ?_
   refine f_o <| m_a 3 0 4 (zh (nd (rq 1 (nv a)))) En403 Hv401 rfl (zn (zb (zk _ _))) (zb (zk _ _)) fun _ En405 => ?_
   refine f_o <| m_a 7 0 4 (zh (nd (zC 1 (nv ([2, 0, 0, 0] : List UInt64)) (nv (nd (nv (nd (nv (nd (nv (nd (mF 1)) + zH - nv ([1, 0, 0, 0] : List UInt64))) / 2)) / 2)))))) En405 Hv401 rfl (zn (zb (zk _ _))) (zb (zk _ _)) fun _ En407 => ?_
   refine f_o <| c_p En407 Hv401 ((Xh h1f (Js (by decide))) _ (nd (rq 1 (nv a))) (nd (zC 1 (nv ([2, 0, 0, 0] : List UInt64)) (nv (nd (nv (nd (nv (nd (nv (nd (mF 1)) + zH - nv ([1, 0, 0, 0] : List UInt64))) / 2)) / 2))))) (zk _ _) (zk _ _)) fun _ _ En413 Hv414 => ?_
   refine f_o <| m_g 3 0 4 (zh (nd (zq 1 (nv (nd (rq 1 (nv a)))) (nv (nd (zC 1 (nv ([2, 0, 0, 0] : List UInt64)) (nv (nd (nv (nd (nv (nd (nv (nd (mF 1)) + zH - nv ([1, 0, 0, 0] : List UInt64))) / 2)) / 2))))))))) _ [.box bk1 (zh a) 34, .box bk6 (zh (zc 4 0)) 34, .box bk22 (zh (nd (mF 1))) 34, .box bk33 (zh (nd (zq 1 (nv (nd (rq 1 (nv a)))) (nv (nd (zC 1 (nv ([2, 0, 0, 0] : List UInt64)) (nv (nd (nv (nd (nv (nd (nv (nd (mF 1)) + zH - nv ([1, 0, 0, 0] : List UInt64))) / 2)) / 2))))))))) 34, .box bk55 (zh (nd (zq 1 (nv a) (nv ([1, 0, 0, 0] : List UInt64))))) 34, .box bk83 (zh (nd (nv (nd (mF 1)) + nv ([3, 0, 0, 0] : List UInt64)))) 34, .box bk343 (zh (nd (zq 1 (nv (nd (rq 1 (nv a)))) (nv (nd (rq 1 (nv a))))))) 34, .box bk393 (zh (nd (zC 1 (nv ([2, 0, 0, 0] : List UInt64)) (nv (nd (nv (nd (nv (nd (nv (nd (mF 1)) + zH - nv ([1, 0, 0, 0] : List UInt64))) / 2)) / 2)))))) 34] En413 Hv414 rfl (zb (zk _ _)) (by rw [(zb (zk _ _))]; first | decide | (simp; done)) (zu _) (zo (zb (zk _ _))) rfl fun _ _ En417 Hv418 => ?_
   refine f_e ?_
   rw [show (nd (zq 1 (nv (nd (rq 1 (nv a)))) (nv (nd (zC 1 (nv ([2, 0, 0, 0] : List UInt64)) (nv (nd (nv (nd (nv (nd (nv (nd (mF 1)) + zH - nv ([1, 0, 0, 0] : List UInt64))) / 2)) / 2)))))))) = (nd (rs 1 (nv a))) from (rs1_b (by assumption) (by decide +kernel))] at Hv418
   exact ⟨rfl, ⟨En417.sb, Hv418.pk [1, 4, 3]⟩⟩
  replace hc358 : (nd (zq 1 (nv (nd (rq 1 (nv a)))) (nv (nd (rq 1 (nv a)))))) = (nd (zq 1 (nv a) (nv ([1, 0, 0, 0] : List UInt64)))) := by simpa using hc358
  refine wp_skip ?_
  rw [show (nd (rq 1 (nv a))) = (nd (rs 1 (nv a))) from (rs1_a (by assumption))] at Hv351
  exact ⟨rfl, ⟨En357.sb, Hv351.pk [1, 4, 3]⟩⟩
 rintro _ _ ⟨En421, Hv422⟩
 refine block_normal <| zg <| wp_seq <| zm <| d_k [0,3,4,5,6,7,8,11,13,23,73] [] 1 En421 fun _ En424 => ?_
 refine f_o <| m_a 2 0 4 (zh (nd (rs 1 (nv a)))) En424 Hv422 rfl (zn (zb (zk _ _))) (zb (zk _ _)) fun _ En426 => ?_
 refine f_o <| m_a 2 0 4 (zh (nd (rs 1 (nv a)))) En426 Hv422 rfl (zn (zb (zk _ _))) (zb (zk _ _)) fun _ En428 => ?_
 refine f_o <| c_p En428 Hv422 ((Xh h1f (Js (by decide))) _ (nd (rs 1 (nv a))) (nd (rs 1 (nv a))) (zk _ _) (zk _ _)) fun _ _ En434 Hv435 => ?_
 refine f_o <| m_z 34 (zh (zc 4 0)) En434 Hv435 fun _ _ bk436 En439 Hv440 => ?_
 refine f_o <| m_g 3 0 4 (zh (nd (zq 1 (nv (nd (rs 1 (nv a)))) (nv (nd (rs 1 (nv a))))))) _ [.box bk6 (zh (zc 4 0)) 34, .box bk55 (zh (nd (zq 1 (nv a) (nv ([1, 0, 0, 0] : List UInt64))))) 34, .box bk33 (zh (nd (rs 1 (nv a)))) 34, .box bk436 (zh (nd (zq 1 (nv (nd (rs 1 (nv a)))) (nv (nd (rs 1 (nv a))))))) 34] En439 Hv440 rfl (zb (zk _ _)) (by rw [(zb (zd))]; first | decide | (simp; done)) (zu _) (zo (zb (zd))) rfl fun _ _ En443 Hv444 => ?_
 refine f_e <| zg <| wp_seq <| wp_seq <| zm <| f_o <| m_a 3 0 4 (zh (nd (zq 1 (nv (nd (rs 1 (nv a)))) (nv (nd (rs 1 (nv a))))))) En443 Hv444 rfl (zn (zb (zk _ _))) (zb (zk _ _)) fun _ En446 => ?_
 refine f_o <| m_a 1 0 4 (zh (nd (zq 1 (nv a) (nv ([1, 0, 0, 0] : List UInt64))))) En446 Hv444 rfl (zn (zb (zk _ _))) (zb (zk _ _)) fun _ En448 => ?_
 refine f_o <| q_v (x := eqOp .neq 34 (.tmp 77) (.tmp 78) (.agg (zi (zh (nd (zq 1 (nv (nd (rs 1 (nv a)))) (nv (nd (rs 1 (nv a))))))))) (.agg (zi (zh (nd (zq 1 (nv a) (nv ([1, 0, 0, 0] : List UInt64)))))))) (v := .bool (!((nd (zq 1 (nv (nd (rs 1 (nv a)))) (nv (nd (rs 1 (nv a)))))) == (nd (zq 1 (nv a) (nv ([1, 0, 0, 0] : List UInt64))))))) En448 (Go.Dbr.u64s_neop (a := (.tmp 77)) (b := (.tmp 78)) (e := 32) (m := 4) (by kernel_rfl) (by kernel_rfl) (by kernel_rfl) (by kernel_rfl) (by kernel_rfl) (zk _ _) (zk _ _) _) fun _ En450 => ?_
 refine f_e <| zg <| cond_at En450 (t := !((nd (zq 1 (nv (nd (rs 1 (nv a)))) (nv (nd (rs 1 (nv a)))))) == (nd (zq 1 (nv a) (nv ([1, 0, 0, 0] : List UInt64)))))) (by kernel_rfl) (fun hc451 => ?_) (fun hc451 => ?_)
 ·
  replace hc451 : ¬ ((nd (zq 1 (nv (nd (rs 1 (nv a)))) (nv (nd (rs 1 (nv a)))))) = (nd (zq 1 (nv a) (nv ([1, 0, 0, 0] : List UInt64))))) := by simpa using hc451
  refine wp_seq <| zm <| d_k [0,3,4,5,6,7,8,11,13,15,23,80] [] 1 En450 fun _ En453 => ?_
  refine f_o <| m_g 0 0 4 (zh ([0, 0, 0, 0] : List UInt64)) _ [.box bk6 (zh ([0, 0, 0, 0] : List UInt64)) 34, .box bk55 (zh (nd (zq 1 (nv a) (nv ([1, 0, 0, 0] : List UInt64))))) 34, .box bk33 (zh (nd (rs 1 (nv a)))) 34, .box bk436 (zh (nd (zq 1 (nv (nd (rs 1 (nv a)))) (nv (nd (rs 1 (nv a))))))) 34] En453 Hv444 rfl (zb (show ze ([0, 0, 0, 0] : List UInt64) = 4 from rfl)) (by rw [(zb (zd))]; first | decide | (simp; done)) (zu _) (zo (zb (zd))) rfl fun _ _ En456 Hv457 => ?_
  refine d_e [0,3,4,5,6,7,8,11,13,15,23] [] En456 fun _ En459 => ?_
  refine zg <| wp_ret <| then_ret <| Zn (v := .agg (zi (zh ([0, 0, 0, 0] : List UInt64)))) (x := .bool false) (t := 4) (T := 34) (ad := ⟨bk6, 0, none⟩) (u := 5) En459 (by kernel_rfl) (by kernel_rfl) (zx (t := 34) (k := 0) (off := 0) (m := 4) (xs := zh ([0, 0, 0, 0] : List UInt64)) Hv457 rfl (zn (zb (show ze ([0, 0, 0, 0] : List UInt64) = 4 from rfl))) (zb (show ze ([0, 0, 0, 0] : List UInt64) = 4 from rfl)) (by kernel_rfl) (by kernel_rfl)) (by kernel_rfl) ?_
  have eb := (root_no (f := 1) h1f (by assumption)).1
  have e : ([0, 0, 0, 0] : List UInt64) = nd (QX 1 (nv a)) := root_z (root_no (f := 1) h1f (by assumption))
  rw [eb]
  exact ⟨congrArg (fun l : List UInt64 => Ending.returned (.tuple #[Value.agg (zh l).toArray, .bool false])) e, Hv457.pk []⟩
 replace hc451 : (nd (zq 1 (nv (nd (rs 1 (nv a)))) (nv (nd (rs 1 (nv a)))))) = (nd (zq 1 (nv a) (nv ([1, 0, 0, 0] : List UInt64)))) := by simpa using hc451
 refine wp_skip <| zg <| wp_seq <| wp_seq <| zm <| d_k [0,3,4,5,6,7,8,11,13,15,23,81] [] 1 En450 fun _ En461 => ?_
 refine f_o ?_
 have hb462 : 0 < ze (nd (rs 1 (nv a))) := by rw [(zk _ _)]; omega
 refine m_v 2 0 (uv64 (zf (nd (rs 1 (nv a))) 0 0)) En461 Hv444 rfl (u64s_getD hb462) fun _ En464 => ?_
 refine d_e [0,3,4,5,6,7,8,11,13,15,23,84] [(2, g_i .u64 (Go.Dbr.u64_and (x := zf (nd (rs 1 (nv a))) 0 0) (y := (1 : UInt64)) rfl rfl))] En464 fun _ En466 => ?_
 refine zg <| c_e ((UInt64.toNat ((zf (nd (rs 1 (nv a))) 0 0) &&& (1 : UInt64)) : Nat) : Int) (1 : Int) En466 (fun hc467 => ?_) (fun hc467 => ?_)
 ·
  refine zm <| d_k [0,3,4,5,6,7,8,11,13,15,23,85] [] 1 En466 fun _ En469 => ?_
  refine f_o <| m_a 2 0 4 (zh (nd (rs 1 (nv a)))) En469 Hv444 rfl (zn (zb (zk _ _))) (zb (zk _ _)) fun _ En471 => ?_
  refine f_o <| c_p En471 Hv444 (rneg_go _ 1 h1f (Js (by decide)) (nd (rs 1 (nv a))) (zk _ _)) fun _ _ En477 Hv478 => ?_
  refine f_o <| m_g 2 0 4 (zh (nd (zJ 1 0 (nv (nd (rs 1 (nv a))))))) _ [.box bk6 (zh (zc 4 0)) 34, .box bk55 (zh (nd (zq 1 (nv a) (nv ([1, 0, 0, 0] : List UInt64))))) 34, .box bk33 (zh (nd (zJ 1 0 (nv (nd (rs 1 (nv a))))))) 34, .box bk436 (zh (nd (zq 1 (nv (nd (rs 1 (nv a)))) (nv (nd (rs 1 (nv a))))))) 34] En477 Hv478 rfl (zb (zk _ _)) (by rw [(zb (zk _ _))]; first | decide | (simp; done)) (zu _) (zo (zb (zk _ _))) rfl fun _ _ En481 Hv482 => ?_
  refine f_e <| zg <| wp_seq <| zm <| f_o <| m_a 2 0 4 (zh (nd (zJ 1 0 (nv (nd (rs 1 (nv a))))))) En481 Hv482 rfl (zn (zb (zk _ _))) (zb (zk _ _)) fun _ En484 => ?_
  refine f_o <| m_g 0 0 4 (zh (nd (zJ 1 0 (nv (nd (rs 1 (nv a))))))) _ [.box bk6 (zh (nd (zJ 1 0 (nv (nd (rs 1 (nv a))))))) 34, .box bk55 (zh (nd (zq 1 (nv a) (nv ([1, 0, 0, 0] : List UInt64))))) 34, .box bk33 (zh (nd (zJ 1 0 (nv (nd (rs 1 (nv a))))))) 34, .box bk436 (zh (nd (zq 1 (nv (nd (rs 1 (nv a)))) (nv (nd (rs 1 (nv a))))))) 34] En484 Hv482 rfl (zb (zk _ _)) (by rw [(zb (zd))]; first | decide | (simp; done)) (zu _) (zo (zb (zd))) rfl fun _ _ En487 Hv488 => ?_
  refine d_e [0,3,4,5,6,7,8,11,13,15,23] [] En487 fun _ En490 => ?_
  refine zg <| wp_ret <| Zn (v := .agg (zi (zh (nd (zJ 1 0 (nv (nd (rs 1 (nv a))))))))) (x := .bool true) (t := 4) (T := 34) (ad := ⟨bk6, 0, none⟩) (u := 5) En490 (by kernel_rfl) (by kernel_rfl) (zx (t := 34) (k := 0) (off := 0) (m := 4) (xs := zh (nd (zJ 1 0 (nv (nd (rs 1 (nv a))))))) Hv488 rfl (zn (zb (zk _ _))) (zb (zk _ _)) (by kernel_rfl) (by kernel_rfl)) (by kernel_rfl) ?_
  have eb := root_yes (f := 1) (A := nv a) (by decide) (by assumption)
  have e : nd (zJ 1 0 (nv (nd (rs 1 (nv a))))) = nd (QX 1 (nv a)) := by first | exact root_odd (by decide) (by assumption) (by assumption) | exact root_even (by decide) (by assumption) (by assumption)
  rw [eb]
  exact ⟨congrArg (fun l : List UInt64 => Ending.returned (.tuple #[Value.agg (zh l).toArray, .bool true])) e, Hv488.pk []⟩
 refine wp_skip <| zg <| wp_seq <| zm <| f_o <| m_a 2 0 4 (zh (nd (rs 1 (nv a)))) En466 Hv444 rfl (zn (zb (zk _ _))) (zb (zk _ _)) fun _ En492 => ?_
 refine f_o <| m_g 0 0 4 (zh (nd (rs 1 (nv a)))) _ [.box bk6 (zh (nd (rs 1 (nv a)))) 34, .box bk55 (zh (nd (zq 1 (nv a) (nv ([1, 0, 0, 0] : List UInt64))))) 34, .box bk33 (zh (nd (rs 1 (nv a)))) 34, .box bk436 (zh (nd (zq 1 (nv (nd (rs 1 (nv a)))) (nv (nd (rs 1 (nv a))))))) 34] En492 Hv444 rfl (zb (zk _ _)) (by rw [(zb (zd))]; first | decide | (simp; done)) (zu _) (zo (zb (zd))) rfl fun _ _ En495 Hv496 => ?_
 refine d_e [0,3,4,5,6,7,8,11,13,15,23] [] En495 fun _ En498 => ?_
 refine zg <| wp_ret <| Zn (v := .agg (zi (zh (nd (rs 1 (nv a)))))) (x := .bool true) (t := 4) (T := 34) (ad := ⟨bk6, 0, none⟩) (u := 5) En498 (by kernel_rfl) (by kernel_rfl) (zx (t := 34) (k := 0) (off := 0) (m := 4) (xs := zh (nd (rs 1 (nv a)))) Hv496 rfl (zn (zb (zk _ _))) (zb (zk _ _)) (by kernel_rfl) (by kernel_rfl)) (by kernel_rfl) ?_
 have eb := root_yes (f := 1) (A := nv a) (by decide) (by assumption)
 have e : nd (rs 1 (nv a)) = nd (QX 1 (nv a)) := by first | exact root_odd (by decide) (by assumption) (by assumption) | exact root_even (by decide) (by assumption) (by assumption)
 rw [eb]
 exact ⟨congrArg (fun l : List UInt64 => Ending.returned (.tuple #[Value.agg (zh l).toArray, .bool true])) e, Hv496.pk []⟩

end Go.Proofs.YtlnogkmnklfjlaaDoor

/- Drawn regions whose operations each yield their value in every world that keeps what stands: one fact an operation. -/

namespace Go.Dbr
open Go Go.RowKit
set_option linter.unusedSimpArgs false
set_option linter.unusedVariables false

/-! ## who waits for whom, by masks -/
def cloStep (acc : List Nat) : List Edge → Nat
  | [] => 0
  | e :: r => bif Region.binds .any e then 2 ^ e.on ||| acc.getD e.on 0 ||| cloStep acc r else cloStep acc r
def clo : List Oper → List Nat → List Nat
  | [], acc => acc
  | o :: r, acc => clo r (acc ++ [cloStep acc o.after.toList])
theorem cloStep_spec {acc : List Nat} {i : Nat} : ∀ (es : List Edge), Yd (cloStep acc es) i = true → ∃ e ∈ es, Region.binds .any e = true ∧ (e.on = i ∨ Yd (acc.getD e.on 0) i = true)
  | [], h => by simp [cloStep] at h
  | e :: r, h => by
    unfold cloStep at h
    cases hb : Region.binds .any e with
    | true =>
      rw [hb, Qe, Jh, Jh, Yv, Yv] at h
      rcases h with (h | h) | h
      · refine ⟨e, Qm .., hb, .inl ?_⟩
        rw [Nat.testBit_two_pow] at h
        exact of_decide_eq_true h
      · exact ⟨e, Qm .., hb, .inr h⟩
      · obtain ⟨e', he, hr⟩ := cloStep_spec r h
        exact ⟨e', Z7 _ he, hr⟩
    | false =>
      rw [hb, ZZ] at h
      obtain ⟨e', he, hr⟩ := cloStep_spec r h
      exact ⟨e', Z7 _ he, hr⟩
theorem WaitsT.of {ops : Array Oper} {i s : Nat} {o : Oper} {e : Edge} (ho : ops[s]? = some o) (he : e ∈ o.after) (hb : Region.binds .any e = true) (h : e.on = i ∨ WaitsT ops i e.on) : WaitsT ops i s := h.elim (.one ho he hb) (.step ho he hb)
theorem clo_spec {ops : Array Oper} {i : Nat} : ∀ (l : List Oper) (acc : List Nat), (∀ (k : Nat) (o : Oper), l[k]? = some o → ops[acc.length + k]? = some o) → (∀ j, Yd (acc.getD j 0) i = true → WaitsT ops i j) → ∀ j, Yd ((clo l acc).getD j 0) i = true → WaitsT ops i j
  | [], acc, _, h, j, hj => h j hj
  | o :: r, acc, hl, h, j, hj => by
    refine clo_spec r (acc ++ [cloStep acc o.after.toList]) (fun k o' hk => ?_) (fun j' hj' => ?_) j hj
    · have := hl (k + 1) o' (by simpa using hk)
      rw [z4, JV]
      rw [show acc.length + (k + 1) = acc.length + 1 + k by omega] at this
      exact this
    · rcases Nat.lt_trichotomy j' acc.length with c | c | c
      · rw [zR, zM c, ← zR] at hj'
        exact h j' hj'
      · subst c
        rw [zR, zT (QY _), Y8] at hj'
        obtain ⟨e, he, hb, hr⟩ := cloStep_spec _ hj'
        have ho := hl 0 o rfl
        rw [Zp] at ho
        exact .of ho (by simpa using he) hb (hr.imp id (h _))
      · rw [zR, List.getElem?_eq_none (by rw [z4, JV]; omega)] at hj'
        simp at hj'

def maskOf : List Nat → Nat
  | [] => 0
  | i :: r => 2 ^ i ||| maskOf r
theorem maskOf_spec {i : Nat} : ∀ {l : List Nat}, i ∈ l → Yd (maskOf l) i = true
  | j :: r, h => by
    unfold maskOf
    rw [Jh]
    rcases Qz.1 h with rfl | h'
    · rw [Nat.testBit_two_pow_self, Bool.true_or]
    · rw [maskOf_spec h', Bool.or_true]
def restB (I : List Nat) (m : Nat) : List Nat → Nat → Bool
  | [], _ => true
  | c :: r, j => (I.contains j || Qs (m &&& c) m) && restB I m r (j + 1)
theorem restB_spec {I : List Nat} {m : Nat} : ∀ (l : List Nat) (k : Nat), restB I m l k = true → ∀ (j : Nat) (c : Nat), l[j]? = some c → I.contains (k + j) = true ∨ m &&& c = m
  | [], k, _, j, c, h => by simp at h
  | x :: r, k, h, j, c, hc => by
    unfold restB at h
    simp only [zO, Yv, JO] at h
    cases j with
    | zero => simp at hc; subst hc; exact h.1
    | succ j =>
      have := restB_spec r (k + 1) h.2 j c (by simpa using hc)
      rwa [show k + 1 + j = k + (j + 1) by omega] at this
def inB (ops : Array Oper) (I : List Nat) (l0 : List (Nat × Value)) (i : Nat) : Bool := match ops[i]? with
  | some o => (o.after.all fun e => !Region.binds .any e || (Nat.blt e.on i && I.contains e.on)) && (match o.dst with | some d => (Qf l0 d).isNone | none => true)
  | none => false
/-- the first ones: what they wait for is among them, each has a place of its own; all others wait for all of them -/
def stabB (ops : Array Oper) (I : List Nat) (l0 : List (Nat × Value)) : Bool := JN ops.toList 0 && (I.all fun i => inB ops I l0 i) && restB I (maskOf I) (clo ops.toList []) 0 && Qs (clo ops.toList []).length ops.size
/-- where an operand's value comes from -/
def srcOf (ops : Array Oper) (l0 L : List (Nat × Value)) (i t : Nat) : Option Value := match ops[i]? with
  | some o => bif (o.after.any fun e => Region.binds .any e && (match ops[e.on]? with | some q => (match q.dst with | some c => Qs c t | none => false) | none => false)) then Qf L t else Qf l0 t
  | none => none
def oneL (ops : Array Oper) (L : List (Nat × Value)) (i : Nat) : List (Nat × Value) := match ops[i]? with
  | some o => (match o.dst with | some d => [(d, (Qf L d).getD undef)] | none => [])
  | none => []

theorem leastN {P : Nat → Prop} : ∀ n, P n → ∃ k, P k ∧ ∀ j, j < k → ¬ P j := fun n => by
  induction n using Nat.strongRecOn with
  | _ n ih =>
    intro h
    by_cases e : ∃ j, j < n ∧ P j
    · obtain ⟨j, hj, hp⟩ := e
      exact ih j hj hp
    · exact ⟨n, h, fun j hj hp => e ⟨j, hj, hp⟩⟩
theorem look_map_some2 {f : Nat → Option Value} {l : List (Nat × Value)} (h : l.map (fun p => f p.1) = l.map (fun p => some p.2)) : ∀ i v, Qf l i = some v → f i = some v := by
  induction l with
  | nil => intro i v hv; cases hv
  | cons x r ih =>
    intro i v hv
    simp only [Qn, List.cons.injEq] at h
    unfold Qf at hv
    cases hb : Qs x.1 i with
    | true =>
      rw [hb, Qe] at hv
      cases hv
      have := QE hb
      rw [← this]
      exact h.1
    | false =>
      rw [hb, ZZ] at hv
      exact ih h.2 i v hv
section
variable {P : Program} {ops : Array Oper} {Q : Exit → Act → World → Prop} {n : Nat} {S : World → Prop} {l0 L : List (Nat × Value)} {I : List Nat}
def Stab (P : Program) (ops : Array Oper) (Q : Exit → Act → World → Prop) (n : Nat) (S : World → Prop) (l0 L : List (Nat × Value)) (i : Nat) : Prop :=
  ∃ E : List (Nat × Value), E.map (fun p => srcOf ops l0 L i p.1) = E.map (fun p => some p.2) ∧ ∀ a w, Env a n E → S w → wpOp P ops Q i (fun a' w' => Env a' n (oneL ops L i) ∧ S w') a w
structure Know (ops : Array Oper) (n : Nat) (l0 L : List (Nat × Value)) (I : List Nat) (a : Act) (listed : Array Bool) : Prop where
  size : a.tmps.size = n
  defers : a.defers = []
  old : ∀ t v, Qf l0 t = some v → a.tmps[t]? = some v
  new : ∀ i o d, i ∈ I → ops[i]? = some o → o.dst = some d → listed.getD i false = true → a.tmps[d]? = some ((Qf L d).getD undef)
theorem wpOp_put {i : Nat} {a : Act} {w : World} {K : Act → World → Prop} {o : Oper} (ho : ops[i]? = some o) (hd : ∀ a' w', K a' w' → a'.defers = []) (h : wpOp P ops Q i K a w) : wpOp P ops Q i (fun a' w' => K a' w' ∧ ∃ v, a' = a.put o.dst v) a w := by
  unfold wpOp at *
  simp only [ho] at h ⊢
  split
  · rename_i hw
    simp only [hw, if_true] at h
    refine h.imp (fun hh => ?_) id
    unfold Oper.wp at *
    generalize (execOp a.eval o).run P w = r at *
    cases r with
    | ok nx w' =>
      cases nx <;> simp only [Oper.upon] at hh ⊢
      all_goals first
        | exact ⟨hh, _, rfl⟩
        | exact Calls.mono hh (fun e w'' he => by cases e <;> first | exact ⟨he, _, rfl⟩ | exact he)
        | exact Rows.mono hh (fun _ _ he => ⟨he, _, rfl⟩)
        | (have := hd _ _ hh; cases hdst : o.dst <;> simp [Act.put, hdst] at this)
        | exact hh
    | halt x w' => cases x <;> simp only [Oper.upon] at hh ⊢ <;> exact hh
  · rename_i hw
    simp only [hw] at h
    exact ⟨h, _, rfl⟩
def cntF (l : Array Bool) : Nat := l.toList.countP fun b => !b
theorem cnt_set {l : List Bool} : ∀ {i : Nat}, l[i]? = some false → (l.set i true).countP (fun b => !b) + 1 = l.countP fun b => !b := by
  induction l with
  | nil => intro i h; simp at h
  | cons x r ih =>
    intro i h
    cases i with
    | zero =>
      simp at h
      subst h
      simp [Xp]
    | succ i =>
      have := ih (i := i) (by simpa using h)
      simp only [List.set_cons_succ, Xp]
      omega
theorem cntF_set {l : Array Bool} {i : Nat} (h : l.getD i true = false) : cntF (l.setIfInBounds i true) + 1 = cntF l := by
  have hi : i < l.size := by
    rcases ZJ i l.size with g | g
    · exact g
    · simp [g] at h
  have e : l.toList[i]? = some false := by
    simp [hi] at h
    simp [hi, h]
  have := cnt_set e
  unfold cntF
  rw [Array.toList_setIfInBounds]
  exact this
/-- just the first ones have run -/
def LI (ops : Array Oper) (I : List Nat) : Array Bool := ((QP ops.size).map fun j => I.contains j).toArray
def envI (ops : Array Oper) (l0 L : List (Nat × Value)) (i : Nat) : List (Nat × Value) := match ops[i]? with
  | some o => (o.looksAt ops).map fun t => (t, (srcOf ops l0 L i t).getD undef)
  | none => []
theorem stab_go {J : Array Bool → Act → World → Prop} (hB : stabB ops I l0 = true)
    (step : ∀ i ∈ I, ∀ (listed : Array Bool) (a : Act) (w : World) (o : Oper), ops[i]? = some o → listed.size = ops.size → listed.getD i true = false → (∀ e ∈ o.after, Region.binds .any e = true → e.on ∈ I ∧ listed.getD e.on false = true) → (∀ d, o.dst = some d → Qf l0 d = none) → J listed a w → wpOp P ops Q i (fun a' w' => J (listed.setIfInBounds i true) a' w') a w)
    (next : ∀ a w, J (LI ops I) a w → wpAny P .any ops Q (cntF (LI ops I)) (LI ops I) a w) :
    ∀ (m : Nat) (listed : Array Bool) (a : Act) (w : World), m = cntF listed → listed.size = ops.size → (∀ j, listed.getD j false = true → j ∈ I) → Closed ops listed → J listed a w → wpAny P .any ops Q m listed a w := by
  have hB' := hB
  unfold stabB at hB'
  simp only [zO, zW, JO] at hB'
  obtain ⟨⟨⟨hnd, hin⟩, hrest⟩, hlen⟩ := hB'
  have inS : ∀ i ∈ I, ∃ o, ops[i]? = some o ∧ (∀ e ∈ o.after, Region.binds .any e = true → e.on < i ∧ e.on ∈ I) ∧ ∀ d, o.dst = some d → Qf l0 d = none := fun i hi => by
    have h := hin i hi
    unfold inB at h
    cases ho : ops[i]? with
    | none => rw [ho] at h; cases h
    | some o =>
      rw [ho] at h
      simp only [zO] at h
      refine ⟨o, rfl, fun e he hb => ?_, fun d hd => ?_⟩
      · have h1 := (QL.1 h.1) e he
        rw [hb] at h1
        simp only [Bool.not_true, Bool.false_or, zO, Nat.blt_eq] at h1
        exact ⟨h1.1, z9.1 h1.2⟩
      · have h2 := h.2
        rw [hd] at h2
        exact Option.isNone_iff_eq_none.1 h2
  intro m
  induction m with
  | zero =>
    intro listed a w hm hs hsub hcl hk
    have hall : ∀ j, j < ops.size → listed.getD j false = true := fun j hj => by
      cases h : listed.getD j false with
      | true => rfl
      | false =>
        have : listed.getD j true = false := by
          have hj' : j < listed.size := by omega
          simp [hj'] at h ⊢
          exact h
        have := cntF_set this
        omega
    have e : listed = LI ops I := by
      refine XI (by simp [LI, hs]) fun j h1 h2 => ?_
      have h3 := hall j (by omega)
      have h4 := hsub j h3
      simp [h1] at h3
      simp [LI, h3, z9, h4]
    subst e
    rw [hm]
    exact next a w hk
  | succ m ih =>
    intro listed a w hm hs hsub hcl hk
    by_cases hall : ∀ i ∈ I, listed.getD i false = true
    · have e : listed = LI ops I := by
        refine XI (by simp [LI, hs]) fun j h1 h2 => ?_
        by_cases hj : j ∈ I
        · have h3 := hall j hj
          simp [h1] at h3
          simp [LI, h3, z9, hj]
        · cases h3 : listed.getD j false with
          | true => exact absurd (hsub j h3) hj
          | false =>
            simp [h1] at h3
            simp [LI, h3, z9, hj]
      subst e
      rw [hm]
      exact next a w hk
    · have ⟨i0, h0⟩ : ∃ i, i ∈ I ∧ listed.getD i false = false := Classical.byContradiction fun hno => hall fun i hi => by
        cases h : listed.getD i false with
        | true => rfl
        | false => exact absurd ⟨i, hi, h⟩ hno
      obtain ⟨k, ⟨hkI, hku⟩, hmin⟩ := Go.Dbr.leastN (P := fun i => i ∈ I ∧ listed.getD i false = false) i0 h0
      obtain ⟨ok, hok, hafk, _⟩ := inS k hkI
      have hkt : listed.getD k true = false := by
        have : k < listed.size := by rw [hs]; exact (Zm.1 hok).1
        simp [this] at hku ⊢
        exact hku
      have hkr : k ∈ Region.ready .any ops listed := mem_ready.2 ⟨hkt, ok, hok, fun e he hb => by
        obtain ⟨h1, h2⟩ := hafk e he hb
        cases h : listed.getD e.on false with
        | true => rfl
        | false => exact absurd ⟨h2, h⟩ (hmin _ h1)⟩
      refine ⟨fun hr => absurd hkr (by rw [hr]; exact Yg), fun i hi => ?_⟩
      obtain ⟨hiu, o, ho, haf⟩ := mem_ready.1 hi
      have hiI : i ∈ I := Classical.byContradiction fun hno => by
        have hib := (Zm.1 ho).1
        have hc : (clo ops.toList [])[i]? = some ((clo ops.toList []).getD i 0) := by
          rw [zR, zL (by omega)]
          rfl
        rcases restB_spec _ 0 hrest i _ hc with h | h
        · rw [Nat.zero_add] at h
          exact hno (z9.1 h)
        · have hb := maskOf_spec hkI
          rw [← h, Nat.testBit_and, zO] at hb
          have hw := clo_spec (ops := ops) (i := k) ops.toList [] (fun j o' hj => by simpa using hj) (fun j hj => by simp at hj) i hb.2
          have := hw.no hcl o ho haf
          rw [hku] at this
          cases this
      obtain ⟨o', ho', hafI, hdn⟩ := inS i hiI
      rw [ho] at ho'
      cases ho'
      refine wpOp_mono (fun a' w' h => ?_) (step i hiI listed a w o ho hs hiu (fun e he hb => ⟨(hafI e he hb).2, haf e he hb⟩) hdn hk)
      exact ih (listed.setIfInBounds i true) a' w' (by have := cntF_set hiu; omega) (by simp [hs]) (fun j hj => by
        by_cases e : i = j
        · exact e ▸ hiI
        · refine hsub j ?_
          simp [zZ e] at hj ⊢
          exact hj) (hcl.set hi) h
/-- what one of them knows and leaves -/
theorem stab_step (hnd : JN ops.toList 0 = true) {i : Nat} {listed : Array Bool} {a : Act} {w : World} {o : Oper} (hiI : i ∈ I) (hst : Stab P ops Q n S l0 L i) (ho : ops[i]? = some o) (hs : listed.size = ops.size) (hiu : listed.getD i true = false)
    (haf : ∀ e ∈ o.after, Region.binds .any e = true → e.on ∈ I ∧ listed.getD e.on false = true) (hdn : ∀ d, o.dst = some d → Qf l0 d = none) (hk : Know ops n l0 L I a listed) (hS : S w) :
    wpOp P ops Q i (fun a' w' => Know ops n l0 L I a' (listed.setIfInBounds i true) ∧ S w' ∧ ∃ v, a' = a.put o.dst v) a w := by
  obtain ⟨E, hE, hrun⟩ := hst
  have env : Env a n E := ⟨hk.size, hk.defers, fun t v hv => by
    have h1 := look_map_some2 hE t v hv
    unfold srcOf at h1
    rw [ho] at h1
    simp only at h1
    cases hany : (o.after.any fun e => Region.binds .any e && (match ops[e.on]? with | some q => (match q.dst with | some c => Qs c t | none => false) | none => false)) with
    | true =>
      rw [hany, Qe] at h1
      obtain ⟨e, he, hb⟩ := Array.any_eq_true'.1 hany
      simp only [zO] at hb
      cases hq : ops[e.on]? with
      | none => rw [hq] at hb; cases hb.2
      | some q =>
        rw [hq] at hb
        cases hc : q.dst with
        | none => simp [hc] at hb
        | some c =>
          simp only [hc, JO] at hb
          have := hk.new e.on q t (haf e he hb.1).1 hq (by rw [hc, hb.2]) (haf e he hb.1).2
          rw [h1] at this
          exact this
    | false =>
      rw [hany, ZZ] at h1
      exact hk.old t v h1⟩
  have hrun2 := wpOp_put ho (fun a' w' h => h.1.defers) (hrun a w env hS)
  refine wpOp_mono (fun a' w' h => ?_) hrun2
  obtain ⟨⟨hE', hS'⟩, v', rfl⟩ := h
  have keep : ∀ t, o.dst ≠ some t → (a.put o.dst v').tmps[t]? = a.tmps[t]? := fun t ht => by
    cases hd : o.dst with
    | none => rfl
    | some d =>
      have : d ≠ t := fun e => ht (by rw [hd, e])
      simp [Act.put, zZ this]
  refine ⟨⟨hE'.size, hE'.defers, fun t v hv => ?_, fun i' oi d hi' hoi hd hl => ?_⟩, hS', v', rfl⟩
  · rw [keep t (fun e => by rw [hdn t e] at hv; cases hv)]
    exact hk.old t v hv
  · by_cases e : i = i'
    · subst e
      rw [ho] at hoi
      cases hoi
      refine hE'.slot d _ ?_
      unfold oneL
      rw [ho]
      simp only [hd, YC]
    · rw [keep d (fun g => e ((YE _ _ hnd).2 i i' o oi d (by rw [ZD]; exact ho) (by rw [ZD]; exact hoi) g hd))]
      refine hk.new i' oi d hi' hoi hd ?_
      simp [zZ e] at hl ⊢
      exact hl
end

/-! ## in a text -/
section
variable {P : Program} {ops : Array Oper} {Q : Exit → Act → World → Prop} {n : Nat} {l0 L : List (Nat × Value)} {I A : List Nat} {a : Act} {w w0 : World} {L0 Lh : List Ent}
def StabL (P : Program) (ops : Array Oper) (Q : Exit → Act → World → Prop) (n : Nat) (w0 : World) (L0 Lh : List Ent) (l0 L : List (Nat × Value)) : List Nat → Prop
  | [] => True
  | i :: r => (∀ M, Stab P ops Q n (fun wv => Ev w0 L0 wv (Lh ++ M)) l0 L i) ∧ StabL P ops Q n w0 L0 Lh l0 L r
theorem StabL.all : ∀ {I : List Nat}, StabL P ops Q n w0 L0 Lh l0 L I → ∀ i ∈ I, ∀ M, Stab P ops Q n (fun wv => Ev w0 L0 wv (Lh ++ M)) l0 L i
  | _ :: _, h, i, hi => (Qz.1 hi).elim (fun e => e ▸ h.1) (h.2.all i)
def srcE (ops : Array Oper) (I : List Nat) (l0 L : List (Nat × Value)) (t : Nat) : Option Value := bif I.any fun i => (match opD ops i with | some d => Qs d t | none => false) then Qf L t else Qf l0 t
theorem Know.env {listed : Array Bool} {l' : List (Nat × Value)} (k : Know ops n l0 L I a listed) (hl : ∀ i ∈ I, listed.getD i false = true) (h : l'.map (fun p => srcE ops I l0 L p.1) = l'.map (fun p => some p.2)) : Env a n l' := ⟨k.size, k.defers, fun t v hv => by
  have h1 := look_map_some2 h t v hv
  unfold srcE at h1
  cases hany : (I.any fun i => (match opD ops i with | some d => Qs d t | none => false)) with
  | true =>
    rw [hany, Qe] at h1
    obtain ⟨i, hi, hb⟩ := List.any_eq_true.1 hany
    unfold opD at hb
    cases ho : ops[i]? with
    | none => rw [ho] at hb; cases hb
    | some o =>
      rw [ho] at hb
      simp only at hb
      cases hd : o.dst with
      | none => rw [hd] at hb; cases hb
      | some d =>
        rw [hd] at hb
        simp only [JO] at hb
        subst hb
        have := k.new i o d hi ho hd (hl i hi)
        rw [h1] at this
        exact this
  | false =>
    rw [hany, ZZ] at h1
    exact k.old t v h1⟩
theorem put_keep {o : Oper} {v : Value} {t : Nat} (ht : o.dst ≠ some t) : (a.put o.dst v).tmps[t]? = a.tmps[t]? := by
  cases hd : o.dst with
  | none => rfl
  | some d =>
    have : d ≠ t := fun e => ht (by rw [hd, e])
    simp [Act.put, zZ this]
theorem Know.put {listed : Array Bool} {i : Nat} {o : Oper} {v : Value} (hnd : JN ops.toList 0 = true) (hk : Know ops n l0 L I a listed) (ho : ops[i]? = some o) (hiI : i ∉ I) (hdn : ∀ d, o.dst = some d → Qf l0 d = none) : Know ops n l0 L I (a.put o.dst v) (listed.setIfInBounds i true) := by
  refine ⟨?_, ?_, fun t v hv => ?_, fun i' oi d hi' hoi hd hl => ?_⟩
  · cases o.dst with
    | none => exact hk.size
    | some d => simp [Act.put, hk.size]
  · cases o.dst with
    | none => exact hk.defers
    | some d => exact hk.defers
  · rw [put_keep (fun e => by rw [hdn t e] at hv; cases hv)]
    exact hk.old t v hv
  · have e : i ≠ i' := fun e => hiI (e ▸ hi')
    rw [put_keep (fun g => e ((YE _ _ hnd).2 i i' o oi d (by rw [ZD]; exact ho) (by rw [ZD]; exact hoi) g hd))]
    refine hk.new i' oi d hi' hoi hd ?_
    simp [zZ e] at hl ⊢
    exact hl
/-- new variables, in whatever order -/
def Alc (ops : Array Oper) (A : List Nat) (cA : Nat → List Value) (tA : Nat → TypeId) (w0 : World) (L0 Lh : List Ent) (listed : Array Bool) (a : Act) (w : World) : Prop :=
  ∃ bs : List (Nat × Nat), (bs.map Prod.fst).Nodup ∧ (∀ i, i ∈ bs.map Prod.fst ↔ i ∈ A ∧ listed.getD i false = true) ∧ (∀ p ∈ bs, ∀ o d, ops[p.1]? = some o → o.dst = some d → a.tmps[d]? = some (.pointer (some ⟨p.2, 0, none⟩))) ∧ Ev w0 L0 w (Lh ++ bs.map fun p => .box p.2 (cA p.1) (tA p.1))
def alcB (ops : Array Oper) (I A : List Nat) : Bool := (I.all fun i => match ops[i]? with
    | some o => o.after.all fun e => !Region.binds .any e || I.contains e.on
    | none => false) && (A.all fun i => !I.contains i && (match opD ops i with | some _ => true | none => false)) && nodupB A
def dN (ops : Array Oper) (i : Nat) : Nat := (opD ops i).getD 0
theorem Alc.put {cA : Nat → List Value} {tA : Nat → TypeId} {listed : Array Bool} {i : Nat} {o : Oper} {v : Value} {w' : World} {bs : List (Nat × Nat)} (hnd : JN ops.toList 0 = true) (ho : ops[i]? = some o) (hiA : i ∉ A)
    (h1 : (bs.map Prod.fst).Nodup) (h2 : ∀ i, i ∈ bs.map Prod.fst ↔ i ∈ A ∧ listed.getD i false = true) (h3 : ∀ p ∈ bs, ∀ o d, ops[p.1]? = some o → o.dst = some d → a.tmps[d]? = some (.pointer (some ⟨p.2, 0, none⟩))) (h4 : Ev w0 L0 w' (Lh ++ bs.map fun p => .box p.2 (cA p.1) (tA p.1))) :
    Alc ops A cA tA w0 L0 Lh (listed.setIfInBounds i true) (a.put o.dst v) w' := by
  refine ⟨bs, h1, fun j => ?_, fun p hp o' d ho' hd => ?_, h4⟩
  · rw [h2 j]
    by_cases e : i = j
    · subst e
      exact ⟨fun h => absurd h.1 hiA, fun h => absurd h.1 hiA⟩
    · simp [zZ e]
  · have hpA := ((h2 p.1).1 (Xc hp)).1
    have e : i ≠ p.1 := fun e => hiA (e ▸ hpA)
    rw [put_keep (fun g => e ((YE _ _ hnd).2 i p.1 o o' d (by rw [ZD]; exact ho) (by rw [ZD]; exact ho') g hd))]
    exact h3 p hp o' d ho' hd
/-- a new variable more -/
theorem Alc.step {cA : Nat → List Value} {tA : Nat → TypeId} {listed : Array Bool} {i : Nat} {o : Oper} (hnd : JN ops.toList 0 = true) (ho : ops[i]? = some o) (hiA : i ∈ A) (hiI : i ∉ I) (hs : listed.size = ops.size) (hiu : listed.getD i true = false)
    (hdn : ∀ d, o.dst = some d → Qf l0 d = none) (hk : Know ops n l0 L I a listed) (hA : Alc ops A cA tA w0 L0 Lh listed a w)
    (hop : opAt ops n i [] = some (.run (opD ops i) (nv (Instr.alloc (tA i) true (.tuple #[]))))) (hz : (fun w => (zeroValue (tA i)).run P w) = fun w => .ok (Xx P (tA i)) w) (hc : (Xx P (tA i)).cells.toList = cA i) (hsome : ∃ d, opD ops i = some d) :
    wpOp P ops Q i (fun a' w' => Know ops n l0 L I a' (listed.setIfInBounds i true) ∧ Alc ops A cA tA w0 L0 Lh (listed.setIfInBounds i true) a' w') a w := by
  obtain ⟨bs, h1, h2, h3, h4⟩ := hA
  have hil : i < listed.size := by rw [hs]; exact (Zm.1 ho).1
  have hif : listed.getD i false = false := by
    simp [hil] at hiu ⊢
    exact hiu
  have E0 : Env a n [] := ⟨hk.size, hk.defers, fun t v hv => by cases hv⟩
  have hrun : wpOp P ops Q i (fun a' w' => ∃ b, Env a' n (putl (opD ops i) (.pointer (some ⟨b, 0, none⟩)) []) ∧ Ev w0 L0 w' ((Lh ++ bs.map fun p => .box p.2 (cA p.1) (tA p.1)) ++ [.box b (cA i) (tA i)])) a w :=
    m_z (tA i) (cA i) E0 h4 (fun a' w' b E' H' => ⟨b, E', H'⟩) hop hz hc
  refine wpOp_mono (fun a' w' h => ?_) (wpOp_put ho (fun a' w' h => by obtain ⟨b, E', _⟩ := h; exact E'.defers) hrun)
  obtain ⟨⟨b, E', H'⟩, v, rfl⟩ := h
  obtain ⟨d, hd⟩ := hsome
  have hod : o.dst = some d := by
    unfold opD at hd
    rw [ho] at hd
    exact hd
  refine ⟨hk.put hnd ho hiI hdn, bs ++ [(i, b)], ?_, fun j => ?_, fun p hp o' d' ho' hd' => ?_, ?_⟩
  · rw [Zv, Jq]
    refine ⟨h1, by simp, fun x hx y hy e => ?_⟩
    simp at hy
    have := ((h2 x).1 hx).2
    rw [e, hy, hif] at this
    cases this
  · rw [Zv, Q7, h2 j]
    by_cases e : i = j
    · subst e
      simp [hil, hiA]
    · have e' : j ≠ i := fun g => e g.symm
      simp [zZ e, e']
  · rcases Q7.1 hp with hp | hp
    · have hpl := ((h2 p.1).1 (Xc hp)).2
      have e : i ≠ p.1 := fun e => by rw [← e, hif] at hpl; cases hpl
      rw [put_keep (fun g => e ((YE _ _ hnd).2 i p.1 o o' d' (by rw [ZD]; exact ho) (by rw [ZD]; exact ho') g hd'))]
      exact h3 p hp o' d' ho' hd'
    · simp at hp
      subst hp
      rw [ho] at ho'
      cases ho'
      rw [hod] at hd'
      cases hd'
      refine E'.slot d _ ?_
      rw [hd]
      exact YC _ _ _
  · rw [Zv, ← List.append_assoc]
    exact H'
def blkOf (bs : List (Nat × Nat)) (i : Nat) : Nat := ((bs.find? fun p => p.1 == i).map Prod.snd).getD 0
theorem look_alc {ops : Array Oper} {B : Nat → Nat} {l' : List (Nat × Value)} {t : Nat} {v : Value} : ∀ (A : List Nat), Qf ((A.map fun i => (dN ops i, Value.pointer (some ⟨B i, 0, none⟩))) ++ l') t = some v → (∃ i ∈ A, dN ops i = t ∧ v = .pointer (some ⟨B i, 0, none⟩)) ∨ Qf l' t = some v
  | [], h => .inr h
  | i :: r, h => by
    rw [Qn, List.cons_append] at h
    by_cases e : dN ops i = t
    · left
      refine ⟨i, Qm .., e, ?_⟩
      subst e
      rw [YC] at h
      cases h
      rfl
    · rw [look_other _ _ e] at h
      rcases look_alc r h with ⟨j, hj, h1⟩ | h1
      · exact .inl ⟨j, Z7 _ hj, h1⟩
      · exact .inr h1
end
section
variable {P : Program} {ops : Array Oper} {Q : Exit → Act → World → Prop} {n : Nat} {l0 L : List (Nat × Value)} {I A : List Nat} {a : Act} {w w0 : World} {L0 Lh : List Ent}
/-- in the order of the text -/
theorem Alc.order {cA : Nat → List Value} {tA : Nat → TypeId} {listed : Array Bool} (hA : Alc ops A cA tA w0 L0 Lh listed a w) (hnA : A.Nodup) (hl : ∀ i ∈ A, listed.getD i false = true) (hd : ∀ i ∈ A, ∃ o d, ops[i]? = some o ∧ o.dst = some d) :
    ∃ B : Nat → Nat, (∀ i ∈ A, a.tmps[dN ops i]? = some (.pointer (some ⟨B i, 0, none⟩))) ∧ Ev w0 L0 w (Lh ++ A.map fun i => .box (B i) (cA i) (tA i)) := by
  obtain ⟨bs, h1, h2, h3, h4⟩ := hA
  have hB : ∀ i ∈ A, ∃ k, ∃ p : Nat × Nat, bs[k]? = some p ∧ p.1 = i ∧ blkOf bs i = p.2 := fun i hi => by
    have hm := (h2 i).2 ⟨hi, hl i hi⟩
    obtain ⟨p0, hp0, e0⟩ := YH.1 hm
    have hf : ∃ p, bs.find? (fun p => p.1 == i) = some p := by
      cases h : bs.find? (fun p => p.1 == i) with
      | some p => exact ⟨p, rfl⟩
      | none => exact absurd (List.find?_eq_none.1 h p0 hp0) (by simp [e0])
    obtain ⟨p, hp⟩ := hf
    have hpm := List.mem_of_find?_eq_some hp
    have hpe := List.find?_some hp
    obtain ⟨k, hk⟩ := List.getElem?_of_mem hpm
    refine ⟨k, p, hk, by simpa using hpe, ?_⟩
    unfold blkOf
    rw [hp]
    rfl
  refine ⟨blkOf bs, fun i hi => ?_, ?_⟩
  · obtain ⟨k, p, hk, hp, hb⟩ := hB i hi
    obtain ⟨o, d, ho, hdd⟩ := hd i hi
    rw [hb]
    refine h3 p (List.mem_of_getElem? hk) o (dN ops i) (by rw [hp]; exact ho) ?_
    unfold dN opD
    rw [ho]
    simp [hdd]
  · have ix : ∀ (A' : List Nat), (∀ i ∈ A', i ∈ A) → A'.Nodup → ∃ ks : List Nat, (∀ k ∈ ks, ∃ p : Nat × Nat, bs[k]? = some p ∧ p.1 ∈ A') ∧ ks.Nodup ∧ (A'.map fun i => some (Ent.box (blkOf bs i) (cA i) (tA i))) = ks.map fun k => (bs.map fun p => Ent.box p.2 (cA p.1) (tA p.1))[k]? := fun A' => by
      induction A' with
      | nil => exact fun _ _ => ⟨[], by simp, J1, rfl⟩
      | cons i r ih =>
        intro hs hn
        obtain ⟨ks, h5, h6, h7⟩ := ih (fun j hj => hs j (Z7 _ hj)) (Y5.1 hn).2
        obtain ⟨k, p, hk, hp, hb⟩ := hB i (hs i (Qm ..))
        refine ⟨k :: ks, fun j hj => ?_, Y5.2 ⟨fun hm => ?_, h6⟩, ?_⟩
        · rcases Qz.1 hj with rfl | hj
          · exact ⟨p, hk, by rw [hp]; exact Qm ..⟩
          · obtain ⟨q, hq, hq2⟩ := h5 j hj
            exact ⟨q, hq, Z7 _ hq2⟩
        · obtain ⟨q, hq, hq2⟩ := h5 k hm
          rw [hk] at hq
          cases hq
          rw [hp] at hq2
          exact (Y5.1 hn).1 hq2
        · rw [Qn, Qn, h7, List.getElem?_map, hk]
          simp [hp, hb]
    obtain ⟨ks, h5, h6, h7⟩ := ix A (fun _ h => h) hnA
    refine h4.pick ((QP Lh.length) ++ ks.map (Lh.length + ·)) ?_ ?_
    · rw [Zv, Zv, JJ]
      congr 1
      · refine List.ext_getElem? fun j => ?_
        rcases ZJ j Lh.length with h | h
        · simp [h, zM]
        · simp [h]
      · rw [JJ]
        refine Eq.trans (by rfl) (h7.trans ?_)
        refine List.map_congr_left fun k hk => ?_
        show _ = (Lh ++ bs.map fun p => Ent.box p.2 (cA p.1) (tA p.1))[Lh.length + k]?
        rw [zT (Nat.le_add_right _ _), Nat.add_sub_cancel_left]
    · rw [Jq]
      refine ⟨List.nodup_range, ?_, fun x hx y hy e => ?_⟩
      · exact List.Pairwise.map _ (fun x y h g => h (by simpa using g)) h6
      · obtain ⟨k, _, rfl⟩ := YH.1 hy
        have := List.mem_range.1 hx
        omega
def alcOk (P : Program) (ops : Array Oper) (n : Nat) (cA : Nat → List Value) (tA : Nat → TypeId) (i : Nat) : Prop :=
  opAt ops n i [] = some (.run (opD ops i) (nv (Instr.alloc (tA i) true (.tuple #[])))) ∧ ((fun w => (zeroValue (tA i)).run P w) = fun w => .ok (Xx P (tA i)) w) ∧ (Xx P (tA i)).cells.toList = cA i
/-- a drawn region: what is stable and what makes variables first, whatever the order -/
theorem s_gen {F : Act → World → Prop} {id : Nat} (cA : Nat → List Value) (tA : Nat → TypeId) (m' : Nat) (l' : List (Nat × Value)) (E : Env a n l0) (H : Ev w0 L0 w.drew Lh) (hst : StabL P ops (HQ F) n w0 L0 Lh l0 L I) (hal : ∀ i ∈ A, alcOk P ops n cA tA i)
    (next : ∀ a' w' (B : Nat → Nat), Env a' n ((A.map fun i => (dN ops i, Value.pointer (some ⟨B i, 0, none⟩))) ++ l') → Ev w0 L0 w' (Lh ++ A.map fun i => .box (B i) (cA i) (tA i)) → wpAny P .any ops (HQ F) m' (LI ops (I ++ A)) a' w')
    (hp : P.follows .mixedOrders = true) (hB : stabB ops (I ++ A) l0 = true) (hC : alcB ops I A = true) (hl : l'.map (fun p => srcE ops I l0 L p.1) = l'.map (fun p => some p.2)) (hm : cntF (LI ops (I ++ A)) = m') : (Code.region id ops true).wp P (HQ F) a w := by
  have hB' := hB
  unfold stabB at hB'
  simp only [zO, zW] at hB'
  have hnd := hB'.1.1.1
  have key : ∀ i ∈ I ++ A, ∃ o, ops[i]? = some o := fun i hi => by
    have h := hB'.1.1.2 i hi
    unfold inB at h
    cases ho : ops[i]? with
    | none => rw [ho] at h; cases h
    | some o => exact ⟨o, rfl⟩
  unfold alcB at hC
  simp only [zO, zW] at hC
  have hIA : ∀ i ∈ A, i ∉ I := fun i hi h => by
    have := (hC.1.2 i hi).1
    rw [z9.2 h] at this
    cases this
  have hAd : ∀ i ∈ A, ∃ o d, ops[i]? = some o ∧ o.dst = some d := fun i hi => by
    obtain ⟨o, ho⟩ := key i (JW _ hi)
    have h := (hC.1.2 i hi).2
    unfold opD at h
    rw [ho] at h
    cases hd : o.dst with
    | none => simp [hd] at h
    | some d => exact ⟨o, d, ho, hd⟩
  have hlist : ∀ i ∈ I ++ A, (LI ops (I ++ A)).getD i false = true := fun i hi => by
    obtain ⟨o, ho⟩ := key i hi
    have hib := (Zm.1 ho).1
    simp only [Q7] at hi
    simp [LI, hib, hi]
  refine draw_any hp ops.size rfl ?_
  refine stab_go (J := fun listed a w => Know ops n l0 L I a listed ∧ Alc ops A cA tA w0 L0 Lh listed a w) hB (fun i hi listed a w o ho hs hiu haf hdn hJ => ?_) (fun a' w' hJ => ?_) ops.size (Array.replicate ops.size false) a w.drew (by simp [cntF, List.countP_replicate]) (by simp) (fun j hj => ?_) ?_ ⟨⟨E.size, E.defers, E.slot, fun i o d hi ho hd hl => ?_⟩, [], J1, fun i => ?_, (fun p hp => by cases hp), (by rw [XF, Yt]; exact H)⟩
  · obtain ⟨hk, hA⟩ := hJ
    rcases Q7.1 hi with hi | hi
    · obtain ⟨bs, h1, h2, h3, h4⟩ := hA
      have haf' : ∀ e ∈ o.after, Region.binds .any e = true → e.on ∈ I ∧ listed.getD e.on false = true := fun e he hb => by
        have h := hC.1.1 i hi
        rw [ho] at h
        have h1 := (QL.1 h) e he
        rw [hb] at h1
        exact ⟨z9.1 (by simpa using h1), (haf e he hb).2⟩
      refine wpOp_mono (fun a' w' h => ?_) (stab_step hnd hi (hst.all i hi (bs.map fun p => .box p.2 (cA p.1) (tA p.1))) ho hs hiu haf' hdn hk h4)
      obtain ⟨hk', hS', v, rfl⟩ := h
      exact ⟨hk', Alc.put hnd ho (fun h => hIA i h hi) h1 h2 h3 hS'⟩
    · obtain ⟨h1, h2, h3⟩ := hal i hi
      obtain ⟨o', d, ho', hd⟩ := hAd i hi
      exact Alc.step hnd ho hi (hIA i hi) hs hiu hdn hk hA h1 h2 h3 ⟨d, by unfold opD; rw [ho']; exact hd⟩
  · obtain ⟨hk, hA⟩ := hJ
    obtain ⟨B, hB1, hB2⟩ := Alc.order hA (nodup_of hC.2) (fun i hi => hlist i (JW _ hi)) hAd
    rw [hm]
    have E' := hk.env (fun i hi => hlist i (List.mem_append_left _ hi)) hl
    refine next a' w' B ⟨E'.size, E'.defers, fun t v hv => ?_⟩ hB2
    rcases look_alc A hv with ⟨i, hi, rfl, rfl⟩ | h
    · exact hB1 i hi
    · exact E'.slot t v h
  · rcases ZJ j ops.size with h | h
    · simp [h] at hj
    · simp [h] at hj
  · intro j o hj hl
    rcases ZJ j ops.size with h | h
    · simp [h] at hl
    · simp [h] at hl
  · rcases ZJ i ops.size with h | h
    · simp [h] at hl
    · simp [h] at hl
  · rcases ZJ i ops.size with h | h
    · simp [h]
    · simp [h]
/-- cells of a variable that an operation makes -/
def cAl (P : Program) (ops : Array Oper) (i : Nat) : List Value := (Xx P (Yo ops i)).cells.toList
theorem s_g0 {F : Act → World → Prop} {id : Nat} (l0 : List (Nat × Value)) (I : List Nat) (L : List (Nat × Value)) (m' : Nat) (l' : List (Nat × Value)) (E : Env a n l0) (H : Ev w0 L0 w.drew Lh) (hst : StabL P ops (HQ F) n w0 L0 Lh l0 L I)
    (next : ∀ a' w', Env a' n (l') → Ev w0 L0 w' Lh → wpAny P .any ops (HQ F) m' (LI ops (I ++ [])) a' w')
    (hp : P.follows .mixedOrders = true := by kernel_rfl) (hB : stabB ops (I ++ []) l0 = true := by kernel_rfl) (hC : alcB ops I [] = true := by kernel_rfl) (hl : l'.map (fun p => srcE ops I l0 L p.1) = l'.map (fun p => some p.2) := by kernel_rfl) (hm : cntF (LI ops (I ++ [])) = m' := by kernel_rfl) : (Code.region id ops true).wp P (HQ F) a w := by
  exact s_gen (A := []) (cAl P ops) (Yo ops) m' l' E H hst (fun i hi => by cases hi) (fun a' w' B E' H' => next a' w' E' (by rw [XF, Yt] at H'; exact H')) hp hB hC hl hm
theorem s_g1 {F : Act → World → Prop} {id : Nat} (l0 : List (Nat × Value)) (I : List Nat) (L : List (Nat × Value)) (m' : Nat) (l' : List (Nat × Value)) (i1 : Nat) (c1 : List Value) (E : Env a n l0) (H : Ev w0 L0 w.drew Lh) (hst : StabL P ops (HQ F) n w0 L0 Lh l0 L I)
    (next : ∀ a' w' (b1 : Nat), Env a' n ((dN ops i1, .pointer (some ⟨b1, 0, none⟩)) :: l') → Ev w0 L0 w' (Lh ++ [.box b1 c1 (Yo ops i1)]) → wpAny P .any ops (HQ F) m' (LI ops (I ++ [i1])) a' w')
    (hp : P.follows .mixedOrders = true := by kernel_rfl) (hB : stabB ops (I ++ [i1]) l0 = true := by kernel_rfl) (hC : alcB ops I [i1] = true := by kernel_rfl) (hl : l'.map (fun p => srcE ops I l0 L p.1) = l'.map (fun p => some p.2) := by kernel_rfl) (hm : cntF (LI ops (I ++ [i1])) = m' := by kernel_rfl) (e1 : alcOk P ops n (cAl P ops) (Yo ops) i1 := by exact ⟨by kernel_rfl, by kernel_rfl, rfl⟩) (f1 : cAl P ops i1 = c1 := by kernel_rfl) : (Code.region id ops true).wp P (HQ F) a w := by
  subst f1
  exact s_gen (A := [i1]) (cAl P ops) (Yo ops) m' l' E H hst (fun i hi => by simp only [Qz, Yg, or_false] at hi; rcases hi with rfl <;> assumption) (fun a' w' B E' H' => next a' w' (B i1) E' H') hp hB hC hl hm
theorem s_g4 {F : Act → World → Prop} {id : Nat} (l0 : List (Nat × Value)) (I : List Nat) (L : List (Nat × Value)) (m' : Nat) (l' : List (Nat × Value)) (i1 i2 i3 i4 : Nat) (c1 c2 c3 c4 : List Value) (E : Env a n l0) (H : Ev w0 L0 w.drew Lh) (hst : StabL P ops (HQ F) n w0 L0 Lh l0 L I)
    (next : ∀ a' w' (b1 b2 b3 b4 : Nat), Env a' n ((dN ops i1, .pointer (some ⟨b1, 0, none⟩)) :: (dN ops i2, .pointer (some ⟨b2, 0, none⟩)) :: (dN ops i3, .pointer (some ⟨b3, 0, none⟩)) :: (dN ops i4, .pointer (some ⟨b4, 0, none⟩)) :: l') → Ev w0 L0 w' (Lh ++ [.box b1 c1 (Yo ops i1), .box b2 c2 (Yo ops i2), .box b3 c3 (Yo ops i3), .box b4 c4 (Yo ops i4)]) → wpAny P .any ops (HQ F) m' (LI ops (I ++ [i1, i2, i3, i4])) a' w')
    (hp : P.follows .mixedOrders = true := by kernel_rfl) (hB : stabB ops (I ++ [i1, i2, i3, i4]) l0 = true := by kernel_rfl) (hC : alcB ops I [i1, i2, i3, i4] = true := by kernel_rfl) (hl : l'.map (fun p => srcE ops I l0 L p.1) = l'.map (fun p => some p.2) := by kernel_rfl) (hm : cntF (LI ops (I ++ [i1, i2, i3, i4])) = m' := by kernel_rfl) (e1 : alcOk P ops n (cAl P ops) (Yo ops) i1 := by exact ⟨by kernel_rfl, by kernel_rfl, rfl⟩) (f1 : cAl P ops i1 = c1 := by kernel_rfl) (e2 : alcOk P ops n (cAl P ops) (Yo ops) i2 := by exact ⟨by kernel_rfl, by kernel_rfl, rfl⟩) (f2 : cAl P ops i2 = c2 := by kernel_rfl) (e3 : alcOk P ops n (cAl P ops) (Yo ops) i3 := by exact ⟨by kernel_rfl, by kernel_rfl, rfl⟩) (f3 : cAl P ops i3 = c3 := by kernel_rfl) (e4 : alcOk P ops n (cAl P ops) (Yo ops) i4 := by exact ⟨by kernel_rfl, by kernel_rfl, rfl⟩) (f4 : cAl P ops i4 = c4 := by kernel_rfl) : (Code.region id ops true).wp P (HQ F) a w := by
  subst f1 f2 f3 f4
  exact s_gen (A := [i1, i2, i3, i4]) (cAl P ops) (Yo ops) m' l' E H hst (fun i hi => by simp only [Qz, Yg, or_false] at hi; rcases hi with rfl | rfl | rfl | rfl <;> assumption) (fun a' w' B E' H' => next a' w' (B i1) (B i2) (B i3) (B i4) E' H') hp hB hC hl hm
theorem app_at {M : List Ent} {k : Nat} {e : Ent} (h : Lh[k]? = some e) : (Lh ++ M)[k]? = some e := by rw [zM (List.getElem?_eq_some_iff.1 h).1]; exact h
theorem s_n : StabL P ops Q n w0 L0 Lh l0 L [] := trivial
/-- an operation, whatever it is -/
theorem s_c {i : Nat} {r : List Nat} (h : ∀ M a w, Env a n (envI ops l0 L i) → Ev w0 L0 w (Lh ++ M) → wpOp P ops Q i (fun a' w' => Env a' n (oneL ops L i) ∧ Ev w0 L0 w' (Lh ++ M)) a w) (hr : StabL P ops Q n w0 L0 Lh l0 L r)
    (hE : (envI ops l0 L i).map (fun p => srcOf ops l0 L i p.1) = (envI ops l0 L i).map (fun p => some p.2) := by kernel_rfl) : StabL P ops Q n w0 L0 Lh l0 L (i :: r) := ⟨fun M => ⟨_, hE, h M⟩, hr⟩
/-- a function that changes nothing -/
theorem s_f {i : Nat} {r : List Nat} {f : FuncId} {args : Array Value} {v : Value} (hc : ∀ w, Calls P f args w fun e w' => e = .returned v ∧ Ev w [] w' []) (hr : StabL P ops Q n w0 L0 Lh l0 L r)
    (h : opRuns P ops n i (envI ops l0 L i) = some (opD ops i, fun w => .ok (.enter f args) w) := by kernel_rfl)
    (h1 : (oneL ops L i).map (fun p => Qf (putl (opD ops i) v (envI ops l0 L i)) p.1) = (oneL ops L i).map (fun p => some p.2) := by kernel_rfl)
    (hE : (envI ops l0 L i).map (fun p => srcOf ops l0 L i p.1) = (envI ops l0 L i).map (fun p => some p.2) := by kernel_rfl) : StabL P ops Q n w0 L0 Lh l0 L (i :: r) :=
  s_c (fun M a w E H => c_p E H (hc w) (fun a' w' E' H' => ⟨E'.sub h1, H'⟩) h) hr hE
/-- an operation without memory -/
theorem s_p {i : Nat} {r : List Nat} (fs : List (Nat × FV)) (hr : StabL P ops Q n w0 L0 Lh l0 L r)
    (h : (fun w => resA P ops n w (envI ops l0 L i) i) = (fun w => expA P ops n fs w (envI ops l0 L i) i) := by kernel_rfl)
    (h1 : (oneL ops L i).map (fun p => Qf (nextL P ops n fs (envI ops l0 L i) i) p.1) = (oneL ops L i).map (fun p => some p.2) := by kernel_rfl)
    (hE : (envI ops l0 L i).map (fun p => srcOf ops l0 L i p.1) = (envI ops l0 L i).map (fun p => some p.2) := by kernel_rfl) : StabL P ops Q n w0 L0 Lh l0 L (i :: r) :=
  s_c (fun M a w E H => by
    have h2 := congrFun h w
    unfold resA expA at h2
    have go : ∀ a', Env a' n (nextL P ops n fs (envI ops l0 L i) i) → Env a' n (oneL ops L i) ∧ Ev w0 L0 w (Lh ++ M) := fun a' E' => ⟨E'.sub h1, H⟩
    unfold nextL at go
    cases ho : opAt ops n i (envI ops l0 L i) with
    | none => simp [ho] at h2
    | some x =>
      cases x with
      | run d s =>
        simp only [ho, Option.some.injEq] at h2 go
        rw [raw_fin] at h2
        exact any_run E ho h2 go
      | skip d =>
        simp only [ho] at go
        obtain ⟨o, hq, hw, rfl, hf⟩ := opAt_skip E ho
        simp only [wpOp, hq, hw, Bool.false_eq_true, if_false]
        exact go _ (E.put undef hf)) hr hE
/-- a load of several cells -/
theorem s_a {i : Nat} {r : List Nat} (k off m : Nat) (xs : List Value) {b : Nat} {cs : List Value} {T : TypeId} (hk : Lh[k]? = some (.box b cs T)) (hx : (cs.drop off).take m = xs) (hm : xs.length = m) (hr : StabL P ops Q n w0 L0 Lh l0 L r)
    (h : opAt ops n i (envI ops l0 L i) = some (.run (opD ops i) (nv (Instr.loadAt (Yo ops i) (.pointer (some ⟨b, off, none⟩))))) := by kernel_rfl)
    (ht : (fun w => (isAgg (Yo ops i)).run P w) = fun w => .ok true w := by kernel_rfl) (hs : (fun w => (sizeOf (Yo ops i)).run P w) = fun w => .ok m w := by kernel_rfl)
    (h1 : (oneL ops L i).map (fun p => Qf (putl (opD ops i) (.agg xs.toArray) (envI ops l0 L i)) p.1) = (oneL ops L i).map (fun p => some p.2) := by kernel_rfl)
    (hE : (envI ops l0 L i).map (fun p => srcOf ops l0 L i p.1) = (envI ops l0 L i).map (fun p => some p.2) := by kernel_rfl) : StabL P ops Q n w0 L0 Lh l0 L (i :: r) :=
  s_c (fun M a w E H => m_a k off m xs E H (app_at hk) hx hm (fun a' E' => ⟨E'.sub h1, H⟩) h ht hs) hr hE
/-- what is left of it -/
theorem s_e {i : Nat} {l : List (Nat × Value)} {a' : Act} {w' : World} {Lh : List Ent} (E : Env a' n l) (H : Ev w0 L0 w' Lh) (h1 : (oneL ops L i).map (fun p => Qf l p.1) = (oneL ops L i).map (fun p => some p.2) := by kernel_rfl) : Env a' n (oneL ops L i) ∧ Ev w0 L0 w' Lh := ⟨E.sub h1, H⟩
end
end Go.Dbr
