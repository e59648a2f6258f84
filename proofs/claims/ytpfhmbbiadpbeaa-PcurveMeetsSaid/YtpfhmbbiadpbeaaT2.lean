/- Layer 13: the document's points of three numbers. -/
import Derived.Test.YtpfhmbbiadpbeaaT1
namespace Go.Proofs.Ytpfhmbbiadpbeaa
open Go.Dbr
set_option maxRecDepth 100000
set_option maxHeartbeats 2000000
set_option linter.unusedVariables false
set_option linter.unusedSimpArgs false

abbrev T3 := L4 × L4 × L4
def one3 : T3 := ([1, 0, 0, 0], [1, 0, 0, 0], z4)
def jmN (x z : Nat) : Nat := mulM 2 3 (mulM 2 (subM 2 x (mulM 2 z z)) (addM 2 x (mulM 2 z z)))
def jsN (x y : Nat) : Nat := mulM 2 4 (mulM 2 x (mulM 2 y y))
def jxN (x y z : Nat) : Nat := subM 2 (mulM 2 (jmN x z) (jmN x z)) (addM 2 (jsN x y) (jsN x y))
def jyN (x y z : Nat) : Nat := subM 2 (mulM 2 (jmN x z) (subM 2 (jsN x y) (jxN x y z))) (mulM 2 8 (mulM 2 (mulM 2 y y) (mulM 2 y y)))
def jzN (y z : Nat) : Nat := mulM 2 2 (mulM 2 y z)
def jtL (t : T3) : T3 := bif t.2.2 == z4 || t.2.1 == z4 then one3 else (nd (jxN (nv t.1) (nv t.2.1) (nv t.2.2)), nd (jyN (nv t.1) (nv t.2.1) (nv t.2.2)), nd (jzN (nv t.2.1) (nv t.2.2)))
def pxN (u v s t : Nat) : Nat := subM 2 (subM 2 (mulM 2 (subM 2 t s) (subM 2 t s)) (mulM 2 (mulM 2 (subM 2 v u) (subM 2 v u)) (subM 2 v u))) (addM 2 (mulM 2 u (mulM 2 (subM 2 v u) (subM 2 v u))) (mulM 2 u (mulM 2 (subM 2 v u) (subM 2 v u))))
def pyN (u v s t : Nat) : Nat := subM 2 (mulM 2 (subM 2 t s) (subM 2 (mulM 2 u (mulM 2 (subM 2 v u) (subM 2 v u))) (pxN u v s t))) (mulM 2 s (mulM 2 (mulM 2 (subM 2 v u) (subM 2 v u)) (subM 2 v u)))
def pzN (u v z1 z2 : Nat) : Nat := mulM 2 (subM 2 v u) (mulM 2 z1 z2)
def puN (x z : Nat) : Nat := mulM 2 x (mulM 2 z z)
def psN (y z : Nat) : Nat := mulM 2 y (mulM 2 (mulM 2 z z) z)
def pqL (u v s t z1 z2 : Nat) : T3 := (nd (pxN u v s t), nd (pyN u v s t), nd (pzN u v z1 z2))
def jpL (s t : T3) : T3 :=
  bif s.2.2 == z4 then t else bif t.2.2 == z4 then s else
  bif nd (puN (nv s.1) (nv t.2.2)) == nd (puN (nv t.1) (nv s.2.2)) then (bif nd (psN (nv s.2.1) (nv t.2.2)) == nd (psN (nv t.2.1) (nv s.2.2)) then jtL s else one3)
  else pqL (puN (nv s.1) (nv t.2.2)) (puN (nv t.1) (nv s.2.2)) (psN (nv s.2.1) (nv t.2.2)) (psN (nv t.2.1) (nv s.2.2)) (nv s.2.2) (nv t.2.2)
def bitN (k i : Nat) : Nat := k / 2 ^ i % 2
def mnF (p : T3) (k : Nat) : Nat → T3
  | 0 => one3
  | j + 1 => bif bitN k (255 - j) == 1 then jpL (jtL (mnF p k j)) p else jtL (mnF p k j)
def bkJ (t : T3) : PZ := bif t.2.2 == z4 then zeroP else (false, nd (mulM 2 (nv t.1) (mulM 2 (ivN (nv t.2.2)) (ivN (nv t.2.2)))), nd (mulM 2 (nv t.2.1) (mulM 2 (mulM 2 (ivN (nv t.2.2)) (ivN (nv t.2.2))) (ivN (nv t.2.2)))))
structure Len3 (t : T3) : Prop where
  x : t.1.length = 4
  y : t.2.1.length = 4
  z : t.2.2.length = 4
theorem one3_len : Len3 one3 := ⟨rfl, rfl, rfl⟩
theorem nd3_len (a b c : Nat) : Len3 (nd a, nd b, nd c) := ⟨ndl _, ndl _, ndl _⟩
theorem jtL_len (t : T3) : Len3 (jtL t) := by
  unfold jtL
  cases t.2.2 == z4 || t.2.1 == z4 with
  | true => exact one3_len
  | false => exact nd3_len _ _ _
theorem cond_len {b : Bool} {s t : T3} (hs : Len3 s) (ht : Len3 t) : Len3 (bif b then s else t) := by
  cases b with
  | true => exact hs
  | false => exact ht
theorem pqL_len (u v s t a b : Nat) : Len3 (pqL u v s t a b) := nd3_len _ _ _
theorem jpL_len {s t : T3} (hs : Len3 s) (ht : Len3 t) : Len3 (jpL s t) := by
  unfold jpL
  exact cond_len ht (cond_len hs (cond_len (cond_len (jtL_len _) one3_len) (pqL_len _ _ _ _ _ _)))
theorem mnF_len {p : T3} (hp : Len3 p) (k : Nat) : ∀ j, Len3 (mnF p k j)
  | 0 => one3_len
  | j + 1 => by
    unfold mnF
    cases bitN k (255 - j) == 1 with
    | true => exact jpL_len (jtL_len _) hp
    | false => exact jtL_len _
/-- a point's three numbers -/
structure RepT (t : T3) (P : GP) : Prop where
  len : Len3 t
  lt1 : nv t.1 < Go.Wei.PP
  lt2 : nv t.2.1 < Go.Wei.PP
  lt3 : nv t.2.2 < Go.Wei.PP
  rep : Go.Wei.RepJ (fP (nv t.1), fP (nv t.2.1), fP (nv t.2.2)) P.1
theorem rep_nd3 {a b c : Nat} {P : GP} (ha : a < Go.Wei.PP) (hb : b < Go.Wei.PP) (hc : c < Go.Wei.PP) (h : Go.Wei.RepJ (fP a, fP b, fP c) P.1) : RepT (nd a, nd b, nd c) P := by
  have ea := nv_nd (Nat.lt_trans ha PP_lt)
  have eb := nv_nd (Nat.lt_trans hb PP_lt)
  have ec := nv_nd (Nat.lt_trans hc PP_lt)
  refine ⟨nd3_len _ _ _, ?_, ?_, ?_, ?_⟩
  · show nv (nd a) < _; rw [ea]; exact ha
  · show nv (nd b) < _; rw [eb]; exact hb
  · show nv (nd c) < _; rw [ec]; exact hc
  · show Go.Wei.RepJ (fP (nv (nd a)), fP (nv (nd b)), fP (nv (nd c))) P.1; rw [ea, eb, ec]; exact h
theorem rep_one3 : RepT one3 Go.Wei.Cv.zero := rep_nd3 (a := 1) (b := 1) (c := 0) (by decide) (by decide) (by decide) (show fP 0 = 0 from rfl)
theorem fP_zero {a : Nat} (h : a < Go.Wei.PP) : fP a = 0 ↔ a = 0 := by
  constructor
  · intro g
    have := congrArg Fin.val g
    rw [Go.Wei.fin_zero] at this
    exact (Nat.mod_eq_of_lt h).symm.trans this
  · intro g; rw [g]; rfl
theorem z4_beq {z : L4} (hz : z.length = 4) (h : nv z < Go.Wei.PP) : (z == z4) = decide (fP (nv z) = 0) := by
  rw [nv_zero4 hz]
  exact decide_eq_decide.2 (fP_zero h).symm
theorem nd_beq {a b : Nat} (ha : a < Go.Wei.PP) (hb : b < Go.Wei.PP) : (nd a == nd b) = decide (fP a = fP b) := by
  by_cases h : fP a = fP b
  · rw [decide_eq_true h, Go.Wei.fn_inj ha hb h]; exact beq_self_eq_true _
  · rw [decide_eq_false h]
    exact beq_false_of_ne fun g => h (congrArg fP (nd_inj (Nat.lt_trans ha PP_lt) (Nat.lt_trans hb PP_lt) g))
theorem f_3 : fP 3 = Go.Wei.k3 := Go.Wei.fn_3
theorem f_2 : fP 2 = 1 + 1 := by
  show Go.Wei.fn Go.Wei.PP (1 + 1) = _
  rw [Go.Wei.fn_a, Go.Wei.fn_one]
theorem f_4 : fP 4 = Go.Wei.k4 := by
  show Go.Wei.fn Go.Wei.PP (1 + 1 + 1 + 1) = _
  rw [Go.Wei.fn_a, Go.Wei.fn_a, Go.Wei.fn_a, Go.Wei.fn_one]
  rfl
theorem f_8 : fP 8 = Go.Wei.k8 := by
  show Go.Wei.fn Go.Wei.PP (1 + 1 + 1 + 1 + 1 + 1 + 1 + 1) = _
  rw [Go.Wei.fn_a, Go.Wei.fn_a, Go.Wei.fn_a, Go.Wei.fn_a, Go.Wei.fn_a, Go.Wei.fn_a, Go.Wei.fn_a, Go.Wei.fn_one]
  rfl
theorem f_jm (x z : Nat) : fP (jmN x z) = Go.Wei.jm (fP x) (fP z) := by rw [jmN, f_mul, f_mul, f_sub, f_add, f_mul, f_3]; rfl
theorem f_js (x y : Nat) : fP (jsN x y) = Go.Wei.js (fP x) (fP y) := by rw [jsN, f_mul, f_mul, f_mul, f_4]; rfl
theorem f_jx (x y z : Nat) : fP (jxN x y z) = Go.Wei.jx (fP x) (fP y) (fP z) := by rw [jxN, f_sub, f_mul, f_add, f_jm, f_js]; rfl
theorem rep_jt {t : T3} {P : GP} (h : RepT t P) : RepT (jtL t) (Go.Wei.Cv.add P P) := by
  have j := Go.Wei.jt_ok Go.Wei.fldP Go.Wei.no2P P.2 h.rep (Go.Wei.Cv.is P P)
  rw [Go.Wei.jt] at j
  unfold jtL
  rw [z4_beq h.len.z h.lt3, z4_beq h.len.y h.lt2]
  by_cases hz : fP (nv t.2.2) = 0 ∨ fP (nv t.2.1) = 0
  · rw [if_pos hz] at j
    have : (decide (fP (nv t.2.2) = 0) || decide (fP (nv t.2.1) = 0)) = true := by simpa using hz
    rw [this]
    exact rep_nd3 (a := 1) (b := 1) (c := 0) (by decide) (by decide) (by decide) (show Go.Wei.RepJ (fP 1, fP 1, fP 0) _ by rw [fP, fP, Go.Wei.fn_one, Go.Wei.fn_zero]; exact j)
  · rw [if_neg hz] at j
    have : (decide (fP (nv t.2.2) = 0) || decide (fP (nv t.2.1) = 0)) = false := by simpa using hz
    rw [this]
    refine rep_nd3 (lt_sub _ _) (lt_sub _ _) (lt_mul _ _) ?_
    rw [f_jx, jyN, jzN, f_sub, f_mul, f_sub, f_mul, f_mul, f_mul, f_jm, f_js, f_jx, f_8, f_mul, f_mul, f_2]
    exact j
theorem f_pu (x z : Nat) : fP (puN x z) = fP x * (fP z * fP z) := by rw [puN, f_mul, f_mul]
theorem f_ps (y z : Nat) : fP (psN y z) = fP y * ((fP z * fP z) * fP z) := by rw [psN, f_mul, f_mul, f_mul]
theorem f_px (u v s t : Nat) : fP (pxN u v s t) = Go.Wei.px (fP u) (fP v) (fP s) (fP t) := by simp only [pxN, f_sub, f_mul, f_add, Go.Wei.px]
theorem rep_jp {s t : T3} {P Q : GP} (hs : RepT s P) (ht : RepT t Q) : RepT (jpL s t) (Go.Wei.Cv.add P Q) := by
  have j := Go.Wei.jp_ok Go.Wei.fldP Go.Wei.no2P P.2 Q.2 hs.rep ht.rep (Go.Wei.Cv.is P Q)
  rw [Go.Wei.jp] at j
  unfold jpL
  rw [z4_beq hs.len.z hs.lt3, z4_beq ht.len.z ht.lt3, nd_beq (show puN _ _ < _ from lt_mul _ _) (show puN _ _ < _ from lt_mul _ _), nd_beq (show psN _ _ < _ from lt_mul _ _) (show psN _ _ < _ from lt_mul _ _), f_pu, f_pu, f_ps, f_ps]
  by_cases h1 : fP (nv s.2.2) = 0
  · rw [if_pos h1] at j
    rw [decide_eq_true h1]
    exact ⟨ht.len, ht.lt1, ht.lt2, ht.lt3, j⟩
  rw [if_neg h1] at j
  rw [decide_eq_false h1, Bool.cond_false]
  by_cases h2 : fP (nv t.2.2) = 0
  · rw [if_pos h2] at j
    rw [decide_eq_true h2]
    exact ⟨hs.len, hs.lt1, hs.lt2, hs.lt3, j⟩
  rw [if_neg h2] at j
  rw [decide_eq_false h2, Bool.cond_false]
  by_cases h3 : fP (nv s.1) * (fP (nv t.2.2) * fP (nv t.2.2)) = fP (nv t.1) * (fP (nv s.2.2) * fP (nv s.2.2))
  · rw [if_pos h3] at j
    rw [decide_eq_true h3, Bool.cond_true]
    by_cases h4 : fP (nv s.2.1) * ((fP (nv t.2.2) * fP (nv t.2.2)) * fP (nv t.2.2)) = fP (nv t.2.1) * ((fP (nv s.2.2) * fP (nv s.2.2)) * fP (nv s.2.2))
    · rw [if_pos h4] at j
      rw [decide_eq_true h4, Bool.cond_true]
      have k := rep_jt hs
      refine ⟨k.len, k.lt1, k.lt2, k.lt3, ?_⟩
      have e : (fP (nv (jtL s).1), fP (nv (jtL s).2.1), fP (nv (jtL s).2.2)) = Go.Wei.jt (fP (nv s.1), fP (nv s.2.1), fP (nv s.2.2)) := by
        unfold jtL
        rw [Go.Wei.jt, z4_beq hs.len.z hs.lt3, z4_beq hs.len.y hs.lt2]
        by_cases hz : fP (nv s.2.2) = 0 ∨ fP (nv s.2.1) = 0
        · rw [if_pos hz, show (decide (fP (nv s.2.2) = 0) || decide (fP (nv s.2.1) = 0)) = true by simpa using hz]
          rfl
        · rw [if_neg hz, show (decide (fP (nv s.2.2) = 0) || decide (fP (nv s.2.1) = 0)) = false by simpa using hz]
          show (fP (nv (nd (jxN _ _ _))), fP (nv (nd (jyN _ _ _))), fP (nv (nd (jzN _ _)))) = _
          rw [nv_nd (show jxN _ _ _ < W256 from subM_lt h2f _ _), nv_nd (show jyN _ _ _ < W256 from subM_lt h2f _ _), nv_nd (show jzN _ _ < W256 from mulM_lt h2f _ _)]
          rw [f_jx, jyN, jzN, f_sub, f_mul, f_sub, f_mul, f_mul, f_mul, f_jm, f_js, f_jx, f_8, f_mul, f_mul, f_2]
      rw [e]
      exact j
    · rw [if_neg h4] at j
      rw [decide_eq_false h4, Bool.cond_false]
      exact rep_nd3 (a := 1) (b := 1) (c := 0) (by decide) (by decide) (by decide) (show Go.Wei.RepJ (fP 1, fP 1, fP 0) _ by rw [fP, fP, Go.Wei.fn_one, Go.Wei.fn_zero]; exact j)
  · rw [if_neg h3] at j
    rw [decide_eq_false h3, Bool.cond_false]
    refine rep_nd3 (lt_sub _ _) (lt_sub _ _) (lt_mul _ _) ?_
    rw [pyN, pzN, f_px, f_sub, f_mul, f_sub, f_sub, f_mul, f_mul, f_sub, f_px, f_mul, f_mul, f_mul, f_sub, f_mul, f_sub, f_mul, f_pu, f_pu, f_ps, f_ps]
    exact j
theorem bit_step (k i : Nat) : k / 2 ^ i = 2 * (k / 2 ^ (i + 1)) + bitN k i := by
  rw [bitN, Nat.pow_succ, ← Nat.div_div_eq_div_mul]
  exact (Nat.div_add_mod _ _).symm
theorem rep_mn {p : T3} {P : GP} {k : Nat} (h : RepT p P) (hk : k < W256) : ∀ j, j ≤ 256 → RepT (mnF p k j) (Go.Wei.Cv.mul (k / 2 ^ (256 - j)) P)
  | 0, _ => by
    rw [Nat.div_eq_of_lt (show k < 2 ^ (256 - 0) from hk)]
    exact rep_one3
  | j + 1, hj => by
    have ih := rep_mn h hk j (by omega)
    have e : 256 - j = 255 - j + 1 := by omega
    have t := rep_jt ih
    rw [show 256 - (j + 1) = 255 - j by omega, bit_step, ← e, Nat.two_mul, Go.Wei.Cv.mul_add, Go.Wei.Cv.mul_add]
    unfold mnF
    have hb : bitN k (255 - j) < 2 := Nat.mod_lt _ (by decide)
    by_cases h1 : bitN k (255 - j) = 1
    · rw [h1, Go.Wei.Cv.mul_one]
      exact rep_jp t h
    · have h0 : bitN k (255 - j) = 0 := by omega
      rw [h0]
      show RepT _ (Go.Wei.Cv.add _ Go.Wei.Cv.zero)
      rw [Go.Wei.Cv.add_zero]
      exact t
theorem rep_many {p : T3} {P : GP} {k : Nat} (h : RepT p P) (hk : k < W256) : RepT (mnF p k 256) (Go.Wei.Cv.mul k P) := by
  have := rep_mn h hk 256 (Nat.le_refl _)
  rwa [Nat.sub_self, Nat.pow_zero, Nat.div_one] at this
/-- a point as three numbers -/
def ofJ (z : Bool) (x y : L4) : T3 := bif z then one3 else (x, y, [1, 0, 0, 0])
theorem ofJ_len {z : Bool} {x y : L4} (hx : x.length = 4) (hy : y.length = 4) : Len3 (ofJ z x y) := by
  cases z with
  | true => exact one3_len
  | false => exact ⟨hx, hy, rfl⟩
theorem rep_ofJ {z : Bool} {x y : L4} (hx : x.length = 4) (hy : y.length = 4) (h : onN z x y = true) : RepT (ofJ z x y) (gO (z, x, y)) := by
  have hg := gO_in (p := (z, x, y)) h
  cases z with
  | true =>
    have : gO (true, x, y) = Go.Wei.Cv.zero := Subtype.ext hg
    rw [this]
    exact rep_one3
  | false =>
    have h0 := h
    simp only [onN, Bool.cond_false, Bool.and_eq_true, decide_eq_true_eq] at h
    refine ⟨⟨hx, hy, rfl⟩, h.1.1, h.1.2, (show nv [1, 0, 0, 0] < Go.Wei.PP from by decide), ?_⟩
    rw [hg]
    show Go.Wei.RepJ (fP (nv x), fP (nv y), fP 1) (.A (fP (nv x)) (fP (nv y)))
    rw [show fP 1 = 1 from Go.Wei.fn_one]
    generalize fP (nv x) = a
    generalize fP (nv y) = b
    exact ⟨one_ne, by grind -lia, by grind -lia⟩
theorem bkJ_ok {t : T3} {P : GP} (h : RepT t P) : bkJ t = outP P.1 := by
  have hr := h.rep
  have h3 := h.lt3
  unfold bkJ
  rw [nv_zero4 h.len.z]
  generalize nv t.2.2 = c at *
  generalize nv t.1 = a at *
  generalize nv t.2.1 = b at *
  cases hP : P.1 with
  | O =>
    rw [hP] at hr
    rw [decide_eq_true ((fP_zero h3).1 hr)]
    rfl
  | A x y =>
    rw [hP] at hr
    obtain ⟨hz, hx, hy⟩ := hr
    rw [decide_eq_false fun g => hz ((fP_zero h3).2 g)]
    have i1 := iv_1 hz
    have e1 : mulM 2 a (mulM 2 (ivN c) (ivN c)) = x.val := by
      refine Go.Wei.fn_inj (lt_mul _ _) x.isLt ?_
      show fP _ = fP _
      rw [f_mul, f_mul, hx, show fP x.val = x from Go.Wei.fn_of x]
      generalize fP (ivN c) = i at *
      generalize fP c = d at *
      clear hx hy
      grind -lia
    have e2 : mulM 2 b (mulM 2 (mulM 2 (ivN c) (ivN c)) (ivN c)) = y.val := by
      refine Go.Wei.fn_inj (lt_mul _ _) y.isLt ?_
      show fP _ = fP _
      rw [f_mul, f_mul, f_mul, hy, show fP y.val = y from Go.Wei.fn_of y]
      generalize fP (ivN c) = i at *
      generalize fP c = d at *
      clear hx hy e1
      grind -lia
    rw [e1, e2]
    rfl
/-- on the curve, as the document tells it -/
theorem on_doc (x : Nat) : subM 2 (mulM 2 x (mulM 2 x x)) (mulM 2 3 x) = subM 2 (mulM 2 (mulM 2 x x) x) (thN x) := by
  refine Go.Wei.fn_inj (lt_sub _ _) (lt_sub _ _) ?_
  show fP _ = fP _
  rw [f_sub, f_sub, f_mul, f_mul, f_mul, f_mul, f_mul, f_th, f_3, Go.Wei.k3, Go.Wei.th]
  generalize fP x = a
  grind -lia

end Go.Proofs.Ytpfhmbbiadpbeaa
