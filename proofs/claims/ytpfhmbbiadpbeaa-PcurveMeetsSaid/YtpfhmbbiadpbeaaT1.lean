/- Layer 13: numbers and points of the curve. -/
import Derived.Test.YtpfhmbbiadpbeaaP2
import Derived.Test.YtpfhmbbiadpbeaaP256
namespace Go.Proofs.Ytpfhmbbiadpbeaa
open Go.Dbr
set_option maxRecDepth 100000
set_option maxHeartbeats 2000000
set_option linter.unusedVariables false
set_option linter.unusedSimpArgs false

theorem mF2 : mF 2 = Go.Wei.PP := rfl
theorem bN_BB : bN = Go.Wei.BB := rfl
theorem PP_pos : 0 < Go.Wei.PP := by decide
theorem PP_lt : Go.Wei.PP < W256 := by decide
abbrev fP (x : Nat) : Fin Go.Wei.PP := Go.Wei.fn Go.Wei.PP x
/-- the curve -/
def cvP : Go.Wei.Cv Go.Wei.PP := ⟨0, Go.Wei.m3, fP Go.Wei.BB, Go.Wei.fldP, Go.Wei.No2.nonS Go.Wei.no2P⟩
abbrev GP := cvP.G
theorem f_mul (x y : Nat) : fP (mulM 2 x y) = fP x * fP y := by rw [mulM, mF2]; exact Go.Wei.fn_mul x y
theorem f_add (x y : Nat) : fP (addM 2 x y) = fP x + fP y := by rw [addM, mF2]; exact Go.Wei.fn_add x y
theorem f_sub (x y : Nat) : fP (subM 2 x y) = fP x - fP y := by rw [subM, mF2]; exact Go.Wei.fn_sub x y
theorem f_th (x : Nat) : fP (thN x) = Go.Wei.th (fP x) := by rw [thN, f_add, f_add]; rfl
theorem f_cr (a b c d l : Nat) : fP (crN a b c d l) = Go.Wei.cr (fP a) (fP b) (fP c) (fP d) (fP l) := by rw [crN, f_sub, f_mul, f_add, f_add]; rfl
theorem lt_mul (x y : Nat) : mulM 2 x y < Go.Wei.PP := Nat.mod_lt _ PP_pos
theorem lt_add (x y : Nat) : addM 2 x y < Go.Wei.PP := Nat.mod_lt _ PP_pos
theorem lt_sub (x y : Nat) : subM 2 x y < Go.Wei.PP := Nat.mod_lt _ PP_pos
theorem wtX (x1 y1 z1 x2 y2 z2 : Nat) : fP (wtA outX x1 y1 z1 x2 y2 z2) = (Go.Wei.wt (fP Go.Wei.BB) (fP x1, fP y1, fP z1) (fP x2, fP y2, fP z2)).1 := by
  simp only [wtA, outX, uN, vN, wN, f_sub, f_add, f_mul, f_th, f_cr, bN_BB, Go.Wei.wt, Go.Wei.wU, Go.Wei.wV, Go.Wei.wW]
theorem wtY (x1 y1 z1 x2 y2 z2 : Nat) : fP (wtA outY x1 y1 z1 x2 y2 z2) = (Go.Wei.wt (fP Go.Wei.BB) (fP x1, fP y1, fP z1) (fP x2, fP y2, fP z2)).2.1 := by
  simp only [wtA, outY, uN, vN, wN, f_sub, f_add, f_mul, f_th, f_cr, bN_BB, Go.Wei.wt, Go.Wei.wU, Go.Wei.wV, Go.Wei.wW]
theorem wtZ (x1 y1 z1 x2 y2 z2 : Nat) : fP (wtA outZ x1 y1 z1 x2 y2 z2) = (Go.Wei.wt (fP Go.Wei.BB) (fP x1, fP y1, fP z1) (fP x2, fP y2, fP z2)).2.2 := by
  simp only [wtA, outZ, uN, vN, wN, f_sub, f_add, f_mul, f_th, f_cr, bN_BB, Go.Wei.wt, Go.Wei.wU, Go.Wei.wV, Go.Wei.wW]
/-- three numbers, one behind the other -/
def l3 (a b c : Nat) : L4 := nd a ++ (nd b ++ nd c)
theorem l3_len (a b c : Nat) : (l3 a b c).length = 12 := by simp only [l3, List.length_append, nd, nds_len]
theorem ndl (a : Nat) : (nd a).length = 4 := nds_len 4 a
theorem l3_1 (a b c : Nat) : (l3 a b c).take 4 = nd a := by rw [l3, List.take_left' (ndl a)]
theorem l3_2 (a b c : Nat) : ((l3 a b c).drop 4).take 4 = nd b := by rw [l3, List.drop_left' (ndl a), List.take_left' (ndl b)]
theorem l3_3 (a b c : Nat) : (l3 a b c).drop 8 = nd c := by
  rw [l3, show (8 : Nat) = 4 + 4 from rfl, ← List.drop_drop, List.drop_left' (ndl a), List.drop_left' (ndl b)]
def n3 (l : L4) : Go.Wei.F3 Go.Wei.PP := (fP (nv (l.take 4)), fP (nv ((l.drop 4).take 4)), fP (nv (l.drop 8)))
theorem n3_l3 {a b c : Nat} (ha : a < Go.Wei.PP) (hb : b < Go.Wei.PP) (hc : c < Go.Wei.PP) : n3 (l3 a b c) = (fP a, fP b, fP c) := by
  rw [n3, l3_1, l3_2, l3_3, nv_nd (Nat.lt_trans ha PP_lt), nv_nd (Nat.lt_trans hb PP_lt), nv_nd (Nat.lt_trans hc PP_lt)]
/-- two points' numbers together -/
def wtL (p q : L4) : L4 := l3 (wtA outX (nv (p.take 4)) (nv ((p.drop 4).take 4)) (nv (p.drop 8)) (nv (q.take 4)) (nv ((q.drop 4).take 4)) (nv (q.drop 8))) (wtA outY (nv (p.take 4)) (nv ((p.drop 4).take 4)) (nv (p.drop 8)) (nv (q.take 4)) (nv ((q.drop 4).take 4)) (nv (q.drop 8))) (wtA outZ (nv (p.take 4)) (nv ((p.drop 4).take 4)) (nv (p.drop 8)) (nv (q.take 4)) (nv ((q.drop 4).take 4)) (nv (q.drop 8)))
theorem wtL_len (p q : L4) : (wtL p q).length = 12 := l3_len _ _ _
/-- a point's numbers -/
structure RepP (l : L4) (P : GP) : Prop where
  len : l.length = 12
  lt1 : nv (l.take 4) < Go.Wei.PP
  lt2 : nv ((l.drop 4).take 4) < Go.Wei.PP
  lt3 : nv (l.drop 8) < Go.Wei.PP
  rep : Go.Wei.RepH (n3 l) P.1
theorem rep_l3 {a b c : Nat} {P : GP} (ha : a < Go.Wei.PP) (hb : b < Go.Wei.PP) (hc : c < Go.Wei.PP) (h : Go.Wei.RepH (fP a, fP b, fP c) P.1) : RepP (l3 a b c) P :=
  ⟨l3_len _ _ _, by rw [l3_1, nv_nd (Nat.lt_trans ha PP_lt)]; exact ha, by rw [l3_2, nv_nd (Nat.lt_trans hb PP_lt)]; exact hb, by rw [l3_3, nv_nd (Nat.lt_trans hc PP_lt)]; exact hc, by rw [n3_l3 ha hb hc]; exact h⟩
theorem eta3 (t : Go.Wei.F3 Go.Wei.PP) : (t.1, t.2.1, t.2.2) = t := rfl
theorem wt_rep {s t : Go.Wei.F3 Go.Wei.PP} (P Q : GP) (hs : Go.Wei.RepH s P.1) (ht : Go.Wei.RepH t Q.1) : Go.Wei.RepH (Go.Wei.wt (fP Go.Wei.BB) s t) (Go.Wei.Cv.add P Q).1 :=
  Go.Wei.wt_ok Go.Wei.fldP Go.Wei.no2P (P := P.1) (Q := Q.1) P.2 Q.2 hs ht (Go.Wei.Cv.is P Q)
theorem rep_with {p q : L4} {P Q : GP} (hp : RepP p P) (hq : RepP q Q) : RepP (wtL p q) (Go.Wei.Cv.add P Q) := by
  refine rep_l3 (by unfold wtA outX; exact lt_sub _ _) (by unfold wtA outY; exact lt_add _ _) (by unfold wtA outZ; exact lt_add _ _) ?_
  rw [wtX, wtY, wtZ, eta3]
  exact wt_rep P Q hp.rep hq.rep
abbrev z4 : L4 := List.replicate 4 0
def zero12 : L4 := l3 0 1 0
theorem one_ne : (1 : Fin Go.Wei.PP) ≠ 0 := fun h => by
  have := congrArg Fin.val h
  rw [Go.Wei.fin_zero] at this
  exact absurd this (by decide)
theorem rep_zero : RepP zero12 Go.Wei.Cv.zero := rep_l3 (by decide) (by decide) (by decide) ⟨rfl, rfl, one_ne⟩
/-- what a row holds -/
def rowF (p : L4) : Nat → L4
  | 0 => zero12
  | i + 1 => wtL (rowF p i) p
def dblF (o : L4) : Nat → L4
  | 0 => o
  | j + 1 => wtL (dblF o j) (dblF o j)
theorem rep_row {p : L4} {P : GP} (h : RepP p P) : ∀ i, RepP (rowF p i) (Go.Wei.Cv.mul i P)
  | 0 => rep_zero
  | i + 1 => rep_with (rep_row h i) h
theorem rep_dbl {o : L4} {P : GP} (h : RepP o P) : ∀ j, RepP (dblF o j) (Go.Wei.Cv.mul (2 ^ j) P)
  | 0 => by rw [Nat.pow_zero, Go.Wei.Cv.mul_one]; exact h
  | j + 1 => by
    rw [Nat.pow_succ, Nat.mul_comm, Nat.two_mul, Go.Wei.Cv.mul_add]
    exact rep_with (rep_dbl h j) (rep_dbl h j)
/-- the digit of four bits -/
def nib (k i : Nat) : Nat := k / 16 ^ i % 16
def tmF (p : L4) (k : Nat) : Nat → L4
  | 0 => zero12
  | j + 1 => wtL (dblF (tmF p k j) 4) (rowF p (nib k (63 - j)))
theorem tmF_len (p : L4) (k : Nat) : ∀ j, (tmF p k j).length = 12
  | 0 => l3_len _ _ _
  | i + 1 => wtL_len _ _
theorem nibs_step (k i : Nat) : k / 16 ^ i = 16 * (k / 16 ^ (i + 1)) + nib k i := by
  rw [nib, Nat.pow_succ, ← Nat.div_div_eq_div_mul]
  exact (Nat.div_add_mod _ _).symm
theorem rep_tm {p : L4} {P : GP} {k : Nat} (h : RepP p P) (hk : k < W256) : ∀ j, j ≤ 64 → RepP (tmF p k j) (Go.Wei.Cv.mul (k / 16 ^ (64 - j)) P)
  | 0, _ => by
    rw [Nat.div_eq_of_lt (show k < 16 ^ (64 - 0) from hk)]
    exact rep_zero
  | j + 1, hj => by
    have ih := rep_tm h hk j (by omega)
    have e : 64 - j = 63 - j + 1 := by omega
    rw [show 64 - (j + 1) = 63 - j by omega, nibs_step, Go.Wei.Cv.mul_add, Nat.mul_comm, Nat.mul_comm _ 16, Go.Wei.Cv.mul_mul, ← e]
    exact rep_with (rep_dbl ih 4) (rep_row h _)
theorem rep_times {p : L4} {P : GP} {k : Nat} (h : RepP p P) (hk : k < W256) : RepP (tmF p k 64) (Go.Wei.Cv.mul k P) := by
  have := rep_tm h hk 64 (Nat.le_refl _)
  rwa [Nat.sub_self, Nat.pow_zero, Nat.div_one] at this
/-! points as they are handed in -/
abbrev PZ := Bool × L4 × L4
def outP : Go.Wei.Pt Go.Wei.PP → PZ
  | .O => (true, z4, z4)
  | .A x y => (false, nd x.val, nd y.val)
def zeroP : PZ := (true, z4, z4)
def inP (z : Bool) (x y : L4) : Go.Wei.Pt Go.Wei.PP := bif z then .O else .A (fP (nv x)) (fP (nv y))
theorem nd_inj {a b : Nat} (ha : a < W256) (hb : b < W256) (h : nd a = nd b) : a = b := by
  rw [← nv_nd ha, h, nv_nd hb]
theorem on_in {z : Bool} {x y : L4} (h : onN z x y = true) : Go.Wei.On cvP.a cvP.b cvP.c (inP z x y) := by
  cases z with
  | true => exact trivial
  | false =>
    simp only [onN, Bool.cond_false, Bool.and_eq_true, decide_eq_true_eq] at h
    have e := nd_inj (Nat.lt_trans (lt_mul _ _) PP_lt) (Nat.lt_trans (lt_add _ _) PP_lt) (eq_of_beq h.2)
    have e2 := congrArg fP e
    rw [f_mul, f_add, f_sub, f_mul, f_mul, f_th, bN_BB] at e2
    show fP (nv y) * fP (nv y) = _
    rw [e2]
    show _ = fP (nv x) * fP (nv x) * fP (nv x) + 0 * fP (nv x) * fP (nv x) + Go.Wei.m3 * fP (nv x) + fP Go.Wei.BB
    rw [Go.Wei.th, Go.Wei.m3]
    generalize fP (nv x) = a
    generalize fP Go.Wei.BB = b
    clear h e e2
    grind -lia
theorem out_in {z : Bool} {x y : L4} (hx : x.length = 4) (hy : y.length = 4) (h : onN z x y = true) : outP (inP z x y) = (z, x, y) := by
  cases z with
  | true =>
    simp only [onN, Bool.cond_true, Bool.and_eq_true] at h
    rw [eq_of_beq h.1, eq_of_beq h.2]
    rfl
  | false =>
    simp only [onN, Bool.cond_false, Bool.and_eq_true, decide_eq_true_eq] at h
    show (false, nd (nv x % Go.Wei.PP), nd (nv y % Go.Wei.PP)) = _
    rw [Nat.mod_eq_of_lt (show nv x < Go.Wei.PP from h.1.1), Nat.mod_eq_of_lt (show nv y < Go.Wei.PP from h.1.2), ← nd_of hx rfl, ← nd_of hy rfl]
theorem on_out {P : Go.Wei.Pt Go.Wei.PP} (h : Go.Wei.On cvP.a cvP.b cvP.c P) : onN (outP P).1 (outP P).2.1 (outP P).2.2 = true := by
  cases P with
  | O => rfl
  | A x y =>
    show (decide (nv (nd x.val) < mF 2) && decide (nv (nd y.val) < mF 2) && nd (mulM 2 (nv (nd y.val)) (nv (nd y.val))) == nd (addM 2 (subM 2 (mulM 2 (mulM 2 (nv (nd x.val)) (nv (nd x.val))) (nv (nd x.val))) (thN (nv (nd x.val)))) bN)) = true
    rw [nv_nd (Nat.lt_trans x.isLt PP_lt), nv_nd (Nat.lt_trans y.isLt PP_lt)]
    have e : mulM 2 y.val y.val = addM 2 (subM 2 (mulM 2 (mulM 2 x.val x.val) x.val) (thN x.val)) bN := by
      refine Go.Wei.fn_inj (lt_mul _ _) (lt_add _ _) ?_
      show fP _ = fP _
      rw [f_mul, f_add, f_sub, f_mul, f_mul, f_th, bN_BB, fP, fP, Go.Wei.fn_of, Go.Wei.fn_of]
      have h : y*y = x*x*x + 0*x*x + Go.Wei.m3*x + fP Go.Wei.BB := h
      rw [h, Go.Wei.th, Go.Wei.m3]
      generalize fP Go.Wei.BB = b
      clear h
      grind -lia
    rw [e]
    have hx : x.val < mF 2 := x.isLt
    have hy : y.val < mF 2 := y.isLt
    rw [decide_eq_true hx, decide_eq_true hy, beq_self_eq_true]
    rfl
theorem in_out (P : Go.Wei.Pt Go.Wei.PP) : inP (outP P).1 (outP P).2.1 (outP P).2.2 = P := by
  cases P with
  | O => rfl
  | A x y =>
    show Go.Wei.Pt.A (fP (nv (nd x.val))) (fP (nv (nd y.val))) = _
    rw [nv_nd (Nat.lt_trans x.isLt PP_lt), nv_nd (Nat.lt_trans y.isLt PP_lt), fP, fP, Go.Wei.fn_of, Go.Wei.fn_of]
theorem out_len (P : Go.Wei.Pt Go.Wei.PP) : (outP P).2.1.length = 4 ∧ (outP P).2.2.length = 4 := by
  cases P with
  | O => exact ⟨rfl, rfl⟩
  | A x y => exact ⟨ndl _, ndl _⟩
/-- the point of the curve -/
noncomputable def gO (p : PZ) : GP := if h : onN p.1 p.2.1 p.2.2 = true then ⟨inP p.1 p.2.1 p.2.2, on_in h⟩ else Go.Wei.Cv.zero
theorem gO_in {p : PZ} (h : onN p.1 p.2.1 p.2.2 = true) : (gO p).1 = inP p.1 p.2.1 p.2.2 := by
  unfold gO
  exact congrArg Subtype.val (dif_pos h)
theorem gO_out (P : GP) : gO (outP P.1) = P := Subtype.ext ((gO_in (on_out P.2)).trans (in_out P.1))
abbrev onP (p : PZ) : Bool := onN p.1 p.2.1 p.2.2
theorem onP_out (P : GP) : onP (outP P.1) = true := on_out P.2
theorem out_gO {p : PZ} (hx : p.2.1.length = 4) (hy : p.2.2.length = 4) (h : onP p = true) : outP (gO p).1 = p := by rw [gO_in h]; exact out_in hx hy h
noncomputable def mulP (k : Nat) (p : PZ) : PZ := bif onP p then outP (Go.Wei.Cv.mul k (gO p)).1 else zeroP
theorem mulP_out (k : Nat) (P : GP) : mulP k (outP P.1) = outP (Go.Wei.Cv.mul k P).1 := by rw [mulP, onP_out, gO_out]; rfl
theorem mulP_len (k : Nat) (p : PZ) : (mulP k p).2.1.length = 4 ∧ (mulP k p).2.2.length = 4 := by
  unfold mulP
  cases onP p with
  | true => exact out_len _
  | false => exact ⟨rfl, rfl⟩
theorem rep_of {z : Bool} {x y : L4} (hx : x.length = 4) (hy : y.length = 4) (h : onN z x y = true) : RepP (oX z x ++ (oY z y ++ oZ z)) (gO (z, x, y)) := by
  have hg := gO_in (p := (z, x, y)) h
  cases z with
  | true =>
    have : gO (true, x, y) = Go.Wei.Cv.zero := Subtype.ext hg
    rw [this]
    exact rep_zero
  | false =>
    have h0 := h
    simp only [onN, Bool.cond_false, Bool.and_eq_true, decide_eq_true_eq] at h
    have e : oX false x ++ (oY false y ++ oZ false) = l3 (nv x) (nv y) 1 := by
      rw [l3, ← nd_of hx rfl, ← nd_of hy rfl]
      rfl
    rw [e]
    refine rep_l3 h.1.1 h.1.2 (by decide) ?_
    rw [hg]
    refine ⟨one_ne, ?_, ?_⟩
    · show fP (nv x) = fP (nv x) * fP 1
      rw [fP, fP, Go.Wei.fn_one]
      grind -lia
    · show fP (nv y) = fP (nv y) * fP 1
      rw [fP, fP, Go.Wei.fn_one]
      grind -lia
theorem nv_zero4 {z : L4} (hz : z.length = 4) : (z == List.replicate 4 0) = decide (nv z = 0) := by
  by_cases h : nv z = 0
  · rw [decide_eq_true h, nd_of hz h]; rfl
  · rw [decide_eq_false h]
    exact beq_false_of_ne fun g => h (by rw [g]; rfl)
/-- a number and its inverse -/
theorem iv_1 {c : Nat} (h : fP c ≠ 0) : fP c * fP (ivN c) = 1 := by
  have hv : c % mF 2 ≠ 0 := fun g => h (Fin.ext (g.trans Go.Wei.fin_zero.symm))
  have e : mulM 2 c (ivN c) = 1 := by
    rw [ivN, mulM, powM, Nat.mul_mod_mod, Nat.mul_comm, ← Nat.pow_succ]
    have := Go.Wei.lucP.2 c hv
    rw [show (mF 2 - 2).succ = Go.Wei.PP - 1 by decide]
    exact this
  rw [← f_mul, e]
  exact Go.Wei.fn_one
theorem back_ok {l : L4} {P : GP} (h : RepP l P) : (bZ (l.drop 8), bX (l.take 4) (l.drop 8), bX ((l.drop 4).take 4) (l.drop 8)) = outP P.1 := by
  have hl : (l.drop 8).length = 4 := by rw [List.length_drop, h.len]
  have hr := h.rep
  have h3 := h.lt3
  simp only [bZ, bX, nv_zero4 hl]
  rw [n3] at hr
  generalize nv (l.drop 8) = c at *
  generalize nv (l.take 4) = a at *
  generalize nv ((l.drop 4).take 4) = b at *
  cases hP : P.1 with
  | O =>
    rw [hP] at hr
    have hc : c = 0 := by
      have := congrArg Fin.val hr.2.1
      rw [Go.Wei.fin_zero] at this
      exact (Nat.mod_eq_of_lt h3).symm.trans this
    rw [decide_eq_true hc]
    rfl
  | A x y =>
    rw [hP] at hr
    obtain ⟨hz, hx, hy⟩ := hr
    have hc : c ≠ 0 := fun g => hz (by rw [g]; rfl)
    rw [decide_eq_false hc]
    have i1 := iv_1 hz
    have e1 : mulM 2 a (ivN c) = x.val := by
      refine Go.Wei.fn_inj (lt_mul _ _) x.isLt ?_
      show fP _ = fP _
      rw [f_mul, hx, show fP x.val = x from Go.Wei.fn_of x]
      generalize fP (ivN c) = i at *
      generalize fP c = d at *
      clear hx hy
      grind -lia
    have e2 : mulM 2 b (ivN c) = y.val := by
      refine Go.Wei.fn_inj (lt_mul _ _) y.isLt ?_
      show fP _ = fP _
      rw [f_mul, hy, show fP y.val = y from Go.Wei.fn_of y]
      generalize fP (ivN c) = i at *
      generalize fP c = d at *
      clear hx hy e1
      grind -lia
    rw [e1, e2]
    rfl

end Go.Proofs.Ytpfhmbbiadpbeaa
