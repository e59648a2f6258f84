/- P-256: the program's and the document's sums of points. -/
import Derived.Test.YtpfhmbbiadpbeaaWei
namespace Go.Wei
open Go.Dbr
set_option linter.unusedVariables false
set_option linter.unusedSimpArgs false
section
variable {p : Nat} [NeZero p]
abbrev F3 (p : Nat) := Fin p × Fin p × Fin p
/-- three times -/
def th (a : Fin p) : Fin p := (a + a) + a
/-- two points together, y^2 = x^3 - 3 x + b -/
def wU (b xz zz : Fin p) : Fin p := th (xz - b*zz)
def wV (b xx xz zz : Fin p) : Fin p := th ((b*xz - th zz) - xx)
def wW (xx zz : Fin p) : Fin p := th xx - th zz
def cr (a b c d l : Fin p) : Fin p := (a+b)*(c+d) - l
def wt (b : Fin p) : F3 p → F3 p → F3 p
  | (x1, y1, z1), (x2, y2, z2) =>
    (cr x1 y1 x2 y2 (x1*x2+y1*y2) * (y1*y2 + wU b (cr x1 z1 x2 z2 (x1*x2+z1*z2)) (z1*z2)) - cr y1 z1 y2 z2 (y1*y2+z1*z2) * wV b (x1*x2) (cr x1 z1 x2 z2 (x1*x2+z1*z2)) (z1*z2),
     (y1*y2 + wU b (cr x1 z1 x2 z2 (x1*x2+z1*z2)) (z1*z2)) * (y1*y2 - wU b (cr x1 z1 x2 z2 (x1*x2+z1*z2)) (z1*z2)) + wW (x1*x2) (z1*z2) * wV b (x1*x2) (cr x1 z1 x2 z2 (x1*x2+z1*z2)) (z1*z2),
     cr y1 z1 y2 z2 (y1*y2+z1*z2) * (y1*y2 - wU b (cr x1 z1 x2 z2 (x1*x2+z1*z2)) (z1*z2)) + cr x1 y1 x2 y2 (x1*x2+y1*y2) * wW (x1*x2) (z1*z2))
/-- in short -/
def gX (b x1 y1 x2 y2 : Fin p) : Fin p := (x1*y2+x2*y1)*(y1*y2+th (x1+x2-b)) - (y1+y2)*th (b*(x1+x2)-th 1-x1*x2)
def gY (b x1 y1 x2 y2 : Fin p) : Fin p := (y1*y2+th (x1+x2-b))*(y1*y2-th (x1+x2-b)) + (th (x1*x2) - th 1)*th (b*(x1+x2)-th 1-x1*x2)
def gZ (b x1 y1 x2 y2 : Fin p) : Fin p := (y1+y2)*(y1*y2-th (x1+x2-b)) + (x1*y2+x2*y1)*(th (x1*x2) - th 1)
theorem wt_aff (b x1 y1 z1 x2 y2 z2 : Fin p) : wt b (x1*z1, y1*z1, z1) (x2*z2, y2*z2, z2) = ((z1*z2)*(z1*z2)*gX b x1 y1 x2 y2, (z1*z2)*(z1*z2)*gY b x1 y1 x2 y2, (z1*z2)*(z1*z2)*gZ b x1 y1 x2 y2) := by
  simp only [wt, gX, gY, gZ, wU, wV, wW, cr, th, Prod.mk.injEq]
  refine ⟨?_, ?_, ?_⟩ <;> grind -lia
theorem wt_comm (b : Fin p) (s t : F3 p) : wt b s t = wt b t s := by
  obtain ⟨x1, y1, z1⟩ := s
  obtain ⟨x2, y2, z2⟩ := t
  simp only [wt, wU, wV, wW, cr, th, Prod.mk.injEq]
  refine ⟨?_, ?_, ?_⟩ <;> grind -lia
def RepH : F3 p → Pt p → Prop
  | (x, y, z), .O => x = 0 ∧ z = 0 ∧ y ≠ 0
  | (x, y, z), .A X Y => z ≠ 0 ∧ x = X*z ∧ y = Y*z
def m3 : Fin p := -(1+1+1)
theorem on3 {b x y : Fin p} (h : y*y = x*x*x + 0*x*x + m3*x + b) : y*y = x*x*x - (x+x+x) + b := by rw [h]; unfold m3; grind -lia
theorem gX_eq {b x1 y1 x2 y2 : Fin p} (h1 : y1*y1 = x1*x1*x1 - (x1+x1+x1) + b) (h2 : y2*y2 = x2*x2*x2 - (x2+x2+x2) + b) : gX b x1 y1 x2 y2 * ((x2-x1)*(x2-x1)) = gZ b x1 y1 x2 y2 * ((y2-y1)*(y2-y1) - (x1+x2)*((x2-x1)*(x2-x1))) := by
  have hb : b = y1*y1 - (x1*x1*x1 - (x1+x1+x1)) := by rw [h1]; grind -lia
  simp only [gX, gZ, th]
  clear h1
  subst hb
  grind -lia
theorem gY_eq {b x1 y1 x2 y2 : Fin p} (h1 : y1*y1 = x1*x1*x1 - (x1+x1+x1) + b) (h2 : y2*y2 = x2*x2*x2 - (x2+x2+x2) + b) : gY b x1 y1 x2 y2 * ((x2-x1)*((x2-x1)*(x2-x1))) = gZ b x1 y1 x2 y2 * ((y2-y1)*(x1*((x2-x1)*(x2-x1)) - ((y2-y1)*(y2-y1) - (x1+x2)*((x2-x1)*(x2-x1)))) - y1*((x2-x1)*((x2-x1)*(x2-x1)))) := by
  have hb : b = y1*y1 - (x1*x1*x1 - (x1+x1+x1)) := by rw [h1]; grind -lia
  simp only [gY, gZ, th]
  clear h1
  subst hb
  grind -lia
theorem gZ_eq {b x1 y1 x2 y2 : Fin p} (h1 : y1*y1 = x1*x1*x1 - (x1+x1+x1) + b) (h2 : y2*y2 = x2*x2*x2 - (x2+x2+x2) + b) : gZ b x1 y1 x2 y2 = (0 - (y1+y2))*(x1*((x2-x1)*(x2-x1)) - ((y1+y2)*(y1+y2) - (x1+x2)*((x2-x1)*(x2-x1)))) - y1*((x2-x1)*((x2-x1)*(x2-x1))) := by
  have hb : b = y1*y1 - (x1*x1*x1 - (x1+x1+x1)) := by rw [h1]; grind -lia
  simp only [gZ, th]
  clear h1
  subst hb
  grind -lia
theorem dblX {b x y N : Fin p} (h : y*y = x*x*x - (x+x+x) + b) (hN : N = x*x+x*x+x*x-(1+1+1)) : gX b x y x y * ((y+y)*(y+y)) = gZ b x y x y * (N*N - (x+x)*((y+y)*(y+y))) := by
  have hb : b = y*y - (x*x*x - (x+x+x)) := by rw [h]; grind -lia
  subst hN hb
  simp only [gX, gZ, th]
  clear h
  grind -lia
theorem dblY {b x y N : Fin p} (h : y*y = x*x*x - (x+x+x) + b) (hN : N = x*x+x*x+x*x-(1+1+1)) : gY b x y x y * ((y+y)*((y+y)*(y+y))) = gZ b x y x y * (N*(x*((y+y)*(y+y)) - (N*N - (x+x)*((y+y)*(y+y)))) - y*((y+y)*((y+y)*(y+y)))) := by
  have hb : b = y*y - (x*x*x - (x+x+x)) := by rw [h]; grind -lia
  subst hN hb
  simp only [gY, gZ, th]
  clear h
  grind -lia
theorem dblZ {b x y : Fin p} (h : y*y = x*x*x - (x+x+x) + b) : gZ b x y x y = (y+y)*((y+y)*(y+y)) := by
  have hb : b = y*y - (x*x*x - (x+x+x)) := by rw [h]; grind -lia
  subst hb
  simp only [gZ, th]
  clear h
  grind -lia
theorem oppX (b x y : Fin p) : gX b x y x (-y) = 0 := by simp only [gX, th]; grind -lia
theorem oppZ (b x y : Fin p) : gZ b x y x (-y) = 0 := by simp only [gZ, th]; grind -lia
theorem oppY {b x y N : Fin p} (h : y*y = x*x*x - (x+x+x) + b) (hN : N = x*x+x*x+x*x-(1+1+1)) : gY b x y x (-y) = N*(x*((y+y)*(y+y)) - (N*N - (x+x)*((y+y)*(y+y)))) - y*((y+y)*((y+y)*(y+y))) := by
  have hb : b = y*y - (x*x*x - (x+x+x)) := by rw [h]; grind -lia
  subst hN hb
  simp only [gY, th]
  clear h
  grind -lia
theorem zid (m D x1 x2 y1 : Fin p) : (D*(D*D)) * (m*(x1-(m*m-0-x1-x2))-y1) = (m*D)*(x1*(D*D) - ((m*D)*(m*D) - (x1+x2)*(D*D))) - y1*(D*(D*D)) := by grind -lia
/-- no point has a y of 0 -/
def No2 (b : Fin p) : Prop := ∀ x : Fin p, x*x*x - (x+x+x) + b ≠ 0
theorem No2.y {b x y : Fin p} (F : Fld p) (N : No2 b) (h : y*y = x*x*x - (x+x+x) + b) : y ≠ 0 := fun e => N x (by rw [← h, e]; grind -lia)
theorem two_ne {F : Fld p} {x : Fin p} (h : x ≠ 0) : x+x ≠ 0 := fun g => h (F.two _ g)
theorem No2.nonS {b : Fin p} (N : No2 b) : NonS 0 m3 b := fun x h => absurd (show x*x*x - (x+x+x) + b = 0 by rw [← h]; unfold m3; grind -lia) (N x)
/-- the tangent's numbers -/
theorem tan_of {x y l : Fin p} (h : Slope 0 m3 x y x y l) : l*(y+y) = x*x+x*x+x*x-(1+1+1) := by rw [h.2]; unfold m3; grind -lia
theorem same_y {F : Fld p} {b x y1 y2 : Fin p} (h1 : y1*y1 = x*x*x - (x+x+x) + b) (h2 : y2*y2 = x*x*x - (x+x+x) + b) (hn : y1 + y2 ≠ 0) : y1 = y2 := by
  have : (y1+y2)*(y1-y2) = 0 := by
    have : y1*y1 - y2*y2 = 0 := by rw [h1, h2]; grind -lia
    rw [← this]
    clear h1 h2 this
    grind -lia
  exact Fld.cancel (F := F) hn this
theorem gZ_ne {b x1 y1 x2 y2 : Fin p} (F : Fld p) (N : No2 b) (h1 : y1*y1 = x1*x1*x1 + 0*x1*x1 + m3*x1 + b) (h2 : y2*y2 = x2*x2*x2 + 0*x2*x2 + m3*x2 + b) (hn : ¬ (x1 = x2 ∧ y1 + y2 = 0)) : gZ b x1 y1 x2 y2 ≠ 0 := by
  have e1 := on3 h1
  have e2 := on3 h2
  by_cases hx : x1 = x2
  · subst hx
    have := same_y (F := F) e1 e2 (fun g => hn ⟨rfl, g⟩)
    subst this
    rw [dblZ e1]
    have n := two_ne (F := F) (N.y F e1)
    exact Fld.mul (F := F) n (Fld.mul (F := F) n n)
  · have hD := sub_ne (Ne.symm hx)
    have h2' : (-y2)*(-y2) = x2*x2*x2 + 0*x2*x2 + m3*x2 + b := by rw [← h2]; clear h1 h2 e1 e2; grind -lia
    obtain ⟨m, hm⟩ := slope_ex F h1 h2' (fun g => hx g.1)
    have h3 := on3 (third_on h1 hm rfl rfl)
    have hy := N.y F h3
    intro g
    rw [gZ_eq e1 e2] at g
    have hm1 := hm.1
    apply hy
    have h0 : ((x2-x1)*((x2-x1)*(x2-x1))) * (m*(x1-(m*m-0-x1-x2))-y1) = 0 := by
      have i1 : 0 - (y1+y2) = m*(x2-x1) := by rw [hm1]; clear hm hm1 g h1 h2 e1 e2 h2' h3; grind -lia
      have i2 : (y1+y2)*(y1+y2) = (m*(x2-x1))*(m*(x2-x1)) := by rw [← i1]; clear hm hm1 g h1 h2 e1 e2 h2' h3 i1; grind -lia
      rw [i2, i1] at g
      rw [zid]
      exact g
    rcases F.nz _ _ h0 with q | q
    · exact absurd q (Fld.mul (F := F) hD (Fld.mul (F := F) hD hD))
    · exact q
theorem g_sum {b x1 y1 x2 y2 x3 y3 : Fin p} (F : Fld p) (N : No2 b) (h1 : y1*y1 = x1*x1*x1 + 0*x1*x1 + m3*x1 + b) (h2 : y2*y2 = x2*x2*x2 + 0*x2*x2 + m3*x2 + b) (h : IsAdd 0 m3 (.A x1 y1) (.A x2 y2) (.A x3 y3)) : gX b x1 y1 x2 y2 = x3 * gZ b x1 y1 x2 y2 ∧ gY b x1 y1 x2 y2 = y3 * gZ b x1 y1 x2 y2 := by
  obtain ⟨hn, l, hl, hx3, hy3⟩ := h
  have e1 := on3 h1
  have e2 := on3 h2
  by_cases hx : x1 = x2
  · subst hx
    have := same_y (F := F) e1 e2 (fun g => hn ⟨rfl, g⟩)
    subst this
    have n := two_ne (F := F) (N.y F e1)
    have t := tan_of hl
    have dX := dblX e1 t
    have dY := dblY e1 t
    generalize gX b x1 y1 x1 y1 = X at *
    generalize gY b x1 y1 x1 y1 = Y at *
    generalize gZ b x1 y1 x1 y1 = Z at *
    clear t h1 h2 e1 e2 hl
    have nn := Fld.mul (F := F) n n
    constructor
    · refine Fld.eq (F := F) nn ?_
      rw [hx3]
      clear dY hy3 hx3
      grind -lia
    · refine Fld.eq (F := F) (Fld.mul (F := F) n nn) ?_
      rw [hy3, hx3]
      clear dX hy3 hx3
      grind -lia
  · have hD := sub_ne (Ne.symm hx)
    have nn := Fld.mul (F := F) hD hD
    have dX := gX_eq e1 e2
    have dY := gY_eq e1 e2
    generalize gX b x1 y1 x2 y2 = X at *
    generalize gY b x1 y1 x2 y2 = Y at *
    generalize gZ b x1 y1 x2 y2 = Z at *
    have hl1 := hl.1
    rw [← hl1] at dX dY
    clear h1 h2 e1 e2 hl hl1
    constructor
    · refine Fld.eq (F := F) nn ?_
      rw [hx3]
      clear dY hy3 hx3
      grind -lia
    · refine Fld.eq (F := F) (Fld.mul (F := F) hD nn) ?_
      rw [hy3, hx3]
      clear dX hy3 hx3
      grind -lia
/-- the program's sum is the sum -/
theorem wt_ok {b : Fin p} (F : Fld p) (N : No2 b) {s t : F3 p} {P Q R : Pt p} (hP : On 0 m3 b P) (hQ : On 0 m3 b Q) (hs : RepH s P) (ht : RepH t Q) (h : IsAdd 0 m3 P Q R) : RepH (wt b s t) R := by
  have left : ∀ {s t : F3 p} {Q R : Pt p}, On 0 m3 b Q → RepH s .O → RepH t Q → IsAdd 0 m3 .O Q R → RepH (wt b s t) R := by
    intro s t Q R hQ hs ht h
    have : R = Q := h
    subst this
    obtain ⟨x1, y1, z1⟩ := s
    obtain ⟨x2, y2, z2⟩ := t
    obtain ⟨a1, a2, a3⟩ := hs
    subst a1 a2
    match R with
    | .O =>
      obtain ⟨b1, b2, b3⟩ := ht
      subst b1 b2
      have n := Fld.mul (F := F) (Fld.mul (F := F) a3 b3) (Fld.mul (F := F) a3 b3)
      refine ⟨by simp only [wU, wV, wW, cr, th]; grind -lia, by simp only [wU, wV, wW, cr, th]; grind -lia, fun g => n ?_⟩
      rw [← g]
      simp only [wU, wV, wW, cr, th]
      clear g
      grind -lia
    | .A X Y =>
      obtain ⟨b1, b2, b3⟩ := ht
      subst b2 b3
      have hY := N.y F (on3 hQ)
      have n := Fld.mul (F := F) (Fld.mul (F := F) (Fld.mul (F := F) a3 a3) (Fld.mul (F := F) b1 b1)) hY
      refine ⟨fun g => n ?_, ?_, ?_⟩
      · rw [← g]
        simp only [wU, wV, wW, cr, th]
        clear g
        grind -lia
      · simp only [wU, wV, wW, cr, th]
        grind -lia
      · simp only [wU, wV, wW, cr, th]
        grind -lia
  match P, Q with
  | .O, Q => exact left hQ hs ht h
  | .A _ _, .O => rw [wt_comm]; exact left hP ht hs (add_comm' h)
  | .A X1 Y1, .A X2 Y2 =>
    obtain ⟨x1, y1, z1⟩ := s
    obtain ⟨x2, y2, z2⟩ := t
    obtain ⟨n1, i1, j1⟩ := hs
    obtain ⟨n2, i2, j2⟩ := ht
    subst i1 j1 i2 j2
    have nz := Fld.mul (F := F) (Fld.mul (F := F) n1 n2) (Fld.mul (F := F) n1 n2)
    rw [wt_aff]
    generalize (z1*z2)*(z1*z2) = K at *
    match R with
    | .O =>
      obtain ⟨e1, e2⟩ := h
      have eY : Y2 = -Y1 := by clear hP hQ; grind -lia
      subst e1 eY
      refine ⟨by rw [oppX]; grind -lia, by rw [oppZ]; grind -lia, Fld.mul (F := F) nz ?_⟩
      have hy := N.y F (on3 hP)
      have n := two_ne (F := F) hy
      obtain ⟨l, hl⟩ := slope_ex F hP hP (fun g => n g.2)
      have t := tan_of hl
      rw [oppY (on3 hP) t]
      have h3 := N.y F (on3 (third_on hP hl rfl rfl))
      intro g
      apply h3
      have : ((Y1+Y1)*((Y1+Y1)*(Y1+Y1))) * (l*(X1-(l*l-0-X1-X1))-Y1) = 0 := by
        rw [zid]
        exact g
      exact (F.nz _ _ this).elim (fun q => absurd q (Fld.mul (F := F) n (Fld.mul (F := F) n n))) id
    | .A X3 Y3 =>
      have hz := gZ_ne F N hP hQ h.1
      obtain ⟨g1, g2⟩ := g_sum F N hP hQ h
      refine ⟨Fld.mul (F := F) nz hz, ?_, ?_⟩
      · rw [g1]; clear h hP hQ g1 g2; grind -lia
      · rw [g2]; clear h hP hQ g1 g2; grind -lia
/-! the document's: X / Z^2, Y / Z^3 -/
def RepJ : F3 p → Pt p → Prop
  | (x, y, z), .O => z = 0
  | (x, y, z), .A X Y => z ≠ 0 ∧ x = X*(z*z) ∧ y = Y*((z*z)*z)
def k3 : Fin p := 1+1+1
def k4 : Fin p := 1+1+1+1
def k8 : Fin p := 1+1+1+1+1+1+1+1
def jm (x z : Fin p) : Fin p := k3*((x-z*z)*(x+z*z))
def js (x y : Fin p) : Fin p := k4*(x*(y*y))
def jx (x y z : Fin p) : Fin p := jm x z * jm x z - (js x y + js x y)
def jt : F3 p → F3 p
  | (x, y, z) => if z = 0 ∨ y = 0 then (1, 1, 0) else (jx x y z, jm x z*(js x y - jx x y z) - k8*((y*y)*(y*y)), (1+1)*(y*z))
def px (u v s t : Fin p) : Fin p := ((t-s)*(t-s) - ((v-u)*(v-u))*(v-u)) - (u*((v-u)*(v-u)) + u*((v-u)*(v-u)))
def pq (u v s t z1 z2 : Fin p) : F3 p := (px u v s t, (t-s)*(u*((v-u)*(v-u)) - px u v s t) - s*(((v-u)*(v-u))*(v-u)), (v-u)*(z1*z2))
def jp : F3 p → F3 p → F3 p
  | (x1, y1, z1), (x2, y2, z2) =>
    if z1 = 0 then (x2, y2, z2) else if z2 = 0 then (x1, y1, z1) else
    if x1*(z2*z2) = x2*(z1*z1) then (if y1*((z2*z2)*z2) = y2*((z1*z1)*z1) then jt (x1, y1, z1) else (1, 1, 0))
    else pq (x1*(z2*z2)) (x2*(z1*z1)) (y1*((z2*z2)*z2)) (y2*((z1*z1)*z1)) z1 z2
theorem jt_ok {b : Fin p} (F : Fld p) (N : No2 b) {s : F3 p} {P R : Pt p} (hP : On 0 m3 b P) (hs : RepJ s P) (h : IsAdd 0 m3 P P R) : RepJ (jt s) R := by
  obtain ⟨x, y, z⟩ := s
  match P with
  | .O =>
    have : R = .O := h
    subst this
    have hz : z = 0 := hs
    rw [jt, if_pos (.inl hz)]
    rfl
  | .A X Y =>
    obtain ⟨hz, e1, e2⟩ := hs
    have hY := N.y F (on3 hP)
    have n2 := two_ne (F := F) hY
    have nz := Fld.mul (F := F) (Fld.mul (F := F) hz hz) hz
    have hy : y ≠ 0 := by rw [e2]; exact Fld.mul (F := F) hY nz
    rw [jt, if_neg (fun g => g.elim hz hy)]
    match R with
    | .O => exact absurd h.2 n2
    | .A X3 Y3 =>
      obtain ⟨_, l, hl, hx3, hy3⟩ := h
      have t := tan_of hl
      subst e1 e2
      have nzz := Fld.mul (F := F) hY (Fld.mul (F := F) (Fld.mul (F := F) hz hz) (Fld.mul (F := F) hz hz))
      have em : jm (X*(z*z)) z = ((z*z)*(z*z)) * (l*(Y+Y)) := by rw [t, jm, k3]; clear t hl hx3 hy3 hP; grind -lia
      have es : js (X*(z*z)) (Y*((z*z)*z)) = ((z*z)*(z*z))*((z*z)*(z*z))*(X*((Y+Y)*(Y+Y))) := by rw [js, k4]; clear t hl hx3 hy3 hP em; grind -lia
      have ex : jx (X*(z*z)) (Y*((z*z)*z)) z = X3*(((1+1)*((Y*((z*z)*z))*z))*((1+1)*((Y*((z*z)*z))*z))) := by
        rw [jx, em, es, hx3]
        clear t hl hx3 hy3 hP em es
        grind -lia
      refine ⟨fun g => two_ne (F := F) nzz ?_, ex, ?_⟩
      · rw [← g]
        clear t hl hx3 hy3 hP em es ex g
        grind -lia
      · rw [ex, em, es, hy3, k8]
        clear t hl hx3 hy3 hP em es ex
        grind -lia
theorem jp_ok {b : Fin p} (F : Fld p) (N : No2 b) {s t : F3 p} {P Q R : Pt p} (hP : On 0 m3 b P) (hQ : On 0 m3 b Q) (hs : RepJ s P) (ht : RepJ t Q) (h : IsAdd 0 m3 P Q R) : RepJ (jp s t) R := by
  obtain ⟨x1, y1, z1⟩ := s
  obtain ⟨x2, y2, z2⟩ := t
  match P, Q with
  | .O, Q =>
    have hz : z1 = 0 := hs
    have : R = Q := h
    subst this
    rw [jp, if_pos hz]
    exact ht
  | .A X1 Y1, .O =>
    have hz : z2 = 0 := ht
    have : R = .A X1 Y1 := h
    subst this
    rw [jp, if_neg hs.1, if_pos hz]
    exact hs
  | .A X1 Y1, .A X2 Y2 =>
    have hs0 := hs
    obtain ⟨n1, i1, j1⟩ := hs
    obtain ⟨n2, i2, j2⟩ := ht
    rw [jp, if_neg n1, if_neg n2]
    have q1 := Fld.mul (F := F) n1 n1
    have q2 := Fld.mul (F := F) n2 n2
    have c1 := Fld.mul (F := F) q1 n1
    have c2 := Fld.mul (F := F) q2 n2
    have hu : x1*(z2*z2) = x2*(z1*z1) ↔ X1 = X2 := by
      rw [i1, i2]
      constructor
      · intro g
        exact Fld.eq (F := F) (Fld.mul (F := F) q1 q2) (by clear hP hQ h hs0 j1 j2 i1 i2; grind -lia)
      · intro g
        rw [g]
        clear hP hQ h hs0 j1 j2 i1 i2
        grind -lia
    have hv : y1*((z2*z2)*z2) = y2*((z1*z1)*z1) ↔ Y1 = Y2 := by
      rw [j1, j2]
      constructor
      · intro g
        exact Fld.eq (F := F) (Fld.mul (F := F) c1 c2) (by clear hP hQ h hs0 i1 i2 j1 j2 hu; grind -lia)
      · intro g
        rw [g]
        clear hP hQ h hs0 i1 i2 j1 j2 hu
        grind -lia
    by_cases hx : X1 = X2
    · rw [if_pos (hu.2 hx)]
      subst hx
      by_cases hy : Y1 = Y2
      · rw [if_pos (hv.2 hy)]
        subst hy
        exact jt_ok F N hP hs0 h
      · rw [if_neg (fun g => hy (hv.1 g))]
        have hn : Y1 + Y2 = 0 := Classical.byContradiction fun g => hy (same_y (F := F) (on3 hP) (on3 hQ) g)
        match R with
        | .O => rfl
        | .A _ _ => exact absurd ⟨rfl, hn⟩ h.1
    · rw [if_neg (fun g => hx (hu.1 g))]
      have hD := sub_ne (Ne.symm hx)
      match R with
      | .O => exact absurd h.1 hx
      | .A X3 Y3 =>
        obtain ⟨_, l, ⟨hl, _⟩, hx3, hy3⟩ := h
        have eD : x2*(z1*z1) - x1*(z2*z2) = (X2-X1)*((z1*z2)*(z1*z2)) := by rw [i1, i2]; clear hP hQ hs0 j1 j2 i1 i2 hu hv hl hx3 hy3; grind -lia
        have eR : y2*((z1*z1)*z1) - y1*((z2*z2)*z2) = (l*(X2-X1))*((z1*z2)*(z1*z2)*(z1*z2)) := by rw [j1, j2, hl]; clear hP hQ hs0 j1 j2 i1 i2 hu hv hl hx3 hy3 eD; grind -lia
        have ez : (x2*(z1*z1) - x1*(z2*z2))*(z1*z2) = (X2-X1)*((z1*z2)*(z1*z2)*(z1*z2)) := by rw [eD]; clear hP hQ hs0 j1 j2 i1 i2 hu hv hl hx3 hy3 eD eR; grind -lia
        have eu : x1*(z2*z2) = X1*((z1*z2)*(z1*z2)) := by rw [i1]; clear hP hQ hs0 j1 j2 i1 i2 hu hv hl hx3 hy3 eD eR ez; grind -lia
        have ev : y1*((z2*z2)*z2) = Y1*((z1*z2)*(z1*z2)*(z1*z2)) := by rw [j1]; clear hP hQ hs0 j1 j2 i1 i2 hu hv hl hx3 hy3 eD eR ez eu; grind -lia
        have nK := Fld.mul (F := F) n1 n2
        have ex : px (x1*(z2*z2)) (x2*(z1*z1)) (y1*((z2*z2)*z2)) (y2*((z1*z1)*z1)) = X3*(((X2-X1)*((z1*z2)*(z1*z2)*(z1*z2)))*((X2-X1)*((z1*z2)*(z1*z2)*(z1*z2)))) := by
          rw [px, eR, eD, eu, hx3]
          generalize z1*z2 = K
          clear hP hQ hs0 j1 j2 i1 i2 hu hv hl hx3 hy3 eD eR ez eu ev
          grind -lia
        refine ⟨?_, ?_, ?_⟩
        · rw [ez]; exact Fld.mul (F := F) hD (Fld.mul (F := F) (Fld.mul (F := F) nK nK) nK)
        · rw [ez]; exact ex
        · rw [ez, ex, eR, eD, eu, ev, hy3]
          generalize z1*z2 = K
          clear hP hQ hs0 j1 j2 i1 i2 hu hv hl hx3 hy3 eD eR ez eu ev ex
          grind -lia
end
/-! the cubic has no root -/
section
variable {p : Nat} [NeZero p]
abbrev N3 := Nat × Nat × Nat
/-- products modulo x^3 - 3 x + b (q: -b) -/
def mulT (p q : Nat) : N3 → N3 → N3
  | (a0, a1, a2), (b0, b1, b2) =>
    ((a0*b0 + q*(a1*b2 + a2*b1)) % p, (a0*b1 + a1*b0 + 3*(a1*b2 + a2*b1) + q*(a2*b2)) % p, (a0*b2 + a1*b1 + a2*b0 + 3*(a2*b2)) % p)
def powT (p q : Nat) : Nat → N3 → Nat → N3
  | 0, _, _ => (1, 0, 0)
  | k + 1, g, e => cond (Nat.beq (e % 2) 1) (mulT p q g (powT p q k (mulT p q g g) (e / 2))) (powT p q k (mulT p q g g) (e / 2))
def ev (r : Fin p) : N3 → Fin p
  | (a, b, c) => fn p a + fn p b * r + fn p c * (r*r)
theorem fn_a (x y : Nat) : fn p (x + y) = fn p x + fn p y := by rw [← fn_add, fn_mod]
theorem fn_m (x y : Nat) : fn p (x * y) = fn p x * fn p y := by rw [← fn_mul, fn_mod]
theorem fn_3 : fn p 3 = 1+1+1 := by
  show fn p (1 + 1 + 1) = _
  rw [fn_a, fn_a, fn_one]
theorem ev_mul {q : Nat} {r : Fin p} (h : r*r*r = (1+1+1)*r + fn p q) (s t : N3) : ev r (mulT p q s t) = ev r s * ev r t := by
  obtain ⟨a0, a1, a2⟩ := s
  obtain ⟨b0, b1, b2⟩ := t
  simp only [mulT, ev, fn_mod, fn_a, fn_m, fn_3]
  generalize fn p a0 = x0
  generalize fn p a1 = x1
  generalize fn p a2 = x2
  generalize fn p b0 = y0
  generalize fn p b1 = y1
  generalize fn p b2 = y2
  generalize fn p q = c at *
  have hc : c = r*r*r - (1+1+1)*r := by rw [h]; grind -lia
  subst hc
  clear h
  grind -lia
def fpow (x : Fin p) : Nat → Fin p
  | 0 => 1
  | n + 1 => fpow x n * x
theorem fpow_val (x : Nat) : ∀ n, fpow (fn p x) n = fn p (x ^ n)
  | 0 => by rw [Nat.pow_zero, fn_one]; rfl
  | n + 1 => by rw [fpow, fpow_val x n, Nat.pow_succ, fn_m]
theorem ev_pow {q : Nat} {r : Fin p} (h : r*r*r = (1+1+1)*r + fn p q) : ∀ (k : Nat) (g : N3) (e : Nat), e < 2 ^ k → ∃ x, ev r g = fn p x ∧ ev r (powT p q k g e) = fn p (x ^ e)
  | 0, g, e, he => by
    have : e = 0 := by simp at he; exact he
    subst this
    refine ⟨(ev r g).val, (fn_of _).symm, ?_⟩
    rw [Nat.pow_zero, fn_one]
    simp only [powT, ev, fn_zero, fn_one]
    grind -lia
  | k + 1, g, e, he => by
    obtain ⟨x, hx, ih⟩ := ev_pow h k (mulT p q g g) (e / 2) (by rw [Nat.pow_succ] at he; omega)
    obtain ⟨y, hy⟩ : ∃ y, ev r g = fn p y := ⟨_, (fn_of _).symm⟩
    refine ⟨y, hy, ?_⟩
    rw [ev_mul h, hy, ← fn_m] at hx
    have hp : fn p (x ^ (e / 2)) = fn p (y ^ (2 * (e / 2))) := by
      rw [← fpow_val, ← hx, fpow_val, ← Nat.pow_two, ← Nat.pow_mul]
    rw [hp] at ih
    unfold powT
    cases hb : Nat.beq (e % 2) 1 with
    | true =>
      have h1 : e % 2 = 1 := Nat.eq_of_beq_eq_true hb
      rw [Bool.cond_true, ev_mul h, ih, hy, ← fn_m, Nat.mul_comm, ← Nat.pow_succ]
      congr 2
      omega
    | false =>
      have h1 : e % 2 ≠ 1 := Nat.ne_of_beq_eq_false hb
      rw [Bool.cond_false, ih]
      congr 2
      omega
theorem flt (h : Luc p) (x : Nat) : fn p (x ^ p) = fn p x := by
  have hp := h.1.1
  apply Fin.ext
  rw [fn_val, fn_val]
  by_cases hx : x % p = 0
  · rw [Nat.pow_mod, hx, Nat.zero_pow (by omega), Nat.zero_mod]
  · have e : x ^ p = x ^ (p - 1) * x := by rw [← Nat.pow_succ]; congr 1; omega
    rw [e, Nat.mul_mod, h.2 x hx, Nat.one_mul, Nat.mod_mod]
/-- what comes of a root -/
theorem no_root {q b t0 t1 t2 : Nat} {u0 u1 v0 v1 v2 : Fin p} (h : Luc p) (h256 : p < 2 ^ 256) (hb : fn p q = 0 - fn p b) (hT : powT p q 256 (0, 1, 0) p = (t0, t1, t2))
    (c0 : u0*fn p b + v0*fn p t0 = 1) (c1 : u1*fn p b + v0*(fn p t1 - 1) + v1*fn p t0 - (u0+u0+u0) = 0) (c2 : v0*fn p t2 + v1*(fn p t1 - 1) + v2*fn p t0 - (u1+u1+u1) = 0) (c3 : u0 + v1*fn p t2 + v2*(fn p t1 - 1) = 0) (c4 : u1 + v2*fn p t2 = 0) (r : Fin p) : r*r*r - (r+r+r) + fn p b ≠ 0 := fun hr => by
  have h3 : r*r*r = (1+1+1)*r + fn p q := by rw [hb]; clear c0 c1 c2 c3 c4; grind -lia
  obtain ⟨x, hx, hp⟩ := ev_pow h3 256 (0, 1, 0) p h256
  rw [hT, flt h, ← hx] at hp
  have e1 : ev r (0, 1, 0) = r := by
    simp only [ev, fn_zero, fn_one]
    grind -lia
  rw [e1] at hp
  have hq : fn p t0 + (fn p t1 - 1)*r + fn p t2*(r*r) = 0 := by
    have : fn p t0 + fn p t1*r + fn p t2*(r*r) = r := hp
    clear c0 c1 c2 c3 c4 hr h3 hp hx
    grind -lia
  generalize fn p t0 = T0 at *
  generalize fn p t1 - 1 = T1 at *
  generalize fn p t2 = T2 at *
  generalize fn p b = B at *
  have e : (u0+u1*r)*(r*r*r - (r+r+r) + B) + (v0+v1*r+v2*(r*r))*(T0 + T1*r + T2*(r*r)) = (u0*B + v0*T0) + (u1*B + v0*T1 + v1*T0 - (u0+u0+u0))*r + (v0*T2 + v1*T1 + v2*T0 - (u1+u1+u1))*(r*r) + (u0 + v1*T2 + v2*T1)*(r*r*r) + (u1 + v2*T2)*(r*r*r*r) := by
    clear c0 c1 c2 c3 c4 hr h3 hp hx hq hb
    grind -lia
  rw [hr, hq, c0, c1, c2, c3, c4] at e
  have h10 : (1 : Fin p) = 0 := by clear c0 c1 c2 c3 c4 hr h3 hp hx hq hb; grind -lia
  have := congrArg Fin.val h10
  rw [fin_zero] at this
  have h1 : (1 : Fin p).val = 1 := Nat.mod_eq_of_lt h.1.1
  omega
end
/-- the prime of P-256 -/
def PP : Nat := 115792089210356248762697446949407573530086143415290314195533631308867097853951
def BB : Nat := 41058363725152142129326129780047268409114441015993725554835256314039467401291
instance : NeZero PP := ⟨by decide⟩
theorem lucP : Luc PP := lu_115792089210356248762697446949407573530086143415290314195533631308867097853951
theorem fldP : Fld PP := fld_of lucP (by decide)
theorem no2P : No2 (fn PP BB) := no_root (q := 74733725485204106633371317169360305120971702399296588640698374994827630452660) (t0 := 66434390973925144466073271287821796038003695194169110494110089305650096453661) (t1 := 12402202686218762177567235911775779164004716598278868847786114277539554646092) (t2 := 24678849118215552148312087830792888746041224110560601850711771001608500700145) (u0 := fn PP 107286402702237026811154678719514266289498743974321057492273529440068429825344) (u1 := fn PP 6389611969556882025875921584714237703390037729321797349080302270353162149340) (v0 := fn PP 76626890310466861426869089647039036757962535851890885406097439786770458211455) (v1 := fn PP 74462945259064871768191128030512052509059297803194871526163573358218695456204) (v2 := fn PP 34768139465301476436978405170953382516735956999154666452188405812258086013549) lucP (by decide +kernel) (by decide +kernel) (by decide +kernel) (by decide +kernel) (by decide +kernel) (by decide +kernel) (by decide +kernel) (by decide +kernel)
end Go.Wei
