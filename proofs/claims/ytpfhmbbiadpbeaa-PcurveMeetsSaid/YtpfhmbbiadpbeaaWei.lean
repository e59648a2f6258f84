/- Points of a curve y^2 = x^3 + a x^2 + b x + c over a prime: a group. -/
import Derived.Test.YtpfhmbbiadpbeaaPrm
namespace Go.Wei
open Go.Dbr
set_option linter.unusedVariables false
section
variable {p : Nat} [NeZero p]
theorem core_k {x1 x12 x3 x23 l m D A B a : Fin p} (h1 : A = l*l - x1 - x12) (h2 : B = x1*x12 + D*l) (h3 : x23 = m*m - A - x3) (h4 : x3*x23 + D*m = B) (e1 : a*(x3-x12) = m*x3+l*x12+D) : (x3-x12)*((l-m)*a - x1 + x3 + l*(l-m)) = 0 := by
  subst h2 h3 h1
  grind -lia
theorem core_k2 {x1 w x23 l m D A B a : Fin p} (h1 : A = l*l - x1 - w) (h2 : B = x1*w + D*l) (h3 : x23 = m*m - A - w) (h4 : w*x23 + D*m = B) (e1 : D = -((m+l)*w)) (e2 : a*(m*w-l*w) = w*w+w*w+w*w+A*(w+w)+B) : w*((l-m)*a - x1 + w + l*(l-m)) = 0 := by
  subst h2 h3 h1 e1
  grind -lia
theorem core_f1 {x1 x12 x3 x23 l m D A B a : Fin p} (h1 : A = l*l - x1 - x12) (h2 : B = x1*x12 + D*l) (h3 : x23 = m*m - A - x3) (h4 : x3*x23 + D*m = B) (e1 : a*(x3-x12) = m*x3+l*x12+D) (k : (l-m)*a = x1 - x3 - l*(l-m)) : (a+l-m)*(x1-x23) = l*x1+m*x23+D := by
  subst h2 h3 h1
  grind -lia
theorem core_x {x1 x12 x3 x23 l m A a : Fin p} (h1 : A = l*l - x1 - x12) (h3 : x23 = m*m - A - x3) (k : (l-m)*a = x1 - x3 - l*(l-m)) : (a+l-m)*(a+l-m) - x1 - x23 = a*a - x12 - x3 := by
  subst h3 h1
  grind -lia
theorem core_f2 {x1 x12 x3 x23 l m D A B a : Fin p} (h1 : A = l*l - x1 - x12) (h2 : B = x1*x12 + D*l) (h3 : x23 = m*m - A - x3) (h4 : x3*x23 + D*m = B) (f1 : (a+l-m)*(x1-x23) = l*x1+m*x23+D) (k : (l-m)*a = x1 - x3 - l*(l-m)) : (a+l-m)*(l*x1-m*x23) = x1*x1+x1*x23+x23*x23+A*(x1+x23)+B := by
  subst h2 h3 h1
  grind -lia
theorem core_v {x1 x12 x3 x23 l m D A B a U : Fin p} (h1 : A = l*l - x1 - x12) (h2 : B = x1*x12 + D*l) (h3 : x23 = m*m - A - x3) (h4 : x3*x23 + D*m = B) (e1 : a*(x3-x12) = m*x3+l*x12+D) (k : (l-m)*a = x1 - x3 - l*(l-m)) (hU : U = a*a - A - x12 - x3) : a*(x12-U)+l*x12 = (a+l-m)*(x1-U) - D - l*x1 := by
  subst hU h2 h3 h1
  grind -lia
/-- points: none, or two numbers -/
inductive Pt (p : Nat) : Type
  | O : Pt p
  | A (x y : Fin p) : Pt p
structure Fld (p : Nat) [NeZero p] : Prop where
  nz : ∀ x y : Fin p, x * y = 0 → x = 0 ∨ y = 0
  two : ∀ x : Fin p, x + x = 0 → x = 0
  iv : ∀ x : Fin p, x ≠ 0 → ∃ y, x * y = 1
def On (a b c : Fin p) : Pt p → Prop
  | .O => True
  | .A x y => y*y = x*x*x + a*x*x + b*x + c
def Slope (a b x1 y1 x2 y2 l : Fin p) : Prop := l*(x2-x1) = y2-y1 ∧ l*(y1+y2) = x1*x1+x1*x2+x2*x2+a*(x1+x2)+b
def IsAdd (a b : Fin p) : Pt p → Pt p → Pt p → Prop
  | .O, Q, R => R = Q
  | .A x1 y1, .O, R => R = .A x1 y1
  | .A x1 y1, .A x2 y2, .O => x1 = x2 ∧ y1 + y2 = 0
  | .A x1 y1, .A x2 y2, .A x3 y3 => ¬ (x1 = x2 ∧ y1 + y2 = 0) ∧ ∃ l, Slope a b x1 y1 x2 y2 l ∧ x3 = l*l-a-x1-x2 ∧ y3 = l*(x1-x3)-y1
def neg : Pt p → Pt p
  | .O => .O
  | .A x y => .A x (-y)
def NonS (a b c : Fin p) : Prop := ∀ x : Fin p, x*x*x + a*x*x + b*x + c = 0 → x*x+x*x+x*x + a*(x+x) + b ≠ 0
theorem Slope.sym {a b x1 y1 x2 y2 l : Fin p} (h : Slope a b x1 y1 x2 y2 l) : Slope a b x2 y2 x1 y1 l := ⟨by have := h.1; grind -lia, by have := h.2; grind -lia⟩
theorem add_comm' {a b : Fin p} {P Q R : Pt p} (h : IsAdd a b P Q R) : IsAdd a b Q P R := by
  match P, Q, R with
  | .O, .O, R => exact h
  | .O, .A _ _, R => exact h
  | .A _ _, .O, R => exact h
  | .A x1 y1, .A x2 y2, .O => exact ⟨h.1.symm, by have := h.2; grind -lia⟩
  | .A x1 y1, .A x2 y2, .A x3 y3 =>
    obtain ⟨hn, l, hs, hx, hy⟩ := h
    refine ⟨fun g => hn ⟨g.1.symm, by have := g.2; grind -lia⟩, l, hs.sym, by rw [hx]; grind -lia, ?_⟩
    have := hs.1
    rw [hy]
    grind -lia
theorem Fld.cancel {F : Fld p} {k x y : Fin p} (hk : k ≠ 0) (h : k * (x - y) = 0) : x = y := by
  rcases F.nz _ _ h with g | g
  · exact absurd g hk
  · grind -lia
theorem sub_ne {x y : Fin p} (h : x ≠ y) : x - y ≠ 0 := fun g => h (by grind -lia)
theorem slope_uniq {a b x1 y1 x2 y2 l m : Fin p} (F : Fld p) (hn : ¬ (x1 = x2 ∧ y1 + y2 = 0)) (h1 : Slope a b x1 y1 x2 y2 l) (h2 : Slope a b x1 y1 x2 y2 m) : l = m := by
  obtain ⟨h1a, h1b⟩ := h1
  obtain ⟨h2a, h2b⟩ := h2
  by_cases hx : x1 = x2
  · have hy : y1 + y2 ≠ 0 := fun g => hn ⟨hx, g⟩
    exact Fld.cancel (F := F) hy (by clear h1a h2a hn; grind -lia)
  · exact Fld.cancel (F := F) (sub_ne (Ne.symm hx)) (by clear h1b h2b hn; grind -lia)
theorem add_uniq {a b : Fin p} (F : Fld p) {P Q R R' : Pt p} (h : IsAdd a b P Q R) (h' : IsAdd a b P Q R') : R = R' := by
  match P, Q, R, R' with
  | .O, Q, R, R' => exact (show R = Q from h).trans (show R' = Q from h').symm
  | .A _ _, .O, R, R' => exact (show R = _ from h).trans (show R' = _ from h').symm
  | .A x1 y1, .A x2 y2, .O, .O => rfl
  | .A x1 y1, .A x2 y2, .O, .A _ _ => exact absurd h h'.1
  | .A x1 y1, .A x2 y2, .A _ _, .O => exact absurd h' h.1
  | .A x1 y1, .A x2 y2, .A x3 y3, .A x4 y4 =>
    obtain ⟨hn, l, hs, hx, hy⟩ := h
    obtain ⟨_, m, hs', hx', hy'⟩ := h'
    have := slope_uniq F hn hs hs'
    subst this
    subst hx hx' hy hy'
    rfl
theorem e_sh (x y : Fin p) : y = x + (y - x) := by grind
theorem e_y {l x u y1 y2 : Fin p} (h : l*((x+u)-x) = y2-y1) : y2 = y1 + l*u := by grind -lia
theorem e_b {s t a b v : Fin p} (h : s = t + a*v + b) : b = s - (t + a*v) := by grind -lia
theorem e_c {s t c : Fin p} (h : s = t + c) : c = s - t := by grind -lia
/-- the third point lies on the curve -/
theorem third_on {a b c x1 y1 x2 y2 l x3 y3 : Fin p} (h1 : y1*y1 = x1*x1*x1 + a*x1*x1 + b*x1 + c) (hs : Slope a b x1 y1 x2 y2 l) (hx : x3 = l*l-a-x1-x2) (hy : y3 = l*(x1-x3)-y1) : y3*y3 = x3*x3*x3 + a*x3*x3 + b*x3 + c := by
  obtain ⟨ha, hb⟩ := hs
  rw [e_sh x1 x2] at *
  generalize x2 - x1 = u at *
  have hy2 := e_y ha
  subst hy2
  have hB := e_b hb
  have hc := e_c h1
  clear ha hb h1
  subst hy hx hc hB
  grind -lia
theorem slope_ex {a b c x1 y1 x2 y2 : Fin p} (F : Fld p) (h1 : y1*y1 = x1*x1*x1 + a*x1*x1 + b*x1 + c) (h2 : y2*y2 = x2*x2*x2 + a*x2*x2 + b*x2 + c) (hn : ¬ (x1 = x2 ∧ y1 + y2 = 0)) : ∃ l, Slope a b x1 y1 x2 y2 l := by
  have key : (y2-y1)*(y1+y2) = (x2-x1)*(x1*x1+x1*x2+x2*x2+a*(x1+x2)+b) := by
    have e := e_c h1
    subst e
    clear h1 hn
    grind -lia
  by_cases hx : x1 = x2
  · have hy : y1 + y2 ≠ 0 := fun g => hn ⟨hx, g⟩
    obtain ⟨v, hv⟩ := F.iv _ hy
    have hyy : y2 - y1 = 0 := by
      subst hx
      have : (y1 + y2) * (y2 - y1) = 0 := by clear h1 h2 hn hv hy; grind -lia
      rcases F.nz _ _ this with g | g
      · exact absurd g hy
      · exact g
    refine ⟨(x1*x1+x1*x2+x2*x2+a*(x1+x2)+b) * v, ?_, ?_⟩
    · rw [hyy, hx]; clear key hv; grind -lia
    · clear key hyy h1 h2 hn; generalize (x1*x1+x1*x2+x2*x2+a*(x1+x2)+b) = S at *; generalize y1 + y2 = T at *; grind -lia
  · obtain ⟨v, hv⟩ := F.iv _ (sub_ne (Ne.symm hx))
    refine ⟨(y2 - y1) * v, ?_, ?_⟩
    · clear key h1 h2 hn; generalize y2 - y1 = S at *; generalize x2 - x1 = T at *; grind -lia
    · clear h1 h2 hn; generalize (x1*x1+x1*x2+x2*x2+a*(x1+x2)+b) = S at *; generalize y2 - y1 = R at *; generalize y1 + y2 = T at *; generalize x2 - x1 = W at *; grind -lia
theorem add_ex {a b c : Fin p} (F : Fld p) {P Q : Pt p} (hP : On a b c P) (hQ : On a b c Q) : ∃ R, IsAdd a b P Q R ∧ On a b c R := by
  match P, Q with
  | .O, Q => exact ⟨Q, rfl, hQ⟩
  | .A x1 y1, .O => exact ⟨.A x1 y1, rfl, hP⟩
  | .A x1 y1, .A x2 y2 =>
    by_cases hn : x1 = x2 ∧ y1 + y2 = 0
    · exact ⟨.O, hn, trivial⟩
    · obtain ⟨l, hl⟩ := slope_ex F hP hQ hn
      exact ⟨.A (l*l-a-x1-x2) (l*(x1-(l*l-a-x1-x2))-y1), ⟨hn, l, hl, rfl, rfl⟩, third_on hP hl rfl rfl⟩
/-- a line through the second point: what is told of it there -/
theorem shifted {a b x1 y1 x2 y2 l x12 y12 : Fin p} (hs : Slope a b x1 y1 x2 y2 l) (hx : x12 = l*l-a-x1-x2) (hy : y12 = l*(x1-x12)-y1) :
    y1 = y2 + l*(x1-x2) ∧ y12 = -y2 - l*(x12-x2) ∧ x2+x2+x2+a = l*l-(x1-x2)-(x12-x2) ∧ (x2*x2+x2*x2+x2*x2+a*(x2+x2)+b) = (x1-x2)*(x12-x2)+(y2+y2)*l := by
  obtain ⟨ha, hb⟩ := hs
  have h1 : y1 = y2 + l*(x1-x2) := by clear hb hx hy; grind -lia
  subst h1
  have h2 := e_b hb
  clear ha hb
  subst h2 hy hx
  refine ⟨rfl, ?_, ?_, ?_⟩ <;> grind -lia
theorem cancel_add {a b c : Fin p} (F : Fld p) (N : NonS a b c) {P Q R : Pt p} (hP : On a b c P) (hQ : On a b c Q) (h : IsAdd a b P Q R) : IsAdd a b (neg P) R Q := by
  match P, Q, R with
  | .O, Q, R => exact (show R = Q from h).symm
  | .A x1 y1, .O, R =>
    have : R = .A x1 y1 := h
    subst this
    exact ⟨rfl, by grind -lia⟩
  | .A x1 y1, .A x2 y2, .O =>
    obtain ⟨e1, e2⟩ := h
    show Pt.A x2 y2 = Pt.A x1 (-y1)
    rw [e1, show y2 = -y1 by grind -lia]
  | .A x1 y1, .A x2 y2, .A x3 y3 =>
    obtain ⟨hn, l, hs, hx, hy⟩ := add_comm' h
    obtain ⟨h1, h2, h3, h4⟩ := shifted hs hx hy
    refine ⟨fun g => ?_, -l, ⟨?_, ?_⟩, ?_, ?_⟩
    · obtain ⟨g1, g2⟩ := g
      have d : y1 = 0 := F.two _ (by clear h1 h3 h4 hx hy hs hn; grind -lia)
      have e : x1*x1+x1*x1+x1*x1+a*(x1+x1)+b = 0 := by rw [h4, d, ← g1]; grind -lia
      refine N x1 ?_ e
      have := hP
      simp only [On] at this
      rw [d] at this
      rw [← this]
      grind -lia
    · clear h1 h3 h4 hx hy hs hn; grind -lia
    · have := hs.2
      clear hs hn hx hy
      grind -lia
    · clear h1 h2 h4 hx hy hs hn; grind -lia
    · clear h3 h4 hx hy hs hn; grind -lia
theorem opp_sh {u1 u12 u3 u23 l m D A B : Fin p} (F : Fld p)
  (ha : A = l*l-u1-u12) (hb : B = u1*u12+D*l) (hc : A = m*m-u3-u23) (hd : B = u3*u23+D*m)
  (h1 : u12 = u3) (h2 : l*u12 = m*u3) (h3 : ¬ (u3 = 0 ∧ m*u3+D = 0)) : u1 = u23 ∧ l*u1 = m*u23 := by
  have h4 : u3 * (l - m) = 0 := by clear ha hb hc hd h3; grind -lia
  rcases F.nz _ _ h4 with h | h
  · have hD : D ≠ 0 := fun g => h3 ⟨h, by rw [h, g]; grind -lia⟩
    have h5 : D * (l - m) = 0 := by clear h2 h3 h4 ha hc; grind -lia
    have e : l = m := Fld.cancel (F := F) hD h5
    subst e h1
    have : u1 = u23 := by clear hb hd h2 h3 h4 h h5 hD; grind -lia
    subst this
    exact ⟨rfl, rfl⟩
  · have e : l = m := by clear ha hb hc hd h1 h2 h3 h4; grind -lia
    subst e h1
    have : u1 = u23 := by clear hb hd h2 h3 h4 h; grind -lia
    subst this
    exact ⟨rfl, rfl⟩
/-- what is opposite to the third, of the sum of the first two -/
theorem opp_add {a b : Fin p} (F : Fld p) {x1 y1 x2 y2 x3 y3 x12 y12 x23 y23 : Fin p} (h12 : IsAdd a b (.A x1 y1) (.A x2 y2) (.A x12 y12)) (h23 : IsAdd a b (.A x2 y2) (.A x3 y3) (.A x23 y23)) (h : x12 = x3 ∧ y12 + y3 = 0) : x1 = x23 ∧ y1 + y23 = 0 := by
  obtain ⟨_, l, hl, ex, ey⟩ := h12
  obtain ⟨hn, m, hm, fx, fy⟩ := add_comm' h23
  obtain ⟨a1, a2, a3, a4⟩ := shifted hl ex ey
  obtain ⟨b1, b2, b3, b4⟩ := shifted hm fx fy
  have h1 : x12 - x2 = x3 - x2 := by rw [h.1]
  have h2 : l*(x12-x2) = m*(x3-x2) := by have := h.2; rw [a2, b1] at this; clear hl hm ex ey fx fy a1 a2 a3 a4 b1 b2 b3 b4 h h1 hn; grind -lia
  have h3 : ¬ (x3 - x2 = 0 ∧ m*(x3-x2)+(y2+y2) = 0) := fun g => hn ⟨by have := g.1; clear hl hm ex ey fx fy a1 a2 a3 a4 b1 b2 b3 b4 h h1 h2 hn g; grind -lia, by have := g.2; rw [b1]; clear hl hm ex ey fx fy a1 a2 a3 a4 b1 b2 b3 b4 h h1 h2 hn g; grind -lia⟩
  obtain ⟨e1, e2⟩ := opp_sh F a3 a4 b3 b4 h1 h2 h3
  refine ⟨by clear hl hm ex ey fx fy a1 a2 a3 a4 b1 b2 b3 b4 h h1 h2 hn h3 e2; grind -lia, ?_⟩
  rw [a1, b2]
  clear hl hm ex ey fx fy a1 a2 a3 a4 b1 b2 b3 b4 h h1 h2 hn h3 e1
  grind -lia
theorem assoc_main {a b : Fin p} (F : Fld p) {x1 y1 x2 y2 x3 y3 x12 y12 x23 y23 x y : Fin p} (h12 : IsAdd a b (.A x1 y1) (.A x2 y2) (.A x12 y12)) (h23 : IsAdd a b (.A x2 y2) (.A x3 y3) (.A x23 y23)) (h : IsAdd a b (.A x12 y12) (.A x3 y3) (.A x y)) : IsAdd a b (.A x1 y1) (.A x23 y23) (.A x y) := by
  have hno : ¬ (x1 = x23 ∧ y1 + y23 = 0) := fun g => by
    have := opp_add F (add_comm' h23) (add_comm' h12) ⟨g.1.symm, by have := g.2; grind -lia⟩
    exact h.1 ⟨this.1.symm, by have := this.2; grind -lia⟩
  obtain ⟨_, l, hl, ex, ey⟩ := h12
  obtain ⟨hn, m, hm, fx, fy⟩ := add_comm' h23
  obtain ⟨hn3, al, hal, gx, gy⟩ := h
  obtain ⟨a1, a2, a3, a4⟩ := shifted hl ex ey
  obtain ⟨b1, b2, b3, b4⟩ := shifted hm fx fy
  obtain ⟨ha1, ha2⟩ := hal
  clear hl hm ex ey fx fy
  -- all of it behind the second point
  have c1 := e_sh x2 x1
  have c3 := e_sh x2 x3
  have c12 := e_sh x2 x12
  have c23 := e_sh x2 x23
  generalize x1 - x2 = u1 at *
  generalize x3 - x2 = u3 at *
  generalize x12 - x2 = u12 at *
  generalize x23 - x2 = u23 at *
  subst a1 a2 b1 b2 c1 c3 c12 c23
  generalize hA : x2+x2+x2+a = A at *
  generalize hB : x2*x2+x2*x2+x2*x2+a*(x2+x2)+b = B at *
  have hb3 : u23 = m*m - A - u3 := by clear ha1 ha2 a3 a4 b4 hB; grind -lia
  have e1 : al*(u3-u12) = m*u3+l*u12+(y2+y2) := by clear ha2 a3 a4 b3 b4 hb3 hA hB; grind -lia
  have e2 : al*(m*u3-l*u12) = u12*u12+u12*u3+u3*u3+A*(u12+u3)+B := by
    subst hA hB
    clear ha1 a3 a4 b3 b4 hb3 e1 hn hn3 hno
    grind -lia
  have k : (l-m)*al = u1 - u3 - l*(l-m) := by
    by_cases hu : u12 = u3
    · subst hu
      have hD : y2+y2 = -((m+l)*u12) := by clear ha2 a3 a4 b3 b4 hb3 hA hB e2; grind -lia
      have hw : u12 ≠ 0 := fun g => hn3 ⟨rfl, by subst g; grind -lia⟩
      have e2' : al*(m*u12-l*u12) = u12*u12+u12*u12+u12*u12+A*(u12+u12)+B := e2
      have := core_k2 a3 a4 hb3 b4.symm hD e2'
      exact Fld.cancel (F := F) hw (by rw [← this]; clear ha1 ha2 a3 a4 b3 b4 hb3 hA hB e2 e2' e1 hD this; grind -lia)
    · have := core_k a3 a4 hb3 b4.symm e1
      exact Fld.cancel (F := F) (sub_ne (Ne.symm hu)) (by rw [← this]; clear ha1 ha2 a3 a4 b3 b4 hb3 hA hB e2 e1 this; grind -lia)
  have f1 := core_f1 a3 a4 hb3 b4.symm e1 k
  have f2 := core_f2 a3 a4 hb3 b4.symm f1 k
  have fx := core_x a3 hb3 k
  refine ⟨hno, al + l - m, ⟨?_, ?_⟩, ?_, ?_⟩
  · clear ha1 ha2 a3 a4 b3 b4 hb3 hA hB e2 e1 k f2 fx hno hn3 hn gx gy; grind -lia
  · subst hA hB
    clear ha1 ha2 a3 a4 b3 b4 hb3 e2 e1 k f1 fx hno hn3 hn gx gy
    grind -lia
  · rw [gx]
    clear ha1 ha2 a3 a4 b3 b4 hb3 hA hB e2 e1 k f1 f2 hno hn3 hn gx gy
    grind -lia
  · have fv := core_v (U := x - x2) a3 a4 hb3 b4.symm e1 k (by rw [gx, ← hA]; clear ha1 ha2 a3 a4 b3 b4 hb3 hA hB e2 e1 k f1 f2 fx hno hn3 hn gx gy; grind -lia)
    rw [gy]
    clear ha1 ha2 a3 a4 b3 b4 hb3 hA hB e2 e1 k f1 f2 fx hno hn3 hn gx gy
    grind -lia
theorem assoc {a b c : Fin p} (F : Fld p) (N : NonS a b c) {P Q R S T U : Pt p} (hP : On a b c P) (hQ : On a b c Q) (hR : On a b c R) (hS : On a b c S) (hU : On a b c U)
    (h12 : IsAdd a b P Q S) (h : IsAdd a b S R T) (h23 : IsAdd a b Q R U) : IsAdd a b P U T := by
  match P, Q, R, S, T, U with
  | .O, Q, R, S, T, U =>
    have : S = Q := h12
    subst this
    exact add_uniq F h h23
  | .A x1 y1, .O, R, S, T, U =>
    have e1 : S = .A x1 y1 := h12
    have e2 : U = R := h23
    subst e1 e2
    exact h
  | .A x1 y1, .A x2 y2, .O, S, T, U =>
    have e1 : U = .A x2 y2 := h23
    have e2 : T = S := add_uniq F h (show IsAdd a b S .O S by cases S <;> rfl)
    subst e1 e2
    exact h12
  | .A x1 y1, .A x2 y2, .A x3 y3, .O, T, U =>
    -- P = -Q
    have e : T = .A x3 y3 := h
    subst e
    have hc := cancel_add F N hQ hR h23
    have eP : Pt.A x1 y1 = neg (.A x2 y2) := by
      show Pt.A x1 y1 = Pt.A x2 (-y2)
      rw [h12.1, show y1 = -y2 by have := h12.2; grind -lia]
    rw [eP]
    exact hc
  | .A x1 y1, .A x2 y2, .A x3 y3, .A x12 y12, T, .O =>
    -- R = -Q
    have hc := add_comm' (cancel_add F N hQ hP (add_comm' h12))
    have eR : Pt.A x3 y3 = neg (.A x2 y2) := by
      show Pt.A x3 y3 = Pt.A x2 (-y2)
      rw [← h23.1, show y3 = -y2 by have := h23.2; grind -lia]
    rw [eR] at h
    have : T = .A x1 y1 := add_uniq F h hc
    rw [this]
    rfl
  | .A x1 y1, .A x2 y2, .A x3 y3, .A x12 y12, .O, .A x23 y23 => exact opp_add F h12 h23 h
  | .A x1 y1, .A x2 y2, .A x3 y3, .A x12 y12, .A x y, .A x23 y23 => exact assoc_main F h12 h23 h
/-- a curve, its points -/
structure Cv (p : Nat) [NeZero p] where
  a : Fin p
  b : Fin p
  c : Fin p
  F : Fld p
  N : NonS a b c
def Cv.G (C : Cv p) : Type := {P : Pt p // On C.a C.b C.c P}
noncomputable def Cv.add {C : Cv p} (P Q : C.G) : C.G := ⟨(add_ex C.F P.2 Q.2).choose, (add_ex C.F P.2 Q.2).choose_spec.2⟩
theorem Cv.is {C : Cv p} (P Q : C.G) : IsAdd C.a C.b P.1 Q.1 (Cv.add P Q).1 := (add_ex C.F P.2 Q.2).choose_spec.1
theorem Cv.eq {C : Cv p} {P Q R : C.G} (h : IsAdd C.a C.b P.1 Q.1 R.1) : Cv.add P Q = R := Subtype.ext (add_uniq C.F (Cv.is P Q) h)
def Cv.zero {C : Cv p} : C.G := ⟨.O, trivial⟩
theorem neg_on {a b c : Fin p} : ∀ {P : Pt p}, On a b c P → On a b c (neg P)
  | .O, _ => trivial
  | .A x y, h => by show (-y)*(-y) = _; rw [← (show y*y = _ from h)]; grind -lia
def Cv.neg {C : Cv p} (P : C.G) : C.G := ⟨Go.Wei.neg P.1, neg_on P.2⟩
theorem Cv.comm {C : Cv p} (P Q : C.G) : Cv.add P Q = Cv.add Q P := Cv.eq (add_comm' (Cv.is Q P))
theorem Cv.assoc {C : Cv p} (P Q R : C.G) : Cv.add (Cv.add P Q) R = Cv.add P (Cv.add Q R) := (Cv.eq (Go.Wei.assoc C.F C.N P.2 Q.2 R.2 (Cv.add P Q).2 (Cv.add Q R).2 (Cv.is P Q) (Cv.is _ _) (Cv.is Q R))).symm
theorem Cv.zero_add {C : Cv p} (P : C.G) : Cv.add Cv.zero P = P := Cv.eq rfl
theorem Cv.add_zero {C : Cv p} (P : C.G) : Cv.add P Cv.zero = P := by rw [Cv.comm, Cv.zero_add]
theorem Cv.add_neg {C : Cv p} (P : C.G) : Cv.add P (Cv.neg P) = Cv.zero := Cv.eq (by
  obtain ⟨P, h⟩ := P
  cases P with
  | O => rfl
  | A x y => exact ⟨rfl, by grind -lia⟩)
noncomputable def Cv.mul {C : Cv p} : Nat → C.G → C.G
  | 0, _ => Cv.zero
  | n + 1, P => Cv.add (Cv.mul n P) P
theorem Cv.mul_add {C : Cv p} (P : C.G) (m : Nat) : ∀ n, Cv.mul (m + n) P = Cv.add (Cv.mul m P) (Cv.mul n P)
  | 0 => (Cv.add_zero _).symm
  | n + 1 => by rw [← Nat.add_assoc, Cv.mul, Cv.mul_add P m n, Cv.mul, Cv.assoc]
theorem Cv.mul_zero {C : Cv p} : ∀ n, Cv.mul n (Cv.zero : C.G) = Cv.zero
  | 0 => rfl
  | n + 1 => by rw [Cv.mul, Cv.mul_zero n, Cv.zero_add]
theorem Cv.mul_one {C : Cv p} (P : C.G) : Cv.mul 1 P = P := by rw [Cv.mul, Cv.mul, Cv.zero_add]
theorem Cv.mul_mul {C : Cv p} (P : C.G) (n : Nat) : ∀ m, Cv.mul (m * n) P = Cv.mul m (Cv.mul n P)
  | 0 => by rw [Nat.zero_mul]; rfl
  | m + 1 => by rw [Nat.succ_mul, Cv.mul_add, Cv.mul_mul P n m, Cv.mul]
theorem Cv.mul_swap {C : Cv p} (P : C.G) (m n : Nat) : Cv.mul m (Cv.mul n P) = Cv.mul n (Cv.mul m P) := by rw [← Cv.mul_mul, ← Cv.mul_mul, Nat.mul_comm]
theorem Cv.cancel {C : Cv p} {P Q R : C.G} (h : Cv.add P Q = Cv.add P R) : Q = R := by
  have := congrArg (Cv.add (Cv.neg P)) h
  rwa [← Cv.assoc, ← Cv.assoc, Cv.comm (Cv.neg P), Cv.add_neg, Cv.zero_add, Cv.zero_add] at this
end
theorem fin_mul {p : Nat} (x y : Fin p) : (x * y).val = x.val * y.val % p := rfl
theorem fin_add {p : Nat} (x y : Fin p) : (x + y).val = (x.val + y.val) % p := rfl
section
variable {p : Nat} [NeZero p]
theorem fin_zero : (0 : Fin p).val = 0 := by show 0 % p = 0; exact Nat.zero_mod _
/-- numbers modulo a prime -/
theorem fld_of (h : Luc p) (h2 : p ≠ 2) : Fld p := by
  have hp := h.1.1
  refine ⟨fun x y e => ?_, fun x e => ?_, fun x hx => ?_⟩
  · have e1 : x.val * y.val % p = 0 := (congrArg Fin.val e).trans fin_zero
    rcases h.1.mul (Nat.dvd_of_mod_eq_zero e1) with g | g
    · left
      apply Fin.ext
      rw [fin_zero]
      exact Nat.eq_zero_of_dvd_of_lt g x.isLt
    · right
      apply Fin.ext
      rw [fin_zero]
      exact Nat.eq_zero_of_dvd_of_lt g y.isLt
  · have e1 : (x.val + x.val) % p = 0 := (congrArg Fin.val e).trans fin_zero
    have e2 : p ∣ 2 * x.val := by rw [Nat.two_mul]; exact Nat.dvd_of_mod_eq_zero e1
    rcases h.1.mul e2 with g | g
    · have := Nat.le_of_dvd (by decide) g
      omega
    · apply Fin.ext
      rw [fin_zero]
      exact Nat.eq_zero_of_dvd_of_lt g x.isLt
  · have hv : x.val % p ≠ 0 := by
      rw [Nat.mod_eq_of_lt x.isLt]
      intro g
      exact hx (Fin.ext (g.trans fin_zero.symm))
    refine ⟨⟨x.val ^ (p - 2) % p, Nat.mod_lt _ (by omega)⟩, ?_⟩
    apply Fin.ext
    show x.val * (x.val ^ (p - 2) % p) % p = 1 % p
    rw [Nat.mul_mod_mod, Nat.mul_comm, ← Nat.pow_succ, show (p - 2).succ = p - 1 by omega, h.2 _ hv, Nat.mod_eq_of_lt hp]
/-- a number modulo p -/
def fn (p : Nat) [NeZero p] (x : Nat) : Fin p := Fin.ofNat p x
theorem fn_val (x : Nat) : (fn p x).val = x % p := rfl
theorem fn_mod (x : Nat) : fn p (x % p) = fn p x := Fin.ext (by rw [fn_val, fn_val, Nat.mod_mod])
theorem fn_of (x : Fin p) : fn p x.val = x := Fin.ext (by rw [fn_val, Nat.mod_eq_of_lt x.isLt])
theorem fn_inj {x y : Nat} (hx : x < p) (hy : y < p) (h : fn p x = fn p y) : x = y := by
  have := congrArg Fin.val h
  rwa [fn_val, fn_val, Nat.mod_eq_of_lt hx, Nat.mod_eq_of_lt hy] at this
theorem fn_mul (x y : Nat) : fn p (x * y % p) = fn p x * fn p y := Fin.ext (by rw [fn_val, fin_mul, fn_val, fn_val, Nat.mod_mod, Nat.mul_mod])
theorem fn_add (x y : Nat) : fn p ((x + y) % p) = fn p x + fn p y := Fin.ext (by rw [fn_val, fin_add, fn_val, fn_val, Nat.mod_mod, Nat.add_mod])
theorem fn_sub (x y : Nat) : fn p ((x % p + p - y % p) % p) = fn p x - fn p y := Fin.ext (by
  have hp : 0 < p := Nat.pos_of_ne_zero (NeZero.ne p)
  have hy := Nat.mod_lt y hp
  rw [fn_val, Nat.mod_mod, Fin.sub_def]
  show (x % p + p - y % p) % p = (p - y % p + x % p) % p
  congr 1
  omega)
theorem fn_zero : fn p 0 = 0 := rfl
theorem fn_one : fn p 1 = 1 := rfl
theorem Fld.mul {F : Fld p} {x y : Fin p} (hx : x ≠ 0) (hy : y ≠ 0) : x * y ≠ 0 := fun h => (F.nz _ _ h).elim hx hy
theorem Fld.eq {F : Fld p} {k x y : Fin p} (hk : k ≠ 0) (h : k * x = k * y) : x = y := Fld.cancel (F := F) hk (by grind -lia)
end
end Go.Wei
