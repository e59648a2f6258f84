/- Points' x alone: the ladder over B y^2 = x^3 + A x^2 + x. -/
import Derived.Test.YteainioaejnecaaWei
namespace Go.Wei
open Go.Dbr
set_option linter.unusedVariables false
section
variable {p : Nat} [NeZero p]
/-! ## x alone, on a curve B y^2 = x^3 + A x^2 + x -/
/-- what stands for a point's x: two numbers -/
def Rep (B : Fin p) (a b : Fin p) : Pt p → Prop
  | .O => b = 0 ∧ a ≠ 0
  | .A X _ => b ≠ 0 ∧ a * B = X * b
structure Mo (p : Nat) [NeZero p] where
  A : Fin p
  B : Fin p
  F : Fld p
  hB : B ≠ 0
  ns : ∀ x : Fin p, x*x + A*x + 1 ≠ 0
theorem Fld.mul {F : Fld p} {x y : Fin p} (hx : x ≠ 0) (hy : y ≠ 0) : x * y ≠ 0 := fun h => (F.nz _ _ h).elim hx hy
theorem Fld.eq {F : Fld p} {k x y : Fin p} (hk : k ≠ 0) (h : k * x = k * y) : x = y := Fld.cancel (F := F) hk (by grind -lia)
/-- a number over B -/
theorem over {F : Fld p} {B : Fin p} (hB : B ≠ 0) (X : Fin p) : ∃ x, X = B * x := by
  obtain ⟨y, hy⟩ := F.iv _ hB
  exact ⟨y * X, by grind -lia⟩
theorem Mo.quad (M : Mo p) (X : Fin p) : X*X + M.A*M.B*X + M.B*M.B ≠ 0 := fun h => by
  obtain ⟨x, hx⟩ := over (F := M.F) M.hB X
  subst hx
  have h2 : (M.B*M.B) * (x*x + M.A*x + 1) = 0 := by rw [← h]; grind -lia
  rcases M.F.nz _ _ h2 with g | g
  · exact Fld.mul (F := M.F) M.hB M.hB g
  · exact M.ns x g
theorem Mo.nonS (M : Mo p) : NonS (M.A*M.B) (M.B*M.B) 0 := fun X h0 h => by
  have e : X * (X*X + M.A*M.B*X + M.B*M.B) = 0 := by rw [← h0]; clear h0 h; grind -lia
  rcases M.F.nz _ _ e with g | g
  · subst g
    exact Fld.mul (F := M.F) M.hB M.hB (by rw [← h]; clear h0 h e; grind -lia)
  · exact M.quad X g
def Mo.C (M : Mo p) : Cv p := ⟨M.A*M.B, M.B*M.B, 0, M.F, M.nonS⟩
def dA (a b : Fin p) : Fin p := ((a+b)*(a+b))*((a-b)*(a-b))
def dB (k a b : Fin p) : Fin p := ((a+b)*(a+b) - (a-b)*(a-b)) * ((a+b)*(a+b) + k*((a+b)*(a+b) - (a-b)*(a-b)))
def dC (a b c d : Fin p) : Fin p := ((c-d)*(a+b) + (c+d)*(a-b)) * ((c-d)*(a+b) + (c+d)*(a-b))
def dD (v a b c d : Fin p) : Fin p := v*(((c-d)*(a+b) - (c+d)*(a-b)) * ((c-d)*(a+b) - (c+d)*(a-b)))
theorem dB_eq {A k a b : Fin p} (hk : A = k+k+k+k+1+1) : dB k a b = (a*b+a*b+a*b+a*b)*(a*a+A*(a*b)+b*b) := by
  subst hk
  unfold dB
  grind -lia
theorem four_ne {F : Fld p} {x : Fin p} (h : x ≠ 0) : x+x+x+x ≠ 0 := fun g => h (F.two _ (F.two _ (by rw [← g]; grind -lia)))
/-- a point and itself -/
theorem Mo.twice (M : Mo p) {k a b : Fin p} (hk : M.A = k+k+k+k+1+1) {Q S : Pt p} (hQ : On (M.A*M.B) (M.B*M.B) 0 Q) (h : IsAdd (M.A*M.B) (M.B*M.B) Q Q S) (hr : Rep M.B a b Q) : Rep M.B (dA a b) (dB k a b) S := by
  match Q, S with
  | .O, S =>
    have : S = .O := h
    subst this
    obtain ⟨e, ha⟩ := hr
    subst e
    exact ⟨by rw [dB_eq hk]; clear hk; grind -lia, by
      have := Fld.mul (F := M.F) (Fld.mul (F := M.F) ha ha) (Fld.mul (F := M.F) ha ha)
      intro g
      apply this
      rw [← g, dA]
      clear g this hk
      grind -lia⟩
  | .A X Y, S =>
    obtain ⟨hb, hX⟩ := hr
    obtain ⟨x, hx⟩ := over (F := M.F) M.hB X
    have hax : a = x * b := Fld.eq (F := M.F) M.hB (by rw [hx] at hX; clear hk hQ h; grind -lia)
    have hY : Y*Y = M.B*M.B*M.B*(x*(x*x+M.A*x+1)) := by
      have : Y*Y = X*X*X + M.A*M.B*X*X + M.B*M.B*X + 0 := hQ
      rw [this, hx]
      clear this hk hQ h hX hx hax
      grind -lia
    have hq := M.ns x
    have hdB : dB k a b = (b*b)*(b*b)*((x*(x*x+M.A*x+1))+(x*(x*x+M.A*x+1))+(x*(x*x+M.A*x+1))+(x*(x*x+M.A*x+1))) := by
      rw [dB_eq hk, hax]
      clear hk hQ h hX hx hax hY hq
      grind -lia
    have hdA : dA a b = (b*b)*(b*b)*((x*x-1)*(x*x-1)) := by
      rw [dA, hax]
      clear hk hQ h hX hx hax hY hq hdB
      grind -lia
    have hb4 := Fld.mul (F := M.F) (Fld.mul (F := M.F) hb hb) (Fld.mul (F := M.F) hb hb)
    match S with
    | .O =>
      have hY0 : Y = 0 := M.F.two _ h.2
      have hx0 : x = 0 := by
        rw [hY0] at hY
        have : M.B*M.B*M.B*(x*(x*x+M.A*x+1)) = 0 := by rw [← hY]; clear hY hk; grind -lia
        rcases M.F.nz _ _ this with g | g
        · exact absurd g (Fld.mul (F := M.F) (Fld.mul (F := M.F) M.hB M.hB) M.hB)
        · rcases M.F.nz _ _ g with g | g
          · exact g
          · exact absurd g hq
      refine ⟨by rw [hdB, hx0]; clear hk; grind -lia, ?_⟩
      rw [hdA, hx0]
      intro g
      apply hb4
      rw [← g]
      clear hk g
      grind -lia
    | .A X2 Y2 =>
      obtain ⟨hn, l, ⟨_, hl⟩, hX2, _⟩ := h
      have hYY : Y + Y ≠ 0 := fun g => hn ⟨rfl, g⟩
      have hY0 : Y ≠ 0 := fun g => hYY (by rw [g]; clear hk; grind -lia)
      have hx0 : x*(x*x+M.A*x+1) ≠ 0 := fun g => hY0 (by
        rw [g] at hY
        have : Y*Y = 0 := by rw [hY]; clear hk hY; grind -lia
        exact (M.F.nz _ _ this).elim id id)
      refine ⟨by rw [hdB]; exact Fld.mul (F := M.F) hb4 (four_ne (F := M.F) hx0), ?_⟩
      rw [hdA, hdB]
      have key : (Y+Y)*(Y+Y)*X2 = (M.B*M.B)*(M.B*M.B)*((x*x-1)*(x*x-1)) := by
        have e : (Y+Y)*(Y+Y)*(l*l) = (X*X+X*X+X*X+M.A*M.B*(X+X)+M.B*M.B)*(X*X+X*X+X*X+M.A*M.B*(X+X)+M.B*M.B) := by rw [← hl]; clear hk hY hX2; grind -lia
        have e2 : (Y+Y)*(Y+Y)*X2 = (Y+Y)*(Y+Y)*(l*l) - (Y*Y+Y*Y+Y*Y+Y*Y)*(M.A*M.B+X+X) := by rw [hX2]; clear hk hY hX2 e hl; grind -lia
        rw [e2, e, hY, hx]
        clear hk hY hX2 e e2 hl hX hax hdA hdB hx
        grind -lia
      have key2 : (Y+Y)*(Y+Y) = M.B*M.B*M.B*((x*(x*x+M.A*x+1))+(x*(x*x+M.A*x+1))+(x*(x*x+M.A*x+1))+(x*(x*x+M.A*x+1))) := by
        have : (Y+Y)*(Y+Y) = Y*Y+Y*Y+Y*Y+Y*Y := by clear hk hY key; grind -lia
        rw [this, hY]
        clear hk hY key this hl hX2 hX hx hax hdA hdB
        grind -lia
      rw [key2] at key
      generalize ((x*(x*x+M.A*x+1))+(x*(x*x+M.A*x+1))+(x*(x*x+M.A*x+1))+(x*(x*x+M.A*x+1))) = T at *
      generalize (x*x-1)*(x*x-1) = U at *
      have k3 : T * X2 = M.B * U := Fld.eq (F := M.F) (Fld.mul (F := M.F) (Fld.mul (F := M.F) M.hB M.hB) M.hB) (by clear hk hY key2 hl hX2 hX hx hax hdA hdB; grind -lia)
      clear hk hY key key2 hl hX2 hX hx hax hdA hdB
      grind -lia
theorem dC_eq (a b c d : Fin p) : dC a b c d = (a*c-b*d)*(a*c-b*d) + (a*c-b*d)*(a*c-b*d) + (a*c-b*d)*(a*c-b*d) + (a*c-b*d)*(a*c-b*d) := by unfold dC; grind -lia
theorem dD_eq (v a b c d : Fin p) : dD v a b c d = v*((c*b-d*a)*(c*b-d*a) + (c*b-d*a)*(c*b-d*a) + (c*b-d*a)*(c*b-d*a) + (c*b-d*a)*(c*b-d*a)) := by unfold dD; grind -lia
theorem dC_sym (a b c d : Fin p) : dC c d a b = dC a b c d := by rw [dC_eq, dC_eq]; grind -lia
theorem dD_sym (v a b c d : Fin p) : dD v c d a b = dD v a b c d := by rw [dD_eq, dD_eq]; grind -lia
theorem prod_id {X1 X2 s F1 F2 K D2 l m : Fin p} (Y1 Y2 : Fin p) (h1 : Y1*Y1 = F1) (h2 : Y2*Y2 = F2) (hl : l*D2 = Y2-Y1) (hm : m*D2 = Y2+Y1) : (D2*D2)*(D2*D2)*((l*l-s)*(m*m-s)) = (F2-F1)*(F2-F1) - (D2*D2)*s*(F1+F2+F1+F2) + (D2*D2)*(D2*D2)*(s*s) := by
  have e1 : (D2*D2)*(l*l) = (Y2-Y1)*(Y2-Y1) := by rw [← hl]; grind -lia
  have e2 : (D2*D2)*(m*m) = (Y2+Y1)*(Y2+Y1) := by rw [← hm]; grind -lia
  have e3 : (D2*D2)*(D2*D2)*((l*l-s)*(m*m-s)) = ((D2*D2)*(l*l)-(D2*D2)*s)*((D2*D2)*(m*m)-(D2*D2)*s) := by clear h1 h2 hl hm e1 e2; grind -lia
  rw [e3, e1, e2, ← h1, ← h2]
  clear h1 h2 hl hm e1 e2 e3
  grind -lia
theorem prod_id2 {x z A B : Fin p} : ((B*B*B*(z*(z*z+A*z+1)))-(B*B*B*(x*(x*x+A*x+1))))*((B*B*B*(z*(z*z+A*z+1)))-(B*B*B*(x*(x*x+A*x+1)))) - ((B*z-B*x)*(B*z-B*x))*(A*B+B*x+B*z)*((B*B*B*(x*(x*x+A*x+1)))+(B*B*B*(z*(z*z+A*z+1)))+(B*B*B*(x*(x*x+A*x+1)))+(B*B*B*(z*(z*z+A*z+1)))) + ((B*z-B*x)*(B*z-B*x))*((B*z-B*x)*(B*z-B*x))*((A*B+B*x+B*z)*(A*B+B*x+B*z)) = ((B*z-B*x)*(B*z-B*x))*((B*B)*(B*B)*((x*z-1)*(x*z-1))) := by
  grind -lia
theorem on_eq {A B X Y x : Fin p} (h : Y*Y = X*X*X + A*B*X*X + B*B*X + 0) (hx : X = B*x) : Y*Y = B*B*B*(x*(x*x+A*x+1)) := by
  rw [h, hx]
  grind -lia
/-- two points that differ by a third -/
theorem Mo.diff (M : Mo p) {k a b c d v Yp : Fin p} (hk : M.A = k+k+k+k+1+1) (hv : v ≠ 0) {Q R S : Pt p} (hP : On (M.A*M.B) (M.B*M.B) 0 (.A (M.B*v) Yp)) (hQ : On (M.A*M.B) (M.B*M.B) 0 Q) (hR : On (M.A*M.B) (M.B*M.B) 0 R)
    (h1 : IsAdd (M.A*M.B) (M.B*M.B) Q (.A (M.B*v) Yp) R) (h2 : IsAdd (M.A*M.B) (M.B*M.B) Q R S) (hq : Rep M.B a b Q) (hr : Rep M.B c d R) : Rep M.B (dC a b c d) (dD v a b c d) S := by
  match Q, R, S with
  | .O, R, S =>
    have eR : R = .A (M.B*v) Yp := h1
    have eS : S = R := h2
    subst eS eR
    obtain ⟨hb, ha⟩ := hq
    obtain ⟨hd, hc⟩ := hr
    have hcv : c = v * d := Fld.eq (F := M.F) M.hB (by clear hk hP hQ hR h1 h2; grind -lia)
    subst hb hcv
    have n1 := Fld.mul (F := M.F) ha hd
    have n2 := four_ne (F := M.F) (Fld.mul (F := M.F) hv (Fld.mul (F := M.F) n1 n1))
    constructor
    · rw [dD_eq]
      intro g
      apply n2
      rw [← g]
      clear hk g n1 n2 hP hQ hR h1 h2
      grind -lia
    · rw [dD_eq, dC_eq]
      clear hk n1 n2 hP hQ hR h1 h2 hc
      grind -lia
  | .A X1 Y1, .O, S =>
    have eS : S = .A X1 Y1 := h2
    subst eS
    obtain ⟨hb, ha⟩ := hq
    obtain ⟨hd, hc⟩ := hr
    have hX : X1 = M.B*v := h1.1
    have hav : a = v * b := Fld.eq (F := M.F) M.hB (by rw [hX] at ha; clear hk hP hQ hR h1 h2 hX; grind -lia)
    subst hd hav
    have n1 := Fld.mul (F := M.F) hb hc
    have n2 := four_ne (F := M.F) (Fld.mul (F := M.F) hv (Fld.mul (F := M.F) n1 n1))
    constructor
    · rw [dD_eq]
      intro g
      apply n2
      rw [← g]
      clear hk g n1 n2 hP hQ hR h1 h2 hX ha
      grind -lia
    · rw [dD_eq, dC_eq, hX]
      clear hk n1 n2 hP hQ hR h1 h2 ha hX
      grind -lia
  | .A X1 Y1, .A X2 Y2, S =>
    obtain ⟨hb, ha⟩ := hq
    obtain ⟨hd, hc⟩ := hr
    obtain ⟨x, hx⟩ := over (F := M.F) M.hB X1
    obtain ⟨z, hz⟩ := over (F := M.F) M.hB X2
    have hax : a = x * b := Fld.eq (F := M.F) M.hB (by rw [hx] at ha; clear hk hP hQ hR h1 h2 hx hz hc; grind -lia)
    have hcz : c = z * d := Fld.eq (F := M.F) M.hB (by rw [hz] at hc; clear hk hP hQ hR h1 h2 hx hz ha hax; grind -lia)
    have hp := cancel_add M.F M.nonS hQ hP h1
    have nbd := Fld.mul (F := M.F) hb hd
    match S with
    | .O =>
      have hxz : x = z := Fld.eq (F := M.F) M.hB (by rw [← hx, ← hz]; exact h2.1)
      refine ⟨by rw [dD_eq, hax, hcz, hxz]; clear hk hP hQ hR h1 h2 hx hz ha hc hax hcz hp; grind -lia, fun g => ?_⟩
      have eR : Pt.A X2 Y2 = neg (.A X1 Y1) := by
        show Pt.A X2 Y2 = Pt.A X1 (-Y1)
        rw [← h2.1, show Y2 = -Y1 by have := h2.2; clear hk hP hQ hR h1 h2 hx hz ha hc hax hcz hp g; grind -lia]
      rw [eR] at hp
      have hn : Rep M.B a b (neg (.A X1 Y1)) := ⟨hb, ha⟩
      obtain ⟨t1, t2⟩ := M.twice hk (neg_on hQ) hp hn
      have hdA : dA a b = 0 := by
        have e : (b*d)*(b*d)*(x*x-1) * ((b*d)*(b*d)*(x*x-1)) = 0 := by
          have : dC a b c d = ((b*d)*(x*x-1))*((b*d)*(x*x-1)) + ((b*d)*(x*x-1))*((b*d)*(x*x-1)) + ((b*d)*(x*x-1))*((b*d)*(x*x-1)) + ((b*d)*(x*x-1))*((b*d)*(x*x-1)) := by
            rw [dC_eq, hax, hcz, ← hxz]
            clear hk hP hQ hR h1 h2 hx hz ha hc hax hcz hp g hn t1 t2 eR
            grind -lia
          rw [this] at g
          have g2 : ((b*d)*(x*x-1))*((b*d)*(x*x-1)) = 0 := Classical.byContradiction fun q => four_ne (F := M.F) q g
          have g3 : (b*d)*(x*x-1) = 0 := (M.F.nz _ _ g2).elim id id
          have g4 : x*x-1 = 0 := (M.F.nz _ _ g3).elim (fun q => absurd q nbd) id
          rw [g4]
          clear hk
          grind -lia
        have e1 : x*x-1 = 0 := by
          have n1 := Fld.mul (F := M.F) nbd nbd
          rcases M.F.nz _ _ e with q | q <;> exact (M.F.nz _ _ q).elim (fun r => absurd r n1) id
        have : dA a b = (b*b)*(b*b)*((x*x-1)*(x*x-1)) := by
          rw [dA, hax]
          clear hk hP hQ hR h1 h2 hx hz ha hc hax hcz hp g hn t1 t2 eR e e1
          grind -lia
        rw [this, e1]
        clear hk
        grind -lia
      rw [hdA] at t2
      have : M.B*v*dB k a b = 0 := by rw [← t2]; clear hk; grind -lia
      rcases M.F.nz _ _ this with q | q
      · exact (Fld.mul (F := M.F) M.hB hv) q
      · exact t1 q
    | .A X3 Y3 =>
      obtain ⟨hn, l, ⟨hl, _⟩, hX3, _⟩ := h2
      obtain ⟨hn', m, ⟨hm, _⟩, hXp, _⟩ := hp
      have hne : X1 ≠ X2 := fun e => by
        have hYY : (Y1 + Y2) * (Y2 - Y1) = 0 := by
          have i1 : Y1*Y1 = _ := hQ
          have i2 : Y2*Y2 = _ := hR
          rw [← e] at i2
          have : Y2*Y2 - Y1*Y1 = 0 := by rw [i1, i2]; clear hk hl hm hX3 hXp; grind -lia
          rw [← this]
          clear hk hl hm hX3 hXp i1 i2 this
          grind -lia
        rcases M.F.nz _ _ hYY with q | q
        · exact hn ⟨e, q⟩
        · exact hn' ⟨e, by rw [← q]; clear hk hl hm hX3 hXp hYY q; grind -lia⟩
      have hxz : z - x ≠ 0 := fun e => hne (by rw [hx, hz]; clear hk hl hm hX3 hXp hx hz hax hcz; grind -lia)
      have nxz := Fld.mul (F := M.F) hxz hxz
      have nn := Fld.mul (F := M.F) nbd nbd
      have eC : dC a b c d = ((b*d)*(b*d)+(b*d)*(b*d)+(b*d)*(b*d)+(b*d)*(b*d))*((x*z-1)*(x*z-1)) := by
        rw [dC_eq, hax, hcz]; clear hk hl hm hX3 hXp hx hz hax hcz ha hc; grind -lia
      have eD : dD v a b c d = ((b*d)*(b*d)+(b*d)*(b*d)+(b*d)*(b*d)+(b*d)*(b*d))*(v*((z-x)*(z-x))) := by
        rw [dD_eq, hax, hcz]; clear hk hl hm hX3 hXp hx hz hax hcz ha hc eC; grind -lia
      refine ⟨by rw [eD]; exact Fld.mul (F := M.F) (four_ne (F := M.F) nn) (Fld.mul (F := M.F) hv nxz), ?_⟩
      rw [eC, eD]
      have id1 := prod_id (X1 := X1) (X2 := X2) (K := 0) (s := M.A*M.B+X1+X2) Y1 Y2 (on_eq hQ hx) (on_eq hR hz) hl (show m*(X2-X1) = Y2+Y1 by rw [hm]; clear hk hl hm hX3 hXp hx hz hax hcz ha hc eC eD; grind -lia)
      rw [show l*l-(M.A*M.B+X1+X2) = X3 by rw [hX3]; clear hk hl hm hXp hx hz hax hcz ha hc eC eD id1; grind -lia, show m*m-(M.A*M.B+X1+X2) = M.B*v by rw [hXp]; clear hk hl hm hX3 hx hz hax hcz ha hc eC eD id1; grind -lia] at id1
      rw [hx, hz, prod_id2] at id1
      have nB := M.hB
      have nBz : (M.B*z-M.B*x)*(M.B*z-M.B*x) ≠ 0 := by
        have : M.B*z-M.B*x ≠ 0 := fun e => Fld.mul (F := M.F) nB hxz (by rw [← e]; clear hk; grind -lia)
        exact Fld.mul (F := M.F) this this
      have id2 : ((M.B*z-M.B*x)*(M.B*z-M.B*x))*(X3*(M.B*v)) = (M.B*M.B)*(M.B*M.B)*((x*z-1)*(x*z-1)) := Fld.eq (F := M.F) nBz (by rw [← id1]; clear hk hl hm hX3 hXp hx hz hax hcz ha hc eC eD id1; grind -lia)
      have id3 : X3*(v*((z-x)*(z-x))) = M.B*((x*z-1)*(x*z-1)) := Fld.eq (F := M.F) (Fld.mul (F := M.F) (Fld.mul (F := M.F) nB nB) nB) (by
        have : M.B*M.B*M.B*(X3*(v*((z-x)*(z-x)))) = ((M.B*z-M.B*x)*(M.B*z-M.B*x))*(X3*(M.B*v)) := by clear hk hl hm hX3 hXp hx hz hax hcz ha hc eC eD id1 id2; grind -lia
        rw [this, id2]
        clear hk hl hm hX3 hXp hx hz hax hcz ha hc eC eD id1 id2 this
        grind -lia)
      generalize (b*d)*(b*d)+(b*d)*(b*d)+(b*d)*(b*d)+(b*d)*(b*d) = T at *
      have : X3*(T*(v*((z-x)*(z-x)))) = T*(X3*(v*((z-x)*(z-x)))) := by clear hk hl hm hX3 hXp hx hz hax hcz ha hc eC eD id1 id2 id3; grind -lia
      rw [this, id3]
      clear hk hl hm hX3 hXp hx hz hax hcz ha hc eC eD id1 id2 id3 this
      grind -lia
abbrev F4 (p : Nat) := Fin p × Fin p × Fin p × Fin p
def lst (k v : Fin p) (t : Bool) : F4 p → F4 p
  | (a, b, c, d) => bif t then (dC c d a b, dD v c d a b, dA c d, dB k c d) else (dA a b, dB k a b, dC a b c d, dD v a b c d)
def lad (k v : Fin p) (t : Nat → Bool) : Nat → F4 p
  | 0 => (1, 0, v, 1)
  | j + 1 => lst k v (t j) (lad k v t j)
def nb (t : Nat → Bool) : Nat → Nat
  | 0 => 0
  | j + 1 => 2 * nb t j + (t j).toNat
theorem one_ne {F : Fld p} {x : Fin p} (h : x ≠ 0) : (1 : Fin p) ≠ 0 := fun e => h (by
  have : x = x * 1 := by grind -lia
  rw [this, e]
  grind -lia)
theorem Mo.ladder (M : Mo p) {k v Yp : Fin p} (hk : M.A = k+k+k+k+1+1) (hv : v ≠ 0) (P : M.C.G) (hP : P.1 = .A (M.B*v) Yp) (t : Nat → Bool) : ∀ j, Rep M.B (lad k v t j).1 (lad k v t j).2.1 (Cv.mul (nb t j) P).1 ∧ Rep M.B (lad k v t j).2.2.1 (lad k v t j).2.2.2 (Cv.mul (nb t j + 1) P).1
  | 0 => by
    refine ⟨⟨rfl, one_ne (F := M.F) hv⟩, ?_⟩
    rw [nb, Nat.zero_add, Cv.mul_one, hP]
    exact ⟨one_ne (F := M.F) hv, by show v * M.B = M.B*v*1; clear hk; grind -lia⟩
  | j + 1 => by
    obtain ⟨h1, h2⟩ := M.ladder hk hv P hP t j
    have hPo : On (M.A*M.B) (M.B*M.B) 0 (.A (M.B*v) Yp) := hP ▸ P.2
    have hR : IsAdd (M.A*M.B) (M.B*M.B) (Cv.mul (nb t j) P).1 (.A (M.B*v) Yp) (Cv.mul (nb t j + 1) P).1 := hP ▸ Cv.is (Cv.mul (nb t j) P) P
    have hd := M.diff hk hv hPo (Cv.mul (nb t j) P).2 (Cv.mul (nb t j + 1) P).2 hR (Cv.is _ _) h1 h2
    have e1 : Cv.add (Cv.mul (nb t j) P) (Cv.mul (nb t j + 1) P) = Cv.mul (2 * nb t j + 1) P := by rw [← Cv.mul_add]; congr 1; omega
    rw [e1] at hd
    rw [lad]
    generalize lad k v t j = s at *
    obtain ⟨a, b, c, d⟩ := s
    cases ht : t j with
    | false =>
      have ht2 := M.twice hk (Cv.mul (nb t j) P).2 (Cv.is _ _) h1
      have e2 : Cv.add (Cv.mul (nb t j) P) (Cv.mul (nb t j) P) = Cv.mul (2 * nb t j) P := by rw [← Cv.mul_add]; congr 1; omega
      rw [e2] at ht2
      rw [nb, ht]
      exact ⟨ht2, hd⟩
    | true =>
      have ht2 := M.twice hk (Cv.mul (nb t j + 1) P).2 (Cv.is _ _) h2
      have e2 : Cv.add (Cv.mul (nb t j + 1) P) (Cv.mul (nb t j + 1) P) = Cv.mul (2 * nb t j + 1 + 1) P := by rw [← Cv.mul_add]; congr 1; omega
      rw [e2] at ht2
      rw [nb, ht]
      refine ⟨?_, ht2⟩
      show Rep M.B (dC c d a b) (dD v c d a b) _
      rw [dC_sym, dD_sym]
      exact hd
/-- a point's x -/
def Res (B : Fin p) (P : Pt p) (r : Fin p) : Prop := match P with
  | .O => r = 0
  | .A X _ => X = B * r
theorem res_of {F : Fld p} {B a b i : Fin p} {P : Pt p} (h : Rep B a b P) (hi : b ≠ 0 → b * i = 1) (h0 : b = 0 → i = 0) : Res B P (a * i) := by
  match P with
  | .O => show a * i = 0; rw [h0 h.1]; grind -lia
  | .A X _ =>
    obtain ⟨hb, hX⟩ := h
    have := hi hb
    show X = B * (a * i)
    refine Fld.eq (F := F) hb ?_
    grind -lia
theorem res_uniq {F : Fld p} {B : Fin p} (hB : B ≠ 0) {P : Pt p} {r s : Fin p} (h1 : Res B P r) (h2 : Res B P s) : r = s := by
  match P with
  | .O => exact (show r = 0 from h1).trans (show s = 0 from h2).symm
  | .A X _ => exact Fld.eq (F := F) hB ((show X = B * r from h1).symm.trans h2)
/-- the point (0, 0), so many times -/
theorem Mo.nought (M : Mo p) (P : M.C.G) (h : P.1 = .O ∨ ∃ Y, P.1 = .A 0 Y) : ∀ n, (Cv.mul n P).1 = .O ∨ ∃ Y, (Cv.mul n P).1 = .A 0 Y
  | 0 => .inl rfl
  | n + 1 => by
    have ih := M.nought P h n
    have z : ∀ {Q : M.C.G} {Y : Fin p}, Q.1 = .A 0 Y → Y = 0 := fun {Q Y} e => by
      have : On (M.A*M.B) (M.B*M.B) 0 (.A 0 Y) := e ▸ Q.2
      have h2 : Y * Y = _ := this
      have : Y * Y = 0 := by rw [h2]; grind -lia
      exact (M.F.nz _ _ this).elim id id
    rw [Cv.mul]
    have hi := Cv.is (Cv.mul n P) P
    rcases ih with e1 | ⟨Y1, e1⟩
    · rw [e1] at hi
      have : (Cv.add (Cv.mul n P) P).1 = P.1 := hi
      rw [this]
      exact h
    · rcases h with e2 | ⟨Y2, e2⟩
      · rw [e1, e2] at hi
        have : (Cv.add (Cv.mul n P) P).1 = .A 0 Y1 := hi
        exact .inr ⟨_, this⟩
      · have z1 := z e1
        have z2 := z e2
        subst z1 z2
        rw [e1, e2] at hi
        left
        generalize (Cv.add (Cv.mul n P) P).1 = S at *
        match S with
        | .O => rfl
        | .A _ _ => exact absurd ⟨rfl, by grind -lia⟩ hi.1
theorem Mo.res_nought (M : Mo p) {P : M.C.G} (h : Res M.B P.1 0) (n : Nat) : Res M.B (Cv.mul n P).1 0 := by
  have h2 : P.1 = .O ∨ ∃ Y, P.1 = .A 0 Y := by
    generalize P.1 = Q at *
    match Q with
    | .O => exact .inl rfl
    | .A X Y =>
      right
      have : X = M.B * 0 := h
      exact ⟨Y, by rw [this, show M.B * 0 = 0 by grind -lia]⟩
  rcases M.nought P h2 n with e | ⟨Y, e⟩
  · rw [e]; rfl
  · rw [e]; show (0 : Fin p) = M.B * 0; grind -lia
/-- so many times, and so many times again, turned round: 'f t v' is what the ladder over v tells, with the bits t -/
theorem turns {A k : Fin p} (F : Fld p) (ns : ∀ x : Fin p, x*x + A*x + 1 ≠ 0) (hk : A = k+k+k+k+1+1) (m : Nat) (f : (Nat → Bool) → Fin p → Fin p) (hf : ∀ t v, ∃ i, f t v = (lad k v t m).1 * i ∧ ((lad k v t m).2.1 ≠ 0 → (lad k v t m).2.1 * i = 1) ∧ ((lad k v t m).2.1 = 0 → i = 0)) (h0 : ∀ t, f t 0 = 0) (s t : Nat → Bool) (v : Fin p) : f s (f t v) = f t (f s v) := by
  by_cases hv : v = 0
  · subst hv
    simp only [h0]
  · have hB : v*(v*v+A*v+1) ≠ 0 := Fld.mul (F := F) hv (ns v)
    let M : Mo p := ⟨A, v*(v*v+A*v+1), F, hB, ns⟩
    have one : ∀ (P : M.C.G) (u Y : Fin p) (r : Nat → Bool), u ≠ 0 → P.1 = .A (M.B*u) Y → Res M.B (Cv.mul (nb r m) P).1 (f r u) := fun P u Y r hu hP => by
      obtain ⟨i, e, i1, i0⟩ := hf r u
      rw [e]
      exact res_of (F := F) (M.ladder hk hu P hP r m).1 i1 i0
    have two : ∀ (P : M.C.G) (u : Fin p) (r : Nat → Bool), Res M.B P.1 u → Res M.B (Cv.mul (nb r m) P).1 (f r u) := fun P u r hr => by
      by_cases hu : u = 0
      · subst hu
        rw [h0]
        exact M.res_nought hr _
      · cases hQ : P.1 with
        | O => rw [hQ] at hr; exact absurd hr hu
        | A X Y =>
          rw [hQ] at hr
          have : X = M.B * u := hr
          subst this
          exact one P u Y r hu hQ
    have hP : On M.C.a M.C.b M.C.c (.A (M.B*v) (M.B*M.B)) := by
      show (M.B*M.B)*(M.B*M.B) = (M.B*v)*(M.B*v)*(M.B*v) + (A*M.B)*(M.B*v)*(M.B*v) + (M.B*M.B)*(M.B*v) + 0
      have : M.B = v*(v*v+A*v+1) := rfl
      generalize M.B = B at *
      have e : (B*v)*(B*v)*(B*v) + (A*B)*(B*v)*(B*v) + (B*B)*(B*v) + 0 = (B*B*B)*(v*(v*v+A*v+1)) := by clear this hk; grind -lia
      rw [e, ← this]
      clear e this hk
      grind -lia
    obtain ⟨P0, hP0⟩ : ∃ P0 : M.C.G, P0.1 = .A (M.B*v) (M.B*M.B) := ⟨⟨_, hP⟩, rfl⟩
    have hres : Res M.B P0.1 v := by rw [hP0]; rfl
    have r1 := two _ _ s (two P0 v t hres)
    have r2 := two _ _ t (two P0 v s hres)
    rw [Cv.mul_swap] at r1
    exact res_uniq (F := F) hB r1 r2
end
end Go.Wei
