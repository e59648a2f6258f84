/- Layer 13: the order of the base. -/
import Derived.Test.YtpfhmbbiadpbeaaT2
namespace Go.Proofs.Ytpfhmbbiadpbeaa
open Go.Dbr
set_option maxRecDepth 100000
set_option maxHeartbeats 2000000
set_option linter.unusedVariables false
set_option linter.unusedSimpArgs false

theorem repN_with {s t : N3} {P Q : GP} (hs : Go.Wei.RepH (fP s.1, fP s.2.1, fP s.2.2) P.1) (ht : Go.Wei.RepH (fP t.1, fP t.2.1, fP t.2.2) Q.1) : Go.Wei.RepH (fP (wtN s t).1, fP (wtN s t).2.1, fP (wtN s t).2.2) (Go.Wei.Cv.add P Q).1 := by
  obtain ⟨x1, y1, z1⟩ := s
  obtain ⟨x2, y2, z2⟩ := t
  show Go.Wei.RepH (fP (wtA outX x1 y1 z1 x2 y2 z2), fP (wtA outY x1 y1 z1 x2 y2 z2), fP (wtA outZ x1 y1 z1 x2 y2 z2)) _
  rw [wtX, wtY, wtZ, eta3]
  exact wt_rep P Q hs ht
def mulG : Nat → Nat → N3 → N3
  | 0, _, _ => (0, 1, 0)
  | f + 1, e, g => cond (Nat.beq (e % 2) 1) (wtN (mulG f (e / 2) (wtN g g)) g) (mulG f (e / 2) (wtN g g))
theorem repN_mul : ∀ (f e : Nat) (g : N3) (P : GP), e < 2 ^ f → Go.Wei.RepH (fP g.1, fP g.2.1, fP g.2.2) P.1 → Go.Wei.RepH (fP (mulG f e g).1, fP (mulG f e g).2.1, fP (mulG f e g).2.2) (Go.Wei.Cv.mul e P).1
  | 0, e, g, P, he, _ => by
    have : e = 0 := by simp at he; exact he
    subst this
    exact ⟨rfl, rfl, by show fP 1 ≠ 0; rw [fP, Go.Wei.fn_one]; exact one_ne⟩
  | f + 1, e, g, P, he, h => by
    have ih := repN_mul f (e / 2) (wtN g g) (Go.Wei.Cv.add P P) (by rw [Nat.pow_succ] at he; omega) (repN_with h h)
    have e2 : Go.Wei.Cv.mul (e / 2) (Go.Wei.Cv.add P P) = Go.Wei.Cv.mul (e / 2 * 2) P := by
      rw [Go.Wei.Cv.mul_mul]
      congr 1
      show _ = Go.Wei.Cv.add (Go.Wei.Cv.add Go.Wei.Cv.zero P) P
      rw [Go.Wei.Cv.zero_add]
    rw [e2] at ih
    unfold mulG
    cases hb : Nat.beq (e % 2) 1 with
    | true =>
      have h1 : e % 2 = 1 := Nat.eq_of_beq_eq_true hb
      have : e = e / 2 * 2 + 1 := by omega
      have k := repN_with ih h
      rw [show Go.Wei.Cv.add (Go.Wei.Cv.mul (e / 2 * 2) P) P = Go.Wei.Cv.mul e P from (by
        conv => rhs; rw [this]
        rfl)] at k
      exact k
    | false =>
      have h1 : e % 2 ≠ 1 := Nat.ne_of_beq_eq_false hb
      have : e / 2 * 2 = e := by omega
      rw [this] at ih
      exact ih
def GX : Nat := 48439561293906451759052585252797914202762949526041747995844080717082404635286
def GY : Nat := 36134250956749795798585127919587881956611106672985015071877198253568414405109
def NN : Nat := 115792089210356248762697446949407573529996955224135760342422259061068512044369
theorem ord_1 : (mulG 256 NN (GX, GY, 1)).1 = 0 ∧ (mulG 256 NN (GX, GY, 1)).2.2 = 0 := by decide +kernel
/-- the base -/
def Gp : PZ := (false, nd GX, nd GY)
theorem on_G : onP Gp = true := by decide +kernel
noncomputable def gB : GP := gO Gp
theorem out_gB : outP gB.1 = Gp := out_gO rfl rfl on_G
theorem gB_is : gB.1 = .A (fP GX) (fP GY) := by
  rw [gB, gO_in on_G]
  show Go.Wei.Pt.A (fP (nv (nd GX))) (fP (nv (nd GY))) = _
  rw [nv_nd (show GX < W256 by decide), nv_nd (show GY < W256 by decide)]
theorem ord_G : Go.Wei.Cv.mul NN gB = Go.Wei.Cv.zero := by
  have h := repN_mul 256 NN (GX, GY, 1) gB (by decide) (by
    rw [gB_is]
    show Go.Wei.RepH (fP GX, fP GY, fP 1) _
    rw [show fP 1 = 1 from Go.Wei.fn_one]
    generalize fP GX = a
    generalize fP GY = b
    exact ⟨one_ne, by grind -lia, by grind -lia⟩)
  rw [ord_1.1, ord_1.2] at h
  apply Subtype.ext
  show _ = Go.Wei.Pt.O
  cases hP : (Go.Wei.Cv.mul NN gB).1 with
  | O => rfl
  | A x y =>
    rw [hP] at h
    exact absurd rfl h.1
theorem mul_mod (k : Nat) : Go.Wei.Cv.mul (k % NN) gB = Go.Wei.Cv.mul k gB := by
  conv => rhs; rw [← Nat.div_add_mod k NN, Nat.mul_comm, Go.Wei.Cv.mul_add, Go.Wei.Cv.mul_mul, ord_G, Go.Wei.Cv.mul_zero, Go.Wei.Cv.zero_add]
theorem mulG_out (k : Nat) : mulP k Gp = outP (Go.Wei.Cv.mul k gB).1 := by rw [← out_gB, mulP_out]
theorem lawTurn (k l : Nat) : mulP k (mulP l Gp) = mulP l (mulP k Gp) := by
  rw [mulG_out, mulG_out, mulP_out, mulP_out, Go.Wei.Cv.mul_swap]
end Go.Proofs.Ytpfhmbbiadpbeaa
