/- Slices of structs that are made; parts of a list that are read one by one. -/
import Derived.Test.YtfcfgbejpcmmkaaDoorI64
namespace Go.Dbr
open Go Go.RowKit
section
variable {α : Type}
theorem sv_len {f : α → List Value} {sz : Nat} (hf : ∀ x, (f x).length = sz) : ∀ l : List α, (l.flatMap f).length = l.length * sz
  | [] => by simp
  | y :: r => by rw [List.flatMap_cons, List.length_append, hf, sv_len hf r, List.length_cons, Nat.succ_mul, Nat.add_comm]
theorem flat_one {f : α → List Value} (hf : ∀ x, ∀ u ∈ f x, u.oneCell' = true) (l : List α) : ∀ u ∈ l.flatMap f, u.oneCell' = true := fun u hu => by
  obtain ⟨x, _, hx⟩ := List.mem_flatMap.1 hu
  exact hf x u hx

/-! parts, one by one -/
abbrev PS := List UInt8 × Bool × Bool
def mnf (one : List UInt8 → Bool → Bool → α × PS) : Nat → PS → List α × PS
  | 0, p => ([], p)
  | f + 1, p => if p.2.1 = true ∨ p.1 = [] then ([], p) else ((one p.1 p.2.1 p.2.2).1 :: (mnf one f (one p.1 p.2.1 p.2.2).2).1, (mnf one f (one p.1 p.2.1 p.2.2).2).2)
def mn (one : List UInt8 → Bool → Bool → α × PS) (p : PS) : List α × PS := mnf one p.1.length p
/-- each part takes something -/
structure Dec (one : List UInt8 → Bool → Bool → α × PS) : Prop where
  lt : ∀ l o, l ≠ [] → (one l false o).2.2.1 = false → (one l false o).2.1.length < l.length
  le : ∀ l o, (one l false o).2.1.length ≤ l.length
variable {one : List UInt8 → Bool → Bool → α × PS}
theorem mnf_end {p : PS} (h : p.2.1 = true ∨ p.1 = []) : ∀ f, mnf one f p = ([], p)
  | 0 => rfl
  | f + 1 => by rw [mnf, if_pos h]
theorem mnf_any (D : Dec one) : ∀ (n : Nat) (p : PS), p.1.length ≤ n → ∀ f g, p.1.length ≤ f → p.1.length ≤ g → mnf one f p = mnf one g p
  | n, p, hn, f, g, hf, hg => by
    by_cases h : p.2.1 = true ∨ p.1 = []
    · rw [mnf_end h, mnf_end h]
    · have hs : p.2.1 = false := by
        cases e : p.2.1 with
        | true => exact absurd (.inl e) h
        | false => rfl
      have hl : p.1 ≠ [] := fun e => h (.inr e)
      have h0 : 0 < p.1.length := List.length_pos_iff.2 hl
      match n, f, g, hn, hf, hg with
      | 0, _, _, hn, _, _ => omega
      | n + 1, 0, _, _, hf, _ => omega
      | n + 1, f + 1, 0, _, _, hg => omega
      | n + 1, f + 1, g + 1, hn, hf, hg =>
        rw [mnf, mnf, if_neg h, if_neg h]
        have key : mnf one f (one p.1 p.2.1 p.2.2).2 = mnf one g (one p.1 p.2.1 p.2.2).2 := by
          rw [hs]
          by_cases hq : (one p.1 false p.2.2).2.2.1 = true
          · rw [mnf_end (.inl hq), mnf_end (.inl hq)]
          · have := D.lt p.1 p.2.2 hl (Bool.eq_false_iff.2 hq)
            exact mnf_any D n _ (by omega) f g (by omega) (by omega)
        rw [key]
theorem mn_end {p : PS} (h : p.2.1 = true ∨ p.1 = []) : mn one p = ([], p) := mnf_end h _
theorem mn_step (D : Dec one) {l : List UInt8} {s o : Bool} (hs : s = false) (h0 : 0 < l.length) : mn one (l, s, o) = ((one l s o).1 :: (mn one (one l s o).2).1, (mn one (one l s o).2).2) := by
  subst hs
  have hl : l ≠ [] := List.length_pos_iff.1 h0
  have hn : ¬ (((l, false, o) : PS).2.1 = true ∨ ((l, false, o) : PS).1 = []) := fun g => g.elim (fun e => by cases e) hl
  have e : mn one (l, false, o) = mnf one ((l.length - 1) + 1) (l, false, o) := by
    show mnf one l.length (l, false, o) = _
    rw [show l.length - 1 + 1 = l.length by omega]
  rw [e, mnf, if_neg hn]
  have key : mnf one (l.length - 1) (one l false o).2 = mn one (one l false o).2 := by
    by_cases hq : (one l false o).2.2.1 = true
    · rw [mnf_end (.inl hq), mn_end (.inl hq)]
    · have := D.lt l o hl (Bool.eq_false_iff.2 hq)
      exact mnf_any D _ _ (Nat.le_refl _) _ _ (by omega) (Nat.le_refl _)
  show ((one l false o).1 :: (mnf one (l.length - 1) (one l false o).2).1, (mnf one (l.length - 1) (one l false o).2).2) = _
  rw [key]
end
end Go.Dbr
