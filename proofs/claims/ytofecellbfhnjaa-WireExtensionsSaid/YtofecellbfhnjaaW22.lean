/- Layer 17: both readers find the same. -/
import Derived.Test.YtofecellbfhnjaaW21
namespace Go.Proofs.Ytofecellbfhnjaa
open Go.Dbr
set_option maxRecDepth 100000
set_option maxHeartbeats 2000000
set_option linter.unusedVariables false
set_option linter.unusedSimpArgs false

/-- both are short, or both have found the same -/
def Like {α : Type} (q d : α × PS) : Prop := q.2.2.1 = d.2.2.1 ∧ (q.2.2.1 = false → q = d)
section
variable {α : Type}
theorem like_A {q d : α × PS} (h : Like q d) : gotA q = gotA d := by
  cases e : q.2.2.1 with
  | true => rw [gotA, gotA, ← h.1, e, endV, endV, if_pos (.inl rfl), if_pos (.inl rfl)]
  | false => rw [h.2 e]
theorem like_V {z : α} {q d : α × PS} (h : Like q d) : gotV z q = gotV z d := by
  cases e : q.2.2.1 with
  | true =>
    have e1 : gotA q = 50 := by rw [gotA, e, endV, if_pos (.inl rfl)]
    rw [gotV_n e1 (by decide), gotV_n ((like_A h).symm.trans e1) (by decide)]
  | false => rw [h.2 e]
theorem like_t {q d : α × PS} (h : q.2.2.1 = true) (h2 : d.2.2.1 = true) : Like q d := ⟨h.trans h2.symm, fun g => by rw [h] at g; cases g⟩
theorem like_r {q d : α × PS} (h : q = d) : Like q d := ⟨by rw [h], fun _ => h⟩
end
theorem tkS_t (n : Nat) (l : Bs) : tkS n l true = true := rfl
theorem tk_dk {n : Nat} {l : Bs} {s : Bool} (h : tkS n l s = false) : tkR n l s = dkR n l s := by rw [tkR, dkR, h]; rfl
theorem lsS_t (n x y : Nat) (l : Bs) : lsS n x y l true = true := by rw [lsS, lsT, tkS_t, Bool.true_or, tkS_t]
theorem ldS_t (n x y : Nat) (l : Bs) : ldS n x y l true = true := by rw [ldS, lsT, tkS_t, Bool.true_or, tkS_t]
theorem ls_ld (n x y : Nat) (l : Bs) (s : Bool) : lsS n x y l s = ldS n x y l s := by
  cases h : tkS n l s with
  | true => rw [lsS, ldS, lsT, h, Bool.true_or, tkS_t, tkS_t]
  | false => rw [lsS, ldS, tk_dk h]
theorem ls_ld2 {n x y : Nat} {l : Bs} {s : Bool} (h : lsS n x y l s = false) : lsO n x y l s = ldO n x y l s ∧ lsR n x y l s = ldR n x y l s := by
  have h1 := (lsS_f h).1
  have e := tk_dk h1
  constructor
  · rw [lsO, ldO, e]
  · rw [lsR, ldR, ← e]
    exact tk_dk h
theorem nbV_2 {n : Nat} (hn : n ≤ 2) (l : Bs) (s : Bool) : nbV n l s ≤ 65535 := by
  have h := beV_lt _ (tkO n l s) rfl
  have h2 : 256 ^ (tkO n l s).length ≤ 256 ^ 2 := Nat.pow_le_pow_right (by decide) (Nat.le_trans (tkO_len n l s) hn)
  exact Nat.le_of_lt_succ (Nat.lt_of_lt_of_le h h2)
theorem lsT_b {n x : Nat} (hn : n ≤ 2) (l : Bs) (s : Bool) : lsT n x 16777215 l s = lsT n x 65535 l s := by
  have h := nbV_2 hn l s
  rw [lsT, lsT, decide_eq_false (show ¬ 16777215 < nbV n l s by omega), decide_eq_false (show ¬ 65535 < nbV n l s by omega)]
theorem ls_b {n x : Nat} (hn : n ≤ 2) (l : Bs) (s : Bool) : lsS n x 16777215 l s = lsS n x 65535 l s ∧ lsO n x 16777215 l s = lsO n x 65535 l s ∧ lsR n x 16777215 l s = lsR n x 65535 l s := by
  refine ⟨?_, ?_, ?_⟩
  · rw [lsS, lsS, lsT_b hn]
  · rw [lsO, lsO, lsT_b hn]
  · rw [lsR, lsR, lsT_b hn]
theorem list_like (n x y : Nat) (l : Bs) (s o : Bool) : Like (listM n x y l s o) (dlistM n x y l s o) := by
  refine ⟨ls_ld n x y l s, fun h => ?_⟩
  have e := ls_ld2 h
  rw [listM, dlistM, e.1, e.2, ls_ld]
theorem u16_like (l : Bs) (s o : Bool) : Like (u16M l s o) (du16M l s o) := ⟨rfl, fun h => by rw [u16M, du16M, tk_dk h]⟩
theorem share_like (l : Bs) (s o : Bool) : Like (shareM l s o) (dshareM l s o) := by
  cases h : tkS 2 l s with
  | true => exact like_t (by show lsS 2 1 65535 (tkR 2 l s) (tkS 2 l s) = true; rw [h, lsS_t]) (by show ldS 2 1 65535 (dkR 2 l s) (tkS 2 l s) = true; rw [h, ldS_t])
  | false =>
    refine ⟨by show lsS 2 1 65535 (tkR 2 l s) (tkS 2 l s) = ldS 2 1 65535 (dkR 2 l s) (tkS 2 l s); rw [tk_dk h, ls_ld], fun g => ?_⟩
    have g : lsS 2 1 65535 (tkR 2 l s) (tkS 2 l s) = false := g
    have e := ls_ld2 g
    rw [shareM, dshareM, e.1, e.2, ls_ld, tk_dk h]
theorem st_like (l : Bs) (s o : Bool) : Like (stM l s o) (dstM l s o) := by
  cases h : tkS 1 l s with
  | true => exact like_t (by show lsS 3 1 16777215 (tkR 1 l s) (tkS 1 l s) = true; rw [h, lsS_t]) (by show ldS 3 1 16777215 (dkR 1 l s) (tkS 1 l s) = true; rw [h, ldS_t])
  | false =>
    refine ⟨by show lsS 3 1 16777215 (tkR 1 l s) (tkS 1 l s) = ldS 3 1 16777215 (dkR 1 l s) (tkS 1 l s); rw [tk_dk h, ls_ld], fun g => ?_⟩
    have g : lsS 3 1 16777215 (tkR 1 l s) (tkS 1 l s) = false := g
    have e := ls_ld2 g
    rw [stM, dstM, e.1, e.2, ls_ld, tk_dk h]
theorem psk1_like (l : Bs) (s o : Bool) : Like (psk1M l s o) (dpsk1M l s o) := by
  cases h : lsS 2 1 65535 l s with
  | true => exact like_t (by show tkS 4 (lsR 2 1 65535 l s) (lsS 2 1 65535 l s) = true; rw [h, tkS_t]) (by show tkS 4 (ldR 2 1 65535 l s) (ldS 2 1 65535 l s) = true; rw [← ls_ld, h, tkS_t])
  | false =>
    have e := ls_ld2 h
    refine ⟨by show tkS 4 (lsR 2 1 65535 l s) (lsS 2 1 65535 l s) = tkS 4 (ldR 2 1 65535 l s) (ldS 2 1 65535 l s); rw [e.2, ls_ld], fun g => ?_⟩
    have g : tkS 4 (lsR 2 1 65535 l s) (lsS 2 1 65535 l s) = false := g
    rw [psk1M, dpsk1M, tk_dk g, e.1, e.2, ls_ld]
theorem mnf_like {α : Type} {one two : Bs → Bool → Bool → α × PS} (h : ∀ l s o, Like (one l s o) (two l s o)) : ∀ (f : Nat) (p : PS), Like (mnf one f p) (mnf two f p)
  | 0, p => like_r rfl
  | f + 1, p => by
    by_cases hp : p.2.1 = true ∨ p.1 = []
    · exact like_r (by rw [mnf_end hp, mnf_end hp])
    · have hq := h p.1 p.2.1 p.2.2
      cases e : (one p.1 p.2.1 p.2.2).2.2.1 with
      | true =>
        have e2 : (two p.1 p.2.1 p.2.2).2.2.1 = true := hq.1.symm.trans e
        exact like_t (by rw [mnf, if_neg hp]; show (mnf one f (one p.1 p.2.1 p.2.2).2).2.2.1 = true; rw [mnf_end (.inl e)]; exact e) (by rw [mnf, if_neg hp]; show (mnf two f (two p.1 p.2.1 p.2.2).2).2.2.1 = true; rw [mnf_end (.inl e2)]; exact e2)
      | false =>
        have e2 := hq.2 e
        have ih := mnf_like h f (two p.1 p.2.1 p.2.2).2
        rw [mnf, mnf, if_neg hp, if_neg hp, e2]
        refine ⟨ih.1, fun g => ?_⟩
        have := ih.2 g
        rw [this]
theorem mn_like {α : Type} {one two : Bs → Bool → Bool → α × PS} (h : ∀ l s o, Like (one l s o) (two l s o)) (p : PS) : Like (mn one p) (mn two p) := mnf_like h _ _
theorem many_like {α : Type} {one two : Bs → Bool → Bool → α × PS} (h : ∀ l s o, Like (one l s o) (two l s o)) {n : Nat} (hn : n ≤ 2) (x : Nat) (l : Bs) (s o : Bool) : Like (manyM one n x l s o) (dmanyM two n x 65535 l s o) := by
  have hb := ls_b (x := x) hn l s
  cases e : lsS n x 65535 l s with
  | true =>
    refine like_t ?_ ?_
    · show (lsS n x 16777215 l s || _) = true
      rw [hb.1, e, Bool.true_or]
    · show (ldS n x 65535 l s || _) = true
      rw [← ls_ld, e, Bool.true_or]
  | false =>
    have e2 := ls_ld2 e
    have hm := mn_like h (ldO n x 65535 l s, ldS n x 65535 l s, false)
    refine ⟨?_, fun g => ?_⟩
    · show (lsS n x 16777215 l s || (mn one (lsO n x 16777215 l s, lsS n x 16777215 l s, false)).2.2.1) = (ldS n x 65535 l s || (mn two (ldO n x 65535 l s, ldS n x 65535 l s, false)).2.2.1)
      rw [hb.1, hb.2.1, e2.1, ls_ld, hm.1]
    · have g : (lsS n x 16777215 l s || (mn one (lsO n x 16777215 l s, lsS n x 16777215 l s, false)).2.2.1) = false := g
      rw [hb.1, hb.2.1, e2.1, ls_ld, Bool.or_eq_false_iff] at g
      have := hm.2 g.2
      rw [manyM, dmanyM, hb.1, hb.2.1, hb.2.2, e2.1, e2.2, ls_ld, this]
theorem psk_like (l : Bs) (s o : Bool) : Like (pskM l s o) (dpskM l s o) ∧ gotN (pskM l s o) (List.length (pskO l s o).2.1) = gotN (dpskM l s o) (List.length (dpskO l s o).2.1) := by
  have hO : Like (pskO l s o) (dpskO l s o) := many_like psk1_like (by decide) 1 l s o
  cases e : (pskO l s o).2.2.1 with
  | true =>
    have e2 := hO.1.symm.trans e
    have hl : Like (pskM l s o) (dpskM l s o) := by
      refine like_t ?_ ?_
      · show ((lsS 2 1 16777215 (pskO l s o).2.1 (pskO l s o).2.2.1 || _) || _) = true
        rw [e, lsS_t]; rfl
      · show ((ldS 2 1 65535 (dpskO l s o).2.1 (dpskO l s o).2.2.1 || _) || _) = true
        rw [e2, ldS_t]; rfl
    refine ⟨hl, ?_⟩
    have hA : gotA (pskM l s o) = 50 := by
      have : (pskM l s o).2.2.1 = true := by
        show ((lsS 2 1 16777215 (pskO l s o).2.1 (pskO l s o).2.2.1 || _) || _) = true
        rw [e, lsS_t]; rfl
      rw [gotA, this, endV, if_pos (.inl rfl)]
    rw [gotN_n (by rw [hA]; decide), gotN_n (by rw [← like_A hl, hA]; decide)]
  | false =>
    have e2 := hO.2 e
    have hB : Like (pskB l s o) (dpskB l s o) := by
      rw [pskB, dpskB, e2]
      exact many_like (list_like 1 32 255) (by decide) 1 _ _ _
    have hl : Like (pskM l s o) (dpskM l s o) := by
      cases g : (pskB l s o).2.2.1 with
      | true =>
        refine like_t ?_ ?_
        · show ((pskB l s o).2.2.1 || _) = true
          rw [g, Bool.true_or]
        · show ((dpskB l s o).2.2.1 || _) = true
          rw [← hB.1, g, Bool.true_or]
      | false => exact like_r (by rw [pskM, dpskM, hB.2 g, e2])
    refine ⟨hl, ?_⟩
    rw [gotN, gotN, like_A hl, e2]
theorem nm_like (l : Bs) : Like (nmM l false false) (dnmM l false false) := by
  cases e : lsS 2 0 65535 l false with
  | true =>
    refine like_t ?_ ?_
    · show ((lsS 2 0 65535 l false || _) || _) = true
      rw [e]; rfl
    · show (ldS 2 0 65535 l false || _) = true
      rw [← ls_ld, e, Bool.true_or]
  | false =>
    have e2 := ls_ld2 e
    have hT : nmT l false = dnmT l false := by rw [nmT, dnmT, e2.1, ls_ld]
    cases t : nmT l false with
    | true =>
      refine like_t ?_ ?_
      · show ((_ || lsS 2 1 65535 (nmO l false) (nmT l false)) || _) = true
        rw [t, lsS_t, Bool.or_true]; rfl
      · show (_ || (ldS 2 1 65535 (dnmO l false) (dnmT l false) || _)) = true
        rw [← hT, t, ldS_t, Bool.true_or, Bool.or_true]
    | false =>
      have hO : nmO l false = dnmO l false := by
        have t : tkS 1 (lsO 2 0 65535 l false) (lsS 2 0 65535 l false) = false := t
        rw [nmO, dnmO, tk_dk t, e2.1, ls_ld]
      cases g : lsS 2 1 65535 (nmO l false) (nmT l false) with
      | true =>
        refine like_t ?_ ?_
        · show ((_ || lsS 2 1 65535 (nmO l false) (nmT l false)) || _) = true
          rw [g, Bool.or_true]; rfl
        · show (_ || (ldS 2 1 65535 (dnmO l false) (dnmT l false) || _)) = true
          rw [← ls_ld 2 1 65535, ← hO, ← hT, g, Bool.true_or, Bool.or_true]
      | false =>
        have e3 := ls_ld2 g
        refine like_r ?_
        rw [nmM, dnmM, e3.1, e3.2, e2.2, ls_ld 2 0 65535, ls_ld 2 1 65535, hO, hT, e2.1, Bool.or_assoc]
        rfl

end Go.Proofs.Ytofecellbfhnjaa
