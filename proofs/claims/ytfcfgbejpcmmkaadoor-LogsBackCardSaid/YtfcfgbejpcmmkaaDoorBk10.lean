import Derived.Test.YtfcfgbejpcmmkaaDoorBk9
import Derived.Test.YtfcfgbejpcmmkaaDoorBk5
import Derived.Test.YtfcfgbejpcmmkaaDoorBk3
import Derived.Test.YtfcfgbejpcmmkaaDoorRows
import Derived.Deep.DeepHandedRow
import Derived.Lib.LaidTab
import Derived.Stop.LaidErr
/- Layer 3: what is read is written again: the plain law. -/

namespace Go.Proofs.YtfcfgbejpcmmkaaDoor
open Go.Dbr
set_option maxRecDepth 100000
set_option maxHeartbeats 2000000
set_option linter.unusedVariables false
set_option linter.unusedSimpArgs false

theorem dd_one {i : Nat} (h : i < 10) : decL i = [UInt8.ofNat (48 + i)] := Lib.decDigits_one h
theorem dd_more {i : Nat} (h : ¬ i < 10) : decL i = decL (i / 10) ++ [UInt8.ofNat (48 + i % 10)] := by
  unfold decL
  rw [Lib.decDigits, dif_neg h]
theorem dg_c {c : UInt8} (h : dgB c = true) : 48 ≤ c.toNat ∧ c.toNat ≤ 57 := of_decide_eq_true h
theorem val_snoc (l : Bs) (c : UInt8) : valD 0 (l ++ [c]) = valD 0 l * 10 + (c.toNat - 48) := by rw [val_app, val_cons, val_nil, st_def]
theorem of_dg {c : UInt8} (h : dgB c = true) {n : Nat} (hn : n = c.toNat - 48) : UInt8.ofNat (48 + n) = c := by
  have := dg_c h
  subst hn
  rw [show 48 + (c.toNat - 48) = c.toNat by omega]
  simp
theorem val_pos {l : Bs} {c : UInt8} {r : Bs} (hl : l = c :: r) (hd : l.all dgB = true) (h : ¬ c = 48) : 1 ≤ valD 0 l := by
  subst hl
  rw [List.all_cons, Bool.and_eq_true] at hd
  have h1 := dg_c hd.1
  have h2 : c.toNat ≠ 48 := fun e => h (UInt8.toNat_inj.1 e)
  rw [val_cons]
  refine Nat.le_trans ?_ (val_ge r _)
  rw [st_def]; omega
/-- digits with no nought ahead are the numeral of their number -/
theorem dec_val : ∀ (n : Nat) (l : Bs), l.length = n → l ≠ [] → l.all dgB = true → (1 < l.length → ¬ l.getD 0 0 = 48) → decL (valD 0 l) = l
  | 0, l, hn, h0, _, _ => absurd (List.eq_nil_of_length_eq_zero hn) h0
  | n + 1, l, hn, h0, hd, hz => by
    obtain ⟨m, c, hm⟩ : ∃ m c, l = m ++ [c] := ⟨l.dropLast, l.getLast h0, (List.dropLast_concat_getLast h0).symm⟩
    subst hm
    rw [List.all_append, Bool.and_eq_true] at hd
    have hc : dgB c = true := by simpa using hd.2
    have hcr := dg_c hc
    rw [val_snoc]
    cases m with
    | nil => rw [val_nil, dd_one (by omega), of_dg hc (by omega)]; rfl
    | cons a r =>
      have hlen : (a :: r).length = n := by simp at hn; simpa using hn
      have ha : ¬ a = 48 := by have := hz (by simp); simpa using this
      have hp := val_pos rfl hd.1 ha
      have ih := dec_val n (a :: r) hlen (by simp) hd.1 (fun _ => by simpa using ha)
      rw [dd_more (by omega), show (valD 0 (a :: r) * 10 + (c.toNat - 48)) / 10 = valD 0 (a :: r) by omega, ih, of_dg hc (by omega)]
theorem num_s {r : Bs} (h : nmB false r = false) : r = decL (UInt64.toNat (numV false r)) ++ r.drop (nDg r) := by
  have hok : numOk r = true := by cases h2 : numOk r with
    | true => rfl
    | false => rw [nmB, h2] at h; cases h
  have h3 := of_decide_eq_true hok
  have hl := nDg_le r
  have hv : UInt64.toNat (numV false r) = valD 0 (r.take (nDg r)) := by
    rw [numV, h]
    exact UInt64.toNat_ofNat_of_lt h3.2.2
  have htl : (r.take (nDg r)).length = nDg r := by rw [List.length_take]; omega
  rw [hv, dec_val _ (r.take (nDg r)) rfl (fun e => by rw [e] at htl; simp at htl; omega) (take_all (Nat.le_refl _)) (fun h4 => by
    rw [htl] at h4
    intro e
    refine h3.2.1 ⟨h4, ?_⟩
    rw [← e, List.getD_eq_getElem?_getD, List.getD_eq_getElem?_getD, List.getElem?_take_of_lt (by omega)])]
  exact (List.take_append_drop _ _).symm
theorem tk_s {wd : Bs} {s : Bs} {k : Nat} (h : tkB false wd (List.drop k s) = false) : List.drop k s = wd ++ List.drop (k + wd.length) s := by
  have h2 : wd.isPrefixOf (List.drop k s) = true := by cases h2 : wd.isPrefixOf (List.drop k s) with
    | true => rfl
    | false => rw [tkB, h2] at h; cases h
  obtain ⟨a, ha⟩ := pre_iff.1 h2
  rw [← List.drop_drop, ← ha, List.drop_left]
theorem wd_s {r : Bs} (h : wdB false r = false) : r = wdV false r ++ r.drop (runN r) ∧ wordB (wdV false r) = true := by
  have h2 : wordB (r.take (runN r)) = true := by cases h2 : wordB (r.take (runN r)) with
    | true => rfl
    | false => rw [wdB, h2] at h; cases h
  rw [wdV, h]
  exact ⟨(List.take_append_drop _ _).symm, h2⟩
theorem hx_d (c : UInt8) (h : 0 ≤ hxV c) : hexD (hxV c).toNat = c := by
  have : ∀ n : Fin 256, 0 ≤ hxV (UInt8.ofNat n.val) → hexD (hxV (UInt8.ofNat n.val)).toNat = UInt8.ofNat n.val := by decide +kernel
  have h2 := this ⟨c.toNat, UInt8.toNat_lt c⟩
  simp only [UInt8.ofNat_toNat] at h2
  exact h2 h
theorem d_hx (d : Nat) (h : d < 16) : hxV (hexD d) = (d : Int) := by
  have : ∀ n : Fin 16, hxV (hexD n.val) = (n.val : Int) := by decide +kernel
  exact this ⟨d, h⟩
theorem cons3 {r : Bs} (h : 3 ≤ r.length) : r = r.getD 0 0 :: r.getD 1 0 :: r.getD 2 0 :: r.drop 3 := by
  match r, h with
  | a :: b :: c :: t, _ => rfl
theorem cons1 {r : Bs} (h : 0 < r.length) : r = r.getD 0 0 :: r.drop 1 := by
  match r, h with
  | a :: t, _ => rfl
theorem esc_s {r : Bs} {x : UInt8} {j : Nat} (h : rdEsc r = some (x, j)) : 92 :: r = escB x ++ r.drop j := by
  unfold rdEsc at h
  by_cases h0 : r.length = 0
  · rw [if_pos h0] at h; cases h
  · rw [if_neg h0] at h
    by_cases h1 : r.getD 0 0 = 34 ∨ r.getD 0 0 = 92
    · rw [if_pos h1] at h
      cases h
      rw [esc_q h1]
      conv => lhs; rw [cons1 (show 0 < r.length by omega)]
      rfl
    · rw [if_neg h1] at h
      split at h
      · rename_i q
        cases h
        obtain ⟨q1, q2, q3, q4, q5⟩ := q
        have l1 := hx_le (r.getD 1 0)
        have l2 := hx_le (r.getD 2 0)
        have hN : (UInt8.ofNat (hvN r)).toNat = hvN r := by
          have h8 : (UInt8.ofNat (hvN r)).toNat = hvN r % 256 := by simp
          rw [h8]
          refine Nat.mod_eq_of_lt ?_
          rw [hvN]
          omega
        have hp : ¬ plB (UInt8.ofNat (hvN r)) = true := fun g => by
          have := of_decide_eq_true g
          rw [hN] at this
          exact q5 ⟨this.1, this.2.1⟩
        have hq : ¬ (UInt8.ofNat (hvN r) = 34 ∨ UInt8.ofNat (hvN r) = 92) := by
          rintro (g | g)
          · have := congrArg UInt8.toNat g
            rw [hN] at this
            exact q5 (by rw [this]; decide)
          · have := congrArg UInt8.toNat g
            rw [hN] at this
            exact q5 (by rw [this]; decide)
        rw [esc_h hp hq, hexS, hN]
        have e1 : hvN r / 16 = (hxV (r.getD 1 0)).toNat := by rw [hvN]; omega
        have e2 : hvN r % 16 = (hxV (r.getD 2 0)).toNat := by rw [hvN]; omega
        rw [e1, e2, hx_d _ q3, hx_d _ q4]
        conv => lhs; rw [cons3 q2, q1]
        rfl
      · cases h
theorem tx_s : ∀ {f : Nat} {r t : Bs} {n : Nat}, rdTx f r = some (t, n) → r = t.flatMap escB ++ (34 :: r.drop n)
  | 0, r, t, n, h => by cases h
  | f + 1, r, t, n, h => by
    unfold rdTx at h
    by_cases h0 : r.length = 0
    · rw [if_pos h0] at h; cases h
    · rw [if_neg h0] at h
      have hc := cons1 (show 0 < r.length by omega)
      by_cases h1 : r.getD 0 0 = 34
      · rw [if_pos h1] at h
        cases h
        conv => lhs; rw [hc, h1]
        rfl
      · rw [if_neg h1] at h
        by_cases h2 : r.getD 0 0 = 92
        · rw [if_pos h2, Option.bind_eq_some_iff] at h
          obtain ⟨e, he, h⟩ := h
          obtain ⟨p, hp, h⟩ := Option.map_eq_some_iff.1 h
          have ih := tx_s hp
          have h3 := esc_s (x := e.1) (j := e.2) he
          cases h
          rw [List.flatMap_cons, List.append_assoc]
          conv => lhs; rw [hc, h2, h3, List.drop_drop, ih, List.drop_drop]
          rw [Nat.add_comm p.2]
        · rw [if_neg h2] at h
          split at h
          · rename_i g
            obtain ⟨p, hp, h⟩ := Option.map_eq_some_iff.1 h
            have ih := tx_s hp
            cases h
            rw [List.flatMap_cons, esc_p g]
            conv => lhs; rw [hc, ih, List.drop_drop]
            rw [Nat.add_comm p.2]
            rfl
          · cases h
theorem rs_s {r t : Bs} {n : Nat} (h : rdS false r = some (t, n)) : r = quoL t ++ r.drop n := by
  unfold rdS at h
  rw [if_neg (by decide)] at h
  split at h
  · rename_i g
    obtain ⟨p, hp, h⟩ := Option.map_eq_some_iff.1 h
    have h2 := tx_s hp
    obtain ⟨a, ha⟩ := pre_iff.1 g
    cases h
    rw [List.drop_drop] at h2
    have h3 : r = 34 :: r.drop 1 := by rw [← ha]; rfl
    rw [Nat.add_comm]
    conv => lhs; rw [h3, h2]
    rw [quoL]
    simp
  · cases h

end Go.Proofs.YtfcfgbejpcmmkaaDoor

/- Layer 3: a line that was read is written again. -/

namespace Go.Proofs.YtfcfgbejpcmmkaaDoor
open Go.Dbr
set_option maxRecDepth 100000
set_option maxHeartbeats 2000000
set_option linter.unusedVariables false
set_option linter.unusedSimpArgs false

theorem pr_s {ah : List RPair} {s : Bs} {k : Nat} {x : RPair} {e : Nat} (h : rdPr ah s k = some (x, e)) : 32 :: List.drop k s = sayD x ++ List.drop e s ∧ keyB x.1 ah = true := by
  unfold rdPr at h
  cases hw : wdB false (List.drop k s) with
  | true => rw [hw, if_pos rfl] at h; cases h
  | false =>
    rw [hw, if_neg (by decide)] at h
    split at h
    · cases h
    · rename_i g
      have g2 := Classical.not_not.1 g
      have hs := wd_s hw
      have e1 : List.drop k s = wdV false (List.drop k s) ++ List.drop (k + runN (List.drop k s)) s := by rw [← List.drop_drop]; exact hs.1
      cases ht : tkB false [61] (List.drop (k + runN (List.drop k s)) s) with
      | true => rw [ht, if_pos rfl] at h; cases h
      | false =>
        rw [ht, if_neg (by decide)] at h
        have e2 : List.drop (k + runN (List.drop k s)) s = [61] ++ List.drop (k + runN (List.drop k s) + 1) s := tk_s ht
        split at h
        · obtain ⟨p, hp, h⟩ := Option.map_eq_some_iff.1 h
          have e3 := rs_s (t := p.1) (n := p.2) hp
          rw [List.drop_drop] at e3
          cases h
          refine ⟨?_, g2.2⟩
          rw [sayD, saysT]
          show _ = 32 :: (wdV false (List.drop k s) ++ [61]) ++ quoL p.1 ++ _
          conv => lhs; rw [e1, e2, e3]
          simp
        · split at h
          · cases h
          · rename_i hn
            have hn2 := Bool.eq_false_iff.2 hn
            have e3 := num_s hn2
            rw [List.drop_drop] at e3
            cases h
            refine ⟨?_, g2.2⟩
            rw [sayD, saysT]
            show _ = 32 :: (wdV false (List.drop k s) ++ [61]) ++ decL (UInt64.toNat (numV false (List.drop (k + runN (List.drop k s) + 1) s))) ++ _
            conv => lhs; rw [e1, e2, e3]
            simp
theorem ps_all : ∀ {f : Nat} {ah ps : List RPair} {s : Bs} {k : Nat}, rdPs f ah s k = some ps → ah.length ≤ 16 → ∃ qs, ps = ah ++ qs ∧ List.drop k s = qs.flatMap sayD ∧ keysF ah qs = true ∧ ps.length ≤ 16
  | 0, ah, ps, s, k, h, _ => by cases h
  | f + 1, ah, ps, s, k, h, h16 => by
    rw [rdPs] at h
    split at h
    · rename_i hk
      cases ht : tkB false [32] (List.drop k s) with
      | true => rw [ht, if_pos rfl] at h; cases h
      | false =>
        rw [ht, if_neg (by decide), Option.bind_eq_some_iff] at h
        obtain ⟨z, hz, h⟩ := h
        have h1 := pr_s (x := z.1) (e := z.2) hz
        have h2 := pr_gt hz
        obtain ⟨qs, e1, e2, e3, e4⟩ := ps_all h (by simp only [List.length_append, List.length_cons, List.length_nil]; omega)
        refine ⟨z.1 :: qs, by rw [e1]; simp, ?_, ?_, e4⟩
        · rw [tk_s ht, List.flatMap_cons, ← e2]
          exact h1.1
        · rw [keysF, h1.2, e3]; rfl
    · rename_i hk
      cases h
      exact ⟨[], by simp, by rw [List.drop_of_length_le (by omega)]; rfl, rfl, h16⟩
theorem say_len (x : RPair) : x.2.1 = false → x.2.2.2.1.length + 2 ≤ (sayD x).length := (says_len x x.2.2.2.1).2.2
theorem doc_sum : ∀ {xs : List RPair} {acc : Bs}, (acc ++ xs.flatMap sayD).length ≤ 1024 → docE acc xs = (acc ++ xs.flatMap sayD, 0)
  | [], acc, h => by
    rw [List.flatMap_nil, List.append_nil] at h ⊢
    rw [docE, if_neg (by omega)]
  | x :: r, acc, h => by
    rw [List.flatMap_cons, ← List.append_assoc] at h ⊢
    have h1 := say_len x
    have h2 : (acc ++ sayD x).length ≤ 1024 := by rw [List.length_append] at h; omega
    rw [List.length_append] at h2
    rw [docE, if_neg (fun g => by have := h1 g.1; omega)]
    exact doc_sum h
theorem line_s {s : Bs} {t : UInt64} {ev : Bs} {ps : List RPair} (h : rdL s = some (t, ev, ps)) : encL t ev ps = (s, 0) := by
  unfold rdL at h
  split at h
  · cases h
  · rename_i h0
    cases h1 : tkB false [116, 61] (List.drop 0 s) with
    | true => rw [h1, if_pos rfl] at h; cases h
    | false =>
      rw [h1, if_neg (by decide)] at h
      cases h2 : nmB false (List.drop (0 + 2) s) with
      | true => rw [h2, if_pos rfl] at h; cases h
      | false =>
        rw [h2, if_neg (by decide)] at h
        cases h3 : tkB false [32, 101, 118, 61] (List.drop (p2 s) s) with
        | true => rw [h3, if_pos rfl] at h; cases h
        | false =>
          rw [h3, if_neg (by decide)] at h
          cases h4 : wdB false (List.drop (p2 s + 4) s) with
          | true => rw [h4, if_pos rfl] at h; cases h
          | false =>
            rw [h4, if_neg (by decide)] at h
            obtain ⟨qs, hq, h⟩ := Option.map_eq_some_iff.1 h
            obtain ⟨rs, e1, e2, e3, e4⟩ := ps_all hq (by decide)
            rw [List.nil_append] at e1
            subst e1
            cases h
            have w := wd_s h4
            have a1 : List.drop 0 s = [116, 61] ++ List.drop (0 + 2) s := tk_s h1
            have a2 := num_s h2
            have a3 : List.drop (p2 s) s = [32, 101, 118, 61] ++ List.drop (p2 s + 4) s := tk_s h3
            rw [List.drop_drop] at a2
            have a4 : List.drop (p2 s + 4) s = wdV false (List.drop (p2 s + 4) s) ++ List.drop (p2 s + 4 + runN (List.drop (p2 s + 4) s)) s := by have h9 := w.1; rw [List.drop_drop] at h9; exact h9
            have hs : s = headL (numV false (List.drop (0 + 2) s)) (wdV false (List.drop (p2 s + 4) s)) ++ ps.flatMap sayD := by
              rw [List.drop_zero] at a1
              conv => lhs; rw [a1, a2, show 0 + 2 + nDg (List.drop (0 + 2) s) = p2 s from rfl, a3, a4, e2]
              rw [headL]
              simp
            rw [encd_ok w.2 e4 e3, doc_sum (by rw [← hs]; omega), ← hs]

end Go.Proofs.YtfcfgbejpcmmkaaDoor

/- Layer 3: a line that was written is read. -/

namespace Go.Proofs.YtfcfgbejpcmmkaaDoor
open Go.Dbr
set_option maxRecDepth 100000
set_option maxHeartbeats 2000000
set_option linter.unusedVariables false
set_option linter.unusedSimpArgs false

def stops (p : UInt8 → Bool) (r : Bs) : Prop := r = [] ∨ ∃ c t, r = c :: t ∧ p c = false
theorem tw {p : UInt8 → Bool} {r : Bs} (hr : stops p r) : ∀ {l : Bs}, l.all p = true → (l ++ r).takeWhile p = l
  | [], _ => by
    rcases hr with rfl | ⟨c, t, rfl, h⟩
    · rfl
    · rw [List.nil_append, List.takeWhile_cons_of_neg (by rw [h]; decide)]
  | a :: l, h => by
    rw [List.all_cons, Bool.and_eq_true] at h
    rw [List.cons_append, List.takeWhile_cons_of_pos h.1, tw hr h.2]
theorem dg_of {i : Nat} (h : i < 10) : dgB (UInt8.ofNat (48 + i)) = true ∧ (UInt8.ofNat (48 + i)).toNat = 48 + i := by
  have : ∀ n : Fin 10, dgB (UInt8.ofNat (48 + n.val)) = true ∧ (UInt8.ofNat (48 + n.val)).toNat = 48 + n.val := by decide
  exact this ⟨i, h⟩
theorem dec_all : ∀ (b n : Nat), n < b → (decL n).all dgB = true ∧ valD 0 (decL n) = n ∧ decL n ≠ [] ∧ (1 ≤ n → ¬ (decL n).getD 0 0 = 48)
  | 0, n, h => by omega
  | b + 1, n, h => by
    by_cases h10 : n < 10
    · rw [dd_one h10]
      have := dg_of h10
      refine ⟨by rw [List.all_cons, this.1]; rfl, by rw [val_cons, val_nil, st_def, this.2]; omega, by simp, fun h1 e => ?_⟩
      have h2 := congrArg UInt8.toNat (show UInt8.ofNat (48 + n) = 48 from e)
      rw [this.2] at h2
      have h3 : UInt8.toNat 48 = 48 := rfl
      omega
    · obtain ⟨h1, h2, h3, h4⟩ := dec_all b (n / 10) (by omega)
      have hd := dg_of (show n % 10 < 10 by omega)
      rw [dd_more h10]
      refine ⟨by rw [List.all_append, h1, List.all_cons, hd.1]; rfl, by rw [val_snoc, h2, hd.2]; omega, by simp, fun _ => ?_⟩
      have h5 := h4 (by omega)
      cases hq : decL (n / 10) with
      | nil => exact absurd hq h3
      | cons a r => rw [hq] at h5; exact h5
theorem num_c {n : UInt64} {rest : Bs} (hr : stops dgB rest) : nmB false (decL (UInt64.toNat n) ++ rest) = false ∧ nDg (decL (UInt64.toNat n) ++ rest) = (decL (UInt64.toNat n)).length := by
  obtain ⟨h1, h2, h3, h4⟩ := dec_all _ _ (Nat.lt_succ_self (UInt64.toNat n))
  have e : nDg (decL (UInt64.toNat n) ++ rest) = (decL (UInt64.toNat n)).length := by rw [nDg, tw hr h1]
  have hpos := List.length_pos_iff.2 h3
  refine ⟨?_, e⟩
  have hok : numOk (decL (UInt64.toNat n) ++ rest) = true := by
    refine num_y (by omega) (fun q => ?_) ?_
    · rw [e] at q
      refine h4 ?_ ?_
      · by_cases h0 : UInt64.toNat n < 10
        · rw [dd_one h0] at q; simp at q
        · omega
      · rw [← q.2]
        cases hq : decL (UInt64.toNat n) with
        | nil => exact absurd hq h3
        | cons a r => rfl
    · rw [e, List.take_left, h2]
      exact UInt64.toNat_lt n
  rw [nmB, hok]; rfl
theorem wd_c {w rest : Bs} (hw : wordB w = true) (hr : stops letB rest) : wdB false (w ++ rest) = false ∧ wdV false (w ++ rest) = w ∧ runN (w ++ rest) = w.length := by
  have ha : w.all letB = true := by rw [wordB, Bool.and_eq_true] at hw; exact hw.2
  have e : runN (w ++ rest) = w.length := by rw [runN, tw hr ha]
  have hb : wdB false (w ++ rest) = false := by rw [wdB, e, List.take_left, hw]; rfl
  exact ⟨hb, by rw [wdV, hb, e, List.take_left]; rfl, e⟩
theorem tk_c {wd rest : Bs} : tkB false wd (wd ++ rest) = false := by
  rw [tkB, pre_iff.2 ⟨rest, rfl⟩]; rfl
theorem esc_c {c : UInt8} {rest : Bs} (hp : ¬ plB c = true) : ∃ j, escB c = 92 :: (escB c).drop 1 ∧ rdEsc ((escB c).drop 1 ++ rest) = some (c, j) ∧ (escB c).length = 1 + j := by
  by_cases h : c = 34 ∨ c = 92
  · rw [esc_q h]
    exact ⟨1, rfl, esc_1 (by simp) h, rfl⟩
  · rw [esc_h hp h]
    have hc := UInt8.toNat_lt c
    have h1 := d_hx (c.toNat / 16) (by omega)
    have h2 := d_hx (c.toNat % 16) (by omega)
    have hv : hvN (120 :: hexD (c.toNat / 16) :: hexD (c.toNat % 16) :: rest) = c.toNat := by
      show (hxV (hexD (c.toNat / 16))).toNat * 16 + (hxV (hexD (c.toNat % 16))).toNat = _
      rw [h1, h2]; omega
    have hn : ¬ (32 ≤ c.toNat ∧ c.toNat < 127) := fun g => hp (decide_eq_true ⟨g.1, g.2, fun e => h (.inl (UInt8.toNat_inj.1 e)), fun e => h (.inr (UInt8.toNat_inj.1 e))⟩)
    refine ⟨3, rfl, ?_, rfl⟩
    show rdEsc (120 :: hexD (c.toNat / 16) :: hexD (c.toNat % 16) :: rest) = _
    rw [esc_3 (r := 120 :: hexD (c.toNat / 16) :: hexD (c.toNat % 16) :: rest) (by show ¬ ((120 : UInt8) = 34 ∨ (120 : UInt8) = 92); decide) ⟨rfl, by simp, by show 0 ≤ hxV (hexD (c.toNat / 16)); rw [h1]; omega, by show 0 ≤ hxV (hexD (c.toNat % 16)); rw [h2]; omega, by rw [hv]; exact hn⟩, hv]
    simp
theorem tx_c {rest : Bs} : ∀ (t : Bs), rdT (t.flatMap escB ++ (34 :: rest)) = some (t, (t.flatMap escB).length + 1)
  | [] => t_q (by simp) rfl
  | c :: t => by
    have ih := tx_c (rest := rest) t
    rw [List.flatMap_cons, List.append_assoc]
    by_cases hp : plB c = true
    · rw [esc_p hp]
      rw [t_p (r := [c] ++ (List.flatMap escB t ++ 34 :: rest)) (by simp) hp]
      show (rdT (List.flatMap escB t ++ 34 :: rest)).map _ = _
      rw [ih]
      simp [Nat.add_comm, Nat.add_left_comm]
      rfl
    · obtain ⟨j, h1, h2, h3⟩ := esc_c (rest := List.flatMap escB t ++ 34 :: rest) hp
      have hd : List.drop 1 (escB c ++ (List.flatMap escB t ++ 34 :: rest)) = (escB c).drop 1 ++ (List.flatMap escB t ++ 34 :: rest) := by rw [List.drop_append_of_le_length (by omega)]
      rw [t_e (r := escB c ++ (List.flatMap escB t ++ 34 :: rest)) (by rw [List.length_append]; omega) (by rw [h1]; rfl), hd, h2]
      simp only [Option.bind_some]
      have hd2 : List.drop (1 + j) (escB c ++ (List.flatMap escB t ++ 34 :: rest)) = List.flatMap escB t ++ 34 :: rest := by rw [← h3]; exact List.drop_left
      rw [hd2, ih]
      simp [h3, Nat.add_comm, Nat.add_left_comm]
      omega
theorem rs_c {t rest : Bs} : rdS false (quoL t ++ rest) = some (t, (quoL t).length) := by
  have hp : ([34] : Bs).isPrefixOf (quoL t ++ rest) = true := pre_iff.2 ⟨List.flatMap escB t ++ [34] ++ rest, rfl⟩
  rw [rdS, if_neg (by decide), if_pos hp]
  have hd : List.drop 1 (quoL t ++ rest) = t.flatMap escB ++ (34 :: rest) := by rw [quoL]; simp
  rw [hd, tx_c, quoL]
  simp
theorem fd_map {k : Bs} : ∀ {xs ys : List RPair}, xs.map (·.1) = ys.map (·.1) → fdN k xs = fdN k ys
  | [], [], _ => rfl
  | [], y :: ys, h => by simp at h
  | x :: xs, [], h => by simp at h
  | x :: xs, y :: ys, h => by
    simp only [List.map_cons, List.cons.injEq] at h
    rw [fdN, fdN, h.1, fd_map h.2]
theorem key_map {k : Bs} {xs ys : List RPair} (h : xs.map (·.1) = ys.map (·.1)) : keyB k xs = keyB k ys := by
  have hl : xs.length = ys.length := by have := congrArg List.length h; simpa using this
  rw [keyB, keyB, hasK, hasK, fd_map h, hl]
theorem stops_32 {p : UInt8 → Bool} (hp : p 32 = false) {rest : Bs} (h : rest = [] ∨ ∃ t, rest = 32 :: t) : stops p rest := by
  rcases h with h | ⟨t, h⟩
  · exact .inl h
  · exact .inr ⟨32, t, h, hp⟩
theorem key_word {k : Bs} {ps : List RPair} (h : keyB k ps = true) : wordB k = true := by
  unfold keyB at h
  simp only [Bool.and_eq_true] at h
  exact h.1.1.1
theorem pr_c {ah ah2 : List RPair} {s rest : Bs} {k : Nat} {x : RPair} (h : 32 :: List.drop k s = sayD x ++ rest) (hk : keyB x.1 ah = true) (hm : ah2.map (·.1) = ah.map (·.1)) (hl : ah2.length < 16) (hr : rest = [] ∨ ∃ t, rest = 32 :: t) : ∃ x2 e, rdPr ah2 s k = some (x2, e) ∧ x2.1 = x.1 ∧ List.drop e s = rest := by
  have hw := key_word hk
  obtain ⟨v, hv⟩ : ∃ v : Bs, v = (if x.2.1 then decL (UInt64.toNat x.2.2.1) else quoL x.2.2.2.1) := ⟨_, rfl⟩
  have e0 : List.drop k s = x.1 ++ (61 :: (v ++ rest)) := by
    rw [sayD, saysT, ← hv] at h
    simpa using h
  have s61 : stops letB (61 :: (v ++ rest)) := .inr ⟨61, _, rfl, by decide⟩
  obtain ⟨w1, w2, w3⟩ := wd_c hw s61
  rw [← e0] at w1 w2 w3
  have e1 : List.drop (k + runN (List.drop k s)) s = 61 :: (v ++ rest) := by rw [← List.drop_drop, w3, e0, List.drop_left]
  have e2 : List.drop (k + runN (List.drop k s) + 1) s = v ++ rest := by rw [← List.drop_drop (i := 1), e1]; rfl
  have g : ah2.length < 16 ∧ keyB (wdV false (List.drop k s)) ah2 = true := ⟨hl, by rw [w2, key_map hm]; exact hk⟩
  have t1 : tkB false [61] (List.drop (k + runN (List.drop k s)) s) = false := by rw [e1]; exact tk_c (wd := [61])
  cases hb : x.2.1 with
  | false =>
    rw [hb, if_neg (by decide)] at hv
    have q : ([34] : Bs).isPrefixOf (List.drop (k + runN (List.drop k s) + 1) s) = true := by rw [e2, hv]; exact pre_iff.2 ⟨List.flatMap escB x.2.2.2.1 ++ [34] ++ rest, rfl⟩
    have hz : rdPr ah2 s k = some ((wdV false (List.drop k s), false, 0, x.2.2.2.1, ()), k + runN (List.drop k s) + 1 + (quoL x.2.2.2.1).length) := by rw [pr_v w1 g t1 q, e2, hv, rs_c]; rfl
    refine ⟨_, _, hz, w2, ?_⟩
    · show List.drop (k + runN (List.drop k s) + 1 + (quoL x.2.2.2.1).length) s = rest
      rw [← List.drop_drop, e2, hv, List.drop_left]
  | true =>
    rw [hb, if_pos rfl] at hv
    have hc := num_c (n := x.2.2.1) (stops_32 (p := dgB) (by decide) hr)
    rw [← hv, ← e2] at hc
    have q : ¬ ([34] : Bs).isPrefixOf (List.drop (k + runN (List.drop k s) + 1) s) = true := by
      rw [e2, hv]
      obtain ⟨h1, _, h3, _⟩ := dec_all _ _ (Nat.lt_succ_self (UInt64.toNat x.2.2.1))
      intro hq
      obtain ⟨a, ha⟩ := pre_iff.1 hq
      cases hd : decL (UInt64.toNat x.2.2.1) with
      | nil => exact h3 hd
      | cons c r =>
        rw [hd, List.all_cons, Bool.and_eq_true] at h1
        rw [hd] at ha
        have : (34 : UInt8) = c := by have := congrArg (fun l : Bs => l.getD 0 0) ha; exact this
        rw [← this] at h1
        exact absurd h1.1 (by decide)
    have hz : rdPr ah2 s k = some ((wdV false (List.drop k s), true, numV false (List.drop (k + runN (List.drop k s) + 1) s), [], ()), k + runN (List.drop k s) + 1 + nDg (List.drop (k + runN (List.drop k s) + 1) s)) := by rw [pr_n w1 g t1 q, if_neg (by rw [hc.1]; decide)]
    refine ⟨_, _, hz, w2, ?_⟩
    · show List.drop (k + runN (List.drop k s) + 1 + nDg (List.drop (k + runN (List.drop k s) + 1) s)) s = rest
      rw [← List.drop_drop, hc.2, e2, hv, List.drop_left]
theorem say_32 (x : RPair) : ∃ t, sayD x = 32 :: t := ⟨_, rfl⟩
theorem ps_c : ∀ {qs : List RPair} {f : Nat} {ah ah2 : List RPair} {s : Bs} {k : Nat}, List.drop k s = qs.flatMap sayD → keysF ah qs = true → ah2.map (·.1) = ah.map (·.1) → ah2.length + qs.length ≤ 16 → s.length < k + f → 1 ≤ f → rdPs f ah2 s k ≠ none
  | _, 0, _, _, _, _, _, _, _, _, _, h1f => absurd h1f (by decide)
  | [], f + 1, ah, ah2, s, k, h, hk, hm, hl, hf, _ => by
    have hn : ¬ k < s.length := by
      have := congrArg List.length h
      rw [List.length_drop] at this
      simp at this
      omega
    rw [rdPs, if_neg hn]
    simp
  | x :: r, f + 1, ah, ah2, s, k, h, hk, hm, hl, hf, _ => by
    rw [List.flatMap_cons] at h
    rw [keysF, Bool.and_eq_true] at hk
    obtain ⟨t, ht⟩ := say_32 x
    have hd : List.drop k s = 32 :: List.drop (k + 1) s := by
      rw [← List.drop_drop, h, ht]; rfl
    have hlt : k < s.length := by
      have := congrArg List.length hd
      rw [List.length_drop] at this
      simp at this
      omega
    have hr : r.flatMap sayD = [] ∨ ∃ t, r.flatMap sayD = 32 :: t := by
      cases r with
      | nil => exact .inl rfl
      | cons y q => exact .inr ⟨_, by rw [List.flatMap_cons, (say_32 y).choose_spec]; rfl⟩
    obtain ⟨x2, e, h1, h2, h3⟩ := pr_c (k := k + 1) (ah2 := ah2) (by rw [← hd]; exact h) hk.1 hm (by simp only [List.length_cons] at hl; omega) hr
    have h4 := (pr_gt h1).1
    have ht0 : tkB false [32] (List.drop k s) = false := by rw [hd]; exact tk_c (wd := [32])
    rw [rdPs, if_pos hlt, if_neg (by rw [ht0]; decide), h1]
    exact ps_c (ah := ah ++ [x]) h3 hk.2 (by rw [List.map_append, List.map_append, hm]; simp [h2]) (by simp only [List.length_append, List.length_cons, List.length_nil] at *; omega) (by show s.length < e + f; have : k + 1 < e := h4; omega) (by omega)
theorem doc_total : ∀ {xs : List RPair} {acc T : Bs}, docE acc xs = (T, 0) → T = acc ++ xs.flatMap sayD ∧ (acc ++ xs.flatMap sayD).length ≤ 1024
  | [], acc, T, h => by
    rw [docE] at h
    split at h
    · cases h
    · cases h; rw [List.flatMap_nil, List.append_nil]; exact ⟨rfl, by omega⟩
  | x :: r, acc, T, h => by
    rw [docE] at h
    split at h
    · cases h
    · have := doc_total h
      rw [List.flatMap_cons, ← List.append_assoc]
      exact this
theorem line_c {t : UInt64} {ev T : Bs} {xs : List RPair} (h : encL t ev xs = (T, 0)) : rdL T ≠ none ∧ T.length ≤ 1024 := by
  have h1 : wordB ev = true := Decidable.byContradiction fun g => by rw [enc_31 g] at h; cases h
  have h2 : xs.length ≤ 16 := Decidable.byContradiction fun g => by rw [enc_2 h1 (by omega)] at h; cases h
  have h3 : keysF [] xs = true := Decidable.byContradiction fun g => by rw [enc_k h1 h2 (Bool.eq_false_iff.2 g)] at h; cases h
  rw [encd_ok h1 h2 h3] at h
  obtain ⟨rfl, hlen⟩ := doc_total h
  refine ⟨?_, hlen⟩
  have hr : xs.flatMap sayD = [] ∨ ∃ t, xs.flatMap sayD = 32 :: t := by
    cases xs with
    | nil => exact .inl rfl
    | cons y q => exact .inr ⟨_, by rw [List.flatMap_cons, (say_32 y).choose_spec]; rfl⟩
  obtain ⟨T, hT⟩ : ∃ T : Bs, T = headL t ev ++ xs.flatMap sayD := ⟨_, rfl⟩
  rw [← hT] at hlen ⊢
  have a0 : List.drop 0 T = [116, 61] ++ (decL (UInt64.toNat t) ++ (([32, 101, 118, 61] : Bs) ++ (ev ++ xs.flatMap sayD))) := by rw [List.drop_zero, hT, headL]; simp
  have a1 : List.drop (0 + 2) T = decL (UInt64.toNat t) ++ (([32, 101, 118, 61] : Bs) ++ (ev ++ xs.flatMap sayD)) := by rw [← List.drop_drop, a0]; rfl
  have nc := num_c (n := t) (rest := ([32, 101, 118, 61] : Bs) ++ (ev ++ xs.flatMap sayD)) (.inr ⟨32, _, rfl, by decide⟩)
  rw [← a1] at nc
  have a2 : List.drop (p2 T) T = ([32, 101, 118, 61] : Bs) ++ (ev ++ xs.flatMap sayD) := by rw [p2, ← List.drop_drop, nc.2, a1, List.drop_left]
  have a3 : List.drop (p2 T + 4) T = ev ++ xs.flatMap sayD := by rw [← List.drop_drop, a2]; rfl
  have wc := wd_c h1 (stops_32 (p := letB) (by decide) hr)
  rw [← a3] at wc
  have a4 : List.drop (p2 T + 4 + runN (List.drop (p2 T + 4) T)) T = xs.flatMap sayD := by rw [← List.drop_drop, wc.2.2, a3, List.drop_left]
  rw [l_5 hlen (by rw [a0]; exact tk_c) nc.1 (by rw [a2]; exact tk_c) wc.1]
  intro hn
  exact ps_c (ah := []) (ah2 := []) a4 h3 rfl (by simpa using h2) (by omega) (by omega) (Option.map_eq_none_iff.1 hn)

end Go.Proofs.YtfcfgbejpcmmkaaDoor

/- Layer 3: pairs, counters compared. -/


namespace Go.Proofs.YtfcfgbejpcmmkaaDoor
open Go.Dbr
set_option maxRecDepth 100000
set_option maxHeartbeats 2000000
set_option linter.unusedVariables false
set_option linter.unusedSimpArgs false

end Go.Proofs.YtfcfgbejpcmmkaaDoor

/- LogsBack: the walk. -/


namespace Go.Proofs.YtfcfgbejpcmmkaaDoor
open Go.Dbr
set_option maxRecDepth 100000
set_option maxHeartbeats 2000000
set_option linter.unusedVariables false
set_option linter.unusedSimpArgs false

theorem parse_no (w : World) (s : Bs) (hs0 : List.length s ≤ 140737488351232) (ge : InE w []) (h : rdL s = none) : Calls Tryd.prog 9 #[.string (bstr s)] w fun e w' => ∃ (p : Nat) (er : Int), e = .returned (.tuple #[.agg #[.int .u64 0, .string (bstr []), .slice none 0 0], ni p, .int .i64 er]) ∧ Ev w [] w' [] ∧ er ≠ 0 ∧ p ≤ List.length s := by
  refine (parse_go w s hs0 ge).mono ?_
  rintro e w' (⟨_, p, er, h1, h2, h3, h4⟩ | ⟨t, ev, ps, a, c, h1, _⟩)
  · exact ⟨p, er, h3, h4, h1, h2⟩
  · rw [h] at h1; cases h1
theorem parse_yes (w : World) (s : Bs) (hs0 : List.length s ≤ 140737488351232) (ge : InE w []) (t : UInt64) (ev : Bs) (ps : List RPair) (h : rdL s = some (t, ev, ps)) : Calls Tryd.prog 9 #[.string (bstr s)] w fun e w' => ∃ (a' : Option Addr) (c' : Nat), e = .returned (.tuple #[.agg #[uv64 t, .string (bstr ev), .slice a' (List.length ps) c'], .int .i64 0, .int .i64 0]) ∧ Ev w [] w' [.vec a' c' 4 (List.flatMap fPair ps) 35] ∧ okA ps ∧ ps.length ≤ 16 ∧ ev.length ≤ 32 := by
  refine (parse_go w s hs0 ge).mono ?_
  rintro e w' (⟨h1, _⟩ | ⟨t1, ev1, ps1, a, c, h1, h2, h3, h4, h5, h6⟩)
  · rw [h] at h1; cases h1
  · rw [h] at h1
    cases h1
    exact ⟨a, c, h2, h3, h4, h5, h6⟩
theorem enc_y (w : World) (t : UInt64) (ev : Bs) (hev : List.length ev ≤ 140737488351232) (al : Option Addr) (cl : Nat) (xs : List RPair) (il : InS fPair 48 (fun y : RPair => ((List.length y.1 ≤ 140737488351232) ∧ (True ∧ (True ∧ ((List.length y.2.2.2.1 ≤ 140737488351232) ∧ (True)))))) w [] al cl xs) (gt : InT w []) (T : Bs) (h : encL t ev xs = (T, 0)) : Calls Tryd.prog 8 #[.agg #[uv64 t, .string (bstr ev), .slice al (List.length xs) cl]] w fun e w' => e = .returned (.tuple #[.string (bstr T), .int .i64 0]) ∧ Ev w [] w' [] := by
  have h1 := enc_go w t ev hev al cl xs il gt
  rw [h] at h1
  exact h1
theorem enc_pair {t : UInt64} {ev : Bs} {xs : List RPair} (h : (encL t ev xs).2 = 0) : encL t ev xs = ((encL t ev xs).1, 0) := by rw [← h]

theorem back_walk (lia : UInt64) (lib : List UInt8) (a_lic : Option Addr) (c_lic : Nat) (lic : List (RPair)) (sx : List UInt8) (cu : UInt16) (w : World) (s_lib : (List.length lib ≤ 140737488351232)) (i_lic : InS fPair 48 (fun x : RPair => ((List.length x.1 ≤ 140737488351232) ∧ (True ∧ (True ∧ ((List.length x.2.2.2.1 ≤ 140737488351232) ∧ (True)))))) w [] a_lic c_lic lic) (s_sx : (List.length sx ≤ 140737488351232)) (ge : InE w []) : Calls Tryd.prog 3 #[.agg #[uv64 lia, .string (bstr lib), .slice a_lic (List.length lic) c_lic], .string (bstr sx), uv16 cu] w fun e w' => e = .returned (.bool true) ∧ Ev w [] w' [] := by
 refine d_0 [(0, .agg #[uv64 lia, .string (bstr lib), .slice a_lic (List.length lic) c_lic]), (1, .string (bstr sx)), (2, uv16 cu)] 118 Go.Proofs.Tryd.func3 Go.Proofs.Tryd.ntmps3 (Heap.nil _) fun act0 En0 Hv0 => ?_
 refine wp_seq ?_
 refine region_from ?_
 refine f_o ?_
 refine m_m 25 [uv64 lia, .string (bstr lib), .slice a_lic (List.length lic) c_lic] En0 Hv0 fun ac2 wo3 bk1 En4 Hv5 => ?_
 refine d_e [1,2,3,6] [] En4 fun ac6 En7 => ?_
 refine then_normal ?_
 refine wp_seq ?_
 have gt := ge.t
 have hzs := bstr_size sx
 refine region_from ?_
 refine f_o ?_
 refine c_p En7 Hv5 (head_go _ ((gt.ev Hv5).nil)) fun ac12 wo9 En13 Hv14 => ?_
 refine d_e [1,2,3,6,7] [] En13 fun ac15 En16 => ?_
 refine then_normal ?_
 refine wp_seq ?_
 refine region_from ?_
 refine f_o ?_
 refine m_a 0 0 3 [uv64 lia, .string (bstr lib), .slice a_lic (List.length lic) c_lic] En16 Hv14 rfl rfl rfl fun ac17 En18 => ?_
 refine f_o ?_
 refine c_p En18 Hv14 (enc_go _ lia lib (by first | assumption | omega) a_lic c_lic lic (i_lic.go Hv14 [] (by kernel_rfl) (fun _ h => ⟨h.1, h.2.1, h.2.2.1, h.2.2.2.1, h.2.2.2.2⟩)) ((gt.ev Hv14).nil)) fun ac23 wo20 En24 Hv25 => ?_
 refine d_e [1,2,6,7,8,9] [] En24 fun ac26 En27 => ?_
 refine then_normal ?_
 refine wp_seq ?_
 refine wp_seq ?_
 refine d_r [1,2,6,7,8,27] [] En27 fun ac28 En29 => ?_
 refine then_normal ?_
 refine c_e ((encL lia lib lic).2) (0 : Int) En29 (fun hc30 => ?_) (fun hc30 => ?_)
 ·
  refine wp_seq ?_
  have hE : encL lia lib lic = ((encL lia lib lic).1, 0) := enc_pair (by assumption)
  obtain ⟨hLn, hTl⟩ := line_c hE
  have hzT := bstr_size ((encL lia lib lic).1)
  obtain ⟨⟨t1, ev1, ps1⟩, hL1⟩ : ∃ x, rdL ((encL lia lib lic).1) = some x := Option.ne_none_iff_exists'.1 hLn
  refine region_from ?_
  refine d_k [1,2,6,7,8,29] [] 1 En29 fun ac31 En32 => ?_
  refine f_o ?_
  refine c_0 En32 Hv25 (parse_yes _ ((encL lia lib lic).1) (by omega) ((ge.ev Hv25).nil) t1 ev1 ps1 hL1) ?_
  rintro _ wo36 ⟨ap33, cp34, rfl, he37, h1o, h1n, h1v⟩
  refine ⟨_, _, _, rfl, he37, rfl, fun ac39 En40 Hv41 => ?_⟩
  refine d_k [1,2,6,7,8,31,32,33] [] 6 En40 fun ac42 En43 => ?_
  refine f_o ?_
  refine m_z 25 [.int .u64 0, .string (bstr []), .slice none 0 0] En43 Hv41 fun ac45 wo46 bk44 En47 Hv48 => ?_
  refine f_o ?_
  refine m_g 2 0 3 [uv64 t1, .string (bstr ev1), .slice ap33 (List.length ps1) cp34] [uv64 t1, .string (bstr ev1), .slice ap33 (List.length ps1) cp34] [.vec ap33 cp34 4 (List.flatMap fPair ps1) 35, .box bk1 [uv64 lia, .string (bstr lib), .slice a_lic (List.length lic) c_lic] 25, .box bk44 [uv64 t1, .string (bstr ev1), .slice ap33 (List.length ps1) cp34] 25] En47 Hv48 rfl rfl (by simp) (one_all (by kernel_rfl)) rfl rfl fun ac49 wo50 En51 Hv52 => ?_
  refine d_e [1,2,6,7,8,10,11,12] [] En51 fun ac53 En54 => ?_
  refine then_normal ?_
  refine wp_seq ?_
  refine region_from ?_
  refine f_o ?_
  refine m_a 2 0 3 [uv64 t1, .string (bstr ev1), .slice ap33 (List.length ps1) cp34] En54 Hv52 rfl rfl rfl fun ac55 En56 => ?_
  refine f_o ?_
  refine c_p En56 Hv52 (enc_y _ t1 ev1 (by omega) ap33 cp34 ps1 (Hv52.heap.innS (k := 0) (f := fPair) (sz := 4) (by_ := 48) rfl (fun _ => rfl) (by decide) [] (by kernel_rfl) rfl (by omega) (okA_in h1o)) ((gt.ev Hv52).nil) ((encL lia lib lic).1) (line_s hL1)) fun ac61 wo58 En62 Hv63 => ?_
  refine d_e [1,2,6,7,8,10,11,12,13,14] [] En62 fun ac64 En65 => ?_
  refine then_normal ?_
  refine wp_seq ?_
  refine wp_seq ?_
  refine region_from ?_
  refine d_k [1,2,6,7,8,10,11,12,54] [(13, g_v (show (.bool (!(ByteArray.toList (bstr ((encL lia lib lic).1)) == ByteArray.toList (bstr ((encL lia lib lic).1)))) : Value) = .bool (!(((encL lia lib lic).1) == ((encL lia lib lic).1))) by rw [Go.Dbr.bstr_eq ((encL lia lib lic).1) ((encL lia lib lic).1)] <;> rfl))] 16 En65 fun ac66 En67 => ?_
  rcases Bool.eq_false_or_eq_true (!(((encL lia lib lic).1) == ((encL lia lib lic).1))) with hb68 | hb68
  ·
   have En69 := En67.fx (t := 54) (congrArg Value.bool hb68)
   have hp70 : ((encL lia lib lic).1) ≠ ((encL lia lib lic).1) := by first | exact nb_t hb68 | exact nb_f hb68 | (simp at hb68; done) | (simp; done) | simpa using hb68
   refine d_e [1,2,6,7,8,10,11,12,58] [] En69 fun ac71 En72 => ?_
   refine then_normal ?_
   refine c_t En72 ?_
   refine wp_seq ?_
   refine d_r [1,2,6,7,8,10,11,12] [] En72 fun ac73 En74 => ?_
   refine then_normal ?_
   refine wp_ret ?_
   refine then_ret ?_
   refine then_ret ?_
   refine d_ret1 (t := 6) (v := .bool false) En74 (by kernel_rfl) (by kernel_rfl) ?_
   first | contradiction | omega | (simp_all; done)
  ·
   have En75 := En67.fx (t := 54) (congrArg Value.bool hb68)
   have hp76 : ¬ (((encL lia lib lic).1) ≠ ((encL lia lib lic).1)) := by first | exact nb_t hb68 | exact nb_f hb68 | (simp at hb68; done) | (simp; done) | simpa using hb68
   refine d_e [1,2,6,7,8,10,11,12,58] [] En75 fun ac77 En78 => ?_
   refine then_normal ?_
   refine c_d (((ByteArray.size (bstr ((encL lia lib lic).1)) : Nat) : Int) > (1024 : Int)) En78 (fun hc79 => ?_) (fun hc79 => ?_)
   ·
    refine wp_seq ?_
    refine d_r [1,2,6,7,8,10,11,12] [] En78 fun ac80 En81 => ?_
    refine then_normal ?_
    refine wp_ret ?_
    refine then_ret ?_
    refine then_ret ?_
    refine d_ret1 (t := 6) (v := .bool false) En81 (by kernel_rfl) (by kernel_rfl) ?_
    first | contradiction | omega | (simp_all; done)
   ·
    refine wp_skip ?_
    refine then_normal ?_
    refine wp_seq ?_
    have hml : UInt16.toNat cu % (ByteArray.size (bstr ((encL lia lib lic).1)) + 1) < ByteArray.size (bstr ((encL lia lib lic).1)) + 1 := Nat.mod_lt _ (Nat.succ_pos _)
    have htk : List.length (List.take (UInt16.toNat cu % (ByteArray.size (bstr ((encL lia lib lic).1)) + 1)) ((encL lia lib lic).1)) = UInt16.toNat cu % (ByteArray.size (bstr ((encL lia lib lic).1)) + 1) := by rw [List.length_take]; omega
    rcases hL2 : rdL (List.take (UInt16.toNat cu % (ByteArray.size (bstr ((encL lia lib lic).1)) + 1)) ((encL lia lib lic).1)) with _ | ⟨t2, ev2, ps2⟩
    ·
     refine region_from ?_
     refine d_k [1,2,6,7,8,10,11,12,60,62,65] [(2, g_i .i64 (Go.Dbr.u16_to_i64 (x := cu) rfl)), (5, g_n (w_a (ByteArray.size (bstr ((encL lia lib lic).1))) 1))] 6 En78 fun ac82 En83 => ?_
     refine f_o ?_
     refine q_v En83 (Go.Dbr.run_rem_nat (UInt16.toNat cu) ((ByteArray.size (bstr ((encL lia lib lic).1))) + 1) (by omega) _) fun ac84 En85 => ?_
     refine f_o ?_
     refine q_v (x := Instr.sliceAt 9 (.string (bstr ((encL lia lib lic).1))) none (some (.int .i64 (((UInt16.toNat cu) % ((ByteArray.size (bstr ((encL lia lib lic).1))) + 1) : Nat) : Int))) none) (v := .string (bstr (List.take ((UInt16.toNat cu) % ((ByteArray.size (bstr ((encL lia lib lic).1))) + 1)) ((encL lia lib lic).1)))) En85 (Go.Dbr.run_strto (l := ((encL lia lib lic).1)) (j := ((UInt16.toNat cu) % ((ByteArray.size (bstr ((encL lia lib lic).1))) + 1))) (by kernel_rfl) (by omega) (by omega) _) fun ac86 En87 => ?_
     refine f_o ?_
     refine c_0 En87 Hv63 (parse_no _ (List.take ((UInt16.toNat cu) % ((ByteArray.size (bstr ((encL lia lib lic).1))) + 1)) ((encL lia lib lic).1)) (by omega) ((ge.ev Hv63).nil) hL2) ?_
     rintro _ wo91 ⟨p88, er89, rfl, he92, h2e, h2p⟩
     refine ⟨_, _, _, rfl, he92, rfl, fun ac94 En95 Hv96 => ?_⟩
     refine d_e [1,2,6,7,8,10,11,12] [] En95 fun ac97 En98 => ?_
     refine then_normal ?_
     refine wp_seq ?_
     refine region_from ?_
     refine d_k [1,2,6,7,8,10,11,12,74] [] 3 En98 fun ac99 En100 => ?_
     rcases Bool.eq_false_or_eq_true (er89 != (0 : Int)) with hb101 | hb101
     ·
      have En102 := En100.fx (t := 74) (congrArg Value.bool hb101)
      have hp103 : ¬ (er89 = (0 : Int)) := by first | exact nb_t hb101 | exact nb_f hb101 | (simp at hb101; done) | (simp; done) | simpa using hb101
      refine d_k [1,2,6,7,8,10,11,12,74,75,77,80] [(5, g_i .i64 (Go.Dbr.u16_to_i64 (x := cu) rfl)), (8, g_n (w_a (ByteArray.size (bstr ((encL lia lib lic).1))) 1))] 9 En102 fun ac104 En105 => ?_
      refine f_o ?_
      refine q_v En105 (Go.Dbr.run_rem_nat (UInt16.toNat cu) ((ByteArray.size (bstr ((encL lia lib lic).1))) + 1) (by omega) _) fun ac106 En107 => ?_
      refine d_e [1,2,6,7,8,10,11,12,83] [] En107 fun ac108 En109 => ?_
      refine then_normal ?_
      refine c_d (((p88 : Nat) : Int) > (((UInt16.toNat cu) % ((ByteArray.size (bstr ((encL lia lib lic).1))) + 1) : Nat) : Int)) En109 (fun hc110 => ?_) (fun hc110 => ?_)
      ·
       refine wp_seq ?_
       refine d_r [1,2,6,7,8,10,11,12] [] En109 fun ac111 En112 => ?_
       refine then_normal ?_
       refine wp_ret ?_
       refine then_ret ?_
       refine d_ret1 (t := 6) (v := .bool false) En112 (by kernel_rfl) (by kernel_rfl) ?_
       first | contradiction | omega | (simp_all; done)
      ·
       refine wp_skip ?_
       refine then_normal ?_
       refine wp_seq ?_
       rcases hL3 : rdL (sx) with _ | ⟨t3, ev3, ps3⟩
       ·
        refine region_from ?_
        refine d_k [1,2,6,7,8,10,11,12,85] [] 1 En109 fun ac113 En114 => ?_
        refine f_o ?_
        refine c_0 En114 Hv96 (parse_no _ sx (by omega) ((ge.ev Hv96).nil) hL3) ?_
        rintro _ wo118 ⟨p115, er116, rfl, he119, h3e, h3p⟩
        refine ⟨_, _, _, rfl, he119, rfl, fun ac121 En122 Hv123 => ?_⟩
        refine d_k [1,2,6,7,8,10,11,12,87,88,89] [] 6 En122 fun ac124 En125 => ?_
        refine f_o ?_
        refine m_z 25 [.int .u64 0, .string (bstr []), .slice none 0 0] En125 Hv123 fun ac127 wo128 bk126 En129 Hv130 => ?_
        refine f_o ?_
        refine m_g 3 0 3 [.int .u64 0, .string (bstr []), .slice none 0 0] [.int .u64 0, .string (bstr []), .slice none 0 0] [.vec ap33 cp34 4 (List.flatMap fPair ps1) 35, .box bk1 [uv64 lia, .string (bstr lib), .slice a_lic (List.length lic) c_lic] 25, .box bk44 [uv64 t1, .string (bstr ev1), .slice ap33 (List.length ps1) cp34] 25, .box bk126 [.int .u64 0, .string (bstr []), .slice none 0 0] 25] En129 Hv130 rfl rfl (by simp) (one_all (by kernel_rfl)) rfl rfl fun ac131 wo132 En133 Hv134 => ?_
        refine d_e [1,2,6,7,8,10,11,12,15,16,17] [] En133 fun ac135 En136 => ?_
        refine then_normal ?_
        refine wp_seq ?_
        refine wp_seq ?_
        refine d_r [1,2,6,7,8,10,11,12,15,16,91] [] En136 fun ac137 En138 => ?_
        refine then_normal ?_
        refine c_n er116 (0 : Int) En138 (fun hc139 => ?_) (fun hc139 => ?_)
        ·
         refine wp_seq ?_
         refine region_from ?_
         refine d_k [1,2,6,7,8,10,11,12,15,16,97] [] 6 En138 fun ac140 En141 => ?_
         rcases Bool.eq_false_or_eq_true (decide (((p115 : Nat) : Int) ≥ (0 : Int))) with hb142 | hb142
         ·
          have En143 := En141.fx (t := 97) (congrArg Value.bool hb142)
          have hp144 : ((p115 : Nat) : Int) ≥ (0 : Int) := of_decide_eq_true hb142
          refine d_e [1,2,6,7,8,10,11,12,15] [] En143 fun ac145 En146 => ?_
          refine then_normal ?_
          refine wp_ret ?_
          refine then_ret ?_
          refine d_ret1 (t := 6) (v := .bool (decide (((p115 : Nat) : Int) ≤ ((ByteArray.size (bstr sx) : Nat) : Int)))) En146 (by kernel_rfl) (by kernel_rfl) ?_
          refine ⟨congrArg (fun z => Ending.returned (Value.bool z)) ?_, Hv134.pick [] (by kernel_rfl) (by decide)⟩
          first | rfl | (simp; done) | exact decide_eq_true (by omega)
         ·
          have En147 := En141.fx (t := 97) (congrArg Value.bool hb142)
          have hp148 : ¬ (((p115 : Nat) : Int) ≥ (0 : Int)) := of_decide_eq_false hb142
          refine d_e [1,2,6,7,8,10,11,12,15] [] En147 fun ac149 En150 => ?_
          refine then_normal ?_
          refine wp_ret ?_
          refine then_ret ?_
          refine d_ret1 (t := 6) (v := .bool false) En150 (by kernel_rfl) (by kernel_rfl) ?_
          first | contradiction | omega | (simp_all; done)
        ·
         refine wp_skip ?_
         refine then_normal ?_
         refine wp_seq ?_
         exfalso; first | contradiction | omega | (simp_all; done)
       ·
        refine region_from ?_
        refine d_k [1,2,6,7,8,10,11,12,85] [] 1 En109 fun ac151 En152 => ?_
        refine f_o ?_
        refine c_0 En152 Hv96 (parse_yes _ sx (by omega) ((ge.ev Hv96).nil) t3 ev3 ps3 hL3) ?_
        rintro _ wo156 ⟨ap153, cp154, rfl, he157, h3o, h3n, h3v⟩
        refine ⟨_, _, _, rfl, he157, rfl, fun ac159 En160 Hv161 => ?_⟩
        refine d_k [1,2,6,7,8,10,11,12,87,88,89] [] 6 En160 fun ac162 En163 => ?_
        refine f_o ?_
        refine m_z 25 [.int .u64 0, .string (bstr []), .slice none 0 0] En163 Hv161 fun ac165 wo166 bk164 En167 Hv168 => ?_
        refine f_o ?_
        refine m_g 4 0 3 [uv64 t3, .string (bstr ev3), .slice ap153 (List.length ps3) cp154] [uv64 t3, .string (bstr ev3), .slice ap153 (List.length ps3) cp154] [.vec ap153 cp154 4 (List.flatMap fPair ps3) 35, .vec ap33 cp34 4 (List.flatMap fPair ps1) 35, .box bk1 [uv64 lia, .string (bstr lib), .slice a_lic (List.length lic) c_lic] 25, .box bk44 [uv64 t1, .string (bstr ev1), .slice ap33 (List.length ps1) cp34] 25, .box bk164 [uv64 t3, .string (bstr ev3), .slice ap153 (List.length ps3) cp154] 25] En167 Hv168 rfl rfl (by simp) (one_all (by kernel_rfl)) rfl rfl fun ac169 wo170 En171 Hv172 => ?_
        refine d_e [1,2,6,7,8,10,11,12,15,16,17] [] En171 fun ac173 En174 => ?_
        refine then_normal ?_
        refine wp_seq ?_
        refine wp_seq ?_
        refine d_r [1,2,6,7,8,10,11,12,15,16,91] [] En174 fun ac175 En176 => ?_
        refine then_normal ?_
        refine c_f En176 ?_
        refine wp_skip ?_
        refine then_normal ?_
        refine wp_seq ?_
        refine region_from ?_
        refine f_o ?_
        refine m_a 4 0 3 [uv64 t3, .string (bstr ev3), .slice ap153 (List.length ps3) cp154] En176 Hv172 rfl rfl rfl fun ac177 En178 => ?_
        refine f_o ?_
        refine c_p En178 Hv172 (enc_y _ t3 ev3 (by omega) ap153 cp154 ps3 (Hv172.heap.innS (k := 0) (f := fPair) (sz := 4) (by_ := 48) rfl (fun _ => rfl) (by decide) [] (by kernel_rfl) rfl (by omega) (okA_in h3o)) ((gt.ev Hv172).nil) sx (line_s hL3)) fun ac183 wo180 En184 Hv185 => ?_
        refine d_e [1,2,6,7,8,10,11,12,15,16,18,19] [] En184 fun ac186 En187 => ?_
        refine then_normal ?_
        refine wp_seq ?_
        refine d_r [1,2,6,7,8,10,11,12,15,16] [(8, g_v (show (.bool (ByteArray.toList (bstr sx) == ByteArray.toList (bstr sx)) : Value) = .bool (sx == sx) by rw [Go.Dbr.bstr_eq sx sx] <;> rfl))] En187 fun ac188 En189 => ?_
        refine then_normal ?_
        refine wp_ret ?_
        refine d_ret1 (t := 6) (v := .bool (sx == sx)) En189 (by kernel_rfl) (by kernel_rfl) ?_
        refine ⟨congrArg (fun z => Ending.returned (Value.bool z)) ?_, Hv185.pick [] (by kernel_rfl) (by decide)⟩
        first | rfl | (simp; done) | exact decide_eq_true (by omega)
     ·
      have En190 := En100.fx (t := 74) (congrArg Value.bool hb101)
      have hp191 : er89 = (0 : Int) := by first | exact nb_t hb101 | exact nb_f hb101 | (simp at hb101; done) | (simp; done) | simpa using hb101
      refine d_e [1,2,6,7,8,10,11,12,83] [] En190 fun ac192 En193 => ?_
      refine then_normal ?_
      refine c_f En193 ?_
      refine wp_skip ?_
      refine then_normal ?_
      refine wp_seq ?_
      rcases hL3 : rdL (sx) with _ | ⟨t3, ev3, ps3⟩
      ·
       refine region_from ?_
       refine d_k [1,2,6,7,8,10,11,12,85] [] 1 En193 fun ac194 En195 => ?_
       refine f_o ?_
       refine c_0 En195 Hv96 (parse_no _ sx (by omega) ((ge.ev Hv96).nil) hL3) ?_
       rintro _ wo199 ⟨p196, er197, rfl, he200, h3e, h3p⟩
       refine ⟨_, _, _, rfl, he200, rfl, fun ac202 En203 Hv204 => ?_⟩
       refine d_k [1,2,6,7,8,10,11,12,87,88,89] [] 6 En203 fun ac205 En206 => ?_
       refine f_o ?_
       refine m_z 25 [.int .u64 0, .string (bstr []), .slice none 0 0] En206 Hv204 fun ac208 wo209 bk207 En210 Hv211 => ?_
       refine f_o ?_
       refine m_g 3 0 3 [.int .u64 0, .string (bstr []), .slice none 0 0] [.int .u64 0, .string (bstr []), .slice none 0 0] [.vec ap33 cp34 4 (List.flatMap fPair ps1) 35, .box bk1 [uv64 lia, .string (bstr lib), .slice a_lic (List.length lic) c_lic] 25, .box bk44 [uv64 t1, .string (bstr ev1), .slice ap33 (List.length ps1) cp34] 25, .box bk207 [.int .u64 0, .string (bstr []), .slice none 0 0] 25] En210 Hv211 rfl rfl (by simp) (one_all (by kernel_rfl)) rfl rfl fun ac212 wo213 En214 Hv215 => ?_
       refine d_e [1,2,6,7,8,10,11,12,15,16,17] [] En214 fun ac216 En217 => ?_
       refine then_normal ?_
       refine wp_seq ?_
       refine wp_seq ?_
       refine d_r [1,2,6,7,8,10,11,12,15,16,91] [] En217 fun ac218 En219 => ?_
       refine then_normal ?_
       refine c_n er197 (0 : Int) En219 (fun hc220 => ?_) (fun hc220 => ?_)
       ·
        refine wp_seq ?_
        refine region_from ?_
        refine d_k [1,2,6,7,8,10,11,12,15,16,97] [] 6 En219 fun ac221 En222 => ?_
        rcases Bool.eq_false_or_eq_true (decide (((p196 : Nat) : Int) ≥ (0 : Int))) with hb223 | hb223
        ·
         have En224 := En222.fx (t := 97) (congrArg Value.bool hb223)
         have hp225 : ((p196 : Nat) : Int) ≥ (0 : Int) := of_decide_eq_true hb223
         refine d_e [1,2,6,7,8,10,11,12,15] [] En224 fun ac226 En227 => ?_
         refine then_normal ?_
         refine wp_ret ?_
         refine then_ret ?_
         refine d_ret1 (t := 6) (v := .bool (decide (((p196 : Nat) : Int) ≤ ((ByteArray.size (bstr sx) : Nat) : Int)))) En227 (by kernel_rfl) (by kernel_rfl) ?_
         refine ⟨congrArg (fun z => Ending.returned (Value.bool z)) ?_, Hv215.pick [] (by kernel_rfl) (by decide)⟩
         first | rfl | (simp; done) | exact decide_eq_true (by omega)
        ·
         have En228 := En222.fx (t := 97) (congrArg Value.bool hb223)
         have hp229 : ¬ (((p196 : Nat) : Int) ≥ (0 : Int)) := of_decide_eq_false hb223
         refine d_e [1,2,6,7,8,10,11,12,15] [] En228 fun ac230 En231 => ?_
         refine then_normal ?_
         refine wp_ret ?_
         refine then_ret ?_
         refine d_ret1 (t := 6) (v := .bool false) En231 (by kernel_rfl) (by kernel_rfl) ?_
         first | contradiction | omega | (simp_all; done)
       ·
        refine wp_skip ?_
        refine then_normal ?_
        refine wp_seq ?_
        exfalso; first | contradiction | omega | (simp_all; done)
      ·
       refine region_from ?_
       refine d_k [1,2,6,7,8,10,11,12,85] [] 1 En193 fun ac232 En233 => ?_
       refine f_o ?_
       refine c_0 En233 Hv96 (parse_yes _ sx (by omega) ((ge.ev Hv96).nil) t3 ev3 ps3 hL3) ?_
       rintro _ wo237 ⟨ap234, cp235, rfl, he238, h3o, h3n, h3v⟩
       refine ⟨_, _, _, rfl, he238, rfl, fun ac240 En241 Hv242 => ?_⟩
       refine d_k [1,2,6,7,8,10,11,12,87,88,89] [] 6 En241 fun ac243 En244 => ?_
       refine f_o ?_
       refine m_z 25 [.int .u64 0, .string (bstr []), .slice none 0 0] En244 Hv242 fun ac246 wo247 bk245 En248 Hv249 => ?_
       refine f_o ?_
       refine m_g 4 0 3 [uv64 t3, .string (bstr ev3), .slice ap234 (List.length ps3) cp235] [uv64 t3, .string (bstr ev3), .slice ap234 (List.length ps3) cp235] [.vec ap234 cp235 4 (List.flatMap fPair ps3) 35, .vec ap33 cp34 4 (List.flatMap fPair ps1) 35, .box bk1 [uv64 lia, .string (bstr lib), .slice a_lic (List.length lic) c_lic] 25, .box bk44 [uv64 t1, .string (bstr ev1), .slice ap33 (List.length ps1) cp34] 25, .box bk245 [uv64 t3, .string (bstr ev3), .slice ap234 (List.length ps3) cp235] 25] En248 Hv249 rfl rfl (by simp) (one_all (by kernel_rfl)) rfl rfl fun ac250 wo251 En252 Hv253 => ?_
       refine d_e [1,2,6,7,8,10,11,12,15,16,17] [] En252 fun ac254 En255 => ?_
       refine then_normal ?_
       refine wp_seq ?_
       refine wp_seq ?_
       refine d_r [1,2,6,7,8,10,11,12,15,16,91] [] En255 fun ac256 En257 => ?_
       refine then_normal ?_
       refine c_f En257 ?_
       refine wp_skip ?_
       refine then_normal ?_
       refine wp_seq ?_
       refine region_from ?_
       refine f_o ?_
       refine m_a 4 0 3 [uv64 t3, .string (bstr ev3), .slice ap234 (List.length ps3) cp235] En257 Hv253 rfl rfl rfl fun ac258 En259 => ?_
       refine f_o ?_
       refine c_p En259 Hv253 (enc_y _ t3 ev3 (by omega) ap234 cp235 ps3 (Hv253.heap.innS (k := 0) (f := fPair) (sz := 4) (by_ := 48) rfl (fun _ => rfl) (by decide) [] (by kernel_rfl) rfl (by omega) (okA_in h3o)) ((gt.ev Hv253).nil) sx (line_s hL3)) fun ac264 wo261 En265 Hv266 => ?_
       refine d_e [1,2,6,7,8,10,11,12,15,16,18,19] [] En265 fun ac267 En268 => ?_
       refine then_normal ?_
       refine wp_seq ?_
       refine d_r [1,2,6,7,8,10,11,12,15,16] [(8, g_v (show (.bool (ByteArray.toList (bstr sx) == ByteArray.toList (bstr sx)) : Value) = .bool (sx == sx) by rw [Go.Dbr.bstr_eq sx sx] <;> rfl))] En268 fun ac269 En270 => ?_
       refine then_normal ?_
       refine wp_ret ?_
       refine d_ret1 (t := 6) (v := .bool (sx == sx)) En270 (by kernel_rfl) (by kernel_rfl) ?_
       refine ⟨congrArg (fun z => Ending.returned (Value.bool z)) ?_, Hv266.pick [] (by kernel_rfl) (by decide)⟩
       first | rfl | (simp; done) | exact decide_eq_true (by omega)
    ·
     refine region_from ?_
     refine d_k [1,2,6,7,8,10,11,12,60,62,65] [(2, g_i .i64 (Go.Dbr.u16_to_i64 (x := cu) rfl)), (5, g_n (w_a (ByteArray.size (bstr ((encL lia lib lic).1))) 1))] 6 En78 fun ac271 En272 => ?_
     refine f_o ?_
     refine q_v En272 (Go.Dbr.run_rem_nat (UInt16.toNat cu) ((ByteArray.size (bstr ((encL lia lib lic).1))) + 1) (by omega) _) fun ac273 En274 => ?_
     refine f_o ?_
     refine q_v (x := Instr.sliceAt 9 (.string (bstr ((encL lia lib lic).1))) none (some (.int .i64 (((UInt16.toNat cu) % ((ByteArray.size (bstr ((encL lia lib lic).1))) + 1) : Nat) : Int))) none) (v := .string (bstr (List.take ((UInt16.toNat cu) % ((ByteArray.size (bstr ((encL lia lib lic).1))) + 1)) ((encL lia lib lic).1)))) En274 (Go.Dbr.run_strto (l := ((encL lia lib lic).1)) (j := ((UInt16.toNat cu) % ((ByteArray.size (bstr ((encL lia lib lic).1))) + 1))) (by kernel_rfl) (by omega) (by omega) _) fun ac275 En276 => ?_
     refine f_o ?_
     refine c_0 En276 Hv63 (parse_yes _ (List.take ((UInt16.toNat cu) % ((ByteArray.size (bstr ((encL lia lib lic).1))) + 1)) ((encL lia lib lic).1)) (by omega) ((ge.ev Hv63).nil) t2 ev2 ps2 hL2) ?_
     rintro _ wo280 ⟨ap277, cp278, rfl, he281, h2o, h2n, h2v⟩
     refine ⟨_, _, _, rfl, he281, rfl, fun ac283 En284 Hv285 => ?_⟩
     refine d_e [1,2,6,7,8,10,11,12] [] En284 fun ac286 En287 => ?_
     refine then_normal ?_
     refine wp_seq ?_
     refine d_r [1,2,6,7,8,10,11,12,83] [] En287 fun ac288 En289 => ?_
     refine then_normal ?_
     refine c_f En289 ?_
     refine wp_skip ?_
     refine then_normal ?_
     refine wp_seq ?_
     rcases hL3 : rdL (sx) with _ | ⟨t3, ev3, ps3⟩
     ·
      refine region_from ?_
      refine d_k [1,2,6,7,8,10,11,12,85] [] 1 En289 fun ac290 En291 => ?_
      refine f_o ?_
      refine c_0 En291 Hv285 (parse_no _ sx (by omega) ((ge.ev Hv285).nil) hL3) ?_
      rintro _ wo295 ⟨p292, er293, rfl, he296, h3e, h3p⟩
      refine ⟨_, _, _, rfl, he296, rfl, fun ac298 En299 Hv300 => ?_⟩
      refine d_k [1,2,6,7,8,10,11,12,87,88,89] [] 6 En299 fun ac301 En302 => ?_
      refine f_o ?_
      refine m_z 25 [.int .u64 0, .string (bstr []), .slice none 0 0] En302 Hv300 fun ac304 wo305 bk303 En306 Hv307 => ?_
      refine f_o ?_
      refine m_g 4 0 3 [.int .u64 0, .string (bstr []), .slice none 0 0] [.int .u64 0, .string (bstr []), .slice none 0 0] [.vec ap277 cp278 4 (List.flatMap fPair ps2) 35, .vec ap33 cp34 4 (List.flatMap fPair ps1) 35, .box bk1 [uv64 lia, .string (bstr lib), .slice a_lic (List.length lic) c_lic] 25, .box bk44 [uv64 t1, .string (bstr ev1), .slice ap33 (List.length ps1) cp34] 25, .box bk303 [.int .u64 0, .string (bstr []), .slice none 0 0] 25] En306 Hv307 rfl rfl (by simp) (one_all (by kernel_rfl)) rfl rfl fun ac308 wo309 En310 Hv311 => ?_
      refine d_e [1,2,6,7,8,10,11,12,15,16,17] [] En310 fun ac312 En313 => ?_
      refine then_normal ?_
      refine wp_seq ?_
      refine wp_seq ?_
      refine d_r [1,2,6,7,8,10,11,12,15,16,91] [] En313 fun ac314 En315 => ?_
      refine then_normal ?_
      refine c_n er293 (0 : Int) En315 (fun hc316 => ?_) (fun hc316 => ?_)
      ·
       refine wp_seq ?_
       refine region_from ?_
       refine d_k [1,2,6,7,8,10,11,12,15,16,97] [] 6 En315 fun ac317 En318 => ?_
       rcases Bool.eq_false_or_eq_true (decide (((p292 : Nat) : Int) ≥ (0 : Int))) with hb319 | hb319
       ·
        have En320 := En318.fx (t := 97) (congrArg Value.bool hb319)
        have hp321 : ((p292 : Nat) : Int) ≥ (0 : Int) := of_decide_eq_true hb319
        refine d_e [1,2,6,7,8,10,11,12,15] [] En320 fun ac322 En323 => ?_
        refine then_normal ?_
        refine wp_ret ?_
        refine then_ret ?_
        refine d_ret1 (t := 6) (v := .bool (decide (((p292 : Nat) : Int) ≤ ((ByteArray.size (bstr sx) : Nat) : Int)))) En323 (by kernel_rfl) (by kernel_rfl) ?_
        refine ⟨congrArg (fun z => Ending.returned (Value.bool z)) ?_, Hv311.pick [] (by kernel_rfl) (by decide)⟩
        first | rfl | (simp; done) | exact decide_eq_true (by omega)
       ·
        have En324 := En318.fx (t := 97) (congrArg Value.bool hb319)
        have hp325 : ¬ (((p292 : Nat) : Int) ≥ (0 : Int)) := of_decide_eq_false hb319
        refine d_e [1,2,6,7,8,10,11,12,15] [] En324 fun ac326 En327 => ?_
        refine then_normal ?_
        refine wp_ret ?_
        refine then_ret ?_
        refine d_ret1 (t := 6) (v := .bool false) En327 (by kernel_rfl) (by kernel_rfl) ?_
        first | contradiction | omega | (simp_all; done)
      ·
       refine wp_skip ?_
       refine then_normal ?_
       refine wp_seq ?_
       exfalso; first | contradiction | omega | (simp_all; done)
     ·
      refine region_from ?_
      refine d_k [1,2,6,7,8,10,11,12,85] [] 1 En289 fun ac328 En329 => ?_
      refine f_o ?_
      refine c_0 En329 Hv285 (parse_yes _ sx (by omega) ((ge.ev Hv285).nil) t3 ev3 ps3 hL3) ?_
      rintro _ wo333 ⟨ap330, cp331, rfl, he334, h3o, h3n, h3v⟩
      refine ⟨_, _, _, rfl, he334, rfl, fun ac336 En337 Hv338 => ?_⟩
      refine d_k [1,2,6,7,8,10,11,12,87,88,89] [] 6 En337 fun ac339 En340 => ?_
      refine f_o ?_
      refine m_z 25 [.int .u64 0, .string (bstr []), .slice none 0 0] En340 Hv338 fun ac342 wo343 bk341 En344 Hv345 => ?_
      refine f_o ?_
      refine m_g 5 0 3 [uv64 t3, .string (bstr ev3), .slice ap330 (List.length ps3) cp331] [uv64 t3, .string (bstr ev3), .slice ap330 (List.length ps3) cp331] [.vec ap330 cp331 4 (List.flatMap fPair ps3) 35, .vec ap277 cp278 4 (List.flatMap fPair ps2) 35, .vec ap33 cp34 4 (List.flatMap fPair ps1) 35, .box bk1 [uv64 lia, .string (bstr lib), .slice a_lic (List.length lic) c_lic] 25, .box bk44 [uv64 t1, .string (bstr ev1), .slice ap33 (List.length ps1) cp34] 25, .box bk341 [uv64 t3, .string (bstr ev3), .slice ap330 (List.length ps3) cp331] 25] En344 Hv345 rfl rfl (by simp) (one_all (by kernel_rfl)) rfl rfl fun ac346 wo347 En348 Hv349 => ?_
      refine d_e [1,2,6,7,8,10,11,12,15,16,17] [] En348 fun ac350 En351 => ?_
      refine then_normal ?_
      refine wp_seq ?_
      refine wp_seq ?_
      refine d_r [1,2,6,7,8,10,11,12,15,16,91] [] En351 fun ac352 En353 => ?_
      refine then_normal ?_
      refine c_f En353 ?_
      refine wp_skip ?_
      refine then_normal ?_
      refine wp_seq ?_
      refine region_from ?_
      refine f_o ?_
      refine m_a 5 0 3 [uv64 t3, .string (bstr ev3), .slice ap330 (List.length ps3) cp331] En353 Hv349 rfl rfl rfl fun ac354 En355 => ?_
      refine f_o ?_
      refine c_p En355 Hv349 (enc_y _ t3 ev3 (by omega) ap330 cp331 ps3 (Hv349.heap.innS (k := 0) (f := fPair) (sz := 4) (by_ := 48) rfl (fun _ => rfl) (by decide) [] (by kernel_rfl) rfl (by omega) (okA_in h3o)) ((gt.ev Hv349).nil) sx (line_s hL3)) fun ac360 wo357 En361 Hv362 => ?_
      refine d_e [1,2,6,7,8,10,11,12,15,16,18,19] [] En361 fun ac363 En364 => ?_
      refine then_normal ?_
      refine wp_seq ?_
      refine d_r [1,2,6,7,8,10,11,12,15,16] [(8, g_v (show (.bool (ByteArray.toList (bstr sx) == ByteArray.toList (bstr sx)) : Value) = .bool (sx == sx) by rw [Go.Dbr.bstr_eq sx sx] <;> rfl))] En364 fun ac365 En366 => ?_
      refine then_normal ?_
      refine wp_ret ?_
      refine d_ret1 (t := 6) (v := .bool (sx == sx)) En366 (by kernel_rfl) (by kernel_rfl) ?_
      refine ⟨congrArg (fun z => Ending.returned (Value.bool z)) ?_, Hv362.pick [] (by kernel_rfl) (by decide)⟩
      first | rfl | (simp; done) | exact decide_eq_true (by omega)
 ·
  refine wp_skip ?_
  refine then_normal ?_
  refine wp_seq ?_
  rcases hL3 : rdL (sx) with _ | ⟨t3, ev3, ps3⟩
  ·
   refine region_from ?_
   refine d_k [1,2,6,7,8,85] [] 1 En29 fun ac367 En368 => ?_
   refine f_o ?_
   refine c_0 En368 Hv25 (parse_no _ sx (by omega) ((ge.ev Hv25).nil) hL3) ?_
   rintro _ wo372 ⟨p369, er370, rfl, he373, h3e, h3p⟩
   refine ⟨_, _, _, rfl, he373, rfl, fun ac375 En376 Hv377 => ?_⟩
   refine d_k [1,2,6,7,8,87,88,89] [] 6 En376 fun ac378 En379 => ?_
   refine f_o ?_
   refine m_z 25 [.int .u64 0, .string (bstr []), .slice none 0 0] En379 Hv377 fun ac381 wo382 bk380 En383 Hv384 => ?_
   refine f_o ?_
   refine m_g 1 0 3 [.int .u64 0, .string (bstr []), .slice none 0 0] [.int .u64 0, .string (bstr []), .slice none 0 0] [.box bk1 [uv64 lia, .string (bstr lib), .slice a_lic (List.length lic) c_lic] 25, .box bk380 [.int .u64 0, .string (bstr []), .slice none 0 0] 25] En383 Hv384 rfl rfl (by simp) (one_all (by kernel_rfl)) rfl rfl fun ac385 wo386 En387 Hv388 => ?_
   refine d_e [1,2,6,7,8,15,16,17] [] En387 fun ac389 En390 => ?_
   refine then_normal ?_
   refine wp_seq ?_
   refine wp_seq ?_
   refine d_r [1,2,6,7,8,15,16,91] [] En390 fun ac391 En392 => ?_
   refine then_normal ?_
   refine c_n er370 (0 : Int) En392 (fun hc393 => ?_) (fun hc393 => ?_)
   ·
    refine wp_seq ?_
    refine region_from ?_
    refine d_k [1,2,6,7,8,15,16,97] [] 6 En392 fun ac394 En395 => ?_
    rcases Bool.eq_false_or_eq_true (decide (((p369 : Nat) : Int) ≥ (0 : Int))) with hb396 | hb396
    ·
     have En397 := En395.fx (t := 97) (congrArg Value.bool hb396)
     have hp398 : ((p369 : Nat) : Int) ≥ (0 : Int) := of_decide_eq_true hb396
     refine d_e [1,2,6,7,8,15] [] En397 fun ac399 En400 => ?_
     refine then_normal ?_
     refine wp_ret ?_
     refine then_ret ?_
     refine d_ret1 (t := 6) (v := .bool (decide (((p369 : Nat) : Int) ≤ ((ByteArray.size (bstr sx) : Nat) : Int)))) En400 (by kernel_rfl) (by kernel_rfl) ?_
     refine ⟨congrArg (fun z => Ending.returned (Value.bool z)) ?_, Hv388.pick [] (by kernel_rfl) (by decide)⟩
     first | rfl | (simp; done) | exact decide_eq_true (by omega)
    ·
     have En401 := En395.fx (t := 97) (congrArg Value.bool hb396)
     have hp402 : ¬ (((p369 : Nat) : Int) ≥ (0 : Int)) := of_decide_eq_false hb396
     refine d_e [1,2,6,7,8,15] [] En401 fun ac403 En404 => ?_
     refine then_normal ?_
     refine wp_ret ?_
     refine then_ret ?_
     refine d_ret1 (t := 6) (v := .bool false) En404 (by kernel_rfl) (by kernel_rfl) ?_
     first | contradiction | omega | (simp_all; done)
   ·
    refine wp_skip ?_
    refine then_normal ?_
    refine wp_seq ?_
    exfalso; first | contradiction | omega | (simp_all; done)
  ·
   refine region_from ?_
   refine d_k [1,2,6,7,8,85] [] 1 En29 fun ac405 En406 => ?_
   refine f_o ?_
   refine c_0 En406 Hv25 (parse_yes _ sx (by omega) ((ge.ev Hv25).nil) t3 ev3 ps3 hL3) ?_
   rintro _ wo410 ⟨ap407, cp408, rfl, he411, h3o, h3n, h3v⟩
   refine ⟨_, _, _, rfl, he411, rfl, fun ac413 En414 Hv415 => ?_⟩
   refine d_k [1,2,6,7,8,87,88,89] [] 6 En414 fun ac416 En417 => ?_
   refine f_o ?_
   refine m_z 25 [.int .u64 0, .string (bstr []), .slice none 0 0] En417 Hv415 fun ac419 wo420 bk418 En421 Hv422 => ?_
   refine f_o ?_
   refine m_g 2 0 3 [uv64 t3, .string (bstr ev3), .slice ap407 (List.length ps3) cp408] [uv64 t3, .string (bstr ev3), .slice ap407 (List.length ps3) cp408] [.vec ap407 cp408 4 (List.flatMap fPair ps3) 35, .box bk1 [uv64 lia, .string (bstr lib), .slice a_lic (List.length lic) c_lic] 25, .box bk418 [uv64 t3, .string (bstr ev3), .slice ap407 (List.length ps3) cp408] 25] En421 Hv422 rfl rfl (by simp) (one_all (by kernel_rfl)) rfl rfl fun ac423 wo424 En425 Hv426 => ?_
   refine d_e [1,2,6,7,8,15,16,17] [] En425 fun ac427 En428 => ?_
   refine then_normal ?_
   refine wp_seq ?_
   refine wp_seq ?_
   refine d_r [1,2,6,7,8,15,16,91] [] En428 fun ac429 En430 => ?_
   refine then_normal ?_
   refine c_f En430 ?_
   refine wp_skip ?_
   refine then_normal ?_
   refine wp_seq ?_
   refine region_from ?_
   refine f_o ?_
   refine m_a 2 0 3 [uv64 t3, .string (bstr ev3), .slice ap407 (List.length ps3) cp408] En430 Hv426 rfl rfl rfl fun ac431 En432 => ?_
   refine f_o ?_
   refine c_p En432 Hv426 (enc_y _ t3 ev3 (by omega) ap407 cp408 ps3 (Hv426.heap.innS (k := 0) (f := fPair) (sz := 4) (by_ := 48) rfl (fun _ => rfl) (by decide) [] (by kernel_rfl) rfl (by omega) (okA_in h3o)) ((gt.ev Hv426).nil) sx (line_s hL3)) fun ac437 wo434 En438 Hv439 => ?_
   refine d_e [1,2,6,7,8,15,16,18,19] [] En438 fun ac440 En441 => ?_
   refine then_normal ?_
   refine wp_seq ?_
   refine d_r [1,2,6,7,8,15,16] [(8, g_v (show (.bool (ByteArray.toList (bstr sx) == ByteArray.toList (bstr sx)) : Value) = .bool (sx == sx) by rw [Go.Dbr.bstr_eq sx sx] <;> rfl))] En441 fun ac442 En443 => ?_
   refine then_normal ?_
   refine wp_ret ?_
   refine d_ret1 (t := 6) (v := .bool (sx == sx)) En443 (by kernel_rfl) (by kernel_rfl) ?_
   refine ⟨congrArg (fun z => Ending.returned (Value.bool z)) ?_, Hv439.pick [] (by kernel_rfl) (by decide)⟩
   first | rfl | (simp; done) | exact decide_eq_true (by omega)

end Go.Proofs.YtfcfgbejpcmmkaaDoor

/- What LogsBack's row lists: the table of powers of ten, and the error of a number that is too large. -/





namespace Go.Proofs.YtfcfgbejpcmmkaaDoor
open Go Go.Dbr Go.RowKit Go.ChangeShapes
set_option maxRecDepth 100000
theorem ty10b : (Tryd.prog.globals[0]?).map (·.type) = some 121 := by kernel_rfl
theorem star_es : "*" ++ "errors.errorString" = "*errors.errorString" := by decide
theorem row160 (u : TypeId) (h : Tryd.prog.typeName? 3 u = some "*errors.errorString") : u = 160 :=
  typeName_ptr_named (nm := "errors.errorString") (by rw [star_es]; kernel_rfl) (by kernel_rfl) (by decide) u (by rw [star_es]; exact h)
theorem ine_laid {W : World} (h : laidMetH Tryd.prog Rows.logsBackRow.laid W) : InE W [] := by
  have h2 := laidMet.tail (x := ("math/bits.deBruijn64tab", Rows.laid_math_bits_deBruijn64tab)) (laidMet.tail (x := ("math/bits.deBruijn32tab", Rows.laid_math_bits_deBruijn32tab)) h)
  have h4 := laidMet.tail (x := ("unicode/utf8.acceptRanges", Rows.laid_unicode_utf8_acceptRanges)) (laidMet.tail (x := ("internal/strconv.uint64pow10", Rows.laid_internal_strconv_uint64pow10)) h2)
  obtain ⟨a, s, hv, _⟩ := laid_sentinel (n := "strconv.ErrRange") (nm := "*errors.errorString") (text := [118, 97, 108, 117, 101, 32, 111, 117, 116, 32, 111, 102, 32, 114, 97, 110, 103, 101]) (g := 2) (ti := 64) (tp := 160) (te := 162) (ts := 9) (r := [("strconv.ErrSyntax", Rows.laid_strconv_ErrSyntax), ("unicode/utf8.first", Rows.laid_unicode_utf8_first)]) h4 g2 (by kernel_rfl) Tryd.underlying64 row160 (by kernel_rfl) Tryd.underlying162 rfl rfl (by kernel_rfl) (by kernel_rfl) (by kernel_rfl)
  exact ⟨⟨Lib.tabIs_of_head (n := 20) (e := 22) g0 ty10b (by kernel_rfl) (by kernel_rfl) (by kernel_rfl) (by kernel_rfl) h2, Owns.nil⟩, ⟨160, _, hv⟩, Owns.nil⟩
end Go.Proofs.YtfcfgbejpcmmkaaDoor
