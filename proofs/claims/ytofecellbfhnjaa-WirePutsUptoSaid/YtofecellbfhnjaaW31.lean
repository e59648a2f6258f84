/- Layer 17: both write the same; how much is written. -/
import Derived.Test.YtofecellbfhnjaaW30
namespace Go.Proofs.Ytofecellbfhnjaa
open Go.Dbr
set_option maxRecDepth 100000
set_option maxHeartbeats 2000000
set_option linter.unusedVariables false
set_option linter.unusedSimpArgs false

theorem wd_eq (n x y k : Nat) (bad : Bool) : wbad n x y k bad = (bad || dbad n x y k) := by
  have hm : 0 < 2 ^ (8 * n) := Nat.pow_pos (by decide)
  have h : decide (0 < k / 2 ^ (8 * n)) = decide (2 ^ (8 * n) ≤ k) := decide_eq_decide.2 ⟨fun g => by
    rcases Nat.lt_or_ge k (2 ^ (8 * n)) with g2 | g2
    · rw [Nat.div_eq_of_lt g2] at g; exact absurd g (by decide)
    · exact g2, fun g => Nat.div_pos g hm⟩
  rw [wbad, dbad, h]
theorem dput_f {n x y : Nat} {l b : Bs} (h : dbad n x y b.length = false) : dput n x y l b = wput n l b := by rw [dput, h]; rfl
def LikeW (p d : WS) : Prop := p.2 = d.2 ∧ (p.2 = false → p.1 = d.1)
theorem likeW_one {n x y : Nat} {p d : WS} {b : Bs} (h : LikeW p d) (s : Bs → Bs) : LikeW (wput n (s p.1) b, wbad n x y b.length p.2) (dput n x y (s d.1) b, d.2 || dbad n x y b.length) := by
  refine ⟨by show wbad n x y b.length p.2 = (d.2 || dbad n x y b.length); rw [wd_eq, h.1], fun g => ?_⟩
  have g : wbad n x y b.length p.2 = false := g
  rw [wd_eq, Bool.or_eq_false_iff] at g
  show wput n (s p.1) b = dput n x y (s d.1) b
  rw [dput_f g.2, h.2 g.1]
theorem al_like (p d : WS) (t : Bs) (h : LikeW p d) : LikeW (alF p t) (dalF d t) := likeW_one h (fun l => l)
theorem sh_like (p d : WS) (t : UInt16 × Bs) (h : LikeW p d) : LikeW (shF p t) (dshF d t) := likeW_one h (fun l => l ++ beN 2 t.1.toNat)
theorem k2_like (p d : WS) (t : PK) (h : LikeW p d) : LikeW (k2F p t) (dk2F d t) := likeW_one h (fun l => l)
theorem k1_like (p d : WS) (t : PK) (h : LikeW p d) : LikeW (k1F p t) (dk1F d t) := by
  have h1 := likeW_one (n := 2) (x := 1) (y := 65535) (b := t.1) h (fun l => l)
  exact ⟨h1.1, fun g => congrArg (· ++ beN 4 t.2.1.toNat) (h1.2 g)⟩
theorem u16_likeW (p d : WS) (t : UInt16) (h : LikeW p d) : LikeW (u16F p t) (u16F d t) := ⟨h.1, fun g => congrArg (· ++ beN 2 t.toNat) (h.2 g)⟩
theorem foldl_like {β : Type} {F G : WS → β → WS} (hF : ∀ p d x, LikeW p d → LikeW (F p x) (G d x)) : ∀ (ps : List β) (p d : WS), LikeW p d → LikeW (List.foldl F p ps) (List.foldl G d ps)
  | [], _, _, h => h
  | x :: r, p, d, h => foldl_like hF r _ _ (hF p d x h)
theorem allM_like {β : Type} {F G : WS → β → WS} (hF : ∀ p d x, LikeW p d → LikeW (F p x) (G d x)) (ps : List β) : LikeW (allM F ps) (allM G ps) := foldl_like hF ps _ _ ⟨rfl, fun _ => rfl⟩
theorem doneL_t (l : Bs) : doneL true l = [] := rfl
theorem put_eq {β : Type} {F G : WS → β → WS} (hF : ∀ p d x, LikeW p d → LikeW (F p x) (G d x)) (n x : Nat) (ps : List β) : putP F n x ps = dputP G n x ps := by
  have h := allM_like hF ps
  rw [putP, dputP, wd_eq, Bool.false_or, Bool.false_or, ← h.1]
  cases e : (allM F ps).2 with
  | true => rw [Bool.true_or, Bool.true_or, doneL_t, doneL_t]
  | false =>
    rw [← h.2 e]
    cases e2 : dbad n x 16777215 (allM F ps).1.length with
    | true => rw [Bool.or_true, doneL_t, doneL_t]
    | false => rw [dput_f e2]
theorem psk_eq (ps : List PK) : pskP ps = dpskP ps := by
  have h1 := allM_like k1_like ps
  have h2 := allM_like k2_like ps
  rw [pskP, dpskP, wd_eq, wd_eq, Bool.false_or, Bool.false_or, ← h1.1, ← h2.1]
  cases e1 : (allM k1F ps).2 with
  | true => rw [Bool.true_or, Bool.true_or, Bool.true_or, Bool.true_or, Bool.true_or, Bool.true_or, doneL_t, doneL_t]
  | false =>
    rw [← h1.2 e1]
    cases e2 : (allM k2F ps).2 with
    | true => rw [Bool.or_true, Bool.true_or, doneL_t, Bool.true_or, doneL_t]
    | false =>
      rw [← h2.2 e2]
      cases g1 : dbad 2 1 16777215 (allM k1F ps).1.length with
      | true => rw [Bool.or_true, Bool.true_or, Bool.true_or, doneL_t, doneL_t]
      | false =>
        rw [dput_f g1]
        cases g2 : dbad 2 1 16777215 (allM k2F ps).1.length with
        | true => rw [Bool.or_true, doneL_t, doneL_t]
        | false => rw [dput_f g2]
theorem byt_eq (n y : Nat) (l b : Bs) : bytP n y l b = dbytP n y l b := by
  rw [bytP, dbytP, wd_eq]
  cases e : dbad n 1 y b.length with
  | true => rfl
  | false => rw [dput_f e]
theorem share_eq (x : UInt16 × Bs) : shP x = dshP x := by
  have h := sh_like ([], false) ([], false) x ⟨rfl, fun _ => rfl⟩
  rw [shP, dshP, ← h.1]
  cases e : (shF ([], false) x).2 with
  | true => rfl
  | false => rw [h.2 e]
theorem num_eq (v : UInt16) : numP v = beN 2 v.toNat := rfl
theorem name_eq (t : Bs) : nmP t = dnmP t := by
  have hl := wput_len 2 [0] t
  rw [List.length_singleton] at hl
  rw [nmP, dnmP, wd_eq, wd_eq, Bool.false_or, Bool.false_or]
  cases e : dbad 2 1 65535 t.length with
  | true => rw [Bool.true_or, Bool.true_or, doneL_t, doneL_t]
  | false =>
    rw [dput_f e, Bool.false_or, Bool.false_or]
    have h0 : dbad 2 0 16777215 (wput 2 [0] t).length = dbad 2 1 16777215 (wput 2 [0] t).length := by rw [dbad, dbad, decide_eq_false (show ¬ (wput 2 [0] t).length < 0 by omega), decide_eq_false (show ¬ (wput 2 [0] t).length < 1 by omega)]
    rw [h0]
    cases e2 : dbad 2 1 16777215 (wput 2 [0] t).length with
    | true => rw [doneL_t, doneL_t]
    | false => rw [dput_f e2]
/-! how much -/
theorem foldl_len {β : Type} {F : WS → β → WS} {g : β → Nat} (h : ∀ p x, (F p x).1.length ≤ p.1.length + 8 * (g x + 1)) : ∀ (ps : List β) (p : WS), (List.foldl F p ps).1.length ≤ p.1.length + 8 * (List.map (fun x => g x + 1) ps).sum
  | [], _ => Nat.le_add_right _ _
  | x :: r, p => by
    have h1 := foldl_len h r (F p x)
    have h2 := h p x
    rw [List.foldl_cons, List.map_cons, List.sum_cons]
    omega
theorem sum_le {α β : Type} {g : β → Nat} {pu : α → β} {m : α → Nat} (hg : ∀ y, g (pu y) + 1 ≤ m y) : ∀ (xs : List α) (i : Nat), (List.map (fun x => g x + 1) (List.take i (List.map pu xs))).sum ≤ (List.map m xs).sum
  | [], i => by simp
  | x :: r, 0 => by simp
  | x :: r, i + 1 => by
    have h1 := sum_le hg r i
    have h2 := hg x
    rw [List.map_cons, List.take_succ_cons, List.map_cons, List.sum_cons, List.map_cons, List.sum_cons]
    omega
theorem allB_of {α β : Type} {F : WS → β → WS} {g : β → Nat} (h : ∀ p x, (F p x).1.length ≤ p.1.length + 8 * (g x + 1)) {pu : α → β} {m : α → Nat} (hg : ∀ y, g (pu y) + 1 ≤ m y) {xs : List α} (hs : (List.map m xs).sum ≤ 1048576) : allB F (List.map pu xs) := fun i => by
  have h1 := foldl_len h (List.take i (List.map pu xs)) ([], false)
  have h2 := sum_le hg xs i
  rw [allM]
  simp only [List.length_nil, Nat.zero_add] at h1
  omega
theorem u16F_l (p : WS) (x : UInt16) : (u16F p x).1.length ≤ p.1.length + 8 * (0 + 1) := by rw [u16F, List.length_append, beN_len]; omega
theorem alF_l (p : WS) (x : Bs) : (alF p x).1.length ≤ p.1.length + 8 * (x.length + 1) := by rw [alF, wput_len]; omega
theorem dalF_l (p : WS) (x : Bs) : (dalF p x).1.length ≤ p.1.length + 8 * (x.length + 1) := Nat.le_trans (dput_len _ _ _ _ _) (by omega)
theorem shF_l (p : WS) (x : UInt16 × Bs) : (shF p x).1.length ≤ p.1.length + 8 * (x.2.length + 1) := by rw [shF, wput_len, List.length_append, beN_len]; omega
theorem dshF_l (p : WS) (x : UInt16 × Bs) : (dshF p x).1.length ≤ p.1.length + 8 * (x.2.length + 1) := Nat.le_trans (dput_len _ _ _ _ _) (by rw [List.length_append, beN_len]; omega)
theorem k1F_l (p : WS) (x : PK) : (k1F p x).1.length ≤ p.1.length + 8 * (x.1.length + x.2.2.length + 1) := by rw [k1F, List.length_append, wput_len, beN_len]; omega
theorem k2F_l (p : WS) (x : PK) : (k2F p x).1.length ≤ p.1.length + 8 * (x.1.length + x.2.2.length + 1) := by rw [k2F, wput_len]; omega
theorem dk1F_l (p : WS) (x : PK) : (dk1F p x).1.length ≤ p.1.length + 8 * (x.1.length + x.2.2.length + 1) := by
  have := dput_len 2 1 65535 p.1 x.1
  rw [dk1F, List.length_append, beN_len]
  omega
theorem dk2F_l (p : WS) (x : PK) : (dk2F p x).1.length ≤ p.1.length + 8 * (x.1.length + x.2.2.length + 1) := Nat.le_trans (dput_len _ _ _ _ _) (by omega)

end Go.Proofs.Ytofecellbfhnjaa
