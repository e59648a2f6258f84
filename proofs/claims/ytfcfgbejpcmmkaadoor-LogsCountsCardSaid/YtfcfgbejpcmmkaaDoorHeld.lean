/- Drawn regions: what only reads comes first, as long as what it reads stands. -/
import Derived.Test.YtfcfgbejpcmmkaaDoorCopy
import Derived.OrdersHeld
namespace Go.Dbr
open Go Go.RowKit
set_option linter.unusedSimpArgs false

section
variable {P : Program} {ops : Array Oper} {Q : Exit → Act → World → Prop} {S : World → Prop} {St : List Nat}

/-- in any order; as long as none of 'St' has come up, S holds behind each operation -/
def wpAnyS (P : Program) (ops : Array Oper) (Q : Exit → Act → World → Prop) (S : World → Prop) (St : List Nat) : Nat → Array Bool → Act → World → Prop
  | 0, listed, a, w => Region.ready .any ops listed = [] ∧ Q .normal a w
  | m + 1, listed, a, w =>
    (Region.ready .any ops listed = [] → Q .normal a w) ∧
    ∀ i ∈ Region.ready .any ops listed, wpOp P ops Q i (fun a' w' => ((St.all fun s => !(listed.setIfInBounds i true).getD s true) = true → S w') ∧ wpAnyS P ops Q S St m (listed.setIfInBounds i true) a' w') a w

theorem wpAny_of_S : ∀ (m : Nat) (listed : Array Bool) (a : Act) (w : World), wpAnyS P ops Q S St m listed a w → wpAny P .any ops Q m listed a w
  | 0, _, _, _, h => h
  | m + 1, _, _, _, h => ⟨h.1, fun i hi => wpOp_mono (fun a' w' h' => wpAny_of_S m _ a' w' h'.2) (h.2 i hi)⟩

/-- those that wait for i, one behind the other -/
def waitsGo (ops : Array Oper) (i : Nat) : List Nat → List Nat → List Nat
  | [], R => R
  | j :: r, R => waitsGo ops i r (match ops[j]? with
    | some o => bif o.after.any (fun e => Region.binds .any e && (Nat.beq e.on i || R.contains e.on)) then j :: R else R
    | none => R)
/-- s waits for i -/
def waits (ops : Array Oper) (i s : Nat) : Bool := (waitsGo ops i (List.range ops.size) []).contains s
inductive WaitsT (ops : Array Oper) (i : Nat) : Nat → Prop
  | one {s : Nat} {o : Oper} {e : Edge} (ho : ops[s]? = some o) (he : e ∈ o.after) (hb : Region.binds .any e = true) (hi : e.on = i) : WaitsT ops i s
  | step {s : Nat} {o : Oper} {e : Edge} (ho : ops[s]? = some o) (he : e ∈ o.after) (hb : Region.binds .any e = true) (h : WaitsT ops i e.on) : WaitsT ops i s
theorem waitsGo_spec {ops : Array Oper} {i : Nat} : ∀ (js R : List Nat), (∀ s ∈ R, WaitsT ops i s) → ∀ s ∈ waitsGo ops i js R, WaitsT ops i s
  | [], R, h => h
  | j :: r, R, h => by
    refine waitsGo_spec r _ ?_
    cases ho : ops[j]? with
    | none => exact h
    | some o =>
      simp only
      cases hc : o.after.any (fun e => Region.binds .any e && (Nat.beq e.on i || R.contains e.on)) with
      | false => exact h
      | true =>
        intro s hs
        rcases List.mem_cons.1 hs with rfl | hs
        · obtain ⟨e, he, hb⟩ := Array.any_eq_true'.1 hc
          simp only [Bool.and_eq_true, Bool.or_eq_true] at hb
          rcases hb.2 with hi | hr
          · exact .one ho he hb.1 (Nat.eq_of_beq_eq_true hi)
          · exact .step ho he hb.1 (h _ (List.contains_iff_mem.1 hr))
        · exact h s hs
theorem waits_spec {ops : Array Oper} {i s : Nat} (h : waits ops i s = true) : WaitsT ops i s := waitsGo_spec _ [] (fun _ h => by cases h) s (List.contains_iff_mem.1 h)
/-- what has run has run behind what it waits for -/
def Closed (ops : Array Oper) (listed : Array Bool) : Prop := ∀ (j : Nat) (o : Oper), ops[j]? = some o → listed.getD j false = true → ∀ e ∈ o.after, Region.binds .any e = true → listed.getD e.on false = true
def closedB (ops : Array Oper) (listed : Array Bool) : Bool := (List.range ops.size).all fun j => !listed.getD j false || match ops[j]? with
  | some o => o.after.all fun e => !Region.binds .any e || listed.getD e.on false
  | none => true
theorem closed_of {ops : Array Oper} {listed : Array Bool} (h : closedB ops listed = true) : Closed ops listed := by
  intro j o ho hj e he hb
  have h1 := List.all_eq_true.1 h j (List.mem_range.2 (Array.getElem?_eq_some_iff.1 ho).1)
  rw [hj, ho] at h1
  simp only [Bool.not_true, Bool.false_or] at h1
  have h2 := (Array.all_eq_true_iff_forall_mem.1 h1) e he
  rw [hb] at h2
  simpa using h2
theorem getD_set_true {listed : Array Bool} {j k : Nat} (h : listed.getD k false = true) : (listed.setIfInBounds j true).getD k false = true := by
  by_cases e : j = k
  · subst e
    rcases Nat.lt_or_ge j listed.size with h' | h'
    · simp [h']
    · simp [h'] at h
  · simp [Array.getElem?_setIfInBounds_ne e] at h ⊢
    exact h
theorem Closed.set {ops : Array Oper} {listed : Array Bool} (h : Closed ops listed) {j : Nat} (hj : j ∈ Region.ready .any ops listed) : Closed ops (listed.setIfInBounds j true) := by
  intro k o ho hk e he hb
  obtain ⟨_, oj, hoj, hall⟩ := mem_ready.1 hj
  by_cases ekj : k = j
  · subst ekj
    rw [hoj] at ho
    cases ho
    exact getD_set_true (hall e he hb)
  · refine getD_set_true (h k o ho ?_ e he hb)
    simp [Array.getElem?_setIfInBounds_ne (Ne.symm ekj)] at hk ⊢
    exact hk
theorem WaitsT.no {ops : Array Oper} {listed : Array Bool} {i : Nat} (hc : Closed ops listed) {s : Nat} (h : WaitsT ops i s) : ∀ o, ops[s]? = some o → (∀ e ∈ o.after, Region.binds .any e = true → listed.getD e.on false = true) → listed.getD i false = true := by
  induction h with
  | one ho he hb hi =>
    intro o ho' hall
    rw [ho] at ho'
    cases ho'
    rw [← hi]
    exact hall _ he hb
  | step ho he hb h ih =>
    intro o ho' hall
    rw [ho] at ho'
    cases ho'
    have h1 := hall _ he hb
    cases h with
    | one ho2 he2 hb2 hi2 => exact ih _ ho2 fun e he hb => hc _ _ ho2 h1 e he hb
    | step ho2 he2 hb2 h2 => exact ih _ ho2 fun e he hb => hc _ _ ho2 h1 e he hb

theorem getD_set_keep {listed : Array Bool} {j s : Nat} (h : j ≠ s) : (listed.setIfInBounds j true).getD s true = listed.getD s true := getD_set_ne true h

theorem wpAnyS_take {i : Nat} {oi : Oper} {v : Value} (hi : ops[i]? = some oi) (hsel : Region.noSelect ops = true) (hQ : ∀ c a w, Q (.panic c) (a.put oi.dst v) w → Q (.panic c) a w)
    (hw : (St.all fun s => waits ops i s && s != i) = true) :
    ∀ (m : Nat) (listed : Array Bool) (a : Act) (w : World), Closed ops listed → (∀ j oj, ops[j]? = some oj → j ≠ i → listed.getD j true = false → (∀ e ∈ oj.after, Region.binds .any e = true → e.on ≠ i) → oi.apart ops oj = true) →
      i ∈ Region.ready .any ops listed → (St.all fun s => !listed.getD s true) = true → YieldsIf P ops S oi v a → S w →
      wpAnyS P ops Q S St m (listed.setIfInBounds i true) (a.put oi.dst v) w → wpAnyS P ops Q S St (m + 1) listed a w := by
  have hsi := Region.noSelect_spec hsel i oi
  intro m
  induction m with
  | zero =>
    intro listed a w hcl _ hr hst hy hS H
    refine ⟨fun h => (by rw [h] at hr; cases hr), fun j hj => ?_⟩
    by_cases hji : j = i
    · subst hji
      exact hy.wpOp hi hS ⟨fun _ => hS, H⟩
    · have h2 := ready_mono hj hji
      rw [H.1] at h2
      cases h2
  | succ m ih =>
    intro listed a w hcl hfree hr hst hy hS H
    refine ⟨fun h => (by rw [h] at hr; cases hr), fun j hj => ?_⟩
    by_cases hji : j = i
    · subst hji
      exact hy.wpOp hi hS ⟨fun _ => hS, H⟩
    · have h1 := H.2 j (ready_mono hj hji)
      obtain ⟨hjun, oj, hoj, hall⟩ := mem_ready.1 hj
      have hnot : ∀ e ∈ oj.after, Region.binds .any e = true → e.on ≠ i := fun e he hb heq => by
        have g1 := hall e he hb
        have g0 := (mem_ready.1 hr).1
        rw [heq] at g1
        rcases Nat.lt_or_ge i listed.size with h' | h'
        · simp [h'] at g0 g1
          rw [g0] at g1
          cases g1
        · simp [Array.getElem?_eq_none h'] at g1
      have hjs : ∀ s ∈ St, j ≠ s := fun s hs e => by
        subst e
        have := List.all_eq_true.1 hw j hs
        simp only [Bool.and_eq_true] at this
        have h0 := (waits_spec this.1).no hcl oj hoj hall
        have g0 := (mem_ready.1 hr).1
        rcases Nat.lt_or_ge i listed.size with h' | h'
        · simp [h'] at g0 h0
          rw [g0] at h0
          cases h0
        · simp [h'] at h0
      have his : ∀ s ∈ St, i ≠ s := fun s hs e => by
        subst e
        have := List.all_eq_true.1 hw i hs
        simp at this
      have hst' : (St.all fun s => !(listed.setIfInBounds j true).getD s true) = true := List.all_eq_true.2 fun s hs => by
        rw [getD_set_keep (hjs s hs)]
        exact List.all_eq_true.1 hst s hs
      have hst2 : (St.all fun s => !((listed.setIfInBounds i true).setIfInBounds j true).getD s true) = true := List.all_eq_true.2 fun s hs => by
        rw [getD_set_keep (hjs s hs), getD_set_keep (his s hs)]
        exact List.all_eq_true.1 hst s hs
      have h2 := wpOp_putIf hoj (hfree j oj hoj hji hjun hnot) (fun cs b => Region.noSelect_spec hsel i oi cs b hi) (fun cs b => Region.noSelect_spec hsel j oj cs b hoj) hQ hy h1
      have hfree' : ∀ k ok, ops[k]? = some ok → k ≠ i → (listed.setIfInBounds j true).getD k true = false → (∀ e ∈ ok.after, Region.binds .any e = true → e.on ≠ i) → oi.apart ops ok = true := fun k ok hk hki hun hno => by
        refine hfree k ok hk hki ?_ hno
        by_cases hjk : j = k
        · subst hjk
          exact hjun
        · rwa [getD_set_ne true hjk] at hun
      refine wpOp_mono (fun a' w' h3 => ?_) h2
      have hS' : S w' := h3.2.1 hst2
      refine ⟨fun _ => hS', ih (listed.setIfInBounds j true) a' w' (hcl.set hj) hfree' (ready_mono hr (Ne.symm hji)) hst' h3.1 hS' ?_⟩
      rw [Array.setIfInBounds_comm _ _ hji]
      exact h3.2.2
theorem wpAnyS_pure {i : Nat} {oi : Oper} {v : Value} (hi : ops[i]? = some oi) (hsel : Region.noSelect ops = true) (hQ : ∀ c a w, Q (.panic c) (a.put oi.dst v) w → Q (.panic c) a w)
    (hw : (St.all fun s => s != i) = true) :
    ∀ (m : Nat) (listed : Array Bool) (a : Act) (w : World), (∀ j oj, ops[j]? = some oj → j ≠ i → listed.getD j true = false → (∀ e ∈ oj.after, Region.binds .any e = true → e.on ≠ i) → oi.apart ops oj = true) →
      i ∈ Region.ready .any ops listed → YieldsIf P ops (fun _ => True) oi v a → ((St.all fun s => !listed.getD s true) = true → S w) →
      wpAnyS P ops Q S St m (listed.setIfInBounds i true) (a.put oi.dst v) w → wpAnyS P ops Q S St (m + 1) listed a w := by
  have ne : ∀ s ∈ St, i ≠ s := fun s hs e => by
    subst e
    have := List.all_eq_true.1 hw i hs
    simp at this
  have keep : ∀ (listed : Array Bool), (St.all fun s => !(listed.setIfInBounds i true).getD s true) = true → (St.all fun s => !listed.getD s true) = true := fun listed h => List.all_eq_true.2 fun s hs => by
    have := List.all_eq_true.1 h s hs
    rwa [getD_set_keep (ne s hs)] at this
  have back : ∀ (listed : Array Bool), (St.all fun s => !listed.getD s true) = true → (St.all fun s => !(listed.setIfInBounds i true).getD s true) = true := fun listed h => List.all_eq_true.2 fun s hs => by
    rw [getD_set_keep (ne s hs)]
    exact List.all_eq_true.1 h s hs
  intro m
  induction m with
  | zero =>
    intro listed a w _ hr hy hS H
    refine ⟨fun h => (by rw [h] at hr; cases hr), fun j hj => ?_⟩
    by_cases hji : j = i
    · subst hji
      exact hy.wpOp hi trivial ⟨fun h => hS (keep listed h), H⟩
    · have h2 := ready_mono hj hji
      rw [H.1] at h2
      cases h2
  | succ m ih =>
    intro listed a w hfree hr hy hS H
    refine ⟨fun h => (by rw [h] at hr; cases hr), fun j hj => ?_⟩
    by_cases hji : j = i
    · subst hji
      exact hy.wpOp hi trivial ⟨fun h => hS (keep listed h), H⟩
    · have h1 := H.2 j (ready_mono hj hji)
      obtain ⟨hjun, oj, hoj, hall⟩ := mem_ready.1 hj
      have hnot : ∀ e ∈ oj.after, Region.binds .any e = true → e.on ≠ i := fun e he hb heq => by
        have g1 := hall e he hb
        have g0 := (mem_ready.1 hr).1
        rw [heq] at g1
        rcases Nat.lt_or_ge i listed.size with h' | h'
        · simp [h'] at g0 g1
          rw [g0] at g1
          cases g1
        · simp [Array.getElem?_eq_none h'] at g1
      have h2 := wpOp_putIf hoj (hfree j oj hoj hji hjun hnot) (fun cs b => Region.noSelect_spec hsel i oi cs b hi) (fun cs b => Region.noSelect_spec hsel j oj cs b hoj) hQ hy h1
      have hfree' : ∀ k ok, ops[k]? = some ok → k ≠ i → (listed.setIfInBounds j true).getD k true = false → (∀ e ∈ ok.after, Region.binds .any e = true → e.on ≠ i) → oi.apart ops ok = true := fun k ok hk hki hun hno => by
        refine hfree k ok hk hki ?_ hno
        by_cases hjk : j = k
        · subst hjk
          exact hjun
        · rwa [getD_set_ne true hjk] at hun
      refine wpOp_mono (fun a' w' h3 => ?_) h2
      have hS' : (St.all fun s => !(listed.setIfInBounds j true).getD s true) = true → S w' := fun h => h3.2.1 (by
        rw [Array.setIfInBounds_comm _ _ (Ne.symm hji)]
        exact back _ h)
      refine ⟨hS', ih (listed.setIfInBounds j true) a' w' hfree' (ready_mono hr (Ne.symm hji)) h3.1 hS' ?_⟩
      rw [Array.setIfInBounds_comm _ _ hji]
      exact h3.2.2

theorem not_yet {b : Bool} {p : Prop} (h : b = false) : b = true → p := fun h' => by rw [h] at h'; cases h'
variable {n i : Nat} {l : List (Nat × Value)} {a : Act} {w w0 : World} {d : Option Tmp} {L L0 : List Ent}
abbrev HQ (F : Act → World → Prop) : Exit → Act → World → Prop := fun e a w => e = .normal ∧ F a w

theorem h_start {F : Act → World → Prop} {id : Nat} (S : World → Prop) (St : List Nat) (hm : P.follows .mixedOrders = true) (m : Nat) (hs : ops.size = m)
    (h : wpAnyS P ops (fun e a w => e = .normal ∧ F a w) S St m (Array.replicate m false) a w.drew) :
    (Code.region id ops true).wp P (fun e a w => e = .normal ∧ F a w) a w :=
  draw_any hm m hs (wpAny_of_S _ _ _ _ h)
theorem h_end {F : Act → World → Prop} {m : Nat} {listed : Array Bool} (hr : Region.ready .any ops listed = []) (h : F a w) : wpAnyS P ops (fun e a w => e = .normal ∧ F a w) S St m listed a w := by
  cases m with
  | zero => exact ⟨hr, rfl, h⟩
  | succ m => exact ⟨fun _ => ⟨rfl, h⟩, fun i hi => by rw [hr] at hi; cases hi⟩
/-- an operation that yields its value as long as S holds -/
theorem h_read {F : Act → World → Prop} {m : Nat} {listed listed' : Array Bool} (E : Env a n l) {s : Sem Next} {v : Value} (i : Nat)
    (hr : opAt ops n i l = some (.run d s)) (hv : ∀ w, S w → s.run P w = .ok (.value v) w)
    (hc : (Region.noSelect ops && Region.free .any ops listed i && (Region.ready .any ops listed).contains i && (St.all fun s => waits ops i s && s != i) && (St.all fun s => !listed.getD s true) && closedB ops listed) = true) (hl : listed.setIfInBounds i true = listed') (hS : S w)
    (next : ∀ a', Env a' n (putl d v l) → wpAnyS P ops (fun e a w => e = .normal ∧ F a w) S St m listed' a' w) :
    wpAnyS P ops (fun e a w => e = .normal ∧ F a w) S St (m + 1) listed a w := by
  obtain ⟨o, ho, hw, rfl, hs, hf, _⟩ := opAt_run E hr
  simp only [Bool.and_eq_true] at hc
  subst hl
  exact wpAnyS_take ho hc.1.1.1.1.1 (fun _ _ _ h => by cases h.1) hc.1.1.2 m listed a w (closed_of hc.2) (Region.free_spec ho hc.1.1.1.1.2) (by simpa using hc.1.1.1.2) hc.1.2 (.inl ⟨hw, fun w hS => by rw [hs]; exact hv w hS⟩) hS (next _ (E.put v hf))
/-- an operation that looks at no memory -/
theorem h_free {F : Act → World → Prop} {m : Nat} {listed listed' : Array Bool} (E : Env a n l) {s : Sem Next} {v : Value} (i : Nat)
    (hr : opAt ops n i l = some (.run d s)) (hv : ∀ w, s.run P w = .ok (.value v) w)
    (hc : (Region.noSelect ops && Region.free .any ops listed i && (Region.ready .any ops listed).contains i && (St.all fun s => s != i)) = true) (hl : listed.setIfInBounds i true = listed') (hS : (St.all fun s => !listed.getD s true) = true → S w)
    (next : ∀ a', Env a' n (putl d v l) → wpAnyS P ops (fun e a w => e = .normal ∧ F a w) S St m listed' a' w) :
    wpAnyS P ops (fun e a w => e = .normal ∧ F a w) S St (m + 1) listed a w := by
  obtain ⟨o, ho, hw, rfl, hs, hf, _⟩ := opAt_run E hr
  simp only [Bool.and_eq_true] at hc
  subst hl
  exact wpAnyS_pure ho hc.1.1.1 (fun _ _ _ h => by cases h.1) hc.2 m listed a w (Region.free_spec ho hc.1.1.2) (by simpa using hc.1.2) (.inl ⟨hw, fun w _ => by rw [hs]; exact hv w⟩) hS (next _ (E.put v hf))
theorem h_skip {F : Act → World → Prop} {m : Nat} {listed listed' : Array Bool} (E : Env a n l) (i : Nat)
    (hr : opAt ops n i l = some (.skip d))
    (hc : (Region.noSelect ops && Region.free .any ops listed i && (Region.ready .any ops listed).contains i && (St.all fun s => s != i)) = true) (hl : listed.setIfInBounds i true = listed') (hS : (St.all fun s => !listed.getD s true) = true → S w)
    (next : ∀ a', Env a' n (putl d undef l) → wpAnyS P ops (fun e a w => e = .normal ∧ F a w) S St m listed' a' w) :
    wpAnyS P ops (fun e a w => e = .normal ∧ F a w) S St (m + 1) listed a w := by
  obtain ⟨o, ho, hw, rfl, hf⟩ := opAt_skip E hr
  simp only [Bool.and_eq_true] at hc
  subst hl
  exact wpAnyS_pure ho hc.1.1.1 (fun _ _ _ h => by cases h.1) hc.2 m listed a w (Region.free_spec ho hc.1.1.2) (by simpa using hc.1.2) (.inr ⟨hw, rfl⟩) hS (next _ (E.put undef hf))
theorem h_pureR {F : Act → World → Prop} {m : Nat} {listed listed' : Array Bool} (E : Env a n l) {v : Value} (i : Nat)
    (hr : opRuns P ops n i l = some (d, fun w => .ok (.value v) w))
    (hc : (Region.noSelect ops && Region.free .any ops listed i && (Region.ready .any ops listed).contains i && (St.all fun s => s != i)) = true) (hl : listed.setIfInBounds i true = listed') (hS : (St.all fun s => !listed.getD s true) = true → S w)
    (next : ∀ a', Env a' n (putl d v l) → wpAnyS P ops (fun e a w => e = .normal ∧ F a w) S St m listed' a' w) :
    wpAnyS P ops (fun e a w => e = .normal ∧ F a w) S St (m + 1) listed a w := by
  obtain ⟨s, hs, h⟩ := opRuns_spec hr
  exact h_free E i hs (fun w => h w) hc hl hS next
theorem h_ext {F : Act → World → Prop} {m : Nat} {listed listed' : Array Bool} (E : Env a n l) {f : FuncId} {args : Array Value} {v : Value} (i : Nat)
    (h : opRuns P ops n i l = some (d, fun w => (callFunc f args).run P w)) (hr : ∀ w, (callFunc f args).run P w = .ok (.value v) w)
    (hc : (Region.noSelect ops && Region.free .any ops listed i && (Region.ready .any ops listed).contains i && (St.all fun s => s != i)) = true) (hl : listed.setIfInBounds i true = listed') (hS : (St.all fun s => !listed.getD s true) = true → S w)
    (next : ∀ a', Env a' n (putl d v l) → wpAnyS P ops (fun e a w => e = .normal ∧ F a w) S St m listed' a' w) :
    wpAnyS P ops (fun e a w => e = .normal ∧ F a w) S St (m + 1) listed a w :=
  h_pureR E i (h.trans (by rw [funext hr])) hc hl hS next
theorem h_ways {m : Nat} {listed : Array Bool} (is : List Nat) (hr : Region.ready .any ops listed = is) (hn : is.isEmpty = false)
    (h : AllWays (fun i => ∀ listed', listed.setIfInBounds i true = listed' → wpOp P ops Q i (fun a' w' => ((St.all fun s => !listed'.getD s true) = true → S w') ∧ wpAnyS P ops Q S St m listed' a' w') a w) is) : wpAnyS P ops Q S St (m + 1) listed a w :=
  ⟨fun h0 => (by rw [hr] at h0; subst h0; cases hn), fun i hi => AllWays.mem h i (hr ▸ hi) _ rfl⟩
theorem h_at {m : Nat} {listed listed' : Array Bool} (i : Nat) (hr : Region.ready .any ops listed = [i]) (hl : listed.setIfInBounds i true = listed')
    (h : wpOp P ops Q i (fun a' w' => ((St.all fun s => !listed'.getD s true) = true → S w') ∧ wpAnyS P ops Q S St m listed' a' w') a w) : wpAnyS P ops Q S St (m + 1) listed a w :=
  h_ways [i] hr rfl ⟨fun _ hl' => by subst hl hl'; exact h, trivial⟩
theorem h_name {m : Nat} {listed : Array Bool} (h : ∀ G : Nat → Array Bool → Act → World → Prop, G = wpAnyS P ops Q S St → G m listed a w) : wpAnyS P ops Q S St m listed a w := h _ rfl
theorem h_from {G : Nat → Array Bool → Act → World → Prop} (hG : G = wpAnyS P ops Q S St) {m : Nat} {listed : Array Bool} (h : wpAnyS P ops Q S St m listed a w) : G m listed a w := hG ▸ h
theorem h_to {G : Nat → Array Bool → Act → World → Prop} (hG : G = wpAnyS P ops Q S St) {m : Nat} {listed listed' : Array Bool} (hl : listed = listed') (h : G m listed' a w) : wpAnyS P ops Q S St m listed a w := by subst hG hl; exact h

theorem run_loadAgg2 {t : TypeId} {ad : Addr} {cs : List Value} {m : Nat} (hm : cs.length = m) (ht : (fun w => (isAgg t).run P w) = fun w => .ok true w) (hs : (fun w => (sizeOf t).run P w) = fun w => .ok m w) (hc : ∀ j v, cs[j]? = some v → w.cell? (ad.add j) = some v) :
    (Instr.loadAt t (.pointer (some ad))).run P w = .ok (.agg cs.toArray) w := by
  subst hm
  exact run_loadAgg ht hs hc
theorem run_loadel {t : TypeId} {ad A : Addr} {ao : Option Addr} {xs : List Value} {o : Nat} {v : Value} (hA : A = ad.add o) (hr : Reads w ao xs) (ha : ao = some ad) (hv : xs[o]? = some v) (ht : (fun w => (isAgg t).run P w) = fun w => .ok false w) :
    (Instr.loadAt t (.pointer (some A))).run P w = .ok v w := by
  subst hA ha
  exact run_load1 ht (hr o v hv)
theorem run_loadaggat {t : TypeId} {ad A : Addr} {ao : Option Addr} {o m : Nat} {ys xs : List Value} (hA : A = ad.add o) (hr : Reads w ao ys) (ha : ao = some ad) (hx : ∀ j, j < m → ys[o + j]? = xs[j]?) (hm : xs.length = m) (ht : (fun w => (isAgg t).run P w) = fun w => .ok true w) (hs : (fun w => (sizeOf t).run P w) = fun w => .ok m w) :
    (Instr.loadAt t (.pointer (some A))).run P w = .ok (.agg xs.toArray) w := by
  subst hA ha hm
  refine run_loadAgg ht hs fun j v hv => ?_
  rw [Deep.add_add]
  exact hr (o + j) v (by rw [hx j (List.getElem?_eq_some_iff.1 hv).1, hv])
theorem run_str2 {src dst e : TypeId} {ao : Option Addr} {cap p : Nat} {bs : List UInt8} (hp : p = bs.length) (hs : P.underlying src = some (.slice e)) (he : P.underlying e = some (.int .u8)) (hd : P.underlying dst = some .string)
    (hr : Reads w ao (bys bs)) (hz : ao = none → p = 0) : (convert src dst (.slice ao p cap)).run P w = .ok (.string (bstr bs)) w := by
  subst hp
  exact run_str hs he hd hr hz
end
end Go.Dbr
