/- Long drawn regions: that the operations don't disturb each other is checked once. -/
import Derived.Test.YtfcfgbejpcmmkaaDoorDense
namespace Go.Dbr
open Go Go.RowKit
set_option linter.unusedSimpArgs false

/-- of any two with the same place, or one of which looks at the other's, one waits for the other: told by masks -/
def depB (ops : Array Oper) (j i : Nat) : Bool := match ops[j]? with
  | some o => o.after.any fun e => Region.binds .any e && Nat.beq e.on i
  | none => false
def nodupO : List Oper → Nat → Bool
  | [], _ => true
  | o :: r, m => match o.dst with
    | some d => !Nat.testBit m d && nodupO r (m ||| 2 ^ d)
    | none => nodupO r m
def maskO : List Oper → Nat
  | [] => 0
  | o :: r => match o.dst with
    | some d => 2 ^ d ||| maskO r
    | none => maskO r
/-- who looks at a place waits for the one that writes it, or is waited for by all of those -/
def lookB (ops : Array Oper) (m : Nat) (o : Oper) (j : Nat) : Bool := (o.looksAt ops).all fun d => !Nat.testBit m d
  || (o.after.any fun e => Region.binds .any e && (match ops[e.on]? with | some q => (match q.dst with | some c => Nat.beq c d | none => false) | none => false))
  || ((List.range ops.size).all fun i => (match ops[i]? with | some q => (match q.dst with | some c => !Nat.beq c d | none => true) | none => true) || depB ops i j)
def looksB (ops : Array Oper) (m : Nat) : List Oper → Nat → Bool
  | [], _ => true
  | o :: r, j => lookB ops m o j && looksB ops m r (j + 1)
def ssaB (ops : Array Oper) : Bool := Region.noSelect ops && nodupO ops.toList 0 && looksB ops (maskO ops.toList) ops.toList 0
def readyB (ops : Array Oper) (listed : Array Bool) (i : Nat) : Bool := !listed.getD i true && match ops[i]? with
  | some o => o.after.all fun e => !Region.binds .any e || listed.getD e.on false
  | none => false

theorem nodupO_spec : ∀ (l : List Oper) (m : Nat), nodupO l m = true → (∀ (i : Nat) (o : Oper) (d : Nat), l[i]? = some o → o.dst = some d → Nat.testBit m d = false) ∧ (∀ (i j : Nat) (o q : Oper) (d : Nat), l[i]? = some o → l[j]? = some q → o.dst = some d → q.dst = some d → i = j)
  | [], m, _ => ⟨fun i o d h => by simp at h, fun i j o q d h => by simp at h⟩
  | x :: r, m, h => by
    unfold nodupO at h
    cases hd : x.dst with
    | none =>
      rw [hd] at h
      obtain ⟨h1, h2⟩ := nodupO_spec r m h
      constructor
      · intro i o d hi ho
        cases i with
        | zero => simp at hi; subst hi; rw [hd] at ho; cases ho
        | succ i => exact h1 i o d (by simpa using hi) ho
      · intro i j o q d hi hj ho hq
        cases i with
        | zero => simp at hi; subst hi; rw [hd] at ho; cases ho
        | succ i =>
          cases j with
          | zero => simp at hj; subst hj; rw [hd] at hq; cases hq
          | succ j => rw [h2 i j o q d (by simpa using hi) (by simpa using hj) ho hq]
    | some c =>
      rw [hd] at h
      simp only [Bool.and_eq_true, Bool.not_eq_true'] at h
      obtain ⟨h1, h2⟩ := nodupO_spec r _ h.2
      have key : ∀ (i : Nat) (o : Oper) (d : Nat), r[i]? = some o → o.dst = some d → Nat.testBit m d = false ∧ c ≠ d := fun i o d hi ho => by
        have := h1 i o d hi ho
        rw [Nat.testBit_or, Bool.or_eq_false_iff] at this
        refine ⟨this.1, fun e => ?_⟩
        subst e
        rw [Nat.testBit_two_pow_self] at this
        cases this.2
      constructor
      · intro i o d hi ho
        cases i with
        | zero => simp at hi; subst hi; rw [hd] at ho; cases ho; exact h.1
        | succ i => exact (key i o d (by simpa using hi) ho).1
      · intro i j o q d hi hj ho hq
        cases i with
        | zero =>
          cases j with
          | zero => rfl
          | succ j => simp at hi; subst hi; rw [hd] at ho; cases ho; exact absurd rfl (key j q _ (by simpa using hj) hq).2
        | succ i =>
          cases j with
          | zero => simp at hj; subst hj; rw [hd] at hq; cases hq; exact absurd rfl (key i o _ (by simpa using hi) ho).2
          | succ j => rw [h2 i j o q d (by simpa using hi) (by simpa using hj) ho hq]
theorem maskO_spec : ∀ (l : List Oper) (i : Nat) (o : Oper) (d : Nat), l[i]? = some o → o.dst = some d → Nat.testBit (maskO l) d = true
  | [], i, o, d, h, _ => by simp at h
  | x :: r, 0, o, d, h, ho => by
    simp at h
    subst h
    unfold maskO
    rw [ho]
    simp only [Nat.testBit_or, Nat.testBit_two_pow_self, Bool.true_or]
  | x :: r, i + 1, o, d, h, ho => by
    have ih := maskO_spec r i o d (by simpa using h) ho
    unfold maskO
    cases hd : x.dst with
    | none => exact ih
    | some c => simp only [Nat.testBit_or, ih, Bool.or_true]
theorem looksB_spec {ops : Array Oper} {m : Nat} : ∀ (l : List Oper) (k : Nat), looksB ops m l k = true → ∀ (j : Nat) (o : Oper), l[j]? = some o → lookB ops m o (k + j) = true
  | [], k, _, j, o, h => by simp at h
  | x :: r, k, h, j, o, ho => by
    unfold looksB at h
    simp only [Bool.and_eq_true] at h
    cases j with
    | zero => simp at ho; subst ho; exact h.1
    | succ j =>
      have := looksB_spec r (k + 1) h.2 j o (by simpa using ho)
      rwa [show k + 1 + j = k + (j + 1) by omega] at this
theorem depB_spec {ops : Array Oper} {i j : Nat} {o : Oper} (ho : ops[j]? = some o) (h : depB ops j i = true) : ∃ e ∈ o.after, Region.binds .any e = true ∧ e.on = i := by
  unfold depB at h
  rw [ho] at h
  obtain ⟨e, he, hb⟩ := Array.any_eq_true'.1 h
  simp only [Bool.and_eq_true, Nat.beq_eq] at hb
  exact ⟨e, he, hb.1, hb.2⟩
theorem readyB_spec {ops : Array Oper} {listed : Array Bool} {i : Nat} (h : readyB ops listed i = true) : i ∈ Region.ready .any ops listed := by
  unfold readyB at h
  simp only [Bool.and_eq_true] at h
  cases ho : ops[i]? with
  | none => rw [ho] at h; cases h.2
  | some o =>
    rw [ho] at h
    unfold Region.ready
    rw [List.mem_filter, List.mem_range]
    refine ⟨(Array.getElem?_eq_some_iff.1 ho).1, ?_⟩
    simp only [Bool.and_eq_true, ho, Option.map_some, Option.getD_some]
    exact h
/-- one looks at the other's place -/
theorem ssa_look {ops : Array Oper} (h : ssaB ops = true) {i j : Nat} {oi oj : Oper} {d : Nat} (hi : ops[i]? = some oi) (hj : ops[j]? = some oj) (hd : oi.dst = some d) (hl : d ∈ oj.looksAt ops) : (∃ e ∈ oj.after, Region.binds .any e = true ∧ e.on = i) ∨ (∃ e ∈ oi.after, Region.binds .any e = true ∧ e.on = j) := by
  unfold ssaB at h
  simp only [Bool.and_eq_true] at h
  obtain ⟨⟨_, h2⟩, h3⟩ := h
  have hi' : ops.toList[i]? = some oi := by rw [Array.getElem?_toList]; exact hi
  have hj' : ops.toList[j]? = some oj := by rw [Array.getElem?_toList]; exact hj
  have hm := maskO_spec _ i oi d hi' hd
  have hk := looksB_spec _ 0 h3 j oj hj'
  rw [Nat.zero_add] at hk
  have h4 := List.all_eq_true.1 hk d hl
  rw [hm] at h4
  simp only [Bool.not_true, Bool.false_or, Bool.or_eq_true] at h4
  rcases h4 with h4 | h4
  · left
    obtain ⟨e, he, hb⟩ := Array.any_eq_true'.1 h4
    simp only [Bool.and_eq_true] at hb
    refine ⟨e, he, hb.1, ?_⟩
    cases hq : ops[e.on]? with
    | none => rw [hq] at hb; cases hb.2
    | some q =>
      rw [hq] at hb
      cases hc : q.dst with
      | none => simp [hc] at hb
      | some c =>
        simp only [hc, Nat.beq_eq] at hb
        have hq' : ops.toList[e.on]? = some q := by rw [Array.getElem?_toList]; exact hq
        exact (nodupO_spec _ _ h2).2 _ _ q oi d hq' hi' (by rw [hc, hb.2]) hd
  · right
    have h5 := List.all_eq_true.1 h4 i (List.mem_range.2 (Array.getElem?_eq_some_iff.1 hi).1)
    rw [hi] at h5
    simp only [hd] at h5
    have : Nat.beq d d = true := by rw [Nat.beq_eq]
    rw [this] at h5
    simp only [Bool.not_true, Bool.false_or] at h5
    exact depB_spec hi h5
theorem ssa_apart {ops : Array Oper} (h : ssaB ops = true) {listed : Array Bool} {i : Nat} {oi : Oper} (hi : ops[i]? = some oi) (hr : i ∈ Region.ready .any ops listed) (j : Nat) (oj : Oper) (hj : ops[j]? = some oj) (hne : j ≠ i) (hun : listed.getD j true = false)
    (hno : ∀ e ∈ oj.after, Region.binds .any e = true → e.on ≠ i) : oi.apart ops oj = true := by
  obtain ⟨_, o, ho, hall⟩ := mem_ready.1 hr
  rw [hi] at ho
  cases ho
  have un : listed.getD j false = false := by
    rcases Nat.lt_or_ge j listed.size with h' | h'
    · simp [h'] at hun ⊢; exact hun
    · simp [h']
  have no : ¬ ∃ e ∈ oi.after, Region.binds .any e = true ∧ e.on = j := fun ⟨e, he, hb, hon⟩ => by
    have := hall e he hb
    rw [hon, un] at this
    cases this
  have no2 : ¬ ∃ e ∈ oj.after, Region.binds .any e = true ∧ e.on = i := fun ⟨e, he, hb, hon⟩ => hno e he hb hon
  unfold Oper.apart
  simp only [Bool.and_eq_true]
  constructor
  · cases hd : oi.dst with
    | none => rfl
    | some d =>
      simp only [Bool.and_eq_true, Bool.not_eq_true', bne_iff_ne]
      constructor
      · rw [← Bool.not_eq_true, List.contains_iff_mem]
        exact fun hl => (ssa_look h hi hj hd hl).elim no2 no
      · intro hq
        have h2 := h
        unfold ssaB at h2
        simp only [Bool.and_eq_true] at h2
        exact hne ((nodupO_spec _ _ h2.1.2).2 j i oj oi d (by rw [Array.getElem?_toList]; exact hj) (by rw [Array.getElem?_toList]; exact hi) hq hd)
  · cases hd : oj.dst with
    | none => rfl
    | some d =>
      simp only [Bool.not_eq_true']
      rw [← Bool.not_eq_true, List.contains_iff_mem]
      exact fun hl => (ssa_look h hj hi hd hl).elim no no2
theorem ssa_free {ops : Array Oper} (h : ssaB ops = true) {listed : Array Bool} {i : Nat} (hr : i ∈ Region.ready .any ops listed) : Region.free .any ops listed i = true := by
  obtain ⟨_, oi, hi, _⟩ := mem_ready.1 hr
  unfold Region.free
  rw [hi]
  simp only [List.all_eq_true, List.mem_range]
  intro j hj
  have hjo : ops[j]? = some ops[j] := Array.getElem?_eq_getElem hj
  simp only [hjo, Bool.or_eq_true, beq_iff_eq]
  by_cases e : j = i
  · exact .inl (.inl e)
  cases hl : listed.getD j true with
  | true => exact .inl (.inr rfl)
  | false =>
    right
    cases ha : ops[j].after.any (fun e => Region.binds .any e && e.on == i) with
    | true => exact .inl rfl
    | false =>
      right
      refine ssa_apart h hi hr j _ hjo e hl fun e he hb hon => ?_
      have : ops[j].after.any (fun e => Region.binds .any e && e.on == i) = true := Array.any_eq_true'.2 ⟨e, he, by simp [hb, hon]⟩
      rw [ha] at this
      cases this
theorem closedB_of {ops : Array Oper} {listed : Array Bool} (h : Closed ops listed) : closedB ops listed = true := by
  unfold closedB
  rw [List.all_eq_true]
  intro j hj
  cases hl : listed.getD j false with
  | false => rfl
  | true =>
    have hjs := List.mem_range.1 hj
    have hjo : ops[j]? = some ops[j] := Array.getElem?_eq_getElem hjs
    simp only [Bool.not_true, Bool.false_or, hjo]
    rw [Array.all_eq_true_iff_forall_mem]
    intro e he
    cases hb : Region.binds .any e with
    | false => rfl
    | true => simp only [Bool.not_true, Bool.false_or]; exact h j _ hjo hl e he hb

section
variable {P : Program} {ops : Array Oper} {Q : Exit → Act → World → Prop} {S : World → Prop} {n i : Nat} {l : List (Nat × Value)} {a : Act} {w : World}
/-- the rest, out of what is closed; nothing ends what is held -/
def wpD (P : Program) (ops : Array Oper) (Q : Exit → Act → World → Prop) (S : World → Prop) (m : Nat) (listed : Array Bool) (a : Act) (w : World) : Prop := Closed ops listed → wpAnyS P ops Q S [] m listed a w
def condR (ops : Array Oper) : List Nat → Array Bool → Bool
  | [], _ => true
  | i :: r, listed => readyB ops listed i && condR ops r (listed.setIfInBounds i true)
theorem condR_L {ops : Array Oper} (hg : ssaB ops = true) : ∀ (is : List Nat) (listed : Array Bool), condR ops is listed = true → condL ops [] is listed = true ∧ (Closed ops listed → Closed ops (doneL is listed))
  | [], listed, _ => ⟨rfl, id⟩
  | i :: r, listed, h => by
    unfold condR at h
    simp only [Bool.and_eq_true] at h
    have hm := readyB_spec h.1
    obtain ⟨h1, h2⟩ := condR_L hg r _ h.2
    have hs : Region.noSelect ops = true := by unfold ssaB at hg; simp only [Bool.and_eq_true] at hg; exact hg.1.1
    refine ⟨?_, fun hc => h2 (hc.set hm)⟩
    unfold condL
    rw [hs, ssa_free hg hm, h1, show (Region.ready .any ops listed).contains i = true from List.contains_iff_mem.2 hm]
    rfl
theorem w_in {F : Act → World → Prop} {id : Nat} (S : World → Prop) (m : Nat) (h : ssaB ops = true → wpD P ops (HQ F) S m (Array.replicate m false) a w.drew) (hm : P.follows .mixedOrders = true := by kernel_rfl) (hs : ops.size = m := by kernel_rfl) (hg : ssaB ops = true := by kernel_rfl) : (Code.region id ops true).wp P (HQ F) a w := by
  refine h_s S [] m (h hg fun j o ho hj => ?_) hm hs
  rcases Nat.lt_or_ge j m with h' | h'
  · simp [h'] at hj
  · simp [h'] at hj
theorem w_out {m : Nat} {listed : Array Bool} (h : wpAnyS P ops Q S [] m listed a w) : wpD P ops Q S m listed a w := fun _ => h
theorem w_s {F : Act → World → Prop} {m : Nat} {listed : Array Bool} (hg : ssaB ops = true) (is : List Nat) (fs : List (Nat × FV)) (m' : Nat) (E : Env a n l) (hS : S w) (next : ∀ a', Env a' n (endI P ops n fs l is) → wpD P ops (HQ F) S m' (doneL is listed) a' w)
    (h : (fun w => resI P ops n fs w l is) = (fun w => expI P ops n fs w l is) := by kernel_rfl) (hc : condR ops is listed = true := by kernel_rfl) (hm : m = m' + is.length := by kernel_rfl) : wpD P ops (HQ F) S m listed a w :=
  fun cl => q_s is fs m' E hS (fun a' E' => next a' E' ((condR_L hg is listed hc).2 cl)) h (condR_L hg is listed hc).1 hm
theorem w_l {F : Act → World → Prop} {w0 : World} {L0 Lh : List Ent} {m : Nat} {listed : Array Bool} (hg : ssaB ops = true) (k i : Nat) (E : Env a n l) (hS : Ev w0 L0 w Lh)
    (next : ∀ a', Env a' n (putl (opD ops i) (cellV Lh k (offV (opV ops l i 0))) l) → wpD P ops (HQ F) (fun wv => Ev w0 L0 wv Lh) m (listed.setIfInBounds i true) a' w)
    (h : opAt ops n i l = some (.run (opD ops i) (nv (Instr.loadAt (opTy ops i) (.pointer (some ⟨boxB Lh k, offV (opV ops l i 0), none⟩))))) := by kernel_rfl)
    (hk : Lh[k]? = some (.box (boxB Lh k) (boxC Lh k) (boxT Lh k)) := by kernel_rfl) (hv : (boxC Lh k)[offV (opV ops l i 0)]? = some (cellV Lh k (offV (opV ops l i 0))) := by kernel_rfl)
    (ht : (fun w => (isAgg (opTy ops i)).run P w) = fun w => .ok false w := by kernel_rfl)
    (hc : condR ops [i] listed = true := by kernel_rfl) : wpD P ops (HQ F) (fun wv => Ev w0 L0 wv Lh) (m + 1) listed a w := fun cl => by
  obtain ⟨h1, h2⟩ := condR_L hg [i] listed hc
  unfold condL at h1
  simp only [Bool.and_eq_true] at h1
  refine q_l k i E hS (fun a' E' => next a' E' (h2 cl)) h hk hv ht ?_
  rw [h1.1.1.1.1, h1.1.1.1.2, h1.1.1.2, closedB_of cl]
  rfl
theorem w_f {F : Act → World → Prop} {m : Nat} {listed : Array Bool} (hg : ssaB ops = true) (i : Nat) {s : Sem Value} {v : Value} (E : Env a n l) (hv : ∀ w, s.run P w = .ok v w) (hS : S w)
    (next : ∀ a', Env a' n (putl (opD ops i) v l) → wpD P ops (HQ F) S m (listed.setIfInBounds i true) a' w)
    (hr : opAt ops n i l = some (.run (opD ops i) (nv s)) := by kernel_rfl)
    (hc : condR ops [i] listed = true := by kernel_rfl) : wpD P ops (HQ F) S (m + 1) listed a w := fun cl => by
  obtain ⟨h1, h2⟩ := condR_L hg [i] listed hc
  unfold condL at h1
  simp only [Bool.and_eq_true] at h1
  exact q_f i E hv (fun _ => hS) (fun a' E' => next a' E' (h2 cl)) hr (by rw [h1.1.1.1.1, h1.1.1.1.2, h1.1.1.2]; rfl)
end
end Go.Dbr
