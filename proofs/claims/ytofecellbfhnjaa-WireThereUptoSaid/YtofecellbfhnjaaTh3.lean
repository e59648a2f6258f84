import Derived.Test.YtofecellbfhnjaaTh2
import Derived.Laws.StructEq
import Derived.Laws.Tables
import Derived.ProofKit
import Derived.OpenShut
import Derived.SizedLaws
import Derived.Test.YtofecellbfhnjaaRows
import Derived.Deep.Slices
import Derived.ChangeArms
/- Drawn regions whose operations each yield their value in every world that keeps what stands: one fact an operation. -/

namespace Go.Dbr
open Go Go.RowKit
set_option linter.unusedSimpArgs false
set_option linter.unusedVariables false

/-! ## who waits for whom, by masks -/
def cloStep (acc : List Nat) : List Edge → Nat
  | [] => 0
  | e :: r => bif Region.binds .any e then 2 ^ e.on ||| acc.getD e.on 0 ||| cloStep acc r else cloStep acc r
def clo : List Oper → List Nat → List Nat
  | [], acc => acc
  | o :: r, acc => clo r (acc ++ [cloStep acc o.after.toList])
theorem cloStep_spec {acc : List Nat} {i : Nat} : ∀ (es : List Edge), Nat.testBit (cloStep acc es) i = true → ∃ e ∈ es, Region.binds .any e = true ∧ (e.on = i ∨ Nat.testBit (acc.getD e.on 0) i = true)
  | [], h => by simp [cloStep] at h
  | e :: r, h => by
    unfold cloStep at h
    cases hb : Region.binds .any e with
    | true =>
      rw [hb, Bool.cond_true, Nat.testBit_or, Nat.testBit_or, Bool.or_eq_true, Bool.or_eq_true] at h
      rcases h with (h | h) | h
      · refine ⟨e, List.mem_cons_self .., hb, .inl ?_⟩
        rw [Nat.testBit_two_pow] at h
        exact of_decide_eq_true h
      · exact ⟨e, List.mem_cons_self .., hb, .inr h⟩
      · obtain ⟨e', he, hr⟩ := cloStep_spec r h
        exact ⟨e', List.mem_cons_of_mem _ he, hr⟩
    | false =>
      rw [hb, Bool.cond_false] at h
      obtain ⟨e', he, hr⟩ := cloStep_spec r h
      exact ⟨e', List.mem_cons_of_mem _ he, hr⟩
theorem WaitsT.of {ops : Array Oper} {i s : Nat} {o : Oper} {e : Edge} (ho : ops[s]? = some o) (he : e ∈ o.after) (hb : Region.binds .any e = true) (h : e.on = i ∨ WaitsT ops i e.on) : WaitsT ops i s := h.elim (.one ho he hb) (.step ho he hb)
theorem clo_spec {ops : Array Oper} {i : Nat} : ∀ (l : List Oper) (acc : List Nat), (∀ (k : Nat) (o : Oper), l[k]? = some o → ops[acc.length + k]? = some o) → (∀ j, Nat.testBit (acc.getD j 0) i = true → WaitsT ops i j) → ∀ j, Nat.testBit ((clo l acc).getD j 0) i = true → WaitsT ops i j
  | [], acc, _, h, j, hj => h j hj
  | o :: r, acc, hl, h, j, hj => by
    refine clo_spec r (acc ++ [cloStep acc o.after.toList]) (fun k o' hk => ?_) (fun j' hj' => ?_) j hj
    · have := hl (k + 1) o' (by simpa using hk)
      rw [List.length_append, List.length_singleton]
      rw [show acc.length + (k + 1) = acc.length + 1 + k by omega] at this
      exact this
    · rcases Nat.lt_trichotomy j' acc.length with c | c | c
      · rw [List.getD_eq_getElem?_getD, List.getElem?_append_left c, ← List.getD_eq_getElem?_getD] at hj'
        exact h j' hj'
      · subst c
        rw [List.getD_eq_getElem?_getD, List.getElem?_append_right (Nat.le_refl _), Nat.sub_self] at hj'
        obtain ⟨e, he, hb, hr⟩ := cloStep_spec _ hj'
        have ho := hl 0 o rfl
        rw [Nat.add_zero] at ho
        exact .of ho (by simpa using he) hb (hr.imp id (h _))
      · rw [List.getD_eq_getElem?_getD, List.getElem?_eq_none (by rw [List.length_append, List.length_singleton]; omega)] at hj'
        simp at hj'

def maskOf : List Nat → Nat
  | [] => 0
  | i :: r => 2 ^ i ||| maskOf r
theorem maskOf_spec {i : Nat} : ∀ {l : List Nat}, i ∈ l → Nat.testBit (maskOf l) i = true
  | j :: r, h => by
    unfold maskOf
    rw [Nat.testBit_or]
    rcases List.mem_cons.1 h with rfl | h'
    · rw [Nat.testBit_two_pow_self, Bool.true_or]
    · rw [maskOf_spec h', Bool.or_true]
def restB (I : List Nat) (m : Nat) : List Nat → Nat → Bool
  | [], _ => true
  | c :: r, j => (I.contains j || Nat.beq (m &&& c) m) && restB I m r (j + 1)
theorem restB_spec {I : List Nat} {m : Nat} : ∀ (l : List Nat) (k : Nat), restB I m l k = true → ∀ (j : Nat) (c : Nat), l[j]? = some c → I.contains (k + j) = true ∨ m &&& c = m
  | [], k, _, j, c, h => by simp at h
  | x :: r, k, h, j, c, hc => by
    unfold restB at h
    simp only [Bool.and_eq_true, Bool.or_eq_true, Nat.beq_eq] at h
    cases j with
    | zero => simp at hc; subst hc; exact h.1
    | succ j =>
      have := restB_spec r (k + 1) h.2 j c (by simpa using hc)
      rwa [show k + 1 + j = k + (j + 1) by omega] at this
def inB (ops : Array Oper) (I : List Nat) (l0 : List (Nat × Value)) (i : Nat) : Bool := match ops[i]? with
  | some o => (o.after.all fun e => !Region.binds .any e || (Nat.blt e.on i && I.contains e.on)) && (match o.dst with | some d => (look l0 d).isNone | none => true)
  | none => false
/-- the first ones: what they wait for is among them, each has a place of its own; all others wait for all of them -/
def stabB (ops : Array Oper) (I : List Nat) (l0 : List (Nat × Value)) : Bool := nodupO ops.toList 0 && (I.all fun i => inB ops I l0 i) && restB I (maskOf I) (clo ops.toList []) 0 && Nat.beq (clo ops.toList []).length ops.size
/-- where an operand's value comes from -/
def srcOf (ops : Array Oper) (l0 L : List (Nat × Value)) (i t : Nat) : Option Value := match ops[i]? with
  | some o => bif (o.after.any fun e => Region.binds .any e && (match ops[e.on]? with | some q => (match q.dst with | some c => Nat.beq c t | none => false) | none => false)) then look L t else look l0 t
  | none => none
def oneL (ops : Array Oper) (L : List (Nat × Value)) (i : Nat) : List (Nat × Value) := match ops[i]? with
  | some o => (match o.dst with | some d => [(d, (look L d).getD undef)] | none => [])
  | none => []

theorem leastN {P : Nat → Prop} : ∀ n, P n → ∃ k, P k ∧ ∀ j, j < k → ¬ P j := fun n => by
  induction n using Nat.strongRecOn with
  | _ n ih =>
    intro h
    by_cases e : ∃ j, j < n ∧ P j
    · obtain ⟨j, hj, hp⟩ := e
      exact ih j hj hp
    · exact ⟨n, h, fun j hj hp => e ⟨j, hj, hp⟩⟩
theorem look_map_some2 {f : Nat → Option Value} {l : List (Nat × Value)} (h : l.map (fun p => f p.1) = l.map (fun p => some p.2)) : ∀ i v, look l i = some v → f i = some v := by
  induction l with
  | nil => intro i v hv; cases hv
  | cons x r ih =>
    intro i v hv
    simp only [List.map_cons, List.cons.injEq] at h
    unfold look at hv
    cases hb : Nat.beq x.1 i with
    | true =>
      rw [hb, Bool.cond_true] at hv
      cases hv
      have := Nat.eq_of_beq_eq_true hb
      rw [← this]
      exact h.1
    | false =>
      rw [hb, Bool.cond_false] at hv
      exact ih h.2 i v hv
section
variable {P : Program} {ops : Array Oper} {Q : Exit → Act → World → Prop} {n : Nat} {S : World → Prop} {l0 L : List (Nat × Value)} {I : List Nat}
def Stab (P : Program) (ops : Array Oper) (Q : Exit → Act → World → Prop) (n : Nat) (S : World → Prop) (l0 L : List (Nat × Value)) (i : Nat) : Prop :=
  ∃ E : List (Nat × Value), E.map (fun p => srcOf ops l0 L i p.1) = E.map (fun p => some p.2) ∧ ∀ a w, Env a n E → S w → wpOp P ops Q i (fun a' w' => Env a' n (oneL ops L i) ∧ S w') a w
structure Know (ops : Array Oper) (n : Nat) (l0 L : List (Nat × Value)) (I : List Nat) (a : Act) (listed : Array Bool) : Prop where
  size : a.tmps.size = n
  defers : a.defers = []
  old : ∀ t v, look l0 t = some v → a.tmps[t]? = some v
  new : ∀ i o d, i ∈ I → ops[i]? = some o → o.dst = some d → listed.getD i false = true → a.tmps[d]? = some ((look L d).getD undef)
theorem wpOp_put {i : Nat} {a : Act} {w : World} {K : Act → World → Prop} {o : Oper} (ho : ops[i]? = some o) (hd : ∀ a' w', K a' w' → a'.defers = []) (h : wpOp P ops Q i K a w) : wpOp P ops Q i (fun a' w' => K a' w' ∧ ∃ v, a' = a.put o.dst v) a w := by
  unfold wpOp at *
  simp only [ho] at h ⊢
  split
  · rename_i hw
    simp only [hw, if_true] at h
    refine h.imp (fun hh => ?_) id
    unfold Oper.wp at *
    generalize (execOp a.eval o).run P w = r at *
    cases r with
    | ok nx w' =>
      cases nx <;> simp only [Oper.upon] at hh ⊢
      all_goals first
        | exact ⟨hh, _, rfl⟩
        | exact Calls.mono hh (fun e w'' he => by cases e <;> first | exact ⟨he, _, rfl⟩ | exact he)
        | exact Rows.mono hh (fun _ _ he => ⟨he, _, rfl⟩)
        | (have := hd _ _ hh; cases hdst : o.dst <;> simp [Act.put, hdst] at this)
        | exact hh
    | halt x w' => cases x <;> simp only [Oper.upon] at hh ⊢ <;> exact hh
  · rename_i hw
    simp only [hw] at h
    exact ⟨h, _, rfl⟩
def cntF (l : Array Bool) : Nat := l.toList.countP fun b => !b
theorem cnt_set {l : List Bool} : ∀ {i : Nat}, l[i]? = some false → (l.set i true).countP (fun b => !b) + 1 = l.countP fun b => !b := by
  induction l with
  | nil => intro i h; simp at h
  | cons x r ih =>
    intro i h
    cases i with
    | zero =>
      simp at h
      subst h
      simp [List.countP_cons]
    | succ i =>
      have := ih (i := i) (by simpa using h)
      simp only [List.set_cons_succ, List.countP_cons]
      omega
theorem cntF_set {l : Array Bool} {i : Nat} (h : l.getD i true = false) : cntF (l.setIfInBounds i true) + 1 = cntF l := by
  have hi : i < l.size := by
    rcases Nat.lt_or_ge i l.size with g | g
    · exact g
    · simp [g] at h
  have e : l.toList[i]? = some false := by
    simp [hi] at h
    simp [hi, h]
  have := cnt_set e
  unfold cntF
  rw [Array.toList_setIfInBounds]
  exact this
/-- just the first ones have run -/
def LI (ops : Array Oper) (I : List Nat) : Array Bool := ((List.range ops.size).map fun j => I.contains j).toArray
def envI (ops : Array Oper) (l0 L : List (Nat × Value)) (i : Nat) : List (Nat × Value) := match ops[i]? with
  | some o => (o.looksAt ops).map fun t => (t, (srcOf ops l0 L i t).getD undef)
  | none => []
theorem stab_go {J : Array Bool → Act → World → Prop} (hB : stabB ops I l0 = true)
    (step : ∀ i ∈ I, ∀ (listed : Array Bool) (a : Act) (w : World) (o : Oper), ops[i]? = some o → listed.size = ops.size → listed.getD i true = false → (∀ e ∈ o.after, Region.binds .any e = true → e.on ∈ I ∧ listed.getD e.on false = true) → (∀ d, o.dst = some d → look l0 d = none) → J listed a w → wpOp P ops Q i (fun a' w' => J (listed.setIfInBounds i true) a' w') a w)
    (next : ∀ a w, J (LI ops I) a w → wpAny P .any ops Q (cntF (LI ops I)) (LI ops I) a w) :
    ∀ (m : Nat) (listed : Array Bool) (a : Act) (w : World), m = cntF listed → listed.size = ops.size → (∀ j, listed.getD j false = true → j ∈ I) → Closed ops listed → J listed a w → wpAny P .any ops Q m listed a w := by
  have hB' := hB
  unfold stabB at hB'
  simp only [Bool.and_eq_true, List.all_eq_true, Nat.beq_eq] at hB'
  obtain ⟨⟨⟨hnd, hin⟩, hrest⟩, hlen⟩ := hB'
  have inS : ∀ i ∈ I, ∃ o, ops[i]? = some o ∧ (∀ e ∈ o.after, Region.binds .any e = true → e.on < i ∧ e.on ∈ I) ∧ ∀ d, o.dst = some d → look l0 d = none := fun i hi => by
    have h := hin i hi
    unfold inB at h
    cases ho : ops[i]? with
    | none => rw [ho] at h; cases h
    | some o =>
      rw [ho] at h
      simp only [Bool.and_eq_true] at h
      refine ⟨o, rfl, fun e he hb => ?_, fun d hd => ?_⟩
      · have h1 := (Array.all_eq_true_iff_forall_mem.1 h.1) e he
        rw [hb] at h1
        simp only [Bool.not_true, Bool.false_or, Bool.and_eq_true, Nat.blt_eq] at h1
        exact ⟨h1.1, List.contains_iff_mem.1 h1.2⟩
      · have h2 := h.2
        rw [hd] at h2
        exact Option.isNone_iff_eq_none.1 h2
  intro m
  induction m with
  | zero =>
    intro listed a w hm hs hsub hcl hk
    have hall : ∀ j, j < ops.size → listed.getD j false = true := fun j hj => by
      cases h : listed.getD j false with
      | true => rfl
      | false =>
        have : listed.getD j true = false := by
          have hj' : j < listed.size := by omega
          simp [hj'] at h ⊢
          exact h
        have := cntF_set this
        omega
    have e : listed = LI ops I := by
      refine Array.ext (by simp [LI, hs]) fun j h1 h2 => ?_
      have h3 := hall j (by omega)
      have h4 := hsub j h3
      simp [h1] at h3
      simp [LI, h3, List.contains_iff_mem, h4]
    subst e
    rw [hm]
    exact next a w hk
  | succ m ih =>
    intro listed a w hm hs hsub hcl hk
    by_cases hall : ∀ i ∈ I, listed.getD i false = true
    · have e : listed = LI ops I := by
        refine Array.ext (by simp [LI, hs]) fun j h1 h2 => ?_
        by_cases hj : j ∈ I
        · have h3 := hall j hj
          simp [h1] at h3
          simp [LI, h3, List.contains_iff_mem, hj]
        · cases h3 : listed.getD j false with
          | true => exact absurd (hsub j h3) hj
          | false =>
            simp [h1] at h3
            simp [LI, h3, List.contains_iff_mem, hj]
      subst e
      rw [hm]
      exact next a w hk
    · have ⟨i0, h0⟩ : ∃ i, i ∈ I ∧ listed.getD i false = false := Classical.byContradiction fun hno => hall fun i hi => by
        cases h : listed.getD i false with
        | true => rfl
        | false => exact absurd ⟨i, hi, h⟩ hno
      obtain ⟨k, ⟨hkI, hku⟩, hmin⟩ := Go.Dbr.leastN (P := fun i => i ∈ I ∧ listed.getD i false = false) i0 h0
      obtain ⟨ok, hok, hafk, _⟩ := inS k hkI
      have hkt : listed.getD k true = false := by
        have : k < listed.size := by rw [hs]; exact (Array.getElem?_eq_some_iff.1 hok).1
        simp [this] at hku ⊢
        exact hku
      have hkr : k ∈ Region.ready .any ops listed := mem_ready.2 ⟨hkt, ok, hok, fun e he hb => by
        obtain ⟨h1, h2⟩ := hafk e he hb
        cases h : listed.getD e.on false with
        | true => rfl
        | false => exact absurd ⟨h2, h⟩ (hmin _ h1)⟩
      refine ⟨fun hr => absurd hkr (by rw [hr]; exact List.not_mem_nil), fun i hi => ?_⟩
      obtain ⟨hiu, o, ho, haf⟩ := mem_ready.1 hi
      have hiI : i ∈ I := Classical.byContradiction fun hno => by
        have hib := (Array.getElem?_eq_some_iff.1 ho).1
        have hc : (clo ops.toList [])[i]? = some ((clo ops.toList []).getD i 0) := by
          rw [List.getD_eq_getElem?_getD, List.getElem?_eq_getElem (by omega)]
          rfl
        rcases restB_spec _ 0 hrest i _ hc with h | h
        · rw [Nat.zero_add] at h
          exact hno (List.contains_iff_mem.1 h)
        · have hb := maskOf_spec hkI
          rw [← h, Nat.testBit_and, Bool.and_eq_true] at hb
          have hw := clo_spec (ops := ops) (i := k) ops.toList [] (fun j o' hj => by simpa using hj) (fun j hj => by simp at hj) i hb.2
          have := hw.no hcl o ho haf
          rw [hku] at this
          cases this
      obtain ⟨o', ho', hafI, hdn⟩ := inS i hiI
      rw [ho] at ho'
      cases ho'
      refine wpOp_mono (fun a' w' h => ?_) (step i hiI listed a w o ho hs hiu (fun e he hb => ⟨(hafI e he hb).2, haf e he hb⟩) hdn hk)
      exact ih (listed.setIfInBounds i true) a' w' (by have := cntF_set hiu; omega) (by simp [hs]) (fun j hj => by
        by_cases e : i = j
        · exact e ▸ hiI
        · refine hsub j ?_
          simp [Array.getElem?_setIfInBounds_ne e] at hj ⊢
          exact hj) (hcl.set hi) h
/-- what one of them knows and leaves -/
theorem stab_step (hnd : nodupO ops.toList 0 = true) {i : Nat} {listed : Array Bool} {a : Act} {w : World} {o : Oper} (hiI : i ∈ I) (hst : Stab P ops Q n S l0 L i) (ho : ops[i]? = some o) (hs : listed.size = ops.size) (hiu : listed.getD i true = false)
    (haf : ∀ e ∈ o.after, Region.binds .any e = true → e.on ∈ I ∧ listed.getD e.on false = true) (hdn : ∀ d, o.dst = some d → look l0 d = none) (hk : Know ops n l0 L I a listed) (hS : S w) :
    wpOp P ops Q i (fun a' w' => Know ops n l0 L I a' (listed.setIfInBounds i true) ∧ S w' ∧ ∃ v, a' = a.put o.dst v) a w := by
  obtain ⟨E, hE, hrun⟩ := hst
  have env : Env a n E := ⟨hk.size, hk.defers, fun t v hv => by
    have h1 := look_map_some2 hE t v hv
    unfold srcOf at h1
    rw [ho] at h1
    simp only at h1
    cases hany : (o.after.any fun e => Region.binds .any e && (match ops[e.on]? with | some q => (match q.dst with | some c => Nat.beq c t | none => false) | none => false)) with
    | true =>
      rw [hany, Bool.cond_true] at h1
      obtain ⟨e, he, hb⟩ := Array.any_eq_true'.1 hany
      simp only [Bool.and_eq_true] at hb
      cases hq : ops[e.on]? with
      | none => rw [hq] at hb; cases hb.2
      | some q =>
        rw [hq] at hb
        cases hc : q.dst with
        | none => simp [hc] at hb
        | some c =>
          simp only [hc, Nat.beq_eq] at hb
          have := hk.new e.on q t (haf e he hb.1).1 hq (by rw [hc, hb.2]) (haf e he hb.1).2
          rw [h1] at this
          exact this
    | false =>
      rw [hany, Bool.cond_false] at h1
      exact hk.old t v h1⟩
  have hrun2 := wpOp_put ho (fun a' w' h => h.1.defers) (hrun a w env hS)
  refine wpOp_mono (fun a' w' h => ?_) hrun2
  obtain ⟨⟨hE', hS'⟩, v', rfl⟩ := h
  have keep : ∀ t, o.dst ≠ some t → (a.put o.dst v').tmps[t]? = a.tmps[t]? := fun t ht => by
    cases hd : o.dst with
    | none => rfl
    | some d =>
      have : d ≠ t := fun e => ht (by rw [hd, e])
      simp [Act.put, Array.getElem?_setIfInBounds_ne this]
  refine ⟨⟨hE'.size, hE'.defers, fun t v hv => ?_, fun i' oi d hi' hoi hd hl => ?_⟩, hS', v', rfl⟩
  · rw [keep t (fun e => by rw [hdn t e] at hv; cases hv)]
    exact hk.old t v hv
  · by_cases e : i = i'
    · subst e
      rw [ho] at hoi
      cases hoi
      refine hE'.slot d _ ?_
      unfold oneL
      rw [ho]
      simp only [hd, look_self]
    · rw [keep d (fun g => e ((nodupO_spec _ _ hnd).2 i i' o oi d (by rw [Array.getElem?_toList]; exact ho) (by rw [Array.getElem?_toList]; exact hoi) g hd))]
      refine hk.new i' oi d hi' hoi hd ?_
      simp [Array.getElem?_setIfInBounds_ne e] at hl ⊢
      exact hl
end

/-! ## in a text -/
section
variable {P : Program} {ops : Array Oper} {Q : Exit → Act → World → Prop} {n : Nat} {l0 L : List (Nat × Value)} {I A : List Nat} {a : Act} {w w0 : World} {L0 Lh : List Ent}
def StabL (P : Program) (ops : Array Oper) (Q : Exit → Act → World → Prop) (n : Nat) (w0 : World) (L0 Lh : List Ent) (l0 L : List (Nat × Value)) : List Nat → Prop
  | [] => True
  | i :: r => (∀ M, Stab P ops Q n (fun wv => Ev w0 L0 wv (Lh ++ M)) l0 L i) ∧ StabL P ops Q n w0 L0 Lh l0 L r
theorem StabL.all : ∀ {I : List Nat}, StabL P ops Q n w0 L0 Lh l0 L I → ∀ i ∈ I, ∀ M, Stab P ops Q n (fun wv => Ev w0 L0 wv (Lh ++ M)) l0 L i
  | _ :: _, h, i, hi => (List.mem_cons.1 hi).elim (fun e => e ▸ h.1) (h.2.all i)
def srcE (ops : Array Oper) (I : List Nat) (l0 L : List (Nat × Value)) (t : Nat) : Option Value := bif I.any fun i => (match opD ops i with | some d => Nat.beq d t | none => false) then look L t else look l0 t
theorem Know.env {listed : Array Bool} {l' : List (Nat × Value)} (k : Know ops n l0 L I a listed) (hl : ∀ i ∈ I, listed.getD i false = true) (h : l'.map (fun p => srcE ops I l0 L p.1) = l'.map (fun p => some p.2)) : Env a n l' := ⟨k.size, k.defers, fun t v hv => by
  have h1 := look_map_some2 h t v hv
  unfold srcE at h1
  cases hany : (I.any fun i => (match opD ops i with | some d => Nat.beq d t | none => false)) with
  | true =>
    rw [hany, Bool.cond_true] at h1
    obtain ⟨i, hi, hb⟩ := List.any_eq_true.1 hany
    unfold opD at hb
    cases ho : ops[i]? with
    | none => rw [ho] at hb; cases hb
    | some o =>
      rw [ho] at hb
      simp only at hb
      cases hd : o.dst with
      | none => rw [hd] at hb; cases hb
      | some d =>
        rw [hd] at hb
        simp only [Nat.beq_eq] at hb
        subst hb
        have := k.new i o d hi ho hd (hl i hi)
        rw [h1] at this
        exact this
  | false =>
    rw [hany, Bool.cond_false] at h1
    exact k.old t v h1⟩
theorem put_keep {o : Oper} {v : Value} {t : Nat} (ht : o.dst ≠ some t) : (a.put o.dst v).tmps[t]? = a.tmps[t]? := by
  cases hd : o.dst with
  | none => rfl
  | some d =>
    have : d ≠ t := fun e => ht (by rw [hd, e])
    simp [Act.put, Array.getElem?_setIfInBounds_ne this]
theorem Know.put {listed : Array Bool} {i : Nat} {o : Oper} {v : Value} (hnd : nodupO ops.toList 0 = true) (hk : Know ops n l0 L I a listed) (ho : ops[i]? = some o) (hiI : i ∉ I) (hdn : ∀ d, o.dst = some d → look l0 d = none) : Know ops n l0 L I (a.put o.dst v) (listed.setIfInBounds i true) := by
  refine ⟨?_, ?_, fun t v hv => ?_, fun i' oi d hi' hoi hd hl => ?_⟩
  · cases o.dst with
    | none => exact hk.size
    | some d => simp [Act.put, hk.size]
  · cases o.dst with
    | none => exact hk.defers
    | some d => exact hk.defers
  · rw [put_keep (fun e => by rw [hdn t e] at hv; cases hv)]
    exact hk.old t v hv
  · have e : i ≠ i' := fun e => hiI (e ▸ hi')
    rw [put_keep (fun g => e ((nodupO_spec _ _ hnd).2 i i' o oi d (by rw [Array.getElem?_toList]; exact ho) (by rw [Array.getElem?_toList]; exact hoi) g hd))]
    refine hk.new i' oi d hi' hoi hd ?_
    simp [Array.getElem?_setIfInBounds_ne e] at hl ⊢
    exact hl
/-- new variables, in whatever order -/
def Alc (ops : Array Oper) (A : List Nat) (cA : Nat → List Value) (tA : Nat → TypeId) (w0 : World) (L0 Lh : List Ent) (listed : Array Bool) (a : Act) (w : World) : Prop :=
  ∃ bs : List (Nat × Nat), (bs.map Prod.fst).Nodup ∧ (∀ i, i ∈ bs.map Prod.fst ↔ i ∈ A ∧ listed.getD i false = true) ∧ (∀ p ∈ bs, ∀ o d, ops[p.1]? = some o → o.dst = some d → a.tmps[d]? = some (.pointer (some ⟨p.2, 0, none⟩))) ∧ Ev w0 L0 w (Lh ++ bs.map fun p => .box p.2 (cA p.1) (tA p.1))
def alcB (ops : Array Oper) (I A : List Nat) : Bool := (I.all fun i => match ops[i]? with
    | some o => o.after.all fun e => !Region.binds .any e || I.contains e.on
    | none => false) && (A.all fun i => !I.contains i && (match opD ops i with | some _ => true | none => false)) && nodupB A
def dN (ops : Array Oper) (i : Nat) : Nat := (opD ops i).getD 0
theorem Alc.put {cA : Nat → List Value} {tA : Nat → TypeId} {listed : Array Bool} {i : Nat} {o : Oper} {v : Value} {w' : World} {bs : List (Nat × Nat)} (hnd : nodupO ops.toList 0 = true) (ho : ops[i]? = some o) (hiA : i ∉ A)
    (h1 : (bs.map Prod.fst).Nodup) (h2 : ∀ i, i ∈ bs.map Prod.fst ↔ i ∈ A ∧ listed.getD i false = true) (h3 : ∀ p ∈ bs, ∀ o d, ops[p.1]? = some o → o.dst = some d → a.tmps[d]? = some (.pointer (some ⟨p.2, 0, none⟩))) (h4 : Ev w0 L0 w' (Lh ++ bs.map fun p => .box p.2 (cA p.1) (tA p.1))) :
    Alc ops A cA tA w0 L0 Lh (listed.setIfInBounds i true) (a.put o.dst v) w' := by
  refine ⟨bs, h1, fun j => ?_, fun p hp o' d ho' hd => ?_, h4⟩
  · rw [h2 j]
    by_cases e : i = j
    · subst e
      exact ⟨fun h => absurd h.1 hiA, fun h => absurd h.1 hiA⟩
    · simp [Array.getElem?_setIfInBounds_ne e]
  · have hpA := ((h2 p.1).1 (List.mem_map_of_mem hp)).1
    have e : i ≠ p.1 := fun e => hiA (e ▸ hpA)
    rw [put_keep (fun g => e ((nodupO_spec _ _ hnd).2 i p.1 o o' d (by rw [Array.getElem?_toList]; exact ho) (by rw [Array.getElem?_toList]; exact ho') g hd))]
    exact h3 p hp o' d ho' hd
/-- a new variable more -/
theorem Alc.step {cA : Nat → List Value} {tA : Nat → TypeId} {listed : Array Bool} {i : Nat} {o : Oper} (hnd : nodupO ops.toList 0 = true) (ho : ops[i]? = some o) (hiA : i ∈ A) (hiI : i ∉ I) (hs : listed.size = ops.size) (hiu : listed.getD i true = false)
    (hdn : ∀ d, o.dst = some d → look l0 d = none) (hk : Know ops n l0 L I a listed) (hA : Alc ops A cA tA w0 L0 Lh listed a w)
    (hop : opAt ops n i [] = some (.run (opD ops i) (nv (Instr.alloc (tA i) true (.tuple #[]))))) (hz : (fun w => (zeroValue (tA i)).run P w) = fun w => .ok (zeroV P (tA i)) w) (hc : (zeroV P (tA i)).cells.toList = cA i) (hsome : ∃ d, opD ops i = some d) :
    wpOp P ops Q i (fun a' w' => Know ops n l0 L I a' (listed.setIfInBounds i true) ∧ Alc ops A cA tA w0 L0 Lh (listed.setIfInBounds i true) a' w') a w := by
  obtain ⟨bs, h1, h2, h3, h4⟩ := hA
  have hil : i < listed.size := by rw [hs]; exact (Array.getElem?_eq_some_iff.1 ho).1
  have hif : listed.getD i false = false := by
    simp [hil] at hiu ⊢
    exact hiu
  have E0 : Env a n [] := ⟨hk.size, hk.defers, fun t v hv => by cases hv⟩
  have hrun : wpOp P ops Q i (fun a' w' => ∃ b, Env a' n (putl (opD ops i) (.pointer (some ⟨b, 0, none⟩)) []) ∧ Ev w0 L0 w' ((Lh ++ bs.map fun p => .box p.2 (cA p.1) (tA p.1)) ++ [.box b (cA i) (tA i)])) a w :=
    m_z (tA i) (cA i) E0 h4 (fun a' w' b E' H' => ⟨b, E', H'⟩) hop hz hc
  refine wpOp_mono (fun a' w' h => ?_) (wpOp_put ho (fun a' w' h => by obtain ⟨b, E', _⟩ := h; exact E'.defers) hrun)
  obtain ⟨⟨b, E', H'⟩, v, rfl⟩ := h
  obtain ⟨d, hd⟩ := hsome
  have hod : o.dst = some d := by
    unfold opD at hd
    rw [ho] at hd
    exact hd
  refine ⟨hk.put hnd ho hiI hdn, bs ++ [(i, b)], ?_, fun j => ?_, fun p hp o' d' ho' hd' => ?_, ?_⟩
  · rw [List.map_append, List.nodup_append]
    refine ⟨h1, by simp, fun x hx y hy e => ?_⟩
    simp at hy
    have := ((h2 x).1 hx).2
    rw [e, hy, hif] at this
    cases this
  · rw [List.map_append, List.mem_append, h2 j]
    by_cases e : i = j
    · subst e
      simp [hil, hiA]
    · have e' : j ≠ i := fun g => e g.symm
      simp [Array.getElem?_setIfInBounds_ne e, e']
  · rcases List.mem_append.1 hp with hp | hp
    · have hpl := ((h2 p.1).1 (List.mem_map_of_mem hp)).2
      have e : i ≠ p.1 := fun e => by rw [← e, hif] at hpl; cases hpl
      rw [put_keep (fun g => e ((nodupO_spec _ _ hnd).2 i p.1 o o' d' (by rw [Array.getElem?_toList]; exact ho) (by rw [Array.getElem?_toList]; exact ho') g hd'))]
      exact h3 p hp o' d' ho' hd'
    · simp at hp
      subst hp
      rw [ho] at ho'
      cases ho'
      rw [hod] at hd'
      cases hd'
      refine E'.slot d _ ?_
      rw [hd]
      exact look_self _ _ _
  · rw [List.map_append, ← List.append_assoc]
    exact H'
def blkOf (bs : List (Nat × Nat)) (i : Nat) : Nat := ((bs.find? fun p => p.1 == i).map Prod.snd).getD 0
theorem look_alc {ops : Array Oper} {B : Nat → Nat} {l' : List (Nat × Value)} {t : Nat} {v : Value} : ∀ (A : List Nat), look ((A.map fun i => (dN ops i, Value.pointer (some ⟨B i, 0, none⟩))) ++ l') t = some v → (∃ i ∈ A, dN ops i = t ∧ v = .pointer (some ⟨B i, 0, none⟩)) ∨ look l' t = some v
  | [], h => .inr h
  | i :: r, h => by
    rw [List.map_cons, List.cons_append] at h
    by_cases e : dN ops i = t
    · left
      refine ⟨i, List.mem_cons_self .., e, ?_⟩
      subst e
      rw [look_self] at h
      cases h
      rfl
    · rw [look_other _ _ e] at h
      rcases look_alc r h with ⟨j, hj, h1⟩ | h1
      · exact .inl ⟨j, List.mem_cons_of_mem _ hj, h1⟩
      · exact .inr h1
end
section
variable {P : Program} {ops : Array Oper} {Q : Exit → Act → World → Prop} {n : Nat} {l0 L : List (Nat × Value)} {I A : List Nat} {a : Act} {w w0 : World} {L0 Lh : List Ent}
/-- in the order of the text -/
theorem Alc.order {cA : Nat → List Value} {tA : Nat → TypeId} {listed : Array Bool} (hA : Alc ops A cA tA w0 L0 Lh listed a w) (hnA : A.Nodup) (hl : ∀ i ∈ A, listed.getD i false = true) (hd : ∀ i ∈ A, ∃ o d, ops[i]? = some o ∧ o.dst = some d) :
    ∃ B : Nat → Nat, (∀ i ∈ A, a.tmps[dN ops i]? = some (.pointer (some ⟨B i, 0, none⟩))) ∧ Ev w0 L0 w (Lh ++ A.map fun i => .box (B i) (cA i) (tA i)) := by
  obtain ⟨bs, h1, h2, h3, h4⟩ := hA
  have hB : ∀ i ∈ A, ∃ k, ∃ p : Nat × Nat, bs[k]? = some p ∧ p.1 = i ∧ blkOf bs i = p.2 := fun i hi => by
    have hm := (h2 i).2 ⟨hi, hl i hi⟩
    obtain ⟨p0, hp0, e0⟩ := List.mem_map.1 hm
    have hf : ∃ p, bs.find? (fun p => p.1 == i) = some p := by
      cases h : bs.find? (fun p => p.1 == i) with
      | some p => exact ⟨p, rfl⟩
      | none => exact absurd (List.find?_eq_none.1 h p0 hp0) (by simp [e0])
    obtain ⟨p, hp⟩ := hf
    have hpm := List.mem_of_find?_eq_some hp
    have hpe := List.find?_some hp
    obtain ⟨k, hk⟩ := List.getElem?_of_mem hpm
    refine ⟨k, p, hk, by simpa using hpe, ?_⟩
    unfold blkOf
    rw [hp]
    rfl
  refine ⟨blkOf bs, fun i hi => ?_, ?_⟩
  · obtain ⟨k, p, hk, hp, hb⟩ := hB i hi
    obtain ⟨o, d, ho, hdd⟩ := hd i hi
    rw [hb]
    refine h3 p (List.mem_of_getElem? hk) o (dN ops i) (by rw [hp]; exact ho) ?_
    unfold dN opD
    rw [ho]
    simp [hdd]
  · have ix : ∀ (A' : List Nat), (∀ i ∈ A', i ∈ A) → A'.Nodup → ∃ ks : List Nat, (∀ k ∈ ks, ∃ p : Nat × Nat, bs[k]? = some p ∧ p.1 ∈ A') ∧ ks.Nodup ∧ (A'.map fun i => some (Ent.box (blkOf bs i) (cA i) (tA i))) = ks.map fun k => (bs.map fun p => Ent.box p.2 (cA p.1) (tA p.1))[k]? := fun A' => by
      induction A' with
      | nil => exact fun _ _ => ⟨[], by simp, List.nodup_nil, rfl⟩
      | cons i r ih =>
        intro hs hn
        obtain ⟨ks, h5, h6, h7⟩ := ih (fun j hj => hs j (List.mem_cons_of_mem _ hj)) (List.nodup_cons.1 hn).2
        obtain ⟨k, p, hk, hp, hb⟩ := hB i (hs i (List.mem_cons_self ..))
        refine ⟨k :: ks, fun j hj => ?_, List.nodup_cons.2 ⟨fun hm => ?_, h6⟩, ?_⟩
        · rcases List.mem_cons.1 hj with rfl | hj
          · exact ⟨p, hk, by rw [hp]; exact List.mem_cons_self ..⟩
          · obtain ⟨q, hq, hq2⟩ := h5 j hj
            exact ⟨q, hq, List.mem_cons_of_mem _ hq2⟩
        · obtain ⟨q, hq, hq2⟩ := h5 k hm
          rw [hk] at hq
          cases hq
          rw [hp] at hq2
          exact (List.nodup_cons.1 hn).1 hq2
        · rw [List.map_cons, List.map_cons, h7, List.getElem?_map, hk]
          simp [hp, hb]
    obtain ⟨ks, h5, h6, h7⟩ := ix A (fun _ h => h) hnA
    refine h4.pick ((List.range Lh.length) ++ ks.map (Lh.length + ·)) ?_ ?_
    · rw [List.map_append, List.map_append, List.map_map]
      congr 1
      · refine List.ext_getElem? fun j => ?_
        rcases Nat.lt_or_ge j Lh.length with h | h
        · simp [h, List.getElem?_append_left]
        · simp [h]
      · rw [List.map_map]
        refine Eq.trans (by rfl) (h7.trans ?_)
        refine List.map_congr_left fun k hk => ?_
        show _ = (Lh ++ bs.map fun p => Ent.box p.2 (cA p.1) (tA p.1))[Lh.length + k]?
        rw [List.getElem?_append_right (Nat.le_add_right _ _), Nat.add_sub_cancel_left]
    · rw [List.nodup_append]
      refine ⟨List.nodup_range, ?_, fun x hx y hy e => ?_⟩
      · exact List.Pairwise.map _ (fun x y h g => h (by simpa using g)) h6
      · obtain ⟨k, _, rfl⟩ := List.mem_map.1 hy
        have := List.mem_range.1 hx
        omega
def alcOk (P : Program) (ops : Array Oper) (n : Nat) (cA : Nat → List Value) (tA : Nat → TypeId) (i : Nat) : Prop :=
  opAt ops n i [] = some (.run (opD ops i) (nv (Instr.alloc (tA i) true (.tuple #[])))) ∧ ((fun w => (zeroValue (tA i)).run P w) = fun w => .ok (zeroV P (tA i)) w) ∧ (zeroV P (tA i)).cells.toList = cA i
/-- a drawn region: what is stable and what makes variables first, whatever the order -/
theorem s_gen {F : Act → World → Prop} {id : Nat} (cA : Nat → List Value) (tA : Nat → TypeId) (m' : Nat) (l' : List (Nat × Value)) (E : Env a n l0) (H : Ev w0 L0 w.drew Lh) (hst : StabL P ops (HQ F) n w0 L0 Lh l0 L I) (hal : ∀ i ∈ A, alcOk P ops n cA tA i)
    (next : ∀ a' w' (B : Nat → Nat), Env a' n ((A.map fun i => (dN ops i, Value.pointer (some ⟨B i, 0, none⟩))) ++ l') → Ev w0 L0 w' (Lh ++ A.map fun i => .box (B i) (cA i) (tA i)) → wpAny P .any ops (HQ F) m' (LI ops (I ++ A)) a' w')
    (hp : P.follows .mixedOrders = true) (hB : stabB ops (I ++ A) l0 = true) (hC : alcB ops I A = true) (hl : l'.map (fun p => srcE ops I l0 L p.1) = l'.map (fun p => some p.2)) (hm : cntF (LI ops (I ++ A)) = m') : (Code.region id ops true).wp P (HQ F) a w := by
  have hB' := hB
  unfold stabB at hB'
  simp only [Bool.and_eq_true, List.all_eq_true] at hB'
  have hnd := hB'.1.1.1
  have key : ∀ i ∈ I ++ A, ∃ o, ops[i]? = some o := fun i hi => by
    have h := hB'.1.1.2 i hi
    unfold inB at h
    cases ho : ops[i]? with
    | none => rw [ho] at h; cases h
    | some o => exact ⟨o, rfl⟩
  unfold alcB at hC
  simp only [Bool.and_eq_true, List.all_eq_true] at hC
  have hIA : ∀ i ∈ A, i ∉ I := fun i hi h => by
    have := (hC.1.2 i hi).1
    rw [List.contains_iff_mem.2 h] at this
    cases this
  have hAd : ∀ i ∈ A, ∃ o d, ops[i]? = some o ∧ o.dst = some d := fun i hi => by
    obtain ⟨o, ho⟩ := key i (List.mem_append_right _ hi)
    have h := (hC.1.2 i hi).2
    unfold opD at h
    rw [ho] at h
    cases hd : o.dst with
    | none => simp [hd] at h
    | some d => exact ⟨o, d, ho, hd⟩
  have hlist : ∀ i ∈ I ++ A, (LI ops (I ++ A)).getD i false = true := fun i hi => by
    obtain ⟨o, ho⟩ := key i hi
    have hib := (Array.getElem?_eq_some_iff.1 ho).1
    simp only [List.mem_append] at hi
    simp [LI, hib, hi]
  refine draw_any hp ops.size rfl ?_
  refine stab_go (J := fun listed a w => Know ops n l0 L I a listed ∧ Alc ops A cA tA w0 L0 Lh listed a w) hB (fun i hi listed a w o ho hs hiu haf hdn hJ => ?_) (fun a' w' hJ => ?_) ops.size (Array.replicate ops.size false) a w.drew (by simp [cntF, List.countP_replicate]) (by simp) (fun j hj => ?_) ?_ ⟨⟨E.size, E.defers, E.slot, fun i o d hi ho hd hl => ?_⟩, [], List.nodup_nil, fun i => ?_, (fun p hp => by cases hp), (by rw [List.map_nil, List.append_nil]; exact H)⟩
  · obtain ⟨hk, hA⟩ := hJ
    rcases List.mem_append.1 hi with hi | hi
    · obtain ⟨bs, h1, h2, h3, h4⟩ := hA
      have haf' : ∀ e ∈ o.after, Region.binds .any e = true → e.on ∈ I ∧ listed.getD e.on false = true := fun e he hb => by
        have h := hC.1.1 i hi
        rw [ho] at h
        have h1 := (Array.all_eq_true_iff_forall_mem.1 h) e he
        rw [hb] at h1
        exact ⟨List.contains_iff_mem.1 (by simpa using h1), (haf e he hb).2⟩
      refine wpOp_mono (fun a' w' h => ?_) (stab_step hnd hi (hst.all i hi (bs.map fun p => .box p.2 (cA p.1) (tA p.1))) ho hs hiu haf' hdn hk h4)
      obtain ⟨hk', hS', v, rfl⟩ := h
      exact ⟨hk', Alc.put hnd ho (fun h => hIA i h hi) h1 h2 h3 hS'⟩
    · obtain ⟨h1, h2, h3⟩ := hal i hi
      obtain ⟨o', d, ho', hd⟩ := hAd i hi
      exact Alc.step hnd ho hi (hIA i hi) hs hiu hdn hk hA h1 h2 h3 ⟨d, by unfold opD; rw [ho']; exact hd⟩
  · obtain ⟨hk, hA⟩ := hJ
    obtain ⟨B, hB1, hB2⟩ := Alc.order hA (nodup_of hC.2) (fun i hi => hlist i (List.mem_append_right _ hi)) hAd
    rw [hm]
    have E' := hk.env (fun i hi => hlist i (List.mem_append_left _ hi)) hl
    refine next a' w' B ⟨E'.size, E'.defers, fun t v hv => ?_⟩ hB2
    rcases look_alc A hv with ⟨i, hi, rfl, rfl⟩ | h
    · exact hB1 i hi
    · exact E'.slot t v h
  · rcases Nat.lt_or_ge j ops.size with h | h
    · simp [h] at hj
    · simp [h] at hj
  · intro j o hj hl
    rcases Nat.lt_or_ge j ops.size with h | h
    · simp [h] at hl
    · simp [h] at hl
  · rcases Nat.lt_or_ge i ops.size with h | h
    · simp [h] at hl
    · simp [h] at hl
  · rcases Nat.lt_or_ge i ops.size with h | h
    · simp [h]
    · simp [h]
/-- cells of a variable that an operation makes -/
def cAl (P : Program) (ops : Array Oper) (i : Nat) : List Value := (zeroV P (opTy ops i)).cells.toList
theorem s_g0 {F : Act → World → Prop} {id : Nat} (l0 : List (Nat × Value)) (I : List Nat) (L : List (Nat × Value)) (m' : Nat) (l' : List (Nat × Value)) (E : Env a n l0) (H : Ev w0 L0 w.drew Lh) (hst : StabL P ops (HQ F) n w0 L0 Lh l0 L I)
    (next : ∀ a' w', Env a' n (l') → Ev w0 L0 w' Lh → wpAny P .any ops (HQ F) m' (LI ops (I ++ [])) a' w')
    (hp : P.follows .mixedOrders = true := by kernel_rfl) (hB : stabB ops (I ++ []) l0 = true := by kernel_rfl) (hC : alcB ops I [] = true := by kernel_rfl) (hl : l'.map (fun p => srcE ops I l0 L p.1) = l'.map (fun p => some p.2) := by kernel_rfl) (hm : cntF (LI ops (I ++ [])) = m' := by kernel_rfl) : (Code.region id ops true).wp P (HQ F) a w := by
  exact s_gen (A := []) (cAl P ops) (opTy ops) m' l' E H hst (fun i hi => by cases hi) (fun a' w' B E' H' => next a' w' E' (by rw [List.map_nil, List.append_nil] at H'; exact H')) hp hB hC hl hm
theorem app_at {M : List Ent} {k : Nat} {e : Ent} (h : Lh[k]? = some e) : (Lh ++ M)[k]? = some e := by rw [List.getElem?_append_left (List.getElem?_eq_some_iff.1 h).1]; exact h
theorem s_n : StabL P ops Q n w0 L0 Lh l0 L [] := trivial
/-- an operation, whatever it is -/
theorem s_c {i : Nat} {r : List Nat} (h : ∀ M a w, Env a n (envI ops l0 L i) → Ev w0 L0 w (Lh ++ M) → wpOp P ops Q i (fun a' w' => Env a' n (oneL ops L i) ∧ Ev w0 L0 w' (Lh ++ M)) a w) (hr : StabL P ops Q n w0 L0 Lh l0 L r)
    (hE : (envI ops l0 L i).map (fun p => srcOf ops l0 L i p.1) = (envI ops l0 L i).map (fun p => some p.2) := by kernel_rfl) : StabL P ops Q n w0 L0 Lh l0 L (i :: r) := ⟨fun M => ⟨_, hE, h M⟩, hr⟩
/-- an operation without memory -/
theorem s_p {i : Nat} {r : List Nat} (fs : List (Nat × FV)) (hr : StabL P ops Q n w0 L0 Lh l0 L r)
    (h : (fun w => resA P ops n w (envI ops l0 L i) i) = (fun w => expA P ops n fs w (envI ops l0 L i) i) := by kernel_rfl)
    (h1 : (oneL ops L i).map (fun p => look (nextL P ops n fs (envI ops l0 L i) i) p.1) = (oneL ops L i).map (fun p => some p.2) := by kernel_rfl)
    (hE : (envI ops l0 L i).map (fun p => srcOf ops l0 L i p.1) = (envI ops l0 L i).map (fun p => some p.2) := by kernel_rfl) : StabL P ops Q n w0 L0 Lh l0 L (i :: r) :=
  s_c (fun M a w E H => by
    have h2 := congrFun h w
    unfold resA expA at h2
    have go : ∀ a', Env a' n (nextL P ops n fs (envI ops l0 L i) i) → Env a' n (oneL ops L i) ∧ Ev w0 L0 w (Lh ++ M) := fun a' E' => ⟨E'.sub h1, H⟩
    unfold nextL at go
    cases ho : opAt ops n i (envI ops l0 L i) with
    | none => simp [ho] at h2
    | some x =>
      cases x with
      | run d s =>
        simp only [ho, Option.some.injEq] at h2 go
        rw [raw_fin] at h2
        exact any_run E ho h2 go
      | skip d =>
        simp only [ho] at go
        obtain ⟨o, hq, hw, rfl, hf⟩ := opAt_skip E ho
        simp only [wpOp, hq, hw, Bool.false_eq_true, if_false]
        exact go _ (E.put undef hf)) hr hE
/-- a load of a cell -/
theorem s_l {i : Nat} {r : List Nat} (k : Nat) (hr : StabL P ops Q n w0 L0 Lh l0 L r)
    (h : opAt ops n i (envI ops l0 L i) = some (.run (opD ops i) (nv (Instr.loadAt (opTy ops i) (.pointer (some ⟨boxB Lh k, offV (opV ops (envI ops l0 L i) i 0), none⟩))))) := by kernel_rfl)
    (hk : Lh[k]? = some (.box (boxB Lh k) (boxC Lh k) (boxT Lh k)) := by kernel_rfl) (hv : (boxC Lh k)[offV (opV ops (envI ops l0 L i) i 0)]? = some (cellV Lh k (offV (opV ops (envI ops l0 L i) i 0))) := by kernel_rfl)
    (ht : (fun w => (isAgg (opTy ops i)).run P w) = fun w => .ok false w := by kernel_rfl)
    (h1 : (oneL ops L i).map (fun p => look (putl (opD ops i) (cellV Lh k (offV (opV ops (envI ops l0 L i) i 0))) (envI ops l0 L i)) p.1) = (oneL ops L i).map (fun p => some p.2) := by kernel_rfl)
    (hE : (envI ops l0 L i).map (fun p => srcOf ops l0 L i p.1) = (envI ops l0 L i).map (fun p => some p.2) := by kernel_rfl) : StabL P ops Q n w0 L0 Lh l0 L (i :: r) :=
  s_c (fun M a w E H => m_v k (offV (opV ops (envI ops l0 L i) i 0)) _ E H (app_at hk) hv (fun a' E' => ⟨E'.sub h1, H⟩) h ht) hr hE
/-- what is left of it -/
theorem s_e {i : Nat} {l : List (Nat × Value)} {a' : Act} {w' : World} {Lh : List Ent} (E : Env a' n l) (H : Ev w0 L0 w' Lh) (h1 : (oneL ops L i).map (fun p => look l p.1) = (oneL ops L i).map (fun p => some p.2) := by kernel_rfl) : Env a' n (oneL ops L i) ∧ Ev w0 L0 w' Lh := ⟨E.sub h1, H⟩
end
end Go.Dbr

/- Structs of a Boolean and two arrays of words, compared. -/


namespace Go.Dbr
open Go Go.RowKit
set_option linter.unusedSimpArgs false
set_option linter.unusedVariables false
section
variable {P : Program} {w : World}
theorem eqF_cons {d : Nat} {f : Field} {fs : List Field} {xs ys : Array Value} {a b : Value} {r r' : Bool} (hn : (f.name == "_") = false) (pa : (part f.type xs f.offset).run P w = .ok a w) (pb : (part f.type ys f.offset).run P w = .ok b w)
    (he : (Op.equalIn d f.type a b).run P w = .ok r w) (hr : (Op.eqFields d xs ys fs).run P w = .ok r' w) : (Op.eqFields d xs ys (f :: fs)).run P w = .ok (r && r') w := by
  have hne : f.name ≠ "_" := by simpa using hn
  unfold Op.eqFields
  rw [if_pos hne]
  simp only [Sem.run_bind, pa, pb, he, Result.andThen_ok]
  cases r with
  | true => simpa using hr
  | false => simp
theorem part_seg {t : TypeId} {cs xs : List Value} {off m : Nat} (ha : (fun w => (isAgg t).run P w) = fun w => .ok true w) (hs : (fun w => (sizeOf t).run P w) = fun w => .ok m w) (hx : (cs.drop off).take m = xs) : (part t cs.toArray off).run P w = .ok (.agg xs.toArray) w := by
  unfold part
  simp only [Sem.run_bind, congrFun ha w, Result.andThen_ok, if_true, congrFun hs w, Sem.run_pure, List.extract_toArray]
  rw [← hx, List.extract_eq_take_drop, Nat.add_sub_cancel_left]
theorem part_one {t : TypeId} {cs : List Value} {off : Nat} {v : Value} (ha : (fun w => (isAgg t).run P w) = fun w => .ok false w) (hx : cs[off]? = some v) : (part t cs.toArray off).run P w = .ok v w := by
  unfold part
  have h2 : cs.toArray[off]? = some v := by simpa using hx
  simp only [Sem.run_bind, congrFun ha w, Result.andThen_ok, Bool.false_eq_true, if_false, h2, Sem.run_pure]
def fl (P : Program) (t : TypeId) (i : Nat) : Field := ((P.fieldsOf t).toList)[i]?.getD default
def pnt (z : Bool) (x y : List UInt64) : List Value := .bool z :: (u64s x ++ u64s y)
theorem equal_u64 {t e : TypeId} {m dd : Nat} (hu : P.underlying t = some (.array m e)) (he : P.underlying e = some (.int .u64)) (ha : (fun w => (isAgg e).run P w) = fun w => .ok false w) (hc : P.cellsOf e = 1) {x y : List UInt64} (hx : x.length = m) (hy : y.length = m) :
    (Op.equalIn (dd + 1 + 1) t (.agg (u64s x).toArray) (.agg (u64s y).toArray)).run P w = .ok (x == y) w := by
  obtain ⟨ti, hi⟩ : ∃ ti, P.info? e = some ti := by
    cases hi : P.info? e with
    | none => simp [Program.cellsOf, hi] at hc
    | some ti => exact ⟨ti, rfl⟩
  rw [u64s_ints, u64s_ints, run_equalIn_array _ _ _ _ hu hi, hc, run_eqItems_int he ha dd _ _ _ (fun j hj => by have := List.mem_range.1 hj; simp; omega), all_get (by simpa using hx) (by simpa using hy), u64s_inj]
/-- what is to be known of such a type -/
structure IsPnt (P : Program) (t e : TypeId) : Prop where
  un : P.underlying t = some (.struct (P.fieldsOf t))
  held : P.stoodInHeld t = false
  fs : (P.fieldsOf t).toList = [fl P t 0, fl P t 1, fl P t 2]
  n : [(fl P t 0).name == "_", (fl P t 1).name == "_", (fl P t 2).name == "_"] = [false, false, false]
  o : [(fl P t 0).offset, (fl P t 1).offset, (fl P t 2).offset] = [0, 1, 5]
  b : P.underlying (fl P t 0).type = some .bool
  x : P.underlying (fl P t 1).type = some (.array 4 e)
  y : P.underlying (fl P t 2).type = some (.array 4 e)
  eu : P.underlying e = some (.int .u64)
  c : P.cellsOf e = 1
  ae : (fun w => (isAgg e).run P w) = fun w => .ok false w
  ab : (fun w => (isAgg (fl P t 0).type).run P w) = fun w => .ok false w
  ax : (fun w => (isAgg (fl P t 1).type).run P w) = fun w => .ok true w
  ay : (fun w => (isAgg (fl P t 2).type).run P w) = fun w => .ok true w
  sx : (fun w => (sizeOf (fl P t 1).type).run P w) = fun w => .ok 4 w
  sy : (fun w => (sizeOf (fl P t 2).type).run P w) = fun w => .ok 4 w
  g : P.eqGuardType P.depth t = false
theorem IsPnt.eq {t e : TypeId} (h : IsPnt P t e) {z z' : Bool} {x y x' y' : List UInt64} (hx : x.length = 4) (hy : y.length = 4) (hx' : x'.length = 4) (hy' : y'.length = 4) (d : Nat) :
    (Op.equalIn (d + 1 + 1 + 1) t (.agg (pnt z x y).toArray) (.agg (pnt z' x' y').toArray)).run P w = .ok ((z == z') && ((x == x') && (y == y'))) w := by
  have ho := h.o
  have hn := h.n
  simp only [List.cons.injEq, and_true] at ho hn
  obtain ⟨o0, o1, o2⟩ := ho
  obtain ⟨n0, n1, n2⟩ := hn
  rw [run_equalIn_struct w _ t _ _ h.un h.held, h.fs]
  have lx := u64s_length x
  have lx' := u64s_length x'
  have ly := u64s_length y
  have ly' := u64s_length y'
  rw [hx] at lx
  rw [hx'] at lx'
  rw [hy] at ly
  rw [hy'] at ly'
  refine eqF_cons n0 (a := .bool z) (b := .bool z') (r := z == z') (by rw [o0]; exact part_one h.ab rfl) (by rw [o0]; exact part_one h.ab rfl) (run_equalIn_bool' w _ _ _ _ h.b) ?_
  refine eqF_cons n1 (a := .agg (u64s x).toArray) (b := .agg (u64s x').toArray) (r := x == x') (by rw [o1]; exact part_seg h.ax h.sx (by simp only [pnt, List.drop_succ_cons, List.drop_zero]; rw [← lx, List.take_left])) (by rw [o1]; exact part_seg h.ax h.sx (by simp only [pnt, List.drop_succ_cons, List.drop_zero]; rw [← lx', List.take_left])) (equal_u64 h.x h.eu h.ae h.c hx hx') ?_
  have hr : (Op.eqFields (d + 1 + 1) (pnt z x y).toArray (pnt z' x' y').toArray [fl P t 2]).run P w = .ok ((y == y') && true) w := by
    refine eqF_cons n2 (a := .agg (u64s y).toArray) (b := .agg (u64s y').toArray) (r := y == y') ?_ ?_ (equal_u64 h.y h.eu h.ae h.c hy hy') (by unfold Op.eqFields; rfl)
    · rw [o2]
      refine part_seg h.ay h.sy ?_
      simp only [pnt, List.drop_succ_cons]
      rw [← lx, List.drop_left, List.take_of_length_le (by omega)]
    · rw [o2]
      refine part_seg h.ay h.sy ?_
      simp only [pnt, List.drop_succ_cons]
      rw [← lx', List.drop_left, List.take_of_length_le (by omega)]
  rw [Bool.and_true] at hr
  exact hr
end
end Go.Dbr

/- Structs that are built of parts whose cells are told. -/


namespace Go.Dbr
open Go Go.RowKit
set_option linter.unusedSimpArgs false
set_option linter.unusedVariables false
/-- a field: how many cells, its noughts, what it is filled with -/
structure FB where
  m : Nat
  z : List Value
  x : Option (Nat × Value × List Value)
end Go.Dbr

/- What is handed in to a law, opened: numbers, lists of numbers, texts. (Printed by a program.) -/




namespace Go.Dbr
open Go Go.RowKit Go.ChangeShapes Go.WideShapes Go.ChangeAt
open Go.ChangeMaps (open_string)

variable {H : Type} {enc : TypeId × Value → H} {P : Program} {W : World}

theorem Ev.below {w w' : World} (h : Ev w [] w' []) : Below w.heap.size w w' :=
  ⟨h.chg.os, h.chg.tape, h.chg.output, h.chg.size, fun k hk => h.chg.block k hk Owns.nil⟩

theorem ro_nil {w : World} {a : Option Addr} {xs : List Value} (h : Reads w a xs) : Ro w [] a xs := ⟨h, fun _ _ _ => Owns.nil⟩

theorem lift_u8 {n : Int} (h : (Lit.int .u8 n).wf = true) : ∃ x : UInt8, n = ((UInt8.toNat x : Nat) : Int) := by
  simp [Lit.wf, IntKind.min, IntKind.max, IntKind.signed, IntKind.bits] at h
  refine ⟨UInt8.ofNat n.toNat, ?_⟩
  rw [UInt8.toNat_ofNat']
  omega

theorem lift_u16 {n : Int} (h : (Lit.int .u16 n).wf = true) : ∃ x : UInt16, n = ((UInt16.toNat x : Nat) : Int) := by
  simp [Lit.wf, IntKind.min, IntKind.max, IntKind.signed, IntKind.bits] at h
  refine ⟨UInt16.ofNat n.toNat, ?_⟩
  rw [UInt16.toNat_ofNat']
  omega

theorem lift_u32 {n : Int} (h : (Lit.int .u32 n).wf = true) : ∃ x : UInt32, n = ((UInt32.toNat x : Nat) : Int) := by
  simp [Lit.wf, IntKind.min, IntKind.max, IntKind.signed, IntKind.bits] at h
  refine ⟨UInt32.ofNat n.toNat, ?_⟩
  rw [UInt32.toNat_ofNat']
  omega

end Go.Dbr

/- What is handed in to a law, of any shape that is read alone: numbers, texts, structs, arrays, slices of them. -/




namespace Go.Dbr
open Go Go.RowKit Go.ChangeShapes Go.WideShapes Go.ChangeAt

structure Sl (α : Type) where
  a : Option Addr
  c : Nat
  l : List α
def Sl.val {α : Type} (s : Sl α) : Value := .slice s.a s.l.length s.c
def Sl.f {α : Type} (s : Sl α) : List Value := [.slice s.a s.l.length s.c]

/-- a slice that is read alone, its elements of sz cells each -/
structure InS {α : Type} (f : α → List Value) (by_ : Nat) (ok : α → Prop) (w : World) (L : List Ent) (a : Option Addr) (c : Nat) (l : List α) : Prop where
  ro : Ro w L a (l.flatMap f)
  nz : a = none → l.length = 0
  cap : l.length ≤ c
  small : l.length * by_ ≤ 140737488351232
  each : ∀ x ∈ l, ok x

theorem InS.ev {α : Type} {f : α → List Value} {b : Nat} {ok ok' : α → Prop} {w w' : World} {L L' : List Ent} {a : Option Addr} {c : Nat} {l : List α} (h : InS f b ok w L a c l) (e : Ev w L w' L') (ho : ∀ x, ok x → ok' x) : InS f b ok' w' L' a c l := ⟨h.ro.ev e, h.nz, h.cap, h.small, fun x hx => ho x (h.each x hx)⟩
theorem InS.of {α : Type} {f : α → List Value} {b : Nat} {ok ok' : α → Prop} {w : World} {L M : List Ent} {a : Option Addr} {c : Nat} {l : List α} (h : InS f b ok w L a c l) (hm : ∀ b, Owns M b → Owns L b) (ho : ∀ x, ok x → ok' x) : InS f b ok' w M a c l := ⟨h.ro.of hm, h.nz, h.cap, h.small, fun x hx => ho x (h.each x hx)⟩
theorem InS.go {α : Type} {f : α → List Value} {b : Nat} {ok ok' : α → Prop} {w w' : World} {L L' M : List Ent} {a : Option Addr} {c : Nat} {l : List α} (h : InS f b ok w L a c l) (e : Ev w L w' L') (is : List Nat) (hm : M.map some = is.map (fun i => L'[i]?)) (ho : ∀ x, ok x → ok' x) : InS f b ok' w' M a c l := ⟨(h.ro.ev e).pick is hm, h.nz, h.cap, h.small, fun x hx => ho x (h.each x hx)⟩
theorem InS.take {α : Type} {f : α → List Value} {b : Nat} {ok : α → Prop} {w : World} {L : List Ent} {a : Option Addr} {c : Nat} {l : List α} (h : InS f b ok w L a c l) (n : Nat) : InS f b ok w L a c (l.take n) := by
  refine ⟨?_, fun e => by rw [List.length_take, h.nz e]; exact Nat.min_zero _, by have := h.cap; simp; omega, Nat.le_trans (Nat.mul_le_mul_right _ (by simp; omega)) h.small, fun x hx => h.each x (List.mem_of_mem_take hx)⟩
  have e : (l.take n).flatMap f = (l.flatMap f).take ((l.take n).flatMap f).length := by
    have e : l.flatMap f = (l.take n).flatMap f ++ (l.drop n).flatMap f := by rw [← List.flatMap_append, List.take_append_drop]
    rw [e, List.take_left' rfl]
  refine ⟨?_, fun ad ha hx => h.ro.off ad ha fun h0 => hx ?_⟩
  · rw [e]; exact h.ro.reads.take _
  · rw [e, h0]; simp
theorem InS.reads {α : Type} {f : α → List Value} {b : Nat} {ok : α → Prop} {w : World} {L : List Ent} {a : Option Addr} {c : Nat} {l : List α} (h : InS f b ok w L a c l) : Reads w a (l.flatMap f) := h.ro.reads

theorem flat_get {α : Type} {f : α → List Value} {sz : Nat} : ∀ {l : List α} {i j : Nat} {x : α}, (∀ x ∈ l, (f x).length = sz) → l[i]? = some x → j < sz → (l.flatMap f)[i * sz + j]? = (f x)[j]?
  | [], i, j, x, _, h, _ => by simp at h
  | y :: r, 0, j, x, hl, h, hj => by
    simp only [List.getElem?_cons_zero, Option.some.injEq] at h
    subst h
    rw [List.flatMap_cons, Nat.zero_mul, Nat.zero_add, List.getElem?_append_left (by rw [hl y (by simp)]; exact hj)]
  | y :: r, i + 1, j, x, hl, h, hj => by
    rw [List.getElem?_cons_succ] at h
    rw [List.flatMap_cons, List.getElem?_append_right (by rw [hl y (by simp), Nat.add_mul]; omega), hl y (by simp)]
    have e : (i + 1) * sz + j - sz = i * sz + j := by rw [Nat.add_mul]; omega
    rw [e]
    exact flat_get (fun x hx => hl x (by simp [hx])) h hj

theorem flat_get1 {α : Type} {f : α → List Value} {l : List α} {i : Nat} {x : α} (hl : ∀ x ∈ l, (f x).length = 1) (h : l[i]? = some x) : (l.flatMap f)[i]? = (f x)[0]? := by
  have := flat_get hl h (j := 0) (by decide)
  rwa [Nat.mul_one, Nat.add_zero] at this
theorem flat_sub {α : Type} {f : α → List Value} {sz off m : Nat} {l : List α} {i : Nat} {x : α} {xs : List Value} (hl : ∀ x ∈ l, (f x).length = sz) (h : l[i]? = some x) (hm : off + m ≤ sz) (hx : ((f x).drop off).take m = xs) : ∀ j, j < m → (l.flatMap f)[i * sz + off + j]? = xs[j]? := by
  intro j hj
  rw [Nat.add_assoc, flat_get hl h (by omega), ← hx, List.getElem?_take, if_pos hj, List.getElem?_drop]
theorem flat_get_inv {α : Type} {f : α → List Value} {sz : Nat} : ∀ {l : List α} {j : Nat} {u : Value}, (∀ x ∈ l, (f x).length = sz) → (l.flatMap f)[j]? = some u → ∃ i k x, j = i * sz + k ∧ k < sz ∧ l[i]? = some x ∧ (f x)[k]? = some u
  | [], j, u, _, h => by simp at h
  | y :: r, j, u, hl, h => by
    rw [List.flatMap_cons] at h
    by_cases hj : j < sz
    · rw [List.getElem?_append_left (by rw [hl y (by simp)]; exact hj)] at h
      exact ⟨0, j, y, by omega, hj, rfl, h⟩
    · rw [List.getElem?_append_right (by rw [hl y (by simp)]; omega), hl y (by simp)] at h
      obtain ⟨i, k, x, h1, h2, h3, h4⟩ := flat_get_inv (fun x hx => hl x (by simp [hx])) h
      exact ⟨i + 1, k, x, by rw [Nat.add_mul]; omega, h2, by simpa using h3, h4⟩

section
variable {H : Type} (enc : TypeId × Value → H) (P : Program) (W : World)

def Opens {α : Type} (T : TypeId) (sz : Nat) (f : α → List Value) (ok : α → Prop) (m : α → Nat) : Prop :=
  P.cellsOf T = sz ∧ (∀ x, ok x → (f x).length = sz) ∧ ∀ (fuel : Nat) (cs : List Value) (x : DataW H × List MemPlace), DataW.trod enc P W 0 (fun _ => true) true fuel T cs = some x → (∀ n ∈ x.1.weights P T, n ≤ reachBytes) → ∃ y : α, cs = f y ∧ ok y ∧ m y + 1 ≤ Go.Proofs.Ytofecellbfhnjaa.Rows.uptoBulk x.1

/-- the fields from an offset on -/
def OpensF {α : Type} (fs : List Field) (off sz : Nat) (f : α → List Value) (ok : α → Prop) (m : α → Nat) : Prop :=
  (∀ x, ok x → (f x).length = sz) ∧ ∀ (fuel : Nat) (cs : List Value) (xs : List (DataW H × List MemPlace)), xs.length = fs.length → cs.length = off + sz →
    (∀ (i : Nat) (g : Field), fs[i]? = some g → DataW.trod enc P W 0 (fun _ => true) true fuel g.type ((cs.drop g.offset).take (P.cellsOf g.type)) = xs[i]?) →
    (∀ n ∈ DataW.weightsEach P (fs.map (·.type)) (xs.map (·.1)), n ≤ reachBytes) → ∃ y : α, cs.drop off = f y ∧ ok y ∧ m y ≤ Go.Proofs.Ytofecellbfhnjaa.Rows.uptoBulkAll (xs.map (·.1))
end

section
variable {H : Type} {enc : TypeId × Value → H} {P : Program} {W : World}

theorem bulk_le {H : Type} : ∀ {l : List (DataW H)} {n : Nat} {g : Nat → Nat}, n ≤ l.length → (∀ i d, i < n → l[i]? = some d → g i + 1 ≤ Go.Proofs.Ytofecellbfhnjaa.Rows.uptoBulk d) → ((List.range n).map fun i => g i + 1).sum ≤ Go.Proofs.Ytofecellbfhnjaa.Rows.uptoBulkAll l
  | _, 0, g, _, _ => by simp
  | [], n + 1, g, h, _ => by simp at h
  | d :: r, n + 1, g, h, hg => by
    have h0 := hg 0 d (by omega) rfl
    have ih := bulk_le (l := r) (n := n) (g := fun i => g (i + 1)) (by simpa using h) fun i e hi he => hg (i + 1) e (by omega) (by simpa using he)
    rw [List.range_succ_eq_map, List.map_cons, List.map_map, List.sum_cons]
    simp only [Go.Proofs.Ytofecellbfhnjaa.Rows.uptoBulkAll]
    have e : (List.map ((fun i => g i + 1) ∘ Nat.succ) (List.range n)) = (List.range n).map fun i => g (i + 1) + 1 := rfl
    rw [e]
    omega
theorem sum_at {α : Type} {m : α → Nat} {g : Nat → Nat} : ∀ {l : List α} {k : Nat}, (∀ (i : Nat) (x : α), l[i]? = some x → m x = g (k + i)) → (l.map fun x => m x + 1).sum = ((List.range l.length).map fun i => g (k + i) + 1).sum
  | [], _, _ => rfl
  | x :: r, k, h => by
    have h0 := h 0 x rfl
    have ih := sum_at (m := m) (g := g) (l := r) (k := k + 1) fun i y hy => by have := h (i + 1) y (by simpa using hy); rw [this]; congr 1; omega
    rw [List.length_cons, List.range_succ_eq_map, List.map_cons, List.map_cons, List.sum_cons, List.sum_cons, List.map_map, ih, h0]
    congr 2
    apply List.map_congr_left
    intro i _
    show _ = g (k + (i + 1)) + 1
    congr 2
    omega
theorem choose_fun {p : Nat → Nat → Prop} (n : Nat) (h : ∀ i, i < n → ∃ v, p i v) : ∃ g : Nat → Nat, ∀ i, i < n → p i (g i) := by
  induction n with
  | zero => exact ⟨fun _ => 0, fun i hi => by omega⟩
  | succ n ih =>
    obtain ⟨g, hg⟩ := ih fun i hi => h i (by omega)
    obtain ⟨v, hv⟩ := h n (by omega)
    refine ⟨fun i => if i = n then v else g i, fun i hi => ?_⟩
    by_cases e : i = n
    · subst e; simpa using hv
    · simp only [if_neg e]; exact hg i (by omega)
theorem bulk_list {H : Type} {α : Type} {m : α → Nat} {l : List α} {ds : List (DataW H)} (hl : l.length ≤ ds.length) (h : ∀ (i : Nat) (x : α) (d : DataW H), l[i]? = some x → ds[i]? = some d → m x + 1 ≤ Go.Proofs.Ytofecellbfhnjaa.Rows.uptoBulk d) : (l.map fun x => m x + 1).sum ≤ Go.Proofs.Ytofecellbfhnjaa.Rows.uptoBulkAll ds := by
  obtain ⟨g, hg⟩ := choose_fun (p := fun i v => ∀ x, l[i]? = some x → m x = v) l.length fun i hi => ⟨m l[i], fun x hx => by rw [List.getElem?_eq_getElem hi] at hx; simp only [Option.some.injEq] at hx; rw [hx]⟩
  have e := sum_at (m := m) (g := g) (l := l) (k := 0) fun i x hx => by rw [Nat.zero_add]; exact hg i (List.getElem?_eq_some_iff.1 hx).1 x hx
  rw [e]
  refine Nat.le_trans (Nat.le_of_eq ?_) (bulk_le (n := l.length) (g := g) hl fun i d hi hd => ?_)
  · simp
  · rw [← hg i hi _ (List.getElem?_eq_getElem hi)]
    exact h i _ d (List.getElem?_eq_getElem hi) hd
theorem mem_weightsAll {e : TypeId} : ∀ {ds : List (DataW H)} {d : DataW H} {n : Nat}, d ∈ ds → n ∈ d.weights P e → n ∈ DataW.weightsAll P e ds
  | d0 :: r, d, n, hd, hn => by
    simp only [DataW.weightsAll, List.mem_append]
    rcases List.mem_cons.1 hd with rfl | hd
    · exact .inl hn
    · exact .inr (mem_weightsAll hd hn)

theorem Opens.map {α β : Type} {T : TypeId} {sz : Nat} {f : α → List Value} {ok : α → Prop} {m : α → Nat} {f' : β → List Value} {ok' : β → Prop} {m' : β → Nat} (h : Opens enc P W T sz f ok m) (g : α → β) (hf : ∀ x, f x = f' (g x)) (ho : ∀ x, ok x → ok' (g x)) (hm : ∀ x, m' (g x) ≤ m x) (hl : ∀ y, ok' y → (f' y).length = sz) : Opens enc P W T sz f' ok' m' :=
  ⟨h.1, hl, fun fuel cs d ht hw => by
    obtain ⟨y, rfl, hy, hb⟩ := h.2.2 fuel cs d ht hw
    exact ⟨g y, hf y, ho y hy, Nat.le_trans (Nat.add_le_add_right (hm y) 1) hb⟩⟩

theorem opens_u8 {T : TypeId} (hu : P.underlying T = some (.int .u8)) (hc : P.cellsOf T = 1) : Opens enc P W T 1 (fun n : UInt8 => [bv n]) (fun _ => True) (fun _ => 0) :=
  ⟨hc, fun _ _ => rfl, fun _ _ _ ht _ => by
    obtain ⟨n, rfl, rfl, hw⟩ := DataW.trod_int hu ht
    obtain ⟨x, rfl⟩ := lift_u8 hw
    exact ⟨x, rfl, trivial, by simp [Go.Proofs.Ytofecellbfhnjaa.Rows.uptoBulk]⟩⟩
theorem opens_u16 {T : TypeId} (hu : P.underlying T = some (.int .u16)) (hc : P.cellsOf T = 1) : Opens enc P W T 1 (fun n : UInt16 => [uv16 n]) (fun _ => True) (fun _ => 0) :=
  ⟨hc, fun _ _ => rfl, fun _ _ _ ht _ => by
    obtain ⟨n, rfl, rfl, hw⟩ := DataW.trod_int hu ht
    obtain ⟨x, rfl⟩ := lift_u16 hw
    exact ⟨x, rfl, trivial, by simp [Go.Proofs.Ytofecellbfhnjaa.Rows.uptoBulk]⟩⟩
theorem opens_u32 {T : TypeId} (hu : P.underlying T = some (.int .u32)) (hc : P.cellsOf T = 1) : Opens enc P W T 1 (fun n : UInt32 => [uv32 n]) (fun _ => True) (fun _ => 0) :=
  ⟨hc, fun _ _ => rfl, fun _ _ _ ht _ => by
    obtain ⟨n, rfl, rfl, hw⟩ := DataW.trod_int hu ht
    obtain ⟨x, rfl⟩ := lift_u32 hw
    exact ⟨x, rfl, trivial, by simp [Go.Proofs.Ytofecellbfhnjaa.Rows.uptoBulk]⟩⟩
theorem opens_string {T : TypeId} (hu : P.underlying T = some .string) (hc : P.cellsOf T = 1) : Opens enc P W T 1 (fun l : List UInt8 => [.string (bstr l)]) (fun l => l.length ≤ 140737488351232) (fun l => l.length) :=
  ⟨hc, fun _ _ => rfl, fun _ _ _ ht hw => by
    obtain ⟨s, rfl, rfl, _⟩ := DataW.trod_string hu ht
    have := hw s.data.toList.length (by simp [DataW.weights])
    refine ⟨s.data.toList, ?_, this, by simp [Go.Proofs.Ytofecellbfhnjaa.Rows.uptoBulk]⟩
    cases s
    rfl⟩

theorem opensF_nil {off : Nat} : OpensF enc P W [] off 0 (fun _ : Unit => []) (fun _ => True) (fun _ => 0) :=
  ⟨fun _ _ => rfl, fun _ cs _ _ hl _ _ => ⟨(), List.drop_eq_nil_of_le (by omega), trivial, Nat.zero_le _⟩⟩

theorem opensF_cons {α β : Type} {g : Field} {fs : List Field} {off sz sz' : Nat} {f : α → List Value} {ok : α → Prop} {m : α → Nat} {f' : β → List Value} {ok' : β → Prop} {m' : β → Nat} (h : Opens enc P W g.type sz f ok m) (ho : g.offset = off) (h' : OpensF enc P W fs (off + sz) sz' f' ok' m') :
    OpensF enc P W (g :: fs) off (sz + sz') (fun p : α × β => f p.1 ++ f' p.2) (fun p => ok p.1 ∧ ok' p.2) (fun p => m p.1 + m' p.2) := by
  refine ⟨fun x hx => by rw [List.length_append, h.2.1 _ hx.1, h'.1 _ hx.2], fun fuel cs xs hxl hl ht hw => ?_⟩
  cases xs with
  | nil => simp at hxl
  | cons x xs =>
    have h0 := ht 0 g rfl
    rw [List.getElem?_cons_zero, ho, h.1] at h0
    simp only [List.map_cons, DataW.weightsEach, List.mem_append] at hw
    obtain ⟨y, hy, oy, by_⟩ := h.2.2 fuel _ x h0 fun n hn => hw n (.inl hn)
    obtain ⟨z, hz, oz, bz⟩ := h'.2 fuel cs xs (by simpa using hxl) (by omega) (fun i g' hg => by
      have := ht (i + 1) g' (by simpa using hg)
      rwa [List.getElem?_cons_succ] at this) fun n hn => hw n (.inr hn)
    refine ⟨(y, z), ?_, ⟨oy, oz⟩, ?_⟩
    · show _ = f y ++ f' z
      rw [← hy, ← hz, ← List.drop_drop, List.take_append_drop]
    · simp only [List.map_cons, Go.Proofs.Ytofecellbfhnjaa.Rows.uptoBulkAll]
      omega

theorem opens_struct {α : Type} {T : TypeId} {fs : Array Field} {sz : Nat} {f : α → List Value} {ok : α → Prop} {m : α → Nat} (hu : P.underlying T = some (.struct fs)) (hc : P.cellsOf T = sz) (h : OpensF enc P W fs.toList 0 sz f ok m) : Opens enc P W T sz f ok m := by
  refine ⟨hc, h.1, fun fuel cs d ht hw => ?_⟩
  obtain ⟨xs, n, _, rfl, hl, hxl, hx⟩ := DataW.trod_struct hu ht
  obtain ⟨y, hy, oy, b⟩ := h.2 n cs xs (by rw [hxl, Array.length_toList]) (by rw [hl, hc, Nat.zero_add]) (fun i g hg => hx i g (by simpa using hg)) (fun n hn => hw n (by simp only [DataW.weights, hu]; exact hn))
  exact ⟨y, by simpa using hy, oy, by simp only [Go.Proofs.Ytofecellbfhnjaa.Rows.uptoBulk]; omega⟩

theorem choose_list {α : Type} {p : Nat → α → Prop} : ∀ n, (∀ i, i < n → ∃ x, p i x) → ∃ l : List α, l.length = n ∧ ∀ i x, l[i]? = some x → p i x
  | 0, _ => ⟨[], rfl, fun i x h => by simp at h⟩
  | n + 1, h => by
    obtain ⟨l, hl, hp⟩ := choose_list n fun i hi => h i (by omega)
    obtain ⟨x, hx⟩ := h n (by omega)
    refine ⟨l ++ [x], by simp [hl], fun i y hy => ?_⟩
    by_cases hi : i < l.length
    · rw [List.getElem?_append_left hi] at hy
      exact hp i y hy
    · rw [List.getElem?_append_right (by omega)] at hy
      have h0 : i - l.length = 0 := by have := (List.getElem?_eq_some_iff.1 hy).1; simp at this; omega
      rw [h0] at hy
      simp only [List.getElem?_cons_zero, Option.some.injEq] at hy
      subst hy
      have : i = n := by omega
      subst this
      exact hx

theorem opens_slice {α : Type} {T e : TypeId} {sz by_ : Nat} {f : α → List Value} {ok : α → Prop} {mm : α → Nat} (hu : P.underlying T = some (.slice e)) (hT : P.cellsOf T = 1) (hby : P.bytesOf e = by_) (h : Opens enc P W e sz f ok mm) :
    Opens enc P W T 1 (fun s : Sl α => s.f) (fun s => InS f by_ ok W [] s.a s.c s.l) (fun s => (s.l.map fun x => mm x + 1).sum) := by
  refine ⟨hT, fun _ _ => rfl, fun fuel cs d ht hw => ?_⟩
  rcases Deep.open_slice hu ht with ⟨rfl, rfl⟩ | ⟨a, len, cap, m, n, D, Pl, rfl, _, hl, hm, hmm, rfl, hx⟩
  · exact ⟨⟨none, 0, []⟩, rfl, ⟨ro_nil rfl, fun _ => rfl, Nat.le_refl _, by simp, fun _ h => by cases h⟩, by simp [Go.Proofs.Ytofecellbfhnjaa.Rows.uptoBulk]⟩
  · simp only [if_true] at hmm
    obtain rfl := hmm.symm
    simp only [DataW.weights, hu, List.mem_cons, List.mem_append, List.length_map, List.length_range] at hw
    have hs := hw _ (.inl rfl)
    rw [hby] at hs
    have e1 : reachBytes = 140737488351232 := rfl
    rw [e1] at hs
    obtain ⟨l, hll, hlp⟩ := choose_list (p := fun i y => W.cells? 0 (a.add (i * sz)) sz = some (f y) ∧ ok y ∧ mm y + 1 ≤ Go.Proofs.Ytofecellbfhnjaa.Rows.uptoBulk (D i)) len fun i hi => by
      obtain ⟨cs', h1, h2⟩ := hx i (by omega)
      rw [h.1] at h1
      obtain ⟨y, rfl, oy, b⟩ := h.2.2 n cs' _ h2 fun k hk => hw k (.inr (.inl (mem_weightsAll (List.mem_map.2 ⟨i, by simpa using hi, rfl⟩) hk)))
      exact ⟨y, h1, oy, b⟩
    have hmem : ∀ x ∈ l, ok x := fun x hx => by
      obtain ⟨i, hi, rfl⟩ := List.mem_iff_getElem.1 hx
      exact (hlp i _ (List.getElem?_eq_getElem hi)).2.1
    refine ⟨⟨some a, cap, l⟩, by simp [Sl.f, hll], ⟨ro_nil ?_, fun h => (by cases h), by show l.length ≤ cap; omega, ?_, hmem⟩, ?_⟩
    rotate_left 2
    · simp only [Go.Proofs.Ytofecellbfhnjaa.Rows.uptoBulk]
      have := bulk_list (m := mm) (l := l) (ds := (List.range len).map D) (by simp; omega) fun i x d hx hd => by
        have hi : i < len := by have := (List.getElem?_eq_some_iff.1 hx).1; omega
        simp only [List.getElem?_map, List.getElem?_range hi, Option.map_some, Option.some.injEq] at hd
        rw [← hd]
        exact (hlp i x hx).2.2
      show (l.map fun x => mm x + 1).sum + 1 ≤ _
      omega
    · intro j u hj
      obtain ⟨i, k, x, rfl, hk, hi, hu'⟩ := flat_get_inv (fun x hx => h.2.1 x (hmem x hx)) hj
      have h1 := (World.cells?_some (hlp i x hi).1).2.2 k hk
      rw [hu'] at h1
      rw [← h1, Deep.add_add]
    · show l.length * by_ ≤ _
      have h1 : l.length * by_ ≤ (len + (cap - len)) * by_ := Nat.mul_le_mul_right _ (by omega)
      exact Nat.le_trans h1 hs

theorem flatMap_bys (l : List UInt8) : l.flatMap (fun b => [bv b]) = bys l := by simp [bys, List.flatMap_def]; induction l <;> simp_all <;> omega
theorem sum_ones {α : Type} (l : List α) : (l.map fun _ => 0 + 1).sum = l.length := by induction l <;> simp_all <;> omega
theorem opens_bys {T e : TypeId} (hu : P.underlying T = some (.slice e)) (hT : P.cellsOf T = 1) (he : P.underlying e = some (.int .u8)) (hc : P.cellsOf e = 1) (hby : P.bytesOf e = 1) :
    Opens enc P W T 1 (fun s : Sl UInt8 => s.f) (fun s => InB W [] s.a s.c s.l) (fun s => s.l.length) :=
  (opens_slice hu hT hby (opens_u8 he hc)).map id (fun _ => rfl) (fun s h => ⟨by have := h.ro; rwa [flatMap_bys] at this, h.nz, h.cap, by have := h.small; rw [Nat.mul_one] at this; exact Nat.le_trans this (by decide)⟩) (fun s => Nat.le_of_eq (sum_ones s.l).symm) (fun _ _ => rfl)
theorem open_many {α : Type} {T : TypeId} {sz : Nat} {f : α → List Value} {ok : α → Prop} {m : α → Nat} (h : Opens enc P W T sz f ok m) {v : Value} {d : DataW H} {ps : List MemPlace} (hd : DataW.Trod enc P W 0 (fun _ => true) true T v d ps) (hv : ∃ cs, v = .agg cs)
    (hw : ∀ n ∈ d.weights P T, n ≤ reachBytes) : ∃ y : α, v = .agg (f y).toArray ∧ ok y ∧ m y + 1 ≤ Go.Proofs.Ytofecellbfhnjaa.Rows.uptoBulk d := by
  obtain ⟨cs, rfl⟩ := hv
  obtain ⟨fuel, hf⟩ := hd
  obtain ⟨y, hy, oy, b⟩ := h.2.2 fuel _ _ hf hw
  refine ⟨y, ?_, oy, b⟩
  have : cs.toList = f y := hy
  rw [← this]
theorem bulk_at {ds : List (DataW H)} (h : Go.Proofs.Ytofecellbfhnjaa.Rows.uptoSmall H ds = true) : Go.Proofs.Ytofecellbfhnjaa.Rows.uptoBulkAll ds ≤ 1048576 := of_decide_eq_true h
theorem sized_each {ts : List TypeId} {ds : List (DataW H)} (h : (DataW.weightsEach P ts ds).all (· ≤ reachBytes) = true) {j : Nat} {t : TypeId} {d : DataW H} (ht : ts[j]? = some t) (hd : ds[j]? = some d) : ∀ n ∈ d.weights P t, n ≤ reachBytes := fun n hn => by
  have := List.all_eq_true.1 h _ (DataW.weights_mem_each ht hd n hn)
  simpa using this
theorem okWide_agg {r : Reach} {b0 : Nat} {T : TypeId} {v : Value} (hu : (∃ fs, P.underlying T = some (.struct fs)) ∨ ∃ n e, P.underlying T = some (.array n e)) (h : Value.okWide P W r b0 T v) : ∃ cs, v = .agg cs := by
  rcases hu with ⟨fs, hu⟩ | ⟨n, e, hu⟩ <;> simp only [Value.okWide, hu] at h <;> obtain ⟨cs, h1, _⟩ := h <;> exact ⟨cs, h1⟩
end
end Go.Dbr

/- Slices within what is owned: read alone, carried along as one entry; parts of a slice that is handed in. -/


namespace Go.Dbr
open Go Go.RowKit
section
variable {w w0 : World} {L L0 : List Ent}

/-- what an entry gives to those that are read alone -/
def Ent.inn : Ent → List Inn
  | .grp D => D
  | .vec a cap sz xs T => [(a, cap, sz, xs, T)]
  | _ => []
def innAt (L : List Ent) (k : Nat) : List Inn := match L[k]? with
  | some e => e.inn
  | none => []
theorem mem_innAt {L : List Ent} {k : Nat} {d : Inn} (h : d ∈ innAt L k) : ∃ e, L[k]? = some e ∧ d ∈ e.inn := by
  unfold innAt at h
  cases he : L[k]? with
  | none => rw [he] at h; cases h
  | some e => rw [he] at h; exact ⟨e, rfl, h⟩
theorem inn_own {e : Ent} {d : Inn} (h : d ∈ e.inn) {b : Nat} (hb : d.ent.blk = some b) : e.own b := by
  cases e with
  | box b cs T => cases h
  | map b kv => cases h
  | grp D => exact ⟨d, h, hb⟩
  | vec a cap sz xs T =>
    have : d = (a, cap, sz, xs, T) := List.mem_singleton.1 h
    subst this
    exact hb
theorem inn_holds {e : Ent} {d : Inn} (h : d ∈ e.inn) (he : e.holds w) : d.ent.holds0 w := by
  cases e with
  | box b cs T => cases h
  | map b kv => cases h
  | grp D => exact he d h
  | vec a cap sz xs T =>
    have : d = (a, cap, sz, xs, T) := List.mem_singleton.1 h
    subst this
    exact he
/-- some entries are kept, others become one that is read alone -/
theorem Ev.group (H : Ev w0 L0 w L) (is ks : List Nat) {M : List Ent} {D : List Inn} (hm : M.map some = is.map (fun i => L[i]?)) (hD : D = ks.flatMap (innAt L)) (nd : (is ++ ks).Nodup) : Ev w0 L0 w (M ++ [.grp D]) := by
  have ndi : is.Nodup := (List.nodup_append.1 nd).1
  have hh := H.heap
  have inD : ∀ d : Inn, d ∈ D → ∃ (k : Nat) (e : Ent), k ∈ ks ∧ L[k]? = some e ∧ d ∈ e.inn := by
    intro d hd
    rw [hD] at hd
    obtain ⟨k, hk, hd⟩ := List.mem_flatMap.1 hd
    obtain ⟨e, he, hd⟩ := mem_innAt hd
    exact ⟨k, e, hk, he, hd⟩
  have ownD : ∀ b, Owns [Ent.grp D] b → ∃ (k : Nat) (e : Ent), k ∈ ks ∧ L[k]? = some e ∧ e.own b := by
    intro b ⟨i, e, hi, he⟩
    cases i with
    | succ i => simp at hi
    | zero =>
      simp only [List.getElem?_cons_zero, Option.some.injEq] at hi
      subst hi
      obtain ⟨d, hd, hb⟩ := he
      obtain ⟨k, e, hk, hke, hde⟩ := inD d hd
      exact ⟨k, e, hk, hke, inn_own hde hb⟩
  have one : Heap w [Ent.grp D] := by
    have at0 : ∀ (i : Nat) (f : Ent), [Ent.grp D][i]? = some f → i = 0 ∧ f = .grp D := fun i f hi => by
      cases i with
      | zero => exact ⟨rfl, by simpa using hi.symm⟩
      | succ i => simp at hi
    refine ⟨fun i j f g b hi hj _ _ => by rw [(at0 i f hi).1, (at0 j g hj).1], fun i f hi => ?_⟩
    rw [(at0 i f hi).2]
    intro d hd
    obtain ⟨k, e, _, hke, hde⟩ := inD d hd
    exact inn_holds hde (hh.holds k e hke)
  refine ⟨(hh.pick is hm ndi).append one fun b ho ho' => ?_, H.chg, fun b ho => ?_⟩
  · obtain ⟨k, e, hk, hke, heb⟩ := ownD b ho'
    obtain ⟨j, f, hj, hf⟩ := ho
    have h1 : (M.map some)[j]? = some (some f) := by simp [hj]
    rw [hm, List.getElem?_map] at h1
    cases hi : is[j]? with
    | none => simp [hi] at h1
    | some i =>
      have h2 : L[i]? = some f := by simpa [hi] using h1
      have e1 := hh.sep i k f e b h2 hke hf heb
      subst e1
      exact (List.nodup_append.1 nd).2.2 i (List.mem_of_getElem? hi) i hk rfl
  · rcases owns_append.1 ho with h1 | h1
    · exact H.new b (owns_pick hm h1)
    · obtain ⟨k, e, _, hke, heb⟩ := ownD b h1
      exact H.new b ⟨k, e, hke, heb⟩
/-- nothing that is read alone yet -/
theorem Ev.grp0 (H : Ev w0 L0 w L) : Ev w0 L0 w (L ++ [.grp []]) :=
  H.trans (Ev.add H.heap (Chg.refl _ _) (fun d hd => by cases hd) (fun b hb => by obtain ⟨d, hd, _⟩ := hb; cases hd))
/-- one that is read alone, where the callee owns others -/
theorem Heap.innRo (h : Heap w L) {M : List Ent} {k : Nat} {D : List Inn} (hk : L[k]? = some (.grp D)) {a : Option Addr} {cap sz : Nat} {xs : List Value} {T : TypeId} (hd : (a, cap, sz, xs, T) ∈ D) (is : List Nat) (hm : M.map some = is.map (fun i => L[i]?)) (hn : is.contains k = false) : Ro w M a xs := by
  have h0 : Ent.holds0 w (.vec a cap sz xs T) := h.holds k _ hk _ hd
  have one : Heap w [Ent.vec a cap sz xs T] := by
    have at0 : ∀ (i : Nat) (f : Ent), [Ent.vec a cap sz xs T][i]? = some f → i = 0 ∧ f = .vec a cap sz xs T := fun i f hi => by
      cases i with
      | zero => exact ⟨rfl, by simpa using hi.symm⟩
      | succ i => simp at hi
    exact ⟨fun i j f g b hi hj _ _ => by rw [(at0 i f hi).1, (at0 j g hj).1], fun i f hi => by rw [(at0 i f hi).2]; exact h0⟩
  refine ⟨one.reads (k := 0) rfl, fun ad ha _ ho => ?_⟩
  obtain ⟨j, e, hj, he⟩ := ho
  have h1 : (M.map some)[j]? = some (some e) := by simp [hj]
  rw [hm, List.getElem?_map] at h1
  cases hi : is[j]? with
  | none => simp [hi] at h1
  | some i =>
    have h2 : L[i]? = some e := by simpa [hi] using h1
    have := h.sep k i _ e ad.block hk h2 ⟨_, hd, by simp [Inn.ent, Ent.blk, ha]⟩ he
    subst this
    have hmem : k ∈ is := List.mem_of_getElem? hi
    have := List.contains_iff_mem.2 hmem
    rw [hn] at this
    cases this
theorem vec_nz {a : Option Addr} {cap : Nat} {l : List UInt8} {T : TypeId} (h0 : Ent.holds0 w (.vec a cap 1 (bys l) T)) : (a = none → l.length = 0) ∧ l.length ≤ cap := by
  cases a with
  | none =>
    obtain ⟨h1, h2⟩ := h0
    have : l = [] := by
      cases l with
      | nil => rfl
      | cons x r => cases h2
    subst this
    exact ⟨fun _ => rfl, Nat.zero_le _⟩
  | some ad =>
    obtain ⟨_, _, h3, _⟩ := h0
    rw [bys_length, Nat.mul_one] at h3
    exact ⟨fun e => (by cases e), h3⟩
/-- bytes that are read alone -/
theorem Heap.innB (h : Heap w L) {M : List Ent} {k : Nat} {D : List Inn} (hk : L[k]? = some (.grp D)) {a : Option Addr} {cap : Nat} {l : List UInt8} {T : TypeId} (hd : (a, cap, 1, bys l, T) ∈ D) (is : List Nat) (hm : M.map some = is.map (fun i => L[i]?)) (hn : is.contains k = false) (hs : l.length ≤ 140737489403904) : InB w M a cap l := by
  have h0 : Ent.holds0 w (.vec a cap 1 (bys l) T) := h.holds k _ hk _ hd
  exact ⟨h.innRo hk hd is hm hn, (vec_nz h0).1, (vec_nz h0).2, hs⟩
/-- structs whose slices are read alone -/
theorem Heap.innS {α : Type} {f : α → List Value} {sz by_ : Nat} {ok : α → Prop} (h : Heap w L) {M : List Ent} {k : Nat} {a : Option Addr} {cap : Nat} {xs : List α} {T : TypeId} (hk : L[k]? = some (.vec a cap sz (xs.flatMap f) T))
    (hf : ∀ x, (f x).length = sz) (h1 : 0 < sz) (is : List Nat) (hm : M.map some = is.map (fun i => L[i]?)) (hn : is.contains k = false) (hs : xs.length * by_ ≤ 140737488351232) (ho : ∀ x ∈ xs, ok x) : InS f by_ ok w M a cap xs := by
  have h0 : Ent.holds0 w (.vec a cap sz (xs.flatMap f) T) := h.holds k _ hk
  have hlen : ∀ ys : List α, (ys.flatMap f).length = ys.length * sz := by
    intro ys
    induction ys with
    | nil => simp
    | cons y r ih => rw [List.flatMap_cons, List.length_append, hf, ih, List.length_cons, Nat.succ_mul, Nat.add_comm]
  refine ⟨h.ro hk is hm hn, fun ha => ?_, ?_, hs, ho⟩
  · subst ha
    obtain ⟨_, h2⟩ := h0
    have := hlen xs
    rw [h2] at this
    rcases Nat.eq_zero_or_pos xs.length with e | e
    · exact e
    · have := Nat.mul_pos e h1; simp at *; omega
  · cases a with
    | none =>
      obtain ⟨h1', h2⟩ := h0
      have := hlen xs
      rw [h2] at this
      rcases Nat.eq_zero_or_pos xs.length with e | e
      · rw [e]; exact Nat.zero_le _
      · have := Nat.mul_pos e h1; simp at *; omega
    | some ad =>
      obtain ⟨_, _, h3, _⟩ := h0
      rw [hlen] at h3
      exact Nat.le_of_mul_le_mul_right h3 h1

/-- whoever may read the one may read the other -/
def Sub (a : Option Addr) (c : Nat) (l : List UInt8) (a' : Option Addr) (c' : Nat) (l' : List UInt8) : Prop := ∀ w M, InB w M a c l → InB w M a' c' l'
theorem Sub.self {a : Option Addr} {c : Nat} {l : List UInt8} : Sub a c l a c l := fun _ _ h => h
theorem Sub.nil {a : Option Addr} {c : Nat} {l : List UInt8} : Sub a c l none 0 [] := fun w M _ => InB.nil w M
theorem Sub.trans {a : Option Addr} {c : Nat} {l : List UInt8} {a' : Option Addr} {c' : Nat} {l' : List UInt8} {a2 : Option Addr} {c2 : Nat} {l2 : List UInt8} (h : Sub a c l a' c' l') (k : Sub a' c' l' a2 c2 l2) : Sub a c l a2 c2 l2 := fun w M i => k w M (h w M i)
end
end Go.Dbr

/- A slice's bytes as an array: over any program. -/

namespace Go.Dbr
open Go Go.RowKit
section
variable {P : Program}
variable {w : World}
end
end Go.Dbr

/- Whole numbers shifted; bits of both; a slice cut short: over any program. -/


namespace Go.Dbr
open Go Go.RowKit
section
variable {P : Program} {ops : Array Oper} {Q : Exit → Act → World → Prop} {n i : Nat} {l : List (Nat × Value)} {a : Act} {w w0 : World} {L L0 : List Ent} {d : Option Tmp} {K : Act → World → Prop}
theorem run_shr_i64 (x : Nat) (k : IntKind) (m : Nat) (hm : m < 64) (w : World) : (Op.shift .shr .i64 ((x : Nat) : Int) k ((m : Nat) : Int)).run P w = .ok (.int .i64 ((x / 2 ^ m : Nat) : Int)) w := by
  unfold Op.shift
  have h1 : ¬ (((m : Nat) : Int) < 0) := by omega
  have h2 : min (((m : Nat) : Int)).toNat (IntKind.bits .i64) = m := by simp [IntKind.bits]; omega
  rw [if_neg h1]
  simp only [h2, Sem.run_pure]
  rw [Int.fdiv_eq_ediv_of_nonneg _ (Int.pow_nonneg (by decide)), Int.natCast_ediv, Int.natCast_pow]
  rfl
theorem i64_or_nat {x y : Nat} (hx : x < 9223372036854775808) (hy : y < 9223372036854775808) : IntKind.wrap .i64 ((BitVec.ofInt (IntKind.bits .i64) ((x : Nat) : Int) ||| BitVec.ofInt (IntKind.bits .i64) ((y : Nat) : Int)).toNat : Int) = ((x ||| y : Nat) : Int) := by
  have h : x ||| y < 2 ^ 63 := Nat.or_lt_two_pow (by simpa using hx) (by simpa using hy)
  have e1 : (BitVec.ofInt (IntKind.bits .i64) ((x : Nat) : Int)).toNat = x := by
    show (BitVec.ofInt 64 ((x : Nat) : Int)).toNat = x
    rw [BitVec.ofInt_natCast, BitVec.toNat_ofNat, Nat.mod_eq_of_lt (by omega)]
  have e2 : (BitVec.ofInt (IntKind.bits .i64) ((y : Nat) : Int)).toNat = y := by
    show (BitVec.ofInt 64 ((y : Nat) : Int)).toNat = y
    rw [BitVec.ofInt_natCast, BitVec.toNat_ofNat, Nat.mod_eq_of_lt (by omega)]
  rw [BitVec.toNat_or, e1, e2]
  exact wr64 rfl (by omega) (by omega)
theorem or_low {x y : Nat} (k : Nat) (h : y < 2 ^ k) : x * 2 ^ k ||| y = x * 2 ^ k + y := by
  rw [← Nat.shiftLeft_eq, ← Nat.shiftLeft_add_eq_or_of_lt h]
/-- a byte put behind -/
theorem i64_or_low {x y : Nat} (k : Nat) (h : y < 2 ^ k) (hx : x * 2 ^ k + y < 9223372036854775808) : IntKind.wrap .i64 ((BitVec.ofInt (IntKind.bits .i64) ((x * 2 ^ k : Nat) : Int) ||| BitVec.ofInt (IntKind.bits .i64) ((y : Nat) : Int)).toNat : Int) = ((x * 2 ^ k + y : Nat) : Int) := by
  rw [i64_or_nat (by omega) (by omega), or_low k h]
theorem nat_to_u16 {a : Int} {n : Nat} (ha : a = ((n : Nat) : Int)) : IntKind.wrap .u16 a = ((UInt16.toNat (UInt16.ofNat n) : Nat) : Int) := by
  subst ha; rw [wrap_u16, UInt16.toNat_ofNat']; omega
theorem nat_to_u32 {a : Int} {n : Nat} (ha : a = ((n : Nat) : Int)) : IntKind.wrap .u32 a = ((UInt32.toNat (UInt32.ofNat n) : Nat) : Int) := by
  subst ha; rw [wrap_u32, UInt32.toNat_ofNat']; omega
/-- x[:m:m] -/
theorem run_slicemx {t e : TypeId} {sz : Nat} (hu : P.underlying t = some (.slice e)) (hs : (fun w => (sizeOf e).run P w) = fun w => .ok sz w) (ao : Option Addr) (len cap m : Nat) (h2 : m ≤ cap) (k k' : IntKind) (w : World) :
    (Instr.sliceAt t (.slice ao len cap) none (some (.int k ((m : Nat) : Int))) (some (.int k' ((m : Nat) : Int)))).run P w = .ok (.slice ao m m) w := by
  have hs' : (sizeOf e).run P w = .ok sz w := congrFun hs w
  have hc := cutAt_zero ao m sz
  unfold cutAt at hc
  rw [Nat.zero_mul] at hc
  simp [Instr.sliceAt, Instr.slice, Instr.sliceBounds, Instr.sliceBound, run_underlying hu, asIntOf, hs', h2, hc]
theorem sub_mx {a : Option Addr} {c : Nat} {l : List UInt8} (m : Nat) (h : m ≤ l.length) : Sub a c l a m (List.take m l) := fun _ _ i => by
  have j := i.take m
  refine ⟨j.ro, j.nz, by rw [List.length_take]; omega, j.small⟩
theorem sub_drop {a : Option Addr} {c : Nat} {l : List UInt8} (m : Nat) (h : m ≤ l.length) : Sub a c l (cutAt a c m 1) (c - m) (List.drop m l) := fun _ _ i => i.drop m h
end
end Go.Dbr
