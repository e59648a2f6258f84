import Derived.Test.YtfcfgbejpcmmkaaDoorBk2
import Derived.Laws.StructEq
import Derived.Laws.Tables
import Derived.MapKept
import Derived.ChangeMaps5
import Derived.Laws.RangeString
import Derived.Shelf.Strings.Builder1
import Derived.Shelf.Strings.Trim
import Derived.Shelf.Small.Utf8
import Derived.Shelf.Small.Strs
import Derived.Shelf.Strconv.Itoa0
import Derived.Shelf.Strconv.Itoa1
import Derived.Shelf.LaysM
import Derived.Shelf.Strconv.Itoa2
import Derived.Ground.MpProg
import Derived.Shelf.Pu.ParseUintPublic10
import Derived.Shelf.Pu.ErrVarParseUint
import Derived.Shelf.Strings.Search1
import Derived.Shelf.Strings.Prefix
import Derived.Shelf.Strings.Runes
import Derived.Shelf.Strings.AsciiSet
import Derived.Shelf.Unicode.DecodeSlow
import Derived.Ground.Names2Prog
import Derived.Shelf.Slices.Clone
import Derived.Shelf.Slices.Delete
import Derived.Shelf.Slices.Empties
import Derived.Test.YtfcfgbejpcmmkaaDoorProg
import Derived.Laws.IdiomStrings
import Derived.Lib.Walk
import Derived.Lib.ItoaWalk
import Derived.Lib.ItoaMem
import Derived.Lib.AppendIntMem
import Derived.Lib.Hide
import Derived.OwnWalk
import Derived.WalkKit
import Derived.BigCall
import Derived.BigGuard
import Derived.CellFam
/- Drawn regions whose operations each yield their value in every world that keeps what stands: one fact an operation. -/

namespace Go.Dbr
open Go Go.RowKit
set_option linter.unusedSimpArgs false
set_option linter.unusedVariables false

/-! ## who waits for whom, by masks -/
def cloStep (acc : List Nat) : List Edge → Nat
  | [] => 0
  | e :: r => bif Region.binds .any e then 2 ^ e.on ||| acc.getD e.on 0 ||| cloStep acc r else cloStep acc r
def clo : List Oper → List Nat → List Nat
  | [], acc => acc
  | o :: r, acc => clo r (acc ++ [cloStep acc o.after.toList])
theorem cloStep_spec {acc : List Nat} {i : Nat} : ∀ (es : List Edge), Nat.testBit (cloStep acc es) i = true → ∃ e ∈ es, Region.binds .any e = true ∧ (e.on = i ∨ Nat.testBit (acc.getD e.on 0) i = true)
  | [], h => by simp [cloStep] at h
  | e :: r, h => by
    unfold cloStep at h
    cases hb : Region.binds .any e with
    | true =>
      rw [hb, Bool.cond_true, Nat.testBit_or, Nat.testBit_or, Bool.or_eq_true, Bool.or_eq_true] at h
      rcases h with (h | h) | h
      · refine ⟨e, List.mem_cons_self .., hb, .inl ?_⟩
        rw [Nat.testBit_two_pow] at h
        exact of_decide_eq_true h
      · exact ⟨e, List.mem_cons_self .., hb, .inr h⟩
      · obtain ⟨e', he, hr⟩ := cloStep_spec r h
        exact ⟨e', List.mem_cons_of_mem _ he, hr⟩
    | false =>
      rw [hb, Bool.cond_false] at h
      obtain ⟨e', he, hr⟩ := cloStep_spec r h
      exact ⟨e', List.mem_cons_of_mem _ he, hr⟩
theorem WaitsT.of {ops : Array Oper} {i s : Nat} {o : Oper} {e : Edge} (ho : ops[s]? = some o) (he : e ∈ o.after) (hb : Region.binds .any e = true) (h : e.on = i ∨ WaitsT ops i e.on) : WaitsT ops i s := h.elim (.one ho he hb) (.step ho he hb)
theorem clo_spec {ops : Array Oper} {i : Nat} : ∀ (l : List Oper) (acc : List Nat), (∀ (k : Nat) (o : Oper), l[k]? = some o → ops[acc.length + k]? = some o) → (∀ j, Nat.testBit (acc.getD j 0) i = true → WaitsT ops i j) → ∀ j, Nat.testBit ((clo l acc).getD j 0) i = true → WaitsT ops i j
  | [], acc, _, h, j, hj => h j hj
  | o :: r, acc, hl, h, j, hj => by
    refine clo_spec r (acc ++ [cloStep acc o.after.toList]) (fun k o' hk => ?_) (fun j' hj' => ?_) j hj
    · have := hl (k + 1) o' (by simpa using hk)
      rw [List.length_append, List.length_singleton]
      rw [show acc.length + (k + 1) = acc.length + 1 + k by omega] at this
      exact this
    · rcases Nat.lt_trichotomy j' acc.length with c | c | c
      · rw [List.getD_eq_getElem?_getD, List.getElem?_append_left c, ← List.getD_eq_getElem?_getD] at hj'
        exact h j' hj'
      · subst c
        rw [List.getD_eq_getElem?_getD, List.getElem?_append_right (Nat.le_refl _), Nat.sub_self] at hj'
        obtain ⟨e, he, hb, hr⟩ := cloStep_spec _ hj'
        have ho := hl 0 o rfl
        rw [Nat.add_zero] at ho
        exact .of ho (by simpa using he) hb (hr.imp id (h _))
      · rw [List.getD_eq_getElem?_getD, List.getElem?_eq_none (by rw [List.length_append, List.length_singleton]; omega)] at hj'
        simp at hj'

def maskOf : List Nat → Nat
  | [] => 0
  | i :: r => 2 ^ i ||| maskOf r
theorem maskOf_spec {i : Nat} : ∀ {l : List Nat}, i ∈ l → Nat.testBit (maskOf l) i = true
  | j :: r, h => by
    unfold maskOf
    rw [Nat.testBit_or]
    rcases List.mem_cons.1 h with rfl | h'
    · rw [Nat.testBit_two_pow_self, Bool.true_or]
    · rw [maskOf_spec h', Bool.or_true]
def restB (I : List Nat) (m : Nat) : List Nat → Nat → Bool
  | [], _ => true
  | c :: r, j => (I.contains j || Nat.beq (m &&& c) m) && restB I m r (j + 1)
theorem restB_spec {I : List Nat} {m : Nat} : ∀ (l : List Nat) (k : Nat), restB I m l k = true → ∀ (j : Nat) (c : Nat), l[j]? = some c → I.contains (k + j) = true ∨ m &&& c = m
  | [], k, _, j, c, h => by simp at h
  | x :: r, k, h, j, c, hc => by
    unfold restB at h
    simp only [Bool.and_eq_true, Bool.or_eq_true, Nat.beq_eq] at h
    cases j with
    | zero => simp at hc; subst hc; exact h.1
    | succ j =>
      have := restB_spec r (k + 1) h.2 j c (by simpa using hc)
      rwa [show k + 1 + j = k + (j + 1) by omega] at this
def inB (ops : Array Oper) (I : List Nat) (l0 : List (Nat × Value)) (i : Nat) : Bool := match ops[i]? with
  | some o => (o.after.all fun e => !Region.binds .any e || (Nat.blt e.on i && I.contains e.on)) && (match o.dst with | some d => (look l0 d).isNone | none => true)
  | none => false
/-- the first ones: what they wait for is among them, each has a place of its own; all others wait for all of them -/
def stabB (ops : Array Oper) (I : List Nat) (l0 : List (Nat × Value)) : Bool := nodupO ops.toList 0 && (I.all fun i => inB ops I l0 i) && restB I (maskOf I) (clo ops.toList []) 0 && Nat.beq (clo ops.toList []).length ops.size
/-- where an operand's value comes from -/
def srcOf (ops : Array Oper) (l0 L : List (Nat × Value)) (i t : Nat) : Option Value := match ops[i]? with
  | some o => bif (o.after.any fun e => Region.binds .any e && (match ops[e.on]? with | some q => (match q.dst with | some c => Nat.beq c t | none => false) | none => false)) then look L t else look l0 t
  | none => none
def oneL (ops : Array Oper) (L : List (Nat × Value)) (i : Nat) : List (Nat × Value) := match ops[i]? with
  | some o => (match o.dst with | some d => [(d, (look L d).getD undef)] | none => [])
  | none => []

theorem leastN {P : Nat → Prop} : ∀ n, P n → ∃ k, P k ∧ ∀ j, j < k → ¬ P j := fun n => by
  induction n using Nat.strongRecOn with
  | _ n ih =>
    intro h
    by_cases e : ∃ j, j < n ∧ P j
    · obtain ⟨j, hj, hp⟩ := e
      exact ih j hj hp
    · exact ⟨n, h, fun j hj hp => e ⟨j, hj, hp⟩⟩
theorem look_map_some2 {f : Nat → Option Value} {l : List (Nat × Value)} (h : l.map (fun p => f p.1) = l.map (fun p => some p.2)) : ∀ i v, look l i = some v → f i = some v := by
  induction l with
  | nil => intro i v hv; cases hv
  | cons x r ih =>
    intro i v hv
    simp only [List.map_cons, List.cons.injEq] at h
    unfold look at hv
    cases hb : Nat.beq x.1 i with
    | true =>
      rw [hb, Bool.cond_true] at hv
      cases hv
      have := Nat.eq_of_beq_eq_true hb
      rw [← this]
      exact h.1
    | false =>
      rw [hb, Bool.cond_false] at hv
      exact ih h.2 i v hv
section
variable {P : Program} {ops : Array Oper} {Q : Exit → Act → World → Prop} {n : Nat} {S : World → Prop} {l0 L : List (Nat × Value)} {I : List Nat}
def Stab (P : Program) (ops : Array Oper) (Q : Exit → Act → World → Prop) (n : Nat) (S : World → Prop) (l0 L : List (Nat × Value)) (i : Nat) : Prop :=
  ∃ E : List (Nat × Value), E.map (fun p => srcOf ops l0 L i p.1) = E.map (fun p => some p.2) ∧ ∀ a w, Env a n E → S w → wpOp P ops Q i (fun a' w' => Env a' n (oneL ops L i) ∧ S w') a w
structure Know (ops : Array Oper) (n : Nat) (l0 L : List (Nat × Value)) (I : List Nat) (a : Act) (listed : Array Bool) : Prop where
  size : a.tmps.size = n
  defers : a.defers = []
  old : ∀ t v, look l0 t = some v → a.tmps[t]? = some v
  new : ∀ i o d, i ∈ I → ops[i]? = some o → o.dst = some d → listed.getD i false = true → a.tmps[d]? = some ((look L d).getD undef)
theorem wpOp_put {i : Nat} {a : Act} {w : World} {K : Act → World → Prop} {o : Oper} (ho : ops[i]? = some o) (hd : ∀ a' w', K a' w' → a'.defers = []) (h : wpOp P ops Q i K a w) : wpOp P ops Q i (fun a' w' => K a' w' ∧ ∃ v, a' = a.put o.dst v) a w := by
  unfold wpOp at *
  simp only [ho] at h ⊢
  split
  · rename_i hw
    simp only [hw, if_true] at h
    refine h.imp (fun hh => ?_) id
    unfold Oper.wp at *
    generalize (execOp a.eval o).run P w = r at *
    cases r with
    | ok nx w' =>
      cases nx <;> simp only [Oper.upon] at hh ⊢
      all_goals first
        | exact ⟨hh, _, rfl⟩
        | exact Calls.mono hh (fun e w'' he => by cases e <;> first | exact ⟨he, _, rfl⟩ | exact he)
        | exact Rows.mono hh (fun _ _ he => ⟨he, _, rfl⟩)
        | (have := hd _ _ hh; cases hdst : o.dst <;> simp [Act.put, hdst] at this)
        | exact hh
    | halt x w' => cases x <;> simp only [Oper.upon] at hh ⊢ <;> exact hh
  · rename_i hw
    simp only [hw] at h
    exact ⟨h, _, rfl⟩
def cntF (l : Array Bool) : Nat := l.toList.countP fun b => !b
theorem cnt_set {l : List Bool} : ∀ {i : Nat}, l[i]? = some false → (l.set i true).countP (fun b => !b) + 1 = l.countP fun b => !b := by
  induction l with
  | nil => intro i h; simp at h
  | cons x r ih =>
    intro i h
    cases i with
    | zero =>
      simp at h
      subst h
      simp [List.countP_cons]
    | succ i =>
      have := ih (i := i) (by simpa using h)
      simp only [List.set_cons_succ, List.countP_cons]
      omega
theorem cntF_set {l : Array Bool} {i : Nat} (h : l.getD i true = false) : cntF (l.setIfInBounds i true) + 1 = cntF l := by
  have hi : i < l.size := by
    rcases Nat.lt_or_ge i l.size with g | g
    · exact g
    · simp [g] at h
  have e : l.toList[i]? = some false := by
    simp [hi] at h
    simp [hi, h]
  have := cnt_set e
  unfold cntF
  rw [Array.toList_setIfInBounds]
  exact this
/-- just the first ones have run -/
def LI (ops : Array Oper) (I : List Nat) : Array Bool := ((List.range ops.size).map fun j => I.contains j).toArray
def envI (ops : Array Oper) (l0 L : List (Nat × Value)) (i : Nat) : List (Nat × Value) := match ops[i]? with
  | some o => (o.looksAt ops).map fun t => (t, (srcOf ops l0 L i t).getD undef)
  | none => []
theorem stab_go {J : Array Bool → Act → World → Prop} (hB : stabB ops I l0 = true)
    (step : ∀ i ∈ I, ∀ (listed : Array Bool) (a : Act) (w : World) (o : Oper), ops[i]? = some o → listed.size = ops.size → listed.getD i true = false → (∀ e ∈ o.after, Region.binds .any e = true → e.on ∈ I ∧ listed.getD e.on false = true) → (∀ d, o.dst = some d → look l0 d = none) → J listed a w → wpOp P ops Q i (fun a' w' => J (listed.setIfInBounds i true) a' w') a w)
    (next : ∀ a w, J (LI ops I) a w → wpAny P .any ops Q (cntF (LI ops I)) (LI ops I) a w) :
    ∀ (m : Nat) (listed : Array Bool) (a : Act) (w : World), m = cntF listed → listed.size = ops.size → (∀ j, listed.getD j false = true → j ∈ I) → Closed ops listed → J listed a w → wpAny P .any ops Q m listed a w := by
  have hB' := hB
  unfold stabB at hB'
  simp only [Bool.and_eq_true, List.all_eq_true, Nat.beq_eq] at hB'
  obtain ⟨⟨⟨hnd, hin⟩, hrest⟩, hlen⟩ := hB'
  have inS : ∀ i ∈ I, ∃ o, ops[i]? = some o ∧ (∀ e ∈ o.after, Region.binds .any e = true → e.on < i ∧ e.on ∈ I) ∧ ∀ d, o.dst = some d → look l0 d = none := fun i hi => by
    have h := hin i hi
    unfold inB at h
    cases ho : ops[i]? with
    | none => rw [ho] at h; cases h
    | some o =>
      rw [ho] at h
      simp only [Bool.and_eq_true] at h
      refine ⟨o, rfl, fun e he hb => ?_, fun d hd => ?_⟩
      · have h1 := (Array.all_eq_true_iff_forall_mem.1 h.1) e he
        rw [hb] at h1
        simp only [Bool.not_true, Bool.false_or, Bool.and_eq_true, Nat.blt_eq] at h1
        exact ⟨h1.1, List.contains_iff_mem.1 h1.2⟩
      · have h2 := h.2
        rw [hd] at h2
        exact Option.isNone_iff_eq_none.1 h2
  intro m
  induction m with
  | zero =>
    intro listed a w hm hs hsub hcl hk
    have hall : ∀ j, j < ops.size → listed.getD j false = true := fun j hj => by
      cases h : listed.getD j false with
      | true => rfl
      | false =>
        have : listed.getD j true = false := by
          have hj' : j < listed.size := by omega
          simp [hj'] at h ⊢
          exact h
        have := cntF_set this
        omega
    have e : listed = LI ops I := by
      refine Array.ext (by simp [LI, hs]) fun j h1 h2 => ?_
      have h3 := hall j (by omega)
      have h4 := hsub j h3
      simp [h1] at h3
      simp [LI, h3, List.contains_iff_mem, h4]
    subst e
    rw [hm]
    exact next a w hk
  | succ m ih =>
    intro listed a w hm hs hsub hcl hk
    by_cases hall : ∀ i ∈ I, listed.getD i false = true
    · have e : listed = LI ops I := by
        refine Array.ext (by simp [LI, hs]) fun j h1 h2 => ?_
        by_cases hj : j ∈ I
        · have h3 := hall j hj
          simp [h1] at h3
          simp [LI, h3, List.contains_iff_mem, hj]
        · cases h3 : listed.getD j false with
          | true => exact absurd (hsub j h3) hj
          | false =>
            simp [h1] at h3
            simp [LI, h3, List.contains_iff_mem, hj]
      subst e
      rw [hm]
      exact next a w hk
    · have ⟨i0, h0⟩ : ∃ i, i ∈ I ∧ listed.getD i false = false := Classical.byContradiction fun hno => hall fun i hi => by
        cases h : listed.getD i false with
        | true => rfl
        | false => exact absurd ⟨i, hi, h⟩ hno
      obtain ⟨k, ⟨hkI, hku⟩, hmin⟩ := Go.Dbr.leastN (P := fun i => i ∈ I ∧ listed.getD i false = false) i0 h0
      obtain ⟨ok, hok, hafk, _⟩ := inS k hkI
      have hkt : listed.getD k true = false := by
        have : k < listed.size := by rw [hs]; exact (Array.getElem?_eq_some_iff.1 hok).1
        simp [this] at hku ⊢
        exact hku
      have hkr : k ∈ Region.ready .any ops listed := mem_ready.2 ⟨hkt, ok, hok, fun e he hb => by
        obtain ⟨h1, h2⟩ := hafk e he hb
        cases h : listed.getD e.on false with
        | true => rfl
        | false => exact absurd ⟨h2, h⟩ (hmin _ h1)⟩
      refine ⟨fun hr => absurd hkr (by rw [hr]; exact List.not_mem_nil), fun i hi => ?_⟩
      obtain ⟨hiu, o, ho, haf⟩ := mem_ready.1 hi
      have hiI : i ∈ I := Classical.byContradiction fun hno => by
        have hib := (Array.getElem?_eq_some_iff.1 ho).1
        have hc : (clo ops.toList [])[i]? = some ((clo ops.toList []).getD i 0) := by
          rw [List.getD_eq_getElem?_getD, List.getElem?_eq_getElem (by omega)]
          rfl
        rcases restB_spec _ 0 hrest i _ hc with h | h
        · rw [Nat.zero_add] at h
          exact hno (List.contains_iff_mem.1 h)
        · have hb := maskOf_spec hkI
          rw [← h, Nat.testBit_and, Bool.and_eq_true] at hb
          have hw := clo_spec (ops := ops) (i := k) ops.toList [] (fun j o' hj => by simpa using hj) (fun j hj => by simp at hj) i hb.2
          have := hw.no hcl o ho haf
          rw [hku] at this
          cases this
      obtain ⟨o', ho', hafI, hdn⟩ := inS i hiI
      rw [ho] at ho'
      cases ho'
      refine wpOp_mono (fun a' w' h => ?_) (step i hiI listed a w o ho hs hiu (fun e he hb => ⟨(hafI e he hb).2, haf e he hb⟩) hdn hk)
      exact ih (listed.setIfInBounds i true) a' w' (by have := cntF_set hiu; omega) (by simp [hs]) (fun j hj => by
        by_cases e : i = j
        · exact e ▸ hiI
        · refine hsub j ?_
          simp [Array.getElem?_setIfInBounds_ne e] at hj ⊢
          exact hj) (hcl.set hi) h
/-- what one of them knows and leaves -/
theorem stab_step (hnd : nodupO ops.toList 0 = true) {i : Nat} {listed : Array Bool} {a : Act} {w : World} {o : Oper} (hiI : i ∈ I) (hst : Stab P ops Q n S l0 L i) (ho : ops[i]? = some o) (hs : listed.size = ops.size) (hiu : listed.getD i true = false)
    (haf : ∀ e ∈ o.after, Region.binds .any e = true → e.on ∈ I ∧ listed.getD e.on false = true) (hdn : ∀ d, o.dst = some d → look l0 d = none) (hk : Know ops n l0 L I a listed) (hS : S w) :
    wpOp P ops Q i (fun a' w' => Know ops n l0 L I a' (listed.setIfInBounds i true) ∧ S w' ∧ ∃ v, a' = a.put o.dst v) a w := by
  obtain ⟨E, hE, hrun⟩ := hst
  have env : Env a n E := ⟨hk.size, hk.defers, fun t v hv => by
    have h1 := look_map_some2 hE t v hv
    unfold srcOf at h1
    rw [ho] at h1
    simp only at h1
    cases hany : (o.after.any fun e => Region.binds .any e && (match ops[e.on]? with | some q => (match q.dst with | some c => Nat.beq c t | none => false) | none => false)) with
    | true =>
      rw [hany, Bool.cond_true] at h1
      obtain ⟨e, he, hb⟩ := Array.any_eq_true'.1 hany
      simp only [Bool.and_eq_true] at hb
      cases hq : ops[e.on]? with
      | none => rw [hq] at hb; cases hb.2
      | some q =>
        rw [hq] at hb
        cases hc : q.dst with
        | none => simp [hc] at hb
        | some c =>
          simp only [hc, Nat.beq_eq] at hb
          have := hk.new e.on q t (haf e he hb.1).1 hq (by rw [hc, hb.2]) (haf e he hb.1).2
          rw [h1] at this
          exact this
    | false =>
      rw [hany, Bool.cond_false] at h1
      exact hk.old t v h1⟩
  have hrun2 := wpOp_put ho (fun a' w' h => h.1.defers) (hrun a w env hS)
  refine wpOp_mono (fun a' w' h => ?_) hrun2
  obtain ⟨⟨hE', hS'⟩, v', rfl⟩ := h
  have keep : ∀ t, o.dst ≠ some t → (a.put o.dst v').tmps[t]? = a.tmps[t]? := fun t ht => by
    cases hd : o.dst with
    | none => rfl
    | some d =>
      have : d ≠ t := fun e => ht (by rw [hd, e])
      simp [Act.put, Array.getElem?_setIfInBounds_ne this]
  refine ⟨⟨hE'.size, hE'.defers, fun t v hv => ?_, fun i' oi d hi' hoi hd hl => ?_⟩, hS', v', rfl⟩
  · rw [keep t (fun e => by rw [hdn t e] at hv; cases hv)]
    exact hk.old t v hv
  · by_cases e : i = i'
    · subst e
      rw [ho] at hoi
      cases hoi
      refine hE'.slot d _ ?_
      unfold oneL
      rw [ho]
      simp only [hd, look_self]
    · rw [keep d (fun g => e ((nodupO_spec _ _ hnd).2 i i' o oi d (by rw [Array.getElem?_toList]; exact ho) (by rw [Array.getElem?_toList]; exact hoi) g hd))]
      refine hk.new i' oi d hi' hoi hd ?_
      simp [Array.getElem?_setIfInBounds_ne e] at hl ⊢
      exact hl
end

/-! ## in a text -/
section
variable {P : Program} {ops : Array Oper} {Q : Exit → Act → World → Prop} {n : Nat} {l0 L : List (Nat × Value)} {I A : List Nat} {a : Act} {w w0 : World} {L0 Lh : List Ent}
def StabL (P : Program) (ops : Array Oper) (Q : Exit → Act → World → Prop) (n : Nat) (w0 : World) (L0 Lh : List Ent) (l0 L : List (Nat × Value)) : List Nat → Prop
  | [] => True
  | i :: r => (∀ M, Stab P ops Q n (fun wv => Ev w0 L0 wv (Lh ++ M)) l0 L i) ∧ StabL P ops Q n w0 L0 Lh l0 L r
theorem StabL.all : ∀ {I : List Nat}, StabL P ops Q n w0 L0 Lh l0 L I → ∀ i ∈ I, ∀ M, Stab P ops Q n (fun wv => Ev w0 L0 wv (Lh ++ M)) l0 L i
  | _ :: _, h, i, hi => (List.mem_cons.1 hi).elim (fun e => e ▸ h.1) (h.2.all i)
def srcE (ops : Array Oper) (I : List Nat) (l0 L : List (Nat × Value)) (t : Nat) : Option Value := bif I.any fun i => (match opD ops i with | some d => Nat.beq d t | none => false) then look L t else look l0 t
theorem Know.env {listed : Array Bool} {l' : List (Nat × Value)} (k : Know ops n l0 L I a listed) (hl : ∀ i ∈ I, listed.getD i false = true) (h : l'.map (fun p => srcE ops I l0 L p.1) = l'.map (fun p => some p.2)) : Env a n l' := ⟨k.size, k.defers, fun t v hv => by
  have h1 := look_map_some2 h t v hv
  unfold srcE at h1
  cases hany : (I.any fun i => (match opD ops i with | some d => Nat.beq d t | none => false)) with
  | true =>
    rw [hany, Bool.cond_true] at h1
    obtain ⟨i, hi, hb⟩ := List.any_eq_true.1 hany
    unfold opD at hb
    cases ho : ops[i]? with
    | none => rw [ho] at hb; cases hb
    | some o =>
      rw [ho] at hb
      simp only at hb
      cases hd : o.dst with
      | none => rw [hd] at hb; cases hb
      | some d =>
        rw [hd] at hb
        simp only [Nat.beq_eq] at hb
        subst hb
        have := k.new i o d hi ho hd (hl i hi)
        rw [h1] at this
        exact this
  | false =>
    rw [hany, Bool.cond_false] at h1
    exact k.old t v h1⟩
theorem put_keep {o : Oper} {v : Value} {t : Nat} (ht : o.dst ≠ some t) : (a.put o.dst v).tmps[t]? = a.tmps[t]? := by
  cases hd : o.dst with
  | none => rfl
  | some d =>
    have : d ≠ t := fun e => ht (by rw [hd, e])
    simp [Act.put, Array.getElem?_setIfInBounds_ne this]
theorem Know.put {listed : Array Bool} {i : Nat} {o : Oper} {v : Value} (hnd : nodupO ops.toList 0 = true) (hk : Know ops n l0 L I a listed) (ho : ops[i]? = some o) (hiI : i ∉ I) (hdn : ∀ d, o.dst = some d → look l0 d = none) : Know ops n l0 L I (a.put o.dst v) (listed.setIfInBounds i true) := by
  refine ⟨?_, ?_, fun t v hv => ?_, fun i' oi d hi' hoi hd hl => ?_⟩
  · cases o.dst with
    | none => exact hk.size
    | some d => simp [Act.put, hk.size]
  · cases o.dst with
    | none => exact hk.defers
    | some d => exact hk.defers
  · rw [put_keep (fun e => by rw [hdn t e] at hv; cases hv)]
    exact hk.old t v hv
  · have e : i ≠ i' := fun e => hiI (e ▸ hi')
    rw [put_keep (fun g => e ((nodupO_spec _ _ hnd).2 i i' o oi d (by rw [Array.getElem?_toList]; exact ho) (by rw [Array.getElem?_toList]; exact hoi) g hd))]
    refine hk.new i' oi d hi' hoi hd ?_
    simp [Array.getElem?_setIfInBounds_ne e] at hl ⊢
    exact hl
/-- new variables, in whatever order -/
def Alc (ops : Array Oper) (A : List Nat) (cA : Nat → List Value) (tA : Nat → TypeId) (w0 : World) (L0 Lh : List Ent) (listed : Array Bool) (a : Act) (w : World) : Prop :=
  ∃ bs : List (Nat × Nat), (bs.map Prod.fst).Nodup ∧ (∀ i, i ∈ bs.map Prod.fst ↔ i ∈ A ∧ listed.getD i false = true) ∧ (∀ p ∈ bs, ∀ o d, ops[p.1]? = some o → o.dst = some d → a.tmps[d]? = some (.pointer (some ⟨p.2, 0, none⟩))) ∧ Ev w0 L0 w (Lh ++ bs.map fun p => .box p.2 (cA p.1) (tA p.1))
def alcB (ops : Array Oper) (I A : List Nat) : Bool := (I.all fun i => match ops[i]? with
    | some o => o.after.all fun e => !Region.binds .any e || I.contains e.on
    | none => false) && (A.all fun i => !I.contains i && (match opD ops i with | some _ => true | none => false)) && nodupB A
def dN (ops : Array Oper) (i : Nat) : Nat := (opD ops i).getD 0
theorem Alc.put {cA : Nat → List Value} {tA : Nat → TypeId} {listed : Array Bool} {i : Nat} {o : Oper} {v : Value} {w' : World} {bs : List (Nat × Nat)} (hnd : nodupO ops.toList 0 = true) (ho : ops[i]? = some o) (hiA : i ∉ A)
    (h1 : (bs.map Prod.fst).Nodup) (h2 : ∀ i, i ∈ bs.map Prod.fst ↔ i ∈ A ∧ listed.getD i false = true) (h3 : ∀ p ∈ bs, ∀ o d, ops[p.1]? = some o → o.dst = some d → a.tmps[d]? = some (.pointer (some ⟨p.2, 0, none⟩))) (h4 : Ev w0 L0 w' (Lh ++ bs.map fun p => .box p.2 (cA p.1) (tA p.1))) :
    Alc ops A cA tA w0 L0 Lh (listed.setIfInBounds i true) (a.put o.dst v) w' := by
  refine ⟨bs, h1, fun j => ?_, fun p hp o' d ho' hd => ?_, h4⟩
  · rw [h2 j]
    by_cases e : i = j
    · subst e
      exact ⟨fun h => absurd h.1 hiA, fun h => absurd h.1 hiA⟩
    · simp [Array.getElem?_setIfInBounds_ne e]
  · have hpA := ((h2 p.1).1 (List.mem_map_of_mem hp)).1
    have e : i ≠ p.1 := fun e => hiA (e ▸ hpA)
    rw [put_keep (fun g => e ((nodupO_spec _ _ hnd).2 i p.1 o o' d (by rw [Array.getElem?_toList]; exact ho) (by rw [Array.getElem?_toList]; exact ho') g hd))]
    exact h3 p hp o' d ho' hd
/-- a new variable more -/
theorem Alc.step {cA : Nat → List Value} {tA : Nat → TypeId} {listed : Array Bool} {i : Nat} {o : Oper} (hnd : nodupO ops.toList 0 = true) (ho : ops[i]? = some o) (hiA : i ∈ A) (hiI : i ∉ I) (hs : listed.size = ops.size) (hiu : listed.getD i true = false)
    (hdn : ∀ d, o.dst = some d → look l0 d = none) (hk : Know ops n l0 L I a listed) (hA : Alc ops A cA tA w0 L0 Lh listed a w)
    (hop : opAt ops n i [] = some (.run (opD ops i) (nv (Instr.alloc (tA i) true (.tuple #[]))))) (hz : (fun w => (zeroValue (tA i)).run P w) = fun w => .ok (zeroV P (tA i)) w) (hc : (zeroV P (tA i)).cells.toList = cA i) (hsome : ∃ d, opD ops i = some d) :
    wpOp P ops Q i (fun a' w' => Know ops n l0 L I a' (listed.setIfInBounds i true) ∧ Alc ops A cA tA w0 L0 Lh (listed.setIfInBounds i true) a' w') a w := by
  obtain ⟨bs, h1, h2, h3, h4⟩ := hA
  have hil : i < listed.size := by rw [hs]; exact (Array.getElem?_eq_some_iff.1 ho).1
  have hif : listed.getD i false = false := by
    simp [hil] at hiu ⊢
    exact hiu
  have E0 : Env a n [] := ⟨hk.size, hk.defers, fun t v hv => by cases hv⟩
  have hrun : wpOp P ops Q i (fun a' w' => ∃ b, Env a' n (putl (opD ops i) (.pointer (some ⟨b, 0, none⟩)) []) ∧ Ev w0 L0 w' ((Lh ++ bs.map fun p => .box p.2 (cA p.1) (tA p.1)) ++ [.box b (cA i) (tA i)])) a w :=
    m_z (tA i) (cA i) E0 h4 (fun a' w' b E' H' => ⟨b, E', H'⟩) hop hz hc
  refine wpOp_mono (fun a' w' h => ?_) (wpOp_put ho (fun a' w' h => by obtain ⟨b, E', _⟩ := h; exact E'.defers) hrun)
  obtain ⟨⟨b, E', H'⟩, v, rfl⟩ := h
  obtain ⟨d, hd⟩ := hsome
  have hod : o.dst = some d := by
    unfold opD at hd
    rw [ho] at hd
    exact hd
  refine ⟨hk.put hnd ho hiI hdn, bs ++ [(i, b)], ?_, fun j => ?_, fun p hp o' d' ho' hd' => ?_, ?_⟩
  · rw [List.map_append, List.nodup_append]
    refine ⟨h1, by simp, fun x hx y hy e => ?_⟩
    simp at hy
    have := ((h2 x).1 hx).2
    rw [e, hy, hif] at this
    cases this
  · rw [List.map_append, List.mem_append, h2 j]
    by_cases e : i = j
    · subst e
      simp [hil, hiA]
    · have e' : j ≠ i := fun g => e g.symm
      simp [Array.getElem?_setIfInBounds_ne e, e']
  · rcases List.mem_append.1 hp with hp | hp
    · have hpl := ((h2 p.1).1 (List.mem_map_of_mem hp)).2
      have e : i ≠ p.1 := fun e => by rw [← e, hif] at hpl; cases hpl
      rw [put_keep (fun g => e ((nodupO_spec _ _ hnd).2 i p.1 o o' d' (by rw [Array.getElem?_toList]; exact ho) (by rw [Array.getElem?_toList]; exact ho') g hd'))]
      exact h3 p hp o' d' ho' hd'
    · simp at hp
      subst hp
      rw [ho] at ho'
      cases ho'
      rw [hod] at hd'
      cases hd'
      refine E'.slot d _ ?_
      rw [hd]
      exact look_self _ _ _
  · rw [List.map_append, ← List.append_assoc]
    exact H'
def blkOf (bs : List (Nat × Nat)) (i : Nat) : Nat := ((bs.find? fun p => p.1 == i).map Prod.snd).getD 0
theorem look_alc {ops : Array Oper} {B : Nat → Nat} {l' : List (Nat × Value)} {t : Nat} {v : Value} : ∀ (A : List Nat), look ((A.map fun i => (dN ops i, Value.pointer (some ⟨B i, 0, none⟩))) ++ l') t = some v → (∃ i ∈ A, dN ops i = t ∧ v = .pointer (some ⟨B i, 0, none⟩)) ∨ look l' t = some v
  | [], h => .inr h
  | i :: r, h => by
    rw [List.map_cons, List.cons_append] at h
    by_cases e : dN ops i = t
    · left
      refine ⟨i, List.mem_cons_self .., e, ?_⟩
      subst e
      rw [look_self] at h
      cases h
      rfl
    · rw [look_other _ _ e] at h
      rcases look_alc r h with ⟨j, hj, h1⟩ | h1
      · exact .inl ⟨j, List.mem_cons_of_mem _ hj, h1⟩
      · exact .inr h1
end
section
variable {P : Program} {ops : Array Oper} {Q : Exit → Act → World → Prop} {n : Nat} {l0 L : List (Nat × Value)} {I A : List Nat} {a : Act} {w w0 : World} {L0 Lh : List Ent}
/-- in the order of the text -/
theorem Alc.order {cA : Nat → List Value} {tA : Nat → TypeId} {listed : Array Bool} (hA : Alc ops A cA tA w0 L0 Lh listed a w) (hnA : A.Nodup) (hl : ∀ i ∈ A, listed.getD i false = true) (hd : ∀ i ∈ A, ∃ o d, ops[i]? = some o ∧ o.dst = some d) :
    ∃ B : Nat → Nat, (∀ i ∈ A, a.tmps[dN ops i]? = some (.pointer (some ⟨B i, 0, none⟩))) ∧ Ev w0 L0 w (Lh ++ A.map fun i => .box (B i) (cA i) (tA i)) := by
  obtain ⟨bs, h1, h2, h3, h4⟩ := hA
  have hB : ∀ i ∈ A, ∃ k, ∃ p : Nat × Nat, bs[k]? = some p ∧ p.1 = i ∧ blkOf bs i = p.2 := fun i hi => by
    have hm := (h2 i).2 ⟨hi, hl i hi⟩
    obtain ⟨p0, hp0, e0⟩ := List.mem_map.1 hm
    have hf : ∃ p, bs.find? (fun p => p.1 == i) = some p := by
      cases h : bs.find? (fun p => p.1 == i) with
      | some p => exact ⟨p, rfl⟩
      | none => exact absurd (List.find?_eq_none.1 h p0 hp0) (by simp [e0])
    obtain ⟨p, hp⟩ := hf
    have hpm := List.mem_of_find?_eq_some hp
    have hpe := List.find?_some hp
    obtain ⟨k, hk⟩ := List.getElem?_of_mem hpm
    refine ⟨k, p, hk, by simpa using hpe, ?_⟩
    unfold blkOf
    rw [hp]
    rfl
  refine ⟨blkOf bs, fun i hi => ?_, ?_⟩
  · obtain ⟨k, p, hk, hp, hb⟩ := hB i hi
    obtain ⟨o, d, ho, hdd⟩ := hd i hi
    rw [hb]
    refine h3 p (List.mem_of_getElem? hk) o (dN ops i) (by rw [hp]; exact ho) ?_
    unfold dN opD
    rw [ho]
    simp [hdd]
  · have ix : ∀ (A' : List Nat), (∀ i ∈ A', i ∈ A) → A'.Nodup → ∃ ks : List Nat, (∀ k ∈ ks, ∃ p : Nat × Nat, bs[k]? = some p ∧ p.1 ∈ A') ∧ ks.Nodup ∧ (A'.map fun i => some (Ent.box (blkOf bs i) (cA i) (tA i))) = ks.map fun k => (bs.map fun p => Ent.box p.2 (cA p.1) (tA p.1))[k]? := fun A' => by
      induction A' with
      | nil => exact fun _ _ => ⟨[], by simp, List.nodup_nil, rfl⟩
      | cons i r ih =>
        intro hs hn
        obtain ⟨ks, h5, h6, h7⟩ := ih (fun j hj => hs j (List.mem_cons_of_mem _ hj)) (List.nodup_cons.1 hn).2
        obtain ⟨k, p, hk, hp, hb⟩ := hB i (hs i (List.mem_cons_self ..))
        refine ⟨k :: ks, fun j hj => ?_, List.nodup_cons.2 ⟨fun hm => ?_, h6⟩, ?_⟩
        · rcases List.mem_cons.1 hj with rfl | hj
          · exact ⟨p, hk, by rw [hp]; exact List.mem_cons_self ..⟩
          · obtain ⟨q, hq, hq2⟩ := h5 j hj
            exact ⟨q, hq, List.mem_cons_of_mem _ hq2⟩
        · obtain ⟨q, hq, hq2⟩ := h5 k hm
          rw [hk] at hq
          cases hq
          rw [hp] at hq2
          exact (List.nodup_cons.1 hn).1 hq2
        · rw [List.map_cons, List.map_cons, h7, List.getElem?_map, hk]
          simp [hp, hb]
    obtain ⟨ks, h5, h6, h7⟩ := ix A (fun _ h => h) hnA
    refine h4.pick ((List.range Lh.length) ++ ks.map (Lh.length + ·)) ?_ ?_
    · rw [List.map_append, List.map_append, List.map_map]
      congr 1
      · refine List.ext_getElem? fun j => ?_
        rcases Nat.lt_or_ge j Lh.length with h | h
        · simp [h, List.getElem?_append_left]
        · simp [h]
      · rw [List.map_map]
        refine Eq.trans (by rfl) (h7.trans ?_)
        refine List.map_congr_left fun k hk => ?_
        show _ = (Lh ++ bs.map fun p => Ent.box p.2 (cA p.1) (tA p.1))[Lh.length + k]?
        rw [List.getElem?_append_right (Nat.le_add_right _ _), Nat.add_sub_cancel_left]
    · rw [List.nodup_append]
      refine ⟨List.nodup_range, ?_, fun x hx y hy e => ?_⟩
      · exact List.Pairwise.map _ (fun x y h g => h (by simpa using g)) h6
      · obtain ⟨k, _, rfl⟩ := List.mem_map.1 hy
        have := List.mem_range.1 hx
        omega
def alcOk (P : Program) (ops : Array Oper) (n : Nat) (cA : Nat → List Value) (tA : Nat → TypeId) (i : Nat) : Prop :=
  opAt ops n i [] = some (.run (opD ops i) (nv (Instr.alloc (tA i) true (.tuple #[])))) ∧ ((fun w => (zeroValue (tA i)).run P w) = fun w => .ok (zeroV P (tA i)) w) ∧ (zeroV P (tA i)).cells.toList = cA i
/-- a drawn region: what is stable and what makes variables first, whatever the order -/
theorem s_gen {F : Act → World → Prop} {id : Nat} (cA : Nat → List Value) (tA : Nat → TypeId) (m' : Nat) (l' : List (Nat × Value)) (E : Env a n l0) (H : Ev w0 L0 w.drew Lh) (hst : StabL P ops (HQ F) n w0 L0 Lh l0 L I) (hal : ∀ i ∈ A, alcOk P ops n cA tA i)
    (next : ∀ a' w' (B : Nat → Nat), Env a' n ((A.map fun i => (dN ops i, Value.pointer (some ⟨B i, 0, none⟩))) ++ l') → Ev w0 L0 w' (Lh ++ A.map fun i => .box (B i) (cA i) (tA i)) → wpAny P .any ops (HQ F) m' (LI ops (I ++ A)) a' w')
    (hp : P.follows .mixedOrders = true) (hB : stabB ops (I ++ A) l0 = true) (hC : alcB ops I A = true) (hl : l'.map (fun p => srcE ops I l0 L p.1) = l'.map (fun p => some p.2)) (hm : cntF (LI ops (I ++ A)) = m') : (Code.region id ops true).wp P (HQ F) a w := by
  have hB' := hB
  unfold stabB at hB'
  simp only [Bool.and_eq_true, List.all_eq_true] at hB'
  have hnd := hB'.1.1.1
  have key : ∀ i ∈ I ++ A, ∃ o, ops[i]? = some o := fun i hi => by
    have h := hB'.1.1.2 i hi
    unfold inB at h
    cases ho : ops[i]? with
    | none => rw [ho] at h; cases h
    | some o => exact ⟨o, rfl⟩
  unfold alcB at hC
  simp only [Bool.and_eq_true, List.all_eq_true] at hC
  have hIA : ∀ i ∈ A, i ∉ I := fun i hi h => by
    have := (hC.1.2 i hi).1
    rw [List.contains_iff_mem.2 h] at this
    cases this
  have hAd : ∀ i ∈ A, ∃ o d, ops[i]? = some o ∧ o.dst = some d := fun i hi => by
    obtain ⟨o, ho⟩ := key i (List.mem_append_right _ hi)
    have h := (hC.1.2 i hi).2
    unfold opD at h
    rw [ho] at h
    cases hd : o.dst with
    | none => simp [hd] at h
    | some d => exact ⟨o, d, ho, hd⟩
  have hlist : ∀ i ∈ I ++ A, (LI ops (I ++ A)).getD i false = true := fun i hi => by
    obtain ⟨o, ho⟩ := key i hi
    have hib := (Array.getElem?_eq_some_iff.1 ho).1
    simp only [List.mem_append] at hi
    simp [LI, hib, hi]
  refine draw_any hp ops.size rfl ?_
  refine stab_go (J := fun listed a w => Know ops n l0 L I a listed ∧ Alc ops A cA tA w0 L0 Lh listed a w) hB (fun i hi listed a w o ho hs hiu haf hdn hJ => ?_) (fun a' w' hJ => ?_) ops.size (Array.replicate ops.size false) a w.drew (by simp [cntF, List.countP_replicate]) (by simp) (fun j hj => ?_) ?_ ⟨⟨E.size, E.defers, E.slot, fun i o d hi ho hd hl => ?_⟩, [], List.nodup_nil, fun i => ?_, (fun p hp => by cases hp), (by rw [List.map_nil, List.append_nil]; exact H)⟩
  · obtain ⟨hk, hA⟩ := hJ
    rcases List.mem_append.1 hi with hi | hi
    · obtain ⟨bs, h1, h2, h3, h4⟩ := hA
      have haf' : ∀ e ∈ o.after, Region.binds .any e = true → e.on ∈ I ∧ listed.getD e.on false = true := fun e he hb => by
        have h := hC.1.1 i hi
        rw [ho] at h
        have h1 := (Array.all_eq_true_iff_forall_mem.1 h) e he
        rw [hb] at h1
        exact ⟨List.contains_iff_mem.1 (by simpa using h1), (haf e he hb).2⟩
      refine wpOp_mono (fun a' w' h => ?_) (stab_step hnd hi (hst.all i hi (bs.map fun p => .box p.2 (cA p.1) (tA p.1))) ho hs hiu haf' hdn hk h4)
      obtain ⟨hk', hS', v, rfl⟩ := h
      exact ⟨hk', Alc.put hnd ho (fun h => hIA i h hi) h1 h2 h3 hS'⟩
    · obtain ⟨h1, h2, h3⟩ := hal i hi
      obtain ⟨o', d, ho', hd⟩ := hAd i hi
      exact Alc.step hnd ho hi (hIA i hi) hs hiu hdn hk hA h1 h2 h3 ⟨d, by unfold opD; rw [ho']; exact hd⟩
  · obtain ⟨hk, hA⟩ := hJ
    obtain ⟨B, hB1, hB2⟩ := Alc.order hA (nodup_of hC.2) (fun i hi => hlist i (List.mem_append_right _ hi)) hAd
    rw [hm]
    have E' := hk.env (fun i hi => hlist i (List.mem_append_left _ hi)) hl
    refine next a' w' B ⟨E'.size, E'.defers, fun t v hv => ?_⟩ hB2
    rcases look_alc A hv with ⟨i, hi, rfl, rfl⟩ | h
    · exact hB1 i hi
    · exact E'.slot t v h
  · rcases Nat.lt_or_ge j ops.size with h | h
    · simp [h] at hj
    · simp [h] at hj
  · intro j o hj hl
    rcases Nat.lt_or_ge j ops.size with h | h
    · simp [h] at hl
    · simp [h] at hl
  · rcases Nat.lt_or_ge i ops.size with h | h
    · simp [h] at hl
    · simp [h] at hl
  · rcases Nat.lt_or_ge i ops.size with h | h
    · simp [h]
    · simp [h]
/-- cells of a variable that an operation makes -/
def cAl (P : Program) (ops : Array Oper) (i : Nat) : List Value := (zeroV P (opTy ops i)).cells.toList
theorem s_g0 {F : Act → World → Prop} {id : Nat} (l0 : List (Nat × Value)) (I : List Nat) (L : List (Nat × Value)) (m' : Nat) (l' : List (Nat × Value)) (E : Env a n l0) (H : Ev w0 L0 w.drew Lh) (hst : StabL P ops (HQ F) n w0 L0 Lh l0 L I)
    (next : ∀ a' w', Env a' n (l') → Ev w0 L0 w' Lh → wpAny P .any ops (HQ F) m' (LI ops (I ++ [])) a' w')
    (hp : P.follows .mixedOrders = true := by kernel_rfl) (hB : stabB ops (I ++ []) l0 = true := by kernel_rfl) (hC : alcB ops I [] = true := by kernel_rfl) (hl : l'.map (fun p => srcE ops I l0 L p.1) = l'.map (fun p => some p.2) := by kernel_rfl) (hm : cntF (LI ops (I ++ [])) = m' := by kernel_rfl) : (Code.region id ops true).wp P (HQ F) a w := by
  exact s_gen (A := []) (cAl P ops) (opTy ops) m' l' E H hst (fun i hi => by cases hi) (fun a' w' B E' H' => next a' w' E' (by rw [List.map_nil, List.append_nil] at H'; exact H')) hp hB hC hl hm
theorem app_at {M : List Ent} {k : Nat} {e : Ent} (h : Lh[k]? = some e) : (Lh ++ M)[k]? = some e := by rw [List.getElem?_append_left (List.getElem?_eq_some_iff.1 h).1]; exact h
theorem s_n : StabL P ops Q n w0 L0 Lh l0 L [] := trivial
/-- an operation, whatever it is -/
theorem s_c {i : Nat} {r : List Nat} (h : ∀ M a w, Env a n (envI ops l0 L i) → Ev w0 L0 w (Lh ++ M) → wpOp P ops Q i (fun a' w' => Env a' n (oneL ops L i) ∧ Ev w0 L0 w' (Lh ++ M)) a w) (hr : StabL P ops Q n w0 L0 Lh l0 L r)
    (hE : (envI ops l0 L i).map (fun p => srcOf ops l0 L i p.1) = (envI ops l0 L i).map (fun p => some p.2) := by kernel_rfl) : StabL P ops Q n w0 L0 Lh l0 L (i :: r) := ⟨fun M => ⟨_, hE, h M⟩, hr⟩
/-- an operation without memory -/
theorem s_p {i : Nat} {r : List Nat} (fs : List (Nat × FV)) (hr : StabL P ops Q n w0 L0 Lh l0 L r)
    (h : (fun w => resA P ops n w (envI ops l0 L i) i) = (fun w => expA P ops n fs w (envI ops l0 L i) i) := by kernel_rfl)
    (h1 : (oneL ops L i).map (fun p => look (nextL P ops n fs (envI ops l0 L i) i) p.1) = (oneL ops L i).map (fun p => some p.2) := by kernel_rfl)
    (hE : (envI ops l0 L i).map (fun p => srcOf ops l0 L i p.1) = (envI ops l0 L i).map (fun p => some p.2) := by kernel_rfl) : StabL P ops Q n w0 L0 Lh l0 L (i :: r) :=
  s_c (fun M a w E H => by
    have h2 := congrFun h w
    unfold resA expA at h2
    have go : ∀ a', Env a' n (nextL P ops n fs (envI ops l0 L i) i) → Env a' n (oneL ops L i) ∧ Ev w0 L0 w (Lh ++ M) := fun a' E' => ⟨E'.sub h1, H⟩
    unfold nextL at go
    cases ho : opAt ops n i (envI ops l0 L i) with
    | none => simp [ho] at h2
    | some x =>
      cases x with
      | run d s =>
        simp only [ho, Option.some.injEq] at h2 go
        rw [raw_fin] at h2
        exact any_run E ho h2 go
      | skip d =>
        simp only [ho] at go
        obtain ⟨o, hq, hw, rfl, hf⟩ := opAt_skip E ho
        simp only [wpOp, hq, hw, Bool.false_eq_true, if_false]
        exact go _ (E.put undef hf)) hr hE
/-- a load of a cell -/
theorem s_l {i : Nat} {r : List Nat} (k : Nat) (hr : StabL P ops Q n w0 L0 Lh l0 L r)
    (h : opAt ops n i (envI ops l0 L i) = some (.run (opD ops i) (nv (Instr.loadAt (opTy ops i) (.pointer (some ⟨boxB Lh k, offV (opV ops (envI ops l0 L i) i 0), none⟩))))) := by kernel_rfl)
    (hk : Lh[k]? = some (.box (boxB Lh k) (boxC Lh k) (boxT Lh k)) := by kernel_rfl) (hv : (boxC Lh k)[offV (opV ops (envI ops l0 L i) i 0)]? = some (cellV Lh k (offV (opV ops (envI ops l0 L i) i 0))) := by kernel_rfl)
    (ht : (fun w => (isAgg (opTy ops i)).run P w) = fun w => .ok false w := by kernel_rfl)
    (h1 : (oneL ops L i).map (fun p => look (putl (opD ops i) (cellV Lh k (offV (opV ops (envI ops l0 L i) i 0))) (envI ops l0 L i)) p.1) = (oneL ops L i).map (fun p => some p.2) := by kernel_rfl)
    (hE : (envI ops l0 L i).map (fun p => srcOf ops l0 L i p.1) = (envI ops l0 L i).map (fun p => some p.2) := by kernel_rfl) : StabL P ops Q n w0 L0 Lh l0 L (i :: r) :=
  s_c (fun M a w E H => m_v k (offV (opV ops (envI ops l0 L i) i 0)) _ E H (app_at hk) hv (fun a' E' => ⟨E'.sub h1, H⟩) h ht) hr hE
/-- what is left of it -/
theorem s_e {i : Nat} {l : List (Nat × Value)} {a' : Act} {w' : World} {Lh : List Ent} (E : Env a' n l) (H : Ev w0 L0 w' Lh) (h1 : (oneL ops L i).map (fun p => look l p.1) = (oneL ops L i).map (fun p => some p.2) := by kernel_rfl) : Env a' n (oneL ops L i) ∧ Ev w0 L0 w' Lh := ⟨E.sub h1, H⟩
end
end Go.Dbr

/- Structs of a Boolean and two arrays of words, compared. -/


namespace Go.Dbr
open Go Go.RowKit
set_option linter.unusedSimpArgs false
set_option linter.unusedVariables false
section
variable {P : Program} {w : World}
theorem eqF_cons {d : Nat} {f : Field} {fs : List Field} {xs ys : Array Value} {a b : Value} {r r' : Bool} (hn : (f.name == "_") = false) (pa : (part f.type xs f.offset).run P w = .ok a w) (pb : (part f.type ys f.offset).run P w = .ok b w)
    (he : (Op.equalIn d f.type a b).run P w = .ok r w) (hr : (Op.eqFields d xs ys fs).run P w = .ok r' w) : (Op.eqFields d xs ys (f :: fs)).run P w = .ok (r && r') w := by
  have hne : f.name ≠ "_" := by simpa using hn
  unfold Op.eqFields
  rw [if_pos hne]
  simp only [Sem.run_bind, pa, pb, he, Result.andThen_ok]
  cases r with
  | true => simpa using hr
  | false => simp
theorem part_seg {t : TypeId} {cs xs : List Value} {off m : Nat} (ha : (fun w => (isAgg t).run P w) = fun w => .ok true w) (hs : (fun w => (sizeOf t).run P w) = fun w => .ok m w) (hx : (cs.drop off).take m = xs) : (part t cs.toArray off).run P w = .ok (.agg xs.toArray) w := by
  unfold part
  simp only [Sem.run_bind, congrFun ha w, Result.andThen_ok, if_true, congrFun hs w, Sem.run_pure, List.extract_toArray]
  rw [← hx, List.extract_eq_take_drop, Nat.add_sub_cancel_left]
theorem part_one {t : TypeId} {cs : List Value} {off : Nat} {v : Value} (ha : (fun w => (isAgg t).run P w) = fun w => .ok false w) (hx : cs[off]? = some v) : (part t cs.toArray off).run P w = .ok v w := by
  unfold part
  have h2 : cs.toArray[off]? = some v := by simpa using hx
  simp only [Sem.run_bind, congrFun ha w, Result.andThen_ok, Bool.false_eq_true, if_false, h2, Sem.run_pure]
def fl (P : Program) (t : TypeId) (i : Nat) : Field := ((P.fieldsOf t).toList)[i]?.getD default
def pnt (z : Bool) (x y : List UInt64) : List Value := .bool z :: (u64s x ++ u64s y)
theorem equal_u64 {t e : TypeId} {m dd : Nat} (hu : P.underlying t = some (.array m e)) (he : P.underlying e = some (.int .u64)) (ha : (fun w => (isAgg e).run P w) = fun w => .ok false w) (hc : P.cellsOf e = 1) {x y : List UInt64} (hx : x.length = m) (hy : y.length = m) :
    (Op.equalIn (dd + 1 + 1) t (.agg (u64s x).toArray) (.agg (u64s y).toArray)).run P w = .ok (x == y) w := by
  obtain ⟨ti, hi⟩ : ∃ ti, P.info? e = some ti := by
    cases hi : P.info? e with
    | none => simp [Program.cellsOf, hi] at hc
    | some ti => exact ⟨ti, rfl⟩
  rw [u64s_ints, u64s_ints, run_equalIn_array _ _ _ _ hu hi, hc, run_eqItems_int he ha dd _ _ _ (fun j hj => by have := List.mem_range.1 hj; simp; omega), all_get (by simpa using hx) (by simpa using hy), u64s_inj]
/-- what is to be known of such a type -/
structure IsPnt (P : Program) (t e : TypeId) : Prop where
  un : P.underlying t = some (.struct (P.fieldsOf t))
  held : P.stoodInHeld t = false
  fs : (P.fieldsOf t).toList = [fl P t 0, fl P t 1, fl P t 2]
  n : [(fl P t 0).name == "_", (fl P t 1).name == "_", (fl P t 2).name == "_"] = [false, false, false]
  o : [(fl P t 0).offset, (fl P t 1).offset, (fl P t 2).offset] = [0, 1, 5]
  b : P.underlying (fl P t 0).type = some .bool
  x : P.underlying (fl P t 1).type = some (.array 4 e)
  y : P.underlying (fl P t 2).type = some (.array 4 e)
  eu : P.underlying e = some (.int .u64)
  c : P.cellsOf e = 1
  ae : (fun w => (isAgg e).run P w) = fun w => .ok false w
  ab : (fun w => (isAgg (fl P t 0).type).run P w) = fun w => .ok false w
  ax : (fun w => (isAgg (fl P t 1).type).run P w) = fun w => .ok true w
  ay : (fun w => (isAgg (fl P t 2).type).run P w) = fun w => .ok true w
  sx : (fun w => (sizeOf (fl P t 1).type).run P w) = fun w => .ok 4 w
  sy : (fun w => (sizeOf (fl P t 2).type).run P w) = fun w => .ok 4 w
  g : P.eqGuardType P.depth t = false
theorem IsPnt.eq {t e : TypeId} (h : IsPnt P t e) {z z' : Bool} {x y x' y' : List UInt64} (hx : x.length = 4) (hy : y.length = 4) (hx' : x'.length = 4) (hy' : y'.length = 4) (d : Nat) :
    (Op.equalIn (d + 1 + 1 + 1) t (.agg (pnt z x y).toArray) (.agg (pnt z' x' y').toArray)).run P w = .ok ((z == z') && ((x == x') && (y == y'))) w := by
  have ho := h.o
  have hn := h.n
  simp only [List.cons.injEq, and_true] at ho hn
  obtain ⟨o0, o1, o2⟩ := ho
  obtain ⟨n0, n1, n2⟩ := hn
  rw [run_equalIn_struct w _ t _ _ h.un h.held, h.fs]
  have lx := u64s_length x
  have lx' := u64s_length x'
  have ly := u64s_length y
  have ly' := u64s_length y'
  rw [hx] at lx
  rw [hx'] at lx'
  rw [hy] at ly
  rw [hy'] at ly'
  refine eqF_cons n0 (a := .bool z) (b := .bool z') (r := z == z') (by rw [o0]; exact part_one h.ab rfl) (by rw [o0]; exact part_one h.ab rfl) (run_equalIn_bool' w _ _ _ _ h.b) ?_
  refine eqF_cons n1 (a := .agg (u64s x).toArray) (b := .agg (u64s x').toArray) (r := x == x') (by rw [o1]; exact part_seg h.ax h.sx (by simp only [pnt, List.drop_succ_cons, List.drop_zero]; rw [← lx, List.take_left])) (by rw [o1]; exact part_seg h.ax h.sx (by simp only [pnt, List.drop_succ_cons, List.drop_zero]; rw [← lx', List.take_left])) (equal_u64 h.x h.eu h.ae h.c hx hx') ?_
  have hr : (Op.eqFields (d + 1 + 1) (pnt z x y).toArray (pnt z' x' y').toArray [fl P t 2]).run P w = .ok ((y == y') && true) w := by
    refine eqF_cons n2 (a := .agg (u64s y).toArray) (b := .agg (u64s y').toArray) (r := y == y') ?_ ?_ (equal_u64 h.y h.eu h.ae h.c hy hy') (by unfold Op.eqFields; rfl)
    · rw [o2]
      refine part_seg h.ay h.sy ?_
      simp only [pnt, List.drop_succ_cons]
      rw [← lx, List.drop_left, List.take_of_length_le (by omega)]
    · rw [o2]
      refine part_seg h.ay h.sy ?_
      simp only [pnt, List.drop_succ_cons]
      rw [← lx', List.drop_left, List.take_of_length_le (by omega)]
  rw [Bool.and_true] at hr
  exact hr
end
end Go.Dbr

/- Structs that are built of parts whose cells are told. -/


namespace Go.Dbr
open Go Go.RowKit
set_option linter.unusedSimpArgs false
set_option linter.unusedVariables false
/-- a field: how many cells, its noughts, what it is filled with -/
structure FB where
  m : Nat
  z : List Value
  x : Option (Nat × Value × List Value)
def FB.out (f : FB) : List Value := match f.x with
  | some (_, _, l) => l
  | none => f.z
end Go.Dbr

/- Slices within what is owned: read alone, carried along as one entry; parts of a slice that is handed in. -/


namespace Go.Dbr
open Go Go.RowKit
section
variable {w w0 : World} {L L0 : List Ent}

/-- structs whose slices are read alone -/
theorem Heap.innS {α : Type} {f : α → List Value} {sz by_ : Nat} {ok : α → Prop} (h : Heap w L) {M : List Ent} {k : Nat} {a : Option Addr} {cap : Nat} {xs : List α} {T : TypeId} (hk : L[k]? = some (.vec a cap sz (xs.flatMap f) T))
    (hf : ∀ x, (f x).length = sz) (h1 : 0 < sz) (is : List Nat) (hm : M.map some = is.map (fun i => L[i]?)) (hn : is.contains k = false) (hs : xs.length * by_ ≤ 140737488351232) (ho : ∀ x ∈ xs, ok x) : InS f by_ ok w M a cap xs := by
  have h0 : Ent.holds0 w (.vec a cap sz (xs.flatMap f) T) := h.holds k _ hk
  have hlen : ∀ ys : List α, (ys.flatMap f).length = ys.length * sz := by
    intro ys
    induction ys with
    | nil => simp
    | cons y r ih => rw [List.flatMap_cons, List.length_append, hf, ih, List.length_cons, Nat.succ_mul, Nat.add_comm]
  refine ⟨h.ro hk is hm hn, fun ha => ?_, ?_, hs, ho⟩
  · subst ha
    obtain ⟨_, h2⟩ := h0
    have := hlen xs
    rw [h2] at this
    rcases Nat.eq_zero_or_pos xs.length with e | e
    · exact e
    · have := Nat.mul_pos e h1; simp at *; omega
  · cases a with
    | none =>
      obtain ⟨h1', h2⟩ := h0
      have := hlen xs
      rw [h2] at this
      rcases Nat.eq_zero_or_pos xs.length with e | e
      · rw [e]; exact Nat.zero_le _
      · have := Nat.mul_pos e h1; simp at *; omega
    | some ad =>
      obtain ⟨_, _, h3, _⟩ := h0
      rw [hlen] at h3
      exact Nat.le_of_mul_le_mul_right h3 h1

/-- whoever may read the one may read the other -/
def Sub (a : Option Addr) (c : Nat) (l : List UInt8) (a' : Option Addr) (c' : Nat) (l' : List UInt8) : Prop := ∀ w M, InB w M a c l → InB w M a' c' l'
theorem Sub.nil {a : Option Addr} {c : Nat} {l : List UInt8} : Sub a c l none 0 [] := fun w M _ => InB.nil w M
theorem Sub.trans {a : Option Addr} {c : Nat} {l : List UInt8} {a' : Option Addr} {c' : Nat} {l' : List UInt8} {a2 : Option Addr} {c2 : Nat} {l2 : List UInt8} (h : Sub a c l a' c' l') (k : Sub a' c' l' a2 c2 l2) : Sub a c l a2 c2 l2 := fun w M i => k w M (h w M i)
end
end Go.Dbr

/- A slice's bytes as an array: over any program. -/

namespace Go.Dbr
open Go Go.RowKit
section
variable {P : Program}
variable {w : World}
end
end Go.Dbr

/- Whole numbers shifted; bits of both; a slice cut short: over any program. -/


namespace Go.Dbr
open Go Go.RowKit
section
variable {P : Program} {ops : Array Oper} {Q : Exit → Act → World → Prop} {n i : Nat} {l : List (Nat × Value)} {a : Act} {w w0 : World} {L L0 : List Ent} {d : Option Tmp} {K : Act → World → Prop}
theorem i64_or_nat {x y : Nat} (hx : x < 9223372036854775808) (hy : y < 9223372036854775808) : IntKind.wrap .i64 ((BitVec.ofInt (IntKind.bits .i64) ((x : Nat) : Int) ||| BitVec.ofInt (IntKind.bits .i64) ((y : Nat) : Int)).toNat : Int) = ((x ||| y : Nat) : Int) := by
  have h : x ||| y < 2 ^ 63 := Nat.or_lt_two_pow (by simpa using hx) (by simpa using hy)
  have e1 : (BitVec.ofInt (IntKind.bits .i64) ((x : Nat) : Int)).toNat = x := by
    show (BitVec.ofInt 64 ((x : Nat) : Int)).toNat = x
    rw [BitVec.ofInt_natCast, BitVec.toNat_ofNat, Nat.mod_eq_of_lt (by omega)]
  have e2 : (BitVec.ofInt (IntKind.bits .i64) ((y : Nat) : Int)).toNat = y := by
    show (BitVec.ofInt 64 ((y : Nat) : Int)).toNat = y
    rw [BitVec.ofInt_natCast, BitVec.toNat_ofNat, Nat.mod_eq_of_lt (by omega)]
  rw [BitVec.toNat_or, e1, e2]
  exact wr64 rfl (by omega) (by omega)
theorem or_low {x y : Nat} (k : Nat) (h : y < 2 ^ k) : x * 2 ^ k ||| y = x * 2 ^ k + y := by
  rw [← Nat.shiftLeft_eq, ← Nat.shiftLeft_add_eq_or_of_lt h]
/-- a byte put behind -/
theorem i64_or_low {x y : Nat} (k : Nat) (h : y < 2 ^ k) (hx : x * 2 ^ k + y < 9223372036854775808) : IntKind.wrap .i64 ((BitVec.ofInt (IntKind.bits .i64) ((x * 2 ^ k : Nat) : Int) ||| BitVec.ofInt (IntKind.bits .i64) ((y : Nat) : Int)).toNat : Int) = ((x * 2 ^ k + y : Nat) : Int) := by
  rw [i64_or_nat (by omega) (by omega), or_low k h]
theorem nat_to_u8 {a : Int} {n : Nat} (ha : a = ((n : Nat) : Int)) : IntKind.wrap .u8 a = ((UInt8.toNat (UInt8.ofNat n) : Nat) : Int) := by
  subst ha; rw [wrap_u8, UInt8.toNat_ofNat']; omega
end
end Go.Dbr

/- Slices of structs that are made; parts of a list that are read one by one. -/

namespace Go.Dbr
open Go Go.RowKit
section
variable {α : Type}
theorem sv_len {f : α → List Value} {sz : Nat} (hf : ∀ x, (f x).length = sz) : ∀ l : List α, (l.flatMap f).length = l.length * sz
  | [] => by simp
  | y :: r => by rw [List.flatMap_cons, List.length_append, hf, sv_len hf r, List.length_cons, Nat.succ_mul, Nat.add_comm]
theorem flat_one {f : α → List Value} (hf : ∀ x, ∀ u ∈ f x, u.oneCell' = true) (l : List α) : ∀ u ∈ l.flatMap f, u.oneCell' = true := fun u hu => by
  obtain ⟨x, _, hx⟩ := List.mem_flatMap.1 hu
  exact hf x u hx

/-! parts, one by one -/
abbrev PS := List UInt8 × Bool × Bool
/-- each part takes something -/
structure Dec (one : List UInt8 → Bool → Bool → α × PS) : Prop where
  lt : ∀ l o, l ≠ [] → (one l false o).2.2.1 = false → (one l false o).2.1.length < l.length
  le : ∀ l o, (one l false o).2.1.length ≤ l.length
variable {one : List UInt8 → Bool → Bool → α × PS}
end
end Go.Dbr

/- Maps whose keys are texts: owned. -/




namespace Go.Dbr
open Go Go.RowKit

section
variable {P : Program} {ops : Array Oper} {Q : Exit → Act → World → Prop} {n i : Nat} {l : List (Nat × Value)} {a : Act} {w w0 : World} {d : Option Tmp} {L L0 : List Ent} {K : Act → World → Prop}

end

end Go.Dbr

/- Ranges over texts: the iterator is a block of its own, which nobody else owns. -/


namespace Go.Dbr
open Go Go.RowKit

section
variable {P : Program} {ops : Array Oper} {Q : Exit → Act → World → Prop} {n i : Nat} {l : List (Nat × Value)} {a : Act} {w w0 : World} {d : Option Tmp} {L L0 : List Ent} {K : Act → World → Prop}

end

/-- a byte of a text -/
theorem run_indexstr {P : Program} {t : TypeId} {s : List UInt8} {j : Nat} {k : IntKind} {ix : Int} (hu : P.underlying t = some .string) (hj : ix = (j : Int)) (h1 : j < s.length) (w : World) :
    (Instr.index t (.string (bstr s)) (.int k ix)).run P w = .ok (bv (s.getD j 0)) w := by
  subst hj
  have h' : j < (bstr s).size := by rw [bstr_size]; exact h1
  rw [run_index_string w t (bstr s) k _ hu, dif_pos ⟨by omega, by omega⟩]
  have e : (bstr s)[(j : Int).toNat]'(by omega) = s.getD j 0 := by
    rw [List.getD_eq_getElem?_getD, List.getElem?_eq_getElem h1]
    simp [bstr, ByteArray.getElem_eq_getElem_data]
  rw [e, bv]

end Go.Dbr

/-
  DERIVED: THE SHELF's CONTRACTS AT THIS DUMP, IN PLAIN WORDS (tools/lay-plain.mjs out of 'TrydShelf.lean', which tools/lay-shelf.mjs wrote): THE SAME DECLARATIONS UNDER THE SAME NAMES: 'import', 'namespace', 'open', 'def', 'theorem' AND NOTHING ELSE: no command of the shelf's: FOR A HAND-IN. Each laying: the table of numbers ('.._ren') and one theorem, a field a fact of the dump's own or the kernel's comparison; each contract: ONE APPLICATION.
-/





















namespace Go.Proofs
open Go.Shelf
def Tryd.lays283_ren : Go.Shelf.Ren := ⟨fun | 283 => 57 | n => n, fun | 3 => 3 | 9 => 9 | 4 => 4 | n => n, fun | n => n⟩
theorem Tryd.lays283 : Go.Proofs.Lays.n283 Tryd.prog Tryd.lays283_ren := {
  mixed := by kernel_rfl
  f283 := Tryd.func57.trans (congrArg some (by kernel_rfl))
  t3 := Tryd.underlying3
  a3 := Tryd.isAgg3
  z3 := Tryd.sizeOf3
  v3 := Tryd.zeroValue3
  t4 := Tryd.underlying4
  a4 := Tryd.isAgg4
  z4 := Tryd.sizeOf4
  v4 := Tryd.zeroValue4
  t9 := Tryd.underlying9
  a9 := Tryd.isAgg9
  z9 := Tryd.sizeOf9
  v9 := Tryd.zeroValue9 }
open Go.Lib in
/-- internal/strconv.small: "small returns the string for an i with 0 <= i < nSmalls.": i's decimal numeral. The world is as it was. (LAID: no walk: one application.) -/
theorem Tryd.internal_strconv_small (i : Nat) (h : i < 100) (w : World) :
    Calls Tryd.prog 57 #[.int .i64 i] w fun e w' => e = .returned (.string ⟨(Lib.decDigits i).toArray⟩) ∧ w' = w := Any.internal_strconv_small Tryd.lays283 i h w
def Tryd.laysM284_ren : Go.Shelf.Ren := ⟨fun | 284 => 58 | 129 => 73 | 317 => 72 | 318 => 74 | n => n, fun | 53 => 22 | 3 => 3 | 212 => 121 | 0 => 0 | 4 => 4 | 46 => 90 | 5 => 5 | 9 => 9 | n => n, fun | 17 => 0 | n => n⟩
theorem Tryd.laysM284 : Go.Proofs.LaysM.n284 Tryd.prog Tryd.laysM284_ren := {
  mixed := by kernel_rfl
  f129 := Tryd.func73.trans (congrArg some (by kernel_rfl))
  f284 := Tryd.func58.trans (congrArg some (by kernel_rfl))
  f317 := Tryd.func72.trans (congrArg some (by kernel_rfl))
  f318 := Tryd.func74.trans (congrArg some (by kernel_rfl))
  t0 := Tryd.underlying0
  a0 := Tryd.isAgg0
  z0 := Tryd.sizeOf0
  v0 := Tryd.zeroValue0
  t3 := Tryd.underlying3
  a3 := Tryd.isAgg3
  z3 := Tryd.sizeOf3
  v3 := Tryd.zeroValue3
  t4 := Tryd.underlying4
  a4 := Tryd.isAgg4
  z4 := Tryd.sizeOf4
  v4 := Tryd.zeroValue4
  t5 := Tryd.underlying5
  a5 := Tryd.isAgg5
  z5 := Tryd.sizeOf5
  v5 := Tryd.zeroValue5
  t9 := Tryd.underlying9
  a9 := Tryd.isAgg9
  z9 := Tryd.sizeOf9
  v9 := Tryd.zeroValue9
  t46 := Tryd.underlying90
  a46 := Tryd.isAgg90
  z46 := Tryd.sizeOf90
  v46 := Tryd.zeroValue90
  t53 := Tryd.underlying22
  a53 := Tryd.isAgg22
  z53 := Tryd.sizeOf22
  v53 := Tryd.zeroValue22
  t212 := Tryd.underlying121
  a212 := Tryd.isAgg121
  z212 := Tryd.sizeOf121
  v212 := Tryd.zeroValue121
  g17 := by kernel_rfl
  i0 := by kernel_rfl
  i3 := by kernel_rfl
  i4 := by kernel_rfl
  i5 := by kernel_rfl
  i9 := by kernel_rfl
  i46 := by kernel_rfl
  i53 := by kernel_rfl
  i212 := by kernel_rfl
  m17 := by kernel_rfl }
open Go.Lib in
/-- internal/strconv.numDigits, at a d that is not 0: THE NUMBER OF d's DECIMAL DIGITS. The world is as it was. (LAID: no walk: one application.) -/
theorem Tryd.internal_strconv_numDigits (u : Nat) (h1 : 1 ≤ u) (h2 : u < 18446744073709551616) (w : World) (htab : Lib.TabIs Tryd.prog w "internal/strconv.uint64pow10" .u64 Lib.pow10Tab) :
    Calls Tryd.prog 58 #[.int .u64 u] w fun e w' => e = .returned (.int .i64 (Lib.nDigits u)) ∧ w' = w := Any.internal_strconv_numDigits Tryd.laysM284 u h1 h2 w htab
def Tryd.lays285_ren : Go.Shelf.Ren := ⟨fun | 285 => 59 | n => n, fun | 37 => 59 | 53 => 22 | 3 => 3 | 4 => 4 | 51 => 122 | 9 => 9 | 5 => 5 | 0 => 0 | n => n, fun | n => n⟩
theorem Tryd.lays285 : Go.Proofs.Lays.n285 Tryd.prog Tryd.lays285_ren := {
  mixed := by kernel_rfl
  f285 := Tryd.func59.trans (congrArg some (by kernel_rfl))
  t0 := Tryd.underlying0
  a0 := Tryd.isAgg0
  z0 := Tryd.sizeOf0
  v0 := Tryd.zeroValue0
  t3 := Tryd.underlying3
  a3 := Tryd.isAgg3
  z3 := Tryd.sizeOf3
  v3 := Tryd.zeroValue3
  t4 := Tryd.underlying4
  a4 := Tryd.isAgg4
  z4 := Tryd.sizeOf4
  v4 := Tryd.zeroValue4
  t5 := Tryd.underlying5
  a5 := Tryd.isAgg5
  z5 := Tryd.sizeOf5
  v5 := Tryd.zeroValue5
  t9 := Tryd.underlying9
  a9 := Tryd.isAgg9
  z9 := Tryd.sizeOf9
  v9 := Tryd.zeroValue9
  t37 := Tryd.underlying59
  a37 := Tryd.isAgg59
  z37 := Tryd.sizeOf59
  v37 := Tryd.zeroValue59
  t51 := Tryd.underlying122
  a51 := Tryd.isAgg122
  z51 := Tryd.sizeOf122
  v51 := Tryd.zeroValue122
  t53 := Tryd.underlying22
  a53 := Tryd.isAgg22
  z53 := Tryd.sizeOf22
  v53 := Tryd.zeroValue22 }
open Go.RowKit Go.Sort Go.Lib in
/-- internal/strconv.formatBase10: "formatBase10 formats the decimal representation of u into a. The caller is responsible for ensuring that a is big enough to hold u. If a is too big, leading zeros will be filled in as needed.": THE ROW HOLDS u's DIGITS ('FmtInv .. 0 ..': every place t holds 'dg u (len - 1 - t)'); all else is as it was but for the count of draws. (LAID: no walk: one application.) -/
theorem Tryd.internal_strconv_formatBase10 (blk off cap : Nat) (u : Nat) (d : Array UInt8) (w : World) (hH : Holds (fun (b : UInt8) => Value.int .u8 (b.toNat : Int)) w blk off d) (hu : u < 10 ^ d.size) (hu64 : u < 18446744073709551616) (hsz : d.size < 4611686018427387904) :
    Calls Tryd.prog 59 #[.slice (some ⟨blk, off, none⟩) d.size cap, .int .u64 u] w fun e w' =>
      e = .returned (.tuple #[]) ∧ ∃ (n v' : Nat) (dk : Array UInt8), w' = (putRow (fun (b : UInt8) => Value.int .u8 (b.toNat : Int)) w blk off dk).drewN n ∧ FmtInv d.size u 0 v' dk := Any.internal_strconv_formatBase10 Tryd.lays285 blk off cap u d w hH hu hu64 hsz
end Go.Proofs

/- []byte(s): over any program. -/


namespace Go.Dbr
open Go Go.RowKit
section
variable {P : Program} {ops : Array Oper} {Q : Exit → Act → World → Prop} {n i : Nat} {l : List (Nat × Value)} {a : Act} {w w0 : World} {L L0 : List Ent} {d : Option Tmp} {K : Act → World → Prop}
end
end Go.Dbr

/- strconv.FormatUint at base 10: the decimal numeral. -/












namespace Go.Proofs
open Go Go.Shelf Go.RowKit Go.Sort Go.Lib
set_option maxRecDepth 100000 in
theorem Tryd.fu_small (u : Nat) (hu : u < 100) (w : World) :
    Calls Tryd.prog 41 #[.int .u64 u, .int .i64 10] w fun e w' => e = .returned (.string ⟨(Lib.decDigits u).toArray⟩) ∧ w' = w := by
  have iu : (u : Int) < 100 := by omega
  go_enter Tryd.func41, Tryd.ntmps41
  go_wp2_with (go_at_call 57; refine (Tryd.internal_strconv_small u hu _).mono ?_; rintro e w' ⟨rfl, rfl⟩)
  go_ret
  exact ⟨rfl, rfl⟩
set_option maxHeartbeats 12800000 in
set_option maxRecDepth 100000 in
theorem Tryd.fu_big (u : Nat) (hu : 100 ≤ u) (hu64 : u < 18446744073709551616) (w : World) (htab : Lib.TabIs Tryd.prog w "internal/strconv.uint64pow10" .u64 Lib.pow10Tab) :
    Calls Tryd.prog 41 #[.int .u64 u, .int .i64 10] w fun e w' => e = .returned (.string ⟨(Lib.decDigits u).toArray⟩) ∧ ∃ k os, w' = grow (w.drewN k) os := by
  have hu1 : 1 ≤ u := by omega
  have hnd20 : Lib.nDigits u ≤ 20 := by have := Lib.numDigits_eq u hu1 hu64; split at this <;> omega
  have hal : Tryd.prog.arrayLen 102 = 24 := by simp [Program.arrayLen, Tryd.underlying102]
  have hsl : ∀ W, (Instr.sliceAt 102 (.pointer (some ⟨w.heap.size, 0, none⟩)) none (some (.int .i64 (Lib.nDigits u : Int))) none).run Tryd.prog W = .ok (.slice (some ⟨w.heap.size, 0, none⟩) (Lib.nDigits u) 24) W := fun W => by
    rw [run_sliceAt_array_h W 102 ⟨w.heap.size, 0, none⟩ (by simp [Program.arrayLen, Program.elem, Tryd.underlying102]) .i64 (Lib.nDigits u : Int) (by omega) (by rw [hal]; omega)]
    go_simp
  have hH0 := Lib.holds_zero0 w 102 (Lib.nDigits u) (by omega)
  have hfmt := Tryd.internal_strconv_formatBase10 w.heap.size 0 24 u (Array.replicate (Lib.nDigits u) 0) (w.alloc (.cells Lib.zeros24 102)) hH0 (by rw [Array.size_replicate]; exact Lib.lt_pow_nDigits u) hu64 (by rw [Array.size_replicate]; omega)
  rw [Array.size_replicate] at hfmt
  have HH0 := Lib.hid hH0
  have iu : (100 : Int) ≤ (u : Int) := by omega
  clear hH0 hal
  go_enter Tryd.func41, Tryd.ntmps41
  go_wp2_with (first
    | (go_at_call 58; refine (Tryd.internal_strconv_numDigits u hu1 hu64 _ (Lib.tabIs_alloc htab _)).mono ?_; rintro e w' ⟨rfl, rfl⟩))
  go_at_call 59
  refine hfmt.mono ?_
  rintro e w' ⟨rfl, k, v', dk, rfl, hF⟩
  have hcv : (convert 59 9 (.slice (some ⟨w.heap.size, 0, none⟩) (Lib.nDigits u) 24)).run Tryd.prog ((putRow (fun (b : UInt8) => Value.int .u8 (b.toNat : Int)) (w.alloc (.cells Lib.zeros24 102)) w.heap.size 0 dk).drewN k) = .ok (.string ⟨(Lib.decDigits u).toArray⟩) ((putRow (fun (b : UInt8) => Value.int .u8 (b.toNat : Int)) (w.alloc (.cells Lib.zeros24 102)) w.heap.size 0 dk).drewN k) := by
    have h := run_convert_bytes_back (P := Tryd.prog) ((putRow (fun (b : UInt8) => Value.int .u8 (b.toNat : Int)) (w.alloc (.cells Lib.zeros24 102)) w.heap.size 0 dk).drewN k) 59 9 5 ⟨w.heap.size, 0, none⟩ 24 (Lib.decDigits u) Tryd.underlying59 Tryd.underlying5 Tryd.underlying9 (fun j hj => by
      rw [Lib.row_is_numeral hF j hj, Lib.add_plain, World.cell?_drewN]
      exact cell?_putRow (fun (b : UInt8) => Value.int .u8 (b.toNat : Int)) _ w.heap.size 0 _ dk HH0.out (by rw [hF.size, Array.size_replicate]) j (by rw [hF.size]; rw [Lib.decDigits_length] at hj; exact hj))
    rw [Lib.decDigits_length] at h
    exact h
  go_wp2
  go_ret
  obtain ⟨os, eo⟩ := Lib.fin_at w (.cells Lib.zeros24 102) dk k 0
  exact ⟨rfl, k, os, eo⟩
end Go.Proofs

/- Layer 3: letters, words. -/





namespace Go.Proofs.YtfcfgbejpcmmkaaDoor
open Go.Dbr
set_option maxRecDepth 100000
set_option maxHeartbeats 2000000
set_option linter.unusedVariables false
set_option linter.unusedSimpArgs false

abbrev pt (b : Nat) : Value := .pointer (some (Addr.mk b 0 none))
abbrev ni (n : Nat) : Value := .int .i64 (n : Int)
abbrev bv (x : UInt8) : Value := .int .u8 (x.toNat : Int)
abbrev uv64 (x : UInt64) : Value := .int .u64 (x.toNat : Int)
abbrev Bs := List UInt8
/-- may a byte stand in a word? -/
def letB (b : UInt8) : Bool := decide (97 ≤ b.toNat ∧ b.toNat ≤ 122 ∨ 48 ≤ b.toNat ∧ b.toNat ≤ 57 ∨ b.toNat = 45 ∨ b.toNat = 95)
/-- does a byte stand as it is? -/
def plB (b : UInt8) : Bool := decide (32 ≤ b.toNat ∧ b.toNat < 127 ∧ b.toNat ≠ 34 ∧ b.toNat ≠ 92)
/-- a word -/
def wordB (s : Bs) : Bool := decide (1 ≤ s.length ∧ s.length ≤ 32 ∧ 97 ≤ (s.getD 0 0).toNat ∧ (s.getD 0 0).toNat ≤ 122) && s.all letB
/-- how many letters a text begins with -/
def runN (s : Bs) : Nat := (s.takeWhile letB).length
theorem all_next {p : UInt8 → Bool} {s : Bs} {i : Nat} (hi : i < s.length) (h : (s.take i).all p = true) (g : p (s.getD i 0) = true) : (s.take (i + 1)).all p = true := by
  rw [List.take_add_one, List.all_append, h, List.getElem?_eq_getElem hi]
  rw [List.getD_eq_getElem?_getD, List.getElem?_eq_getElem hi] at g
  simpa using g
theorem run_end {s : Bs} {i : Nat} (hi : i ≤ s.length) (h : (s.take i).all letB = true) (g : i < s.length → letB (s.getD i 0) = false) : i = runN s := by
  rw [runN]
  induction s generalizing i with
  | nil => simp at hi; simp [hi]
  | cons x r ih =>
    cases i with
    | zero => have := g (by simp); simp at this; simp [this]
    | succ i =>
      simp only [List.take_succ_cons, List.all_cons, Bool.and_eq_true] at h
      rw [List.takeWhile_cons_of_pos h.1, List.length_cons, ← ih (by simpa using hi) h.2 (fun q => by have := g (by simpa using q); simpa using this)]
theorem run_le (s : Bs) : runN s ≤ s.length := by
  rw [runN]
  induction s with
  | nil => simp
  | cons x r ih => rw [List.takeWhile_cons]; split <;> simp <;> omega
theorem run_all (s : Bs) : (runN s = s.length) ↔ s.all letB = true := by
  rw [runN]
  induction s with
  | nil => simp
  | cons x r ih =>
    by_cases h : letB x = true
    · rw [List.takeWhile_cons_of_pos h]; simp [h, ih]
    · rw [List.takeWhile_cons_of_neg h]; simp [h]
theorem ne0b (s : Bs) : (!(s == [])) = decide (0 < s.length) := by cases s <;> rfl
theorem w_y {s : Bs} (h : 1 ≤ s.length ∧ s.length ≤ 32 ∧ 97 ≤ (s.getD 0 0).toNat ∧ (s.getD 0 0).toNat ≤ 122) : wordB s = s.all letB := by rw [wordB, decide_eq_true h, Bool.true_and]
theorem w_n {s : Bs} (h : ¬ (1 ≤ s.length ∧ s.length ≤ 32 ∧ 97 ≤ (s.getD 0 0).toNat ∧ (s.getD 0 0).toNat ≤ 122)) : wordB s = false := by rw [wordB, decide_eq_false h, Bool.false_and]
theorem w_r {s : Bs} (h : 1 ≤ s.length ∧ s.length ≤ 32 ∧ 97 ≤ (s.getD 0 0).toNat ∧ (s.getD 0 0).toNat ≤ 122) : wordB s = decide (runN s = s.length) := by
  rw [w_y h]
  by_cases g : s.all letB = true
  · rw [g, decide_eq_true ((run_all s).2 g)]
  · rw [decide_eq_false (fun q => g ((run_all s).1 q))]; simpa using g
theorem word_len {s : Bs} (h : wordB s = true) : 1 ≤ s.length ∧ s.length ≤ 32 := by
  rw [wordB, Bool.and_eq_true, decide_eq_true_eq] at h
  omega

theorem letter_go (w : World) (c : UInt8) : Calls Tryd.prog 54 #[bv c] w fun e w' => e = .returned (.bool (letB c)) ∧ Ev w [] w' [] := by
 refine d_0 [(0, bv c)] 25 Go.Proofs.Tryd.func54 Go.Proofs.Tryd.ntmps54 (Heap.nil _) fun act0 En0 Hv0 => ?_
 refine d_s [0,2] [] En0 fun ac1 En2 => ?_
 refine wp_seq ?_
 refine region_from ?_
 refine d_k [0,2,5] [] 3 En2 fun ac3 En4 => ?_
 rcases Bool.eq_false_or_eq_true (decide (((UInt8.toNat c : Nat) : Int) ≥ (97 : Int))) with hb5 | hb5
 ·
  have En6 := En4.fx (t := 5) (congrArg Value.bool hb5)
  have hp7 : ((UInt8.toNat c : Nat) : Int) ≥ (97 : Int) := of_decide_eq_true hb5
  refine d_k [0,2,9] [] 7 En6 fun ac8 En9 => ?_
  rcases Bool.eq_false_or_eq_true (decide (((UInt8.toNat c : Nat) : Int) ≤ (122 : Int))) with hb10 | hb10
  ·
   have En11 := En9.fx (t := 9) (congrArg Value.bool hb10)
   have hp12 : ((UInt8.toNat c : Nat) : Int) ≤ (122 : Int) := of_decide_eq_true hb10
   refine d_e [2] [] En11 fun ac13 En14 => ?_
   refine then_normal ?_
   refine wp_ret ?_
   refine d_ret1 (t := 2) (v := .bool true) En14 (by kernel_rfl) (by kernel_rfl) ?_
   refine ⟨congrArg (fun z => Ending.returned (Value.bool z)) ?_, Hv0.pick [] (by kernel_rfl) (by decide)⟩
   exact (decide_eq_true (by omega)).symm
  ·
   have En15 := En9.fx (t := 9) (congrArg Value.bool hb10)
   have hp16 : ¬ (((UInt8.toNat c : Nat) : Int) ≤ (122 : Int)) := of_decide_eq_false hb10
   refine d_k [0,2,9,12] [] 10 En15 fun ac17 En18 => ?_
   rcases Bool.eq_false_or_eq_true (decide (((UInt8.toNat c : Nat) : Int) ≥ (48 : Int))) with hb19 | hb19
   ·
    have En20 := En18.fx (t := 12) (congrArg Value.bool hb19)
    have hp21 : ((UInt8.toNat c : Nat) : Int) ≥ (48 : Int) := of_decide_eq_true hb19
    refine d_k [0,2,17] [] 15 En20 fun ac22 En23 => ?_
    rcases Bool.eq_false_or_eq_true (decide (((UInt8.toNat c : Nat) : Int) ≤ (57 : Int))) with hb24 | hb24
    ·
     have En25 := En23.fx (t := 17) (congrArg Value.bool hb24)
     have hp26 : ((UInt8.toNat c : Nat) : Int) ≤ (57 : Int) := of_decide_eq_true hb24
     refine d_e [2] [] En25 fun ac27 En28 => ?_
     refine then_normal ?_
     refine wp_ret ?_
     refine d_ret1 (t := 2) (v := .bool true) En28 (by kernel_rfl) (by kernel_rfl) ?_
     refine ⟨congrArg (fun z => Ending.returned (Value.bool z)) ?_, Hv0.pick [] (by kernel_rfl) (by decide)⟩
     exact (decide_eq_true (by omega)).symm
    ·
     have En29 := En23.fx (t := 17) (congrArg Value.bool hb24)
     have hp30 : ¬ (((UInt8.toNat c : Nat) : Int) ≤ (57 : Int)) := of_decide_eq_false hb24
     refine d_k [0,2,21] [] 19 En29 fun ac31 En32 => ?_
     rcases Bool.eq_false_or_eq_true (((UInt8.toNat c : Nat) : Int) == (45 : Int)) with hb33 | hb33
     ·
      have En34 := En32.fx (t := 21) (congrArg Value.bool hb33)
      have hp35 : ((UInt8.toNat c : Nat) : Int) = (45 : Int) := eq_of_beq hb33
      refine d_e [2] [] En34 fun ac36 En37 => ?_
      refine then_normal ?_
      refine wp_ret ?_
      refine d_ret1 (t := 2) (v := .bool true) En37 (by kernel_rfl) (by kernel_rfl) ?_
      refine ⟨congrArg (fun z => Ending.returned (Value.bool z)) ?_, Hv0.pick [] (by kernel_rfl) (by decide)⟩
      exact (decide_eq_true (by omega)).symm
     ·
      have En38 := En32.fx (t := 21) (congrArg Value.bool hb33)
      have hp39 : ¬ (((UInt8.toNat c : Nat) : Int) = (45 : Int)) := ne_of_beq_false hb33
      refine d_e [2] [] En38 fun ac40 En41 => ?_
      refine then_normal ?_
      refine wp_ret ?_
      refine d_ret1 (t := 2) (v := .bool (((UInt8.toNat c : Nat) : Int) == (95 : Int))) En41 (by kernel_rfl) (by kernel_rfl) ?_
      refine ⟨congrArg (fun z => Ending.returned (Value.bool z)) ?_, Hv0.pick [] (by kernel_rfl) (by decide)⟩
      exact by unfold letB; first | (rw [Bool.eq_iff_iff]; simp only [decide_eq_true_eq, beq_iff_eq, bne_iff_ne, ne_eq]; omega) | (simp; omega)
   ·
    have En42 := En18.fx (t := 12) (congrArg Value.bool hb19)
    have hp43 : ¬ (((UInt8.toNat c : Nat) : Int) ≥ (48 : Int)) := of_decide_eq_false hb19
    refine d_k [0,2,21] [] 19 En42 fun ac44 En45 => ?_
    rcases Bool.eq_false_or_eq_true (((UInt8.toNat c : Nat) : Int) == (45 : Int)) with hb46 | hb46
    ·
     have En47 := En45.fx (t := 21) (congrArg Value.bool hb46)
     have hp48 : ((UInt8.toNat c : Nat) : Int) = (45 : Int) := eq_of_beq hb46
     refine d_e [2] [] En47 fun ac49 En50 => ?_
     refine then_normal ?_
     refine wp_ret ?_
     refine d_ret1 (t := 2) (v := .bool true) En50 (by kernel_rfl) (by kernel_rfl) ?_
     refine ⟨congrArg (fun z => Ending.returned (Value.bool z)) ?_, Hv0.pick [] (by kernel_rfl) (by decide)⟩
     exact (decide_eq_true (by omega)).symm
    ·
     have En51 := En45.fx (t := 21) (congrArg Value.bool hb46)
     have hp52 : ¬ (((UInt8.toNat c : Nat) : Int) = (45 : Int)) := ne_of_beq_false hb46
     refine d_e [2] [] En51 fun ac53 En54 => ?_
     refine then_normal ?_
     refine wp_ret ?_
     refine d_ret1 (t := 2) (v := .bool (((UInt8.toNat c : Nat) : Int) == (95 : Int))) En54 (by kernel_rfl) (by kernel_rfl) ?_
     refine ⟨congrArg (fun z => Ending.returned (Value.bool z)) ?_, Hv0.pick [] (by kernel_rfl) (by decide)⟩
     exact by unfold letB; first | (rw [Bool.eq_iff_iff]; simp only [decide_eq_true_eq, beq_iff_eq, bne_iff_ne, ne_eq]; omega) | (simp; omega)
 ·
  have En55 := En4.fx (t := 5) (congrArg Value.bool hb5)
  have hp56 : ¬ (((UInt8.toNat c : Nat) : Int) ≥ (97 : Int)) := of_decide_eq_false hb5
  refine d_k [0,2,9,12] [] 10 En55 fun ac57 En58 => ?_
  rcases Bool.eq_false_or_eq_true (decide (((UInt8.toNat c : Nat) : Int) ≥ (48 : Int))) with hb59 | hb59
  ·
   have En60 := En58.fx (t := 12) (congrArg Value.bool hb59)
   have hp61 : ((UInt8.toNat c : Nat) : Int) ≥ (48 : Int) := of_decide_eq_true hb59
   refine d_k [0,2,17] [] 15 En60 fun ac62 En63 => ?_
   rcases Bool.eq_false_or_eq_true (decide (((UInt8.toNat c : Nat) : Int) ≤ (57 : Int))) with hb64 | hb64
   ·
    have En65 := En63.fx (t := 17) (congrArg Value.bool hb64)
    have hp66 : ((UInt8.toNat c : Nat) : Int) ≤ (57 : Int) := of_decide_eq_true hb64
    refine d_e [2] [] En65 fun ac67 En68 => ?_
    refine then_normal ?_
    refine wp_ret ?_
    refine d_ret1 (t := 2) (v := .bool true) En68 (by kernel_rfl) (by kernel_rfl) ?_
    refine ⟨congrArg (fun z => Ending.returned (Value.bool z)) ?_, Hv0.pick [] (by kernel_rfl) (by decide)⟩
    exact (decide_eq_true (by omega)).symm
   ·
    have En69 := En63.fx (t := 17) (congrArg Value.bool hb64)
    have hp70 : ¬ (((UInt8.toNat c : Nat) : Int) ≤ (57 : Int)) := of_decide_eq_false hb64
    refine d_k [0,2,21] [] 19 En69 fun ac71 En72 => ?_
    rcases Bool.eq_false_or_eq_true (((UInt8.toNat c : Nat) : Int) == (45 : Int)) with hb73 | hb73
    ·
     have En74 := En72.fx (t := 21) (congrArg Value.bool hb73)
     have hp75 : ((UInt8.toNat c : Nat) : Int) = (45 : Int) := eq_of_beq hb73
     refine d_e [2] [] En74 fun ac76 En77 => ?_
     refine then_normal ?_
     refine wp_ret ?_
     refine d_ret1 (t := 2) (v := .bool true) En77 (by kernel_rfl) (by kernel_rfl) ?_
     refine ⟨congrArg (fun z => Ending.returned (Value.bool z)) ?_, Hv0.pick [] (by kernel_rfl) (by decide)⟩
     exact (decide_eq_true (by omega)).symm
    ·
     have En78 := En72.fx (t := 21) (congrArg Value.bool hb73)
     have hp79 : ¬ (((UInt8.toNat c : Nat) : Int) = (45 : Int)) := ne_of_beq_false hb73
     refine d_e [2] [] En78 fun ac80 En81 => ?_
     refine then_normal ?_
     refine wp_ret ?_
     refine d_ret1 (t := 2) (v := .bool (((UInt8.toNat c : Nat) : Int) == (95 : Int))) En81 (by kernel_rfl) (by kernel_rfl) ?_
     refine ⟨congrArg (fun z => Ending.returned (Value.bool z)) ?_, Hv0.pick [] (by kernel_rfl) (by decide)⟩
     exact by unfold letB; first | (rw [Bool.eq_iff_iff]; simp only [decide_eq_true_eq, beq_iff_eq, bne_iff_ne, ne_eq]; omega) | (simp; omega)
  ·
   have En82 := En58.fx (t := 12) (congrArg Value.bool hb59)
   have hp83 : ¬ (((UInt8.toNat c : Nat) : Int) ≥ (48 : Int)) := of_decide_eq_false hb59
   refine d_k [0,2,21] [] 19 En82 fun ac84 En85 => ?_
   rcases Bool.eq_false_or_eq_true (((UInt8.toNat c : Nat) : Int) == (45 : Int)) with hb86 | hb86
   ·
    have En87 := En85.fx (t := 21) (congrArg Value.bool hb86)
    have hp88 : ((UInt8.toNat c : Nat) : Int) = (45 : Int) := eq_of_beq hb86
    refine d_e [2] [] En87 fun ac89 En90 => ?_
    refine then_normal ?_
    refine wp_ret ?_
    refine d_ret1 (t := 2) (v := .bool true) En90 (by kernel_rfl) (by kernel_rfl) ?_
    refine ⟨congrArg (fun z => Ending.returned (Value.bool z)) ?_, Hv0.pick [] (by kernel_rfl) (by decide)⟩
    exact (decide_eq_true (by omega)).symm
   ·
    have En91 := En85.fx (t := 21) (congrArg Value.bool hb86)
    have hp92 : ¬ (((UInt8.toNat c : Nat) : Int) = (45 : Int)) := ne_of_beq_false hb86
    refine d_e [2] [] En91 fun ac93 En94 => ?_
    refine then_normal ?_
    refine wp_ret ?_
    refine d_ret1 (t := 2) (v := .bool (((UInt8.toNat c : Nat) : Int) == (95 : Int))) En94 (by kernel_rfl) (by kernel_rfl) ?_
    refine ⟨congrArg (fun z => Ending.returned (Value.bool z)) ?_, Hv0.pick [] (by kernel_rfl) (by decide)⟩
    exact by unfold letB; first | (rw [Bool.eq_iff_iff]; simp only [decide_eq_true_eq, beq_iff_eq, bne_iff_ne, ne_eq]; omega) | (simp; omega)

theorem plain_go (w : World) (c : UInt8) : Calls Tryd.prog 42 #[bv c] w fun e w' => e = .returned (.bool (plB c)) ∧ Ev w [] w' [] := by
 refine d_0 [(0, bv c)] 17 Go.Proofs.Tryd.func42 Go.Proofs.Tryd.ntmps42 (Heap.nil _) fun act0 En0 Hv0 => ?_
 refine d_s [0,2] [] En0 fun ac1 En2 => ?_
 refine wp_seq ?_
 refine region_from ?_
 refine d_k [0,2,5] [] 3 En2 fun ac3 En4 => ?_
 rcases Bool.eq_false_or_eq_true (decide (((UInt8.toNat c : Nat) : Int) ≥ (32 : Int))) with hb5 | hb5
 ·
  have En6 := En4.fx (t := 5) (congrArg Value.bool hb5)
  have hp7 : ((UInt8.toNat c : Nat) : Int) ≥ (32 : Int) := of_decide_eq_true hb5
  refine d_k [0,2,9] [] 7 En6 fun ac8 En9 => ?_
  rcases Bool.eq_false_or_eq_true (decide (((UInt8.toNat c : Nat) : Int) < (127 : Int))) with hb10 | hb10
  ·
   have En11 := En9.fx (t := 9) (congrArg Value.bool hb10)
   have hp12 : ((UInt8.toNat c : Nat) : Int) < (127 : Int) := of_decide_eq_true hb10
   refine d_k [0,2,13] [] 11 En11 fun ac13 En14 => ?_
   rcases Bool.eq_false_or_eq_true (((UInt8.toNat c : Nat) : Int) != (34 : Int)) with hb15 | hb15
   ·
    have En16 := En14.fx (t := 13) (congrArg Value.bool hb15)
    have hp17 : ¬ (((UInt8.toNat c : Nat) : Int) = (34 : Int)) := by simpa using hb15
    refine d_e [2] [] En16 fun ac18 En19 => ?_
    refine then_normal ?_
    refine wp_ret ?_
    refine d_ret1 (t := 2) (v := .bool (((UInt8.toNat c : Nat) : Int) != (92 : Int))) En19 (by kernel_rfl) (by kernel_rfl) ?_
    refine ⟨congrArg (fun z => Ending.returned (Value.bool z)) ?_, Hv0.pick [] (by kernel_rfl) (by decide)⟩
    exact by unfold plB; first | (rw [Bool.eq_iff_iff]; simp only [decide_eq_true_eq, beq_iff_eq, bne_iff_ne, ne_eq]; omega) | (simp; omega)
   ·
    have En20 := En14.fx (t := 13) (congrArg Value.bool hb15)
    have hp21 : ((UInt8.toNat c : Nat) : Int) = (34 : Int) := by simpa using hb15
    refine d_e [2] [] En20 fun ac22 En23 => ?_
    refine then_normal ?_
    refine wp_ret ?_
    refine d_ret1 (t := 2) (v := .bool false) En23 (by kernel_rfl) (by kernel_rfl) ?_
    refine ⟨congrArg (fun z => Ending.returned (Value.bool z)) ?_, Hv0.pick [] (by kernel_rfl) (by decide)⟩
    exact (decide_eq_false (by omega)).symm
  ·
   have En24 := En9.fx (t := 9) (congrArg Value.bool hb10)
   have hp25 : ¬ (((UInt8.toNat c : Nat) : Int) < (127 : Int)) := of_decide_eq_false hb10
   refine d_e [2] [] En24 fun ac26 En27 => ?_
   refine then_normal ?_
   refine wp_ret ?_
   refine d_ret1 (t := 2) (v := .bool false) En27 (by kernel_rfl) (by kernel_rfl) ?_
   refine ⟨congrArg (fun z => Ending.returned (Value.bool z)) ?_, Hv0.pick [] (by kernel_rfl) (by decide)⟩
   exact (decide_eq_false (by omega)).symm
 ·
  have En28 := En4.fx (t := 5) (congrArg Value.bool hb5)
  have hp29 : ¬ (((UInt8.toNat c : Nat) : Int) ≥ (32 : Int)) := of_decide_eq_false hb5
  refine d_e [2] [] En28 fun ac30 En31 => ?_
  refine then_normal ?_
  refine wp_ret ?_
  refine d_ret1 (t := 2) (v := .bool false) En31 (by kernel_rfl) (by kernel_rfl) ?_
  refine ⟨congrArg (fun z => Ending.returned (Value.bool z)) ?_, Hv0.pick [] (by kernel_rfl) (by decide)⟩
  exact (decide_eq_false (by omega)).symm

theorem run_go (w : World) (s : List UInt8) (hs : List.length s ≤ 140737488351232) : Calls Tryd.prog 37 #[.string (bstr s)] w fun e w' => e = .returned (.int .i64 ((runN s : Nat) : Int)) ∧ Ev w [] w' [] := by
 refine d_0 [(0, .string (bstr s))] 17 Go.Proofs.Tryd.func37 Go.Proofs.Tryd.ntmps37 (Heap.nil _) fun act0 En0 Hv0 => ?_
 refine wp_seq ?_
 refine d_r [0,2] [] En0 fun ac1 En2 => ?_
 refine then_normal ?_
 refine wp_seq ?_
 have hz := bstr_size s
 refine d_r [0,2,3] [] En2 fun ac3 En4 => ?_
 refine then_normal ?_
 refine wp_seq ?_
 refine wp_block ?_
 refine loop_m (fun ms5 ac wo => ∃ (p : Nat), ms5 = (List.length s - p : Nat) ∧ Env ac 17 [(0, .string (bstr s)), (2, .int .i64 0), (3, ni p)] ∧ Ev w [] wo [] ∧ (p ≤ List.length s) ∧ (List.all (List.take p s) letB = true)) ⟨_, 0, rfl, En4.sub (by kernel_rfl), Hv0.pick [] (by kernel_rfl) (by decide), (Nat.zero_le _), rfl⟩ ?_
 rintro mm11 ac7 wo8 ⟨p, rfl, En9, Hv10, hpl, hga⟩
 refine wp_seq ?_
 refine wp_seq ?_
 refine region_from ?_
 refine d_k [0,2,3,8] [] 5 En9 fun ac12 En13 => ?_
 rcases Bool.eq_false_or_eq_true (decide (((p : Nat) : Int) < ((ByteArray.size (bstr s) : Nat) : Int))) with hb14 | hb14
 ·
  have En15 := En13.fx (t := 8) (congrArg Value.bool hb14)
  have hp16 : ((p : Nat) : Int) < ((ByteArray.size (bstr s) : Nat) : Int) := of_decide_eq_true hb14
  have hb17 : p < List.length s := by omega
  refine d_k [0,2,3,8,9,10] [] 7 En15 fun ac18 En19 => ?_
  refine f_o ?_
  refine q_v (x := Instr.index 9 (.string (bstr s)) (ni p)) (v := .int .u8 ((UInt8.toNat (List.getD s p 0) : Nat) : Int)) En19 (Go.Dbr.run_indexstr (s := s) (j := p) (by kernel_rfl) (by omega) hb17 _) fun ac20 En21 => ?_
  refine f_o ?_
  refine c_p En21 Hv10 (letter_go _ (List.getD s p 0)) fun ac26 wo23 En27 Hv28 => ?_
  refine d_e [0,2,3,13] [] En27 fun ac29 En30 => ?_
  refine then_normal ?_
  refine cond_at En30 (t := letB (List.getD s p 0)) (by kernel_rfl) (fun hc31 => ?_) (fun hc31 => ?_)
  ·
   replace hc31 : letB (List.getD s p 0) = true := hc31
   refine wp_skip ?_
   refine then_normal ?_
   refine wp_block ?_
   refine d_r [0,2,3] [(1, g_n (w_a p 1))] En30 fun ac32 En33 => ?_
   refine block_normal ?_
   refine then_normal ?_
   refine ⟨_, ⟨p + 1, rfl, En33.sub (by kernel_rfl), Hv28.pick [] (by kernel_rfl) (by decide), (by omega), (all_next (by omega) hga (by assumption))⟩, ?_⟩
   omega
  ·
   replace hc31 : ¬ (letB (List.getD s p 0) = true) := Bool.eq_false_iff.1 hc31
   refine wp_exit ?_
   refine then_exit ?_
   refine then_exit ?_
   refine block_exit ?_
   refine then_normal ?_
   refine wp_seq ?_
   refine d_r [0,2,3] [] En30 fun ac34 En35 => ?_
   refine then_normal ?_
   refine wp_ret ?_
   refine d_ret1 (t := 2) (v := ni p) En35 (by kernel_rfl) (by kernel_rfl) ?_
   rw [← run_end hpl hga (by first | (intro hq; exact absurd hq (by omega)) | (intro hq; exact Bool.eq_false_iff.2 (by assumption)))]
   exact ⟨rfl, Hv28.pick [] (by kernel_rfl) (by decide)⟩
 ·
  have En36 := En13.fx (t := 8) (congrArg Value.bool hb14)
  have hp37 : ¬ (((p : Nat) : Int) < ((ByteArray.size (bstr s) : Nat) : Int)) := of_decide_eq_false hb14
  refine d_e [0,2,3,13] [] En36 fun ac38 En39 => ?_
  refine then_normal ?_
  refine c_f En39 ?_
  refine wp_exit ?_
  refine then_exit ?_
  refine then_exit ?_
  refine block_exit ?_
  refine then_normal ?_
  refine wp_seq ?_
  refine d_r [0,2,3] [] En39 fun ac40 En41 => ?_
  refine then_normal ?_
  refine wp_ret ?_
  refine d_ret1 (t := 2) (v := ni p) En41 (by kernel_rfl) (by kernel_rfl) ?_
  rw [← run_end hpl hga (by first | (intro hq; exact absurd hq (by omega)) | (intro hq; exact Bool.eq_false_iff.2 (by assumption)))]
  exact ⟨rfl, Hv10.pick [] (by kernel_rfl) (by decide)⟩

theorem word_go (w : World) (s : List UInt8) (hs : List.length s ≤ 140737488351232) : Calls Tryd.prog 18 #[.string (bstr s)] w fun e w' => e = .returned (.bool (wordB s)) ∧ Ev w [] w' [] := by
 refine d_0 [(0, .string (bstr s))] 27 Go.Proofs.Tryd.func18 Go.Proofs.Tryd.ntmps18 (Heap.nil _) fun act0 En0 Hv0 => ?_
 refine wp_seq ?_
 refine d_r [0,2] [] En0 fun ac1 En2 => ?_
 refine then_normal ?_
 refine wp_seq ?_
 have hz := bstr_size s
 refine region_from ?_
 refine d_k [0,2,5] [(1, g_v (show (.bool (!(ByteArray.toList (bstr s) == ByteArray.toList (bstr []))) : Value) = .bool (decide (0 < List.length s)) by rw [Go.Dbr.bstr_eq s [], ne0b s] <;> rfl))] 3 En2 fun ac3 En4 => ?_
 rcases Bool.eq_false_or_eq_true (decide (0 < List.length s)) with hb5 | hb5
 ·
  have En6 := En4.fx (t := 5) (congrArg Value.bool hb5)
  have hp7 : 0 < List.length s := of_decide_eq_true hb5
  refine d_k [0,2,10] [] 8 En6 fun ac8 En9 => ?_
  rcases Bool.eq_false_or_eq_true (decide (((ByteArray.size (bstr s) : Nat) : Int) ≤ (32 : Int))) with hb10 | hb10
  ·
   have En11 := En9.fx (t := 10) (congrArg Value.bool hb10)
   have hp12 : ((ByteArray.size (bstr s) : Nat) : Int) ≤ (32 : Int) := of_decide_eq_true hb10
   have hb13 : 0 < List.length s := by omega
   refine d_k [0,2,10,11] [] 9 En11 fun ac14 En15 => ?_
   refine f_o ?_
   refine q_v (x := Instr.index 9 (.string (bstr s)) (.int .i64 0)) (v := .int .u8 ((UInt8.toNat (List.getD s 0 0) : Nat) : Int)) En15 (Go.Dbr.run_indexstr (s := s) (j := 0) (by kernel_rfl) (by omega) hb13 _) fun ac16 En17 => ?_
   refine d_k [0,2,15] [] 13 En17 fun ac18 En19 => ?_
   rcases Bool.eq_false_or_eq_true (decide (((UInt8.toNat (List.getD s 0 0) : Nat) : Int) ≥ (97 : Int))) with hb20 | hb20
   ·
    have En21 := En19.fx (t := 15) (congrArg Value.bool hb20)
    have hp22 : ((UInt8.toNat (List.getD s 0 0) : Nat) : Int) ≥ (97 : Int) := of_decide_eq_true hb20
    have hb23 : 0 < List.length s := by omega
    refine d_k [0,2,15,16] [] 14 En21 fun ac24 En25 => ?_
    refine f_o ?_
    refine q_v (x := Instr.index 9 (.string (bstr s)) (.int .i64 0)) (v := .int .u8 ((UInt8.toNat (List.getD s 0 0) : Nat) : Int)) En25 (Go.Dbr.run_indexstr (s := s) (j := 0) (by kernel_rfl) (by omega) hb23 _) fun ac26 En27 => ?_
    refine d_k [0,2,20] [] 18 En27 fun ac28 En29 => ?_
    rcases Bool.eq_false_or_eq_true (decide (((UInt8.toNat (List.getD s 0 0) : Nat) : Int) ≤ (122 : Int))) with hb30 | hb30
    ·
     have En31 := En29.fx (t := 20) (congrArg Value.bool hb30)
     have hp32 : ((UInt8.toNat (List.getD s 0 0) : Nat) : Int) ≤ (122 : Int) := of_decide_eq_true hb30
     refine d_k [0,2,20,21] [] 19 En31 fun ac33 En34 => ?_
     refine f_o ?_
     refine c_p En34 Hv0 (run_go _ s (by first | assumption | omega)) fun ac39 wo36 En40 Hv41 => ?_
     refine d_e [2] [] En40 fun ac42 En43 => ?_
     refine then_normal ?_
     refine wp_ret ?_
     refine d_ret1 (t := 2) (v := .bool (((runN s : Nat) : Int) == ((ByteArray.size (bstr s) : Nat) : Int))) En43 (by kernel_rfl) (by kernel_rfl) ?_
     have hz := bstr_size s
     refine ⟨congrArg (fun z => Ending.returned (Value.bool z)) ?_, Hv41.pick [] (by kernel_rfl) (by decide)⟩
     exact by rw [w_r (by omega), Bool.eq_iff_iff]; simp only [decide_eq_true_eq, beq_iff_eq, bne_iff_ne, ne_eq]; omega
    ·
     have En44 := En29.fx (t := 20) (congrArg Value.bool hb30)
     have hp45 : ¬ (((UInt8.toNat (List.getD s 0 0) : Nat) : Int) ≤ (122 : Int)) := of_decide_eq_false hb30
     refine d_e [2] [] En44 fun ac46 En47 => ?_
     refine then_normal ?_
     refine wp_ret ?_
     refine d_ret1 (t := 2) (v := .bool false) En47 (by kernel_rfl) (by kernel_rfl) ?_
     have hz := bstr_size s
     refine ⟨congrArg (fun z => Ending.returned (Value.bool z)) ?_, Hv0.pick [] (by kernel_rfl) (by decide)⟩
     exact (w_n (by omega)).symm
   ·
    have En48 := En19.fx (t := 15) (congrArg Value.bool hb20)
    have hp49 : ¬ (((UInt8.toNat (List.getD s 0 0) : Nat) : Int) ≥ (97 : Int)) := of_decide_eq_false hb20
    refine d_e [2] [] En48 fun ac50 En51 => ?_
    refine then_normal ?_
    refine wp_ret ?_
    refine d_ret1 (t := 2) (v := .bool false) En51 (by kernel_rfl) (by kernel_rfl) ?_
    have hz := bstr_size s
    refine ⟨congrArg (fun z => Ending.returned (Value.bool z)) ?_, Hv0.pick [] (by kernel_rfl) (by decide)⟩
    exact (w_n (by omega)).symm
  ·
   have En52 := En9.fx (t := 10) (congrArg Value.bool hb10)
   have hp53 : ¬ (((ByteArray.size (bstr s) : Nat) : Int) ≤ (32 : Int)) := of_decide_eq_false hb10
   refine d_e [2] [] En52 fun ac54 En55 => ?_
   refine then_normal ?_
   refine wp_ret ?_
   refine d_ret1 (t := 2) (v := .bool false) En55 (by kernel_rfl) (by kernel_rfl) ?_
   have hz := bstr_size s
   refine ⟨congrArg (fun z => Ending.returned (Value.bool z)) ?_, Hv0.pick [] (by kernel_rfl) (by decide)⟩
   exact (w_n (by omega)).symm
 ·
  have En56 := En4.fx (t := 5) (congrArg Value.bool hb5)
  have hp57 : ¬ (0 < List.length s) := of_decide_eq_false hb5
  refine d_e [2] [] En56 fun ac58 En59 => ?_
  refine then_normal ?_
  refine wp_ret ?_
  refine d_ret1 (t := 2) (v := .bool false) En59 (by kernel_rfl) (by kernel_rfl) ?_
  have hz := bstr_size s
  refine ⟨congrArg (fun z => Ending.returned (Value.bool z)) ?_, Hv0.pick [] (by kernel_rfl) (by decide)⟩
  exact (w_n (by omega)).symm

end Go.Proofs.YtfcfgbejpcmmkaaDoor
