/- Slots that are known, memory that is owned, and steps through an operation: over any program. -/
import Derived.WalkKit
import Derived.WalkSpells
import Derived.WalkLawsBesides
import Derived.Deep.AppendSrc
import Derived.Deep.DeepAppendWide
import Derived.Orders
import Derived.KernelRfl
namespace Go.Dbr
open Go

/-! ## slots -/

def look : List (Nat × Value) → Nat → Option Value
  | [], _ => none
  | (i, v) :: r, t => bif Nat.beq i t then some v else look r t

theorem look_self (i : Nat) (v : Value) (r : List (Nat × Value)) : look ((i, v) :: r) i = some v := by
  simp [look]

theorem look_other {i t : Nat} (v : Value) (r : List (Nat × Value)) (h : i ≠ t) : look ((i, v) :: r) t = look r t := by
  have : Nat.beq i t = false := by
    cases hb : Nat.beq i t with
    | false => rfl
    | true => exact absurd (Nat.eq_of_beq_eq_true hb) h
  simp [look, this]

structure Env (a : Act) (n : Nat) (l : List (Nat × Value)) : Prop where
  size : a.tmps.size = n
  defers : a.defers = []
  slot : ∀ i v, look l i = some v → a.tmps[i]? = some v

def val (l : List (Nat × Value)) : Operand → Value
  | .tmp t => (look l t).getD undef
  | .const v => v
  | .global g => .pointer (some ⟨g, 0, none⟩)
  | .func f => .func (.func f) #[] #[]

def known (l : List (Nat × Value)) : Operand → Bool
  | .tmp t => (look l t).isSome
  | _ => true

theorem Env.getD {a : Act} {n : Nat} {l : List (Nat × Value)} (E : Env a n l) {t : Nat} {v : Value} (h : look l t = some v) : a.tmps.getD t undef = v := by
  have := E.slot t v h
  simp [this]

theorem Env.eval {a : Act} {n : Nat} {l : List (Nat × Value)} (E : Env a n l) {x : Operand} (h : known l x = true) : a.eval x = val l x := by
  cases x with
  | tmp t =>
    simp only [known] at h
    obtain ⟨v, hv⟩ := Option.isSome_iff_exists.1 h
    simp only [Act.eval, val, hv, Option.getD_some]
    exact E.getD hv
  | _ => rfl

def putl (d : Option Tmp) (v : Value) (l : List (Nat × Value)) : List (Nat × Value) :=
  match d with
  | some d => (d, v) :: l
  | none => l

def fits (n : Nat) : Option Tmp → Bool
  | none => true
  | some d => Nat.blt d n

theorem Env.put {a : Act} {n : Nat} {l : List (Nat × Value)} (E : Env a n l) {d : Option Tmp} (v : Value) (h : fits n d = true) : Env (a.put d v) n (putl d v l) := by
  cases d with
  | none => exact E
  | some d =>
    have h1 : Nat.ble (d + 1) n = true := h
    have hd : d < n := Nat.le_of_ble_eq_true h1
    refine ⟨by simp [Act.put, E.size], by simp [Act.put, E.defers], fun i u hu => ?_⟩
    simp only [Act.put, putl] at hu ⊢
    by_cases hi : d = i
    · subst hi
      rw [look_self] at hu
      cases hu
      rw [Array.getElem?_setIfInBounds_self_of_lt (by rw [E.size]; exact hd)]
    · rw [look_other _ _ hi] at hu
      rw [Array.getElem?_setIfInBounds_ne hi]
      exact E.slot i u hu

theorem look_map_some {L l' : List (Nat × Value)} (h : l'.map (fun p => look L p.1) = l'.map (fun p => some p.2)) :
    ∀ i v, look l' i = some v → look L i = some v := by
  induction l' with
  | nil => intro i v hv; cases hv
  | cons p r ih =>
    obtain ⟨j, u⟩ := p
    simp only [List.map_cons, List.cons.injEq] at h
    intro i v hv
    by_cases hi : j = i
    · subst hi
      rw [look_self] at hv
      cases hv
      exact h.1
    · rw [look_other _ _ hi] at hv
      exact ih h.2 i v hv

/-- fewer slots are told -/
theorem Env.sub {a : Act} {n : Nat} {L : List (Nat × Value)} (E : Env a n L) {l' : List (Nat × Value)} (h : l'.map (fun p => look L p.1) = l'.map (fun p => some p.2)) : Env a n l' :=
  ⟨E.size, E.defers, fun i v hv => E.slot i v (look_map_some h i v hv)⟩

theorem Env.start {args : Array Value} {n : Nat} {l : List (Nat × Value)} (hn : args.size ≤ n)
    (h : l.map (fun p => args[p.1]?) = l.map (fun p => some p.2)) : Env { tmps := args ++ Array.replicate (n - args.size) undef, defers := [] } n l := by
  refine ⟨by simp; omega, rfl, ?_⟩
  induction l with
  | nil => intro i v hv; cases hv
  | cons p r ih =>
    obtain ⟨j, u⟩ := p
    simp only [List.map_cons, List.cons.injEq] at h
    intro i v hv
    by_cases hi : j = i
    · subst hi
      rw [look_self] at hv
      cases hv
      have h1 := h.1
      have hlt : j < args.size := (Array.getElem?_eq_some_iff.1 h1).1
      rw [Array.getElem?_append_left hlt]
      exact h1
    · rw [look_other _ _ hi] at hv
      exact ih h.2 i v hv

/-! ## an operation -/

inductive Out where
  | run (d : Option Tmp) (s : Sem Next)
  | skip (d : Option Tmp)

def guardOf (ops : Array Oper) (l : List (Nat × Value)) (o : Oper) : Option Bool :=
  match o.guard with
  | none => some true
  | some (j, want) =>
    match (ops[j]?).bind (·.dst) with
    | none => some false
    | some d =>
      match look l d with
      | none => none
      | some (.bool b) => some (b == want)
      | some _ => some false

def isSel : Op → Bool
  | .select _ _ => true
  | _ => false

def opAt (ops : Array Oper) (n i : Nat) (l : List (Nat × Value)) : Option Out :=
  match ops[i]? with
  | none => none
  | some o =>
    match guardOf ops l o with
    | none => none
    | some false => if fits n o.dst then some (.skip o.dst) else none
    | some true => if fits n o.dst && !isSel o.op && o.op.operands.toList.all (known l) then some (.run o.dst (execOp (val l) o)) else none

theorem guardOf_spec {a : Act} {n : Nat} {l : List (Nat × Value)} (E : Env a n l) {ops : Array Oper} {o : Oper} {t : Bool} (h : guardOf ops l o = some t) :
    Region.wanted o (yielded ops a.tmps) = t := by
  unfold guardOf at h
  unfold Region.wanted
  cases hg : o.guard with
  | none => rw [hg] at h; simpa using h
  | some gw =>
    obtain ⟨j, want⟩ := gw
    simp only [hg] at h
    simp only
    unfold yielded
    cases hd : (ops[j]?).bind (·.dst) with
    | none => simp only [hd, Option.some.injEq] at h; simp [← h]
    | some d =>
      simp only [hd] at h
      cases hl : look l d with
      | none => simp [hl] at h
      | some v =>
        have hs := E.slot d v hl
        simp only [Option.bind_some, hs]
        cases v <;> simp_all

theorem opAt_run {a : Act} {n i : Nat} {l : List (Nat × Value)} (E : Env a n l) {ops : Array Oper} {d : Option Tmp} {s : Sem Next} (h : opAt ops n i l = some (.run d s)) :
    ∃ o, ops[i]? = some o ∧ Region.wanted o (yielded ops a.tmps) = true ∧ o.dst = d ∧ execOp a.eval o = s ∧ fits n d = true ∧ ∀ cs b, o.op ≠ .select cs b := by
  unfold opAt at h
  cases ho : ops[i]? with
  | none => simp [ho] at h
  | some o =>
    simp only [ho] at h
    cases hg : guardOf ops l o with
    | none => simp [hg] at h
    | some t =>
      cases t with
      | false =>
        simp only [hg] at h
        split at h <;> simp at h
      | true =>
        simp only [hg] at h
        split at h
        · rename_i hc
          simp only [Bool.and_eq_true, Bool.not_eq_true', List.all_eq_true] at hc
          simp only [Option.some.injEq, Out.run.injEq] at h
          obtain ⟨rfl, rfl⟩ := h
          have hns : ∀ cs b, o.op ≠ .select cs b := fun cs b he => by have := hc.1.2; rw [he] at this; simp [isSel] at this
          exact ⟨o, rfl, guardOf_spec E hg, rfl, execOp_congr o hns fun x hx => E.eval (hc.2 x (Array.mem_toList_iff.2 hx)), hc.1.1, hns⟩
        · cases h

theorem opAt_skip {a : Act} {n i : Nat} {l : List (Nat × Value)} (E : Env a n l) {ops : Array Oper} {d : Option Tmp} (h : opAt ops n i l = some (.skip d)) :
    ∃ o, ops[i]? = some o ∧ Region.wanted o (yielded ops a.tmps) = false ∧ o.dst = d ∧ fits n d = true := by
  unfold opAt at h
  cases ho : ops[i]? with
  | none => simp [ho] at h
  | some o =>
    simp only [ho] at h
    cases hg : guardOf ops l o with
    | none => simp [hg] at h
    | some t =>
      cases t with
      | false =>
        simp only [hg] at h
        split at h
        · rename_i hc
          simp only [Option.some.injEq, Out.skip.injEq] at h
          subst h
          exact ⟨o, rfl, guardOf_spec E hg, rfl, hc⟩
        · cases h
      | true =>
        simp only [hg] at h
        split at h <;> simp at h

def From (P : Program) (ops : Array Oper) (Q : Exit → Act → World → Prop) (i : Nat) (a : Act) (w : World) : Prop :=
  wpOps P ops Q (List.range' i (ops.size - i)) a w

section
variable {P : Program} {ops : Array Oper} {Q : Exit → Act → World → Prop} {n i : Nat} {l : List (Nat × Value)} {a : Act} {w : World} {d : Option Tmp} {s : Sem Next}

theorem region_from {id : Nat} (h : From P ops Q 0 a w) : (Code.region id ops false).wp P Q a w :=
  wp_region (by rw [List.range_eq_range']; simpa [From] using h)

theorem from_end (hs : ops.size = i) (h : Q .normal a w) : From P ops Q i a w := by
  unfold From
  rw [hs, Nat.sub_self]
  exact h

theorem from_cons (hi : i < ops.size) (h : wpOp P ops Q i (From P ops Q (i + 1)) a w) : From P ops Q i a w := by
  unfold From
  rw [show ops.size - i = (ops.size - (i + 1)) + 1 by omega, List.range'_succ, wpOps_cons]
  exact h

theorem step_skip (E : Env a n l) (h : opAt ops n i l = some (.skip d)) (next : ∀ a', Env a' n (putl d undef l) → From P ops Q (i + 1) a' w) : From P ops Q i a w := by
  obtain ⟨o, ho, hw, rfl, hf⟩ := opAt_skip E h
  refine from_cons (Array.getElem?_eq_some_iff.1 ho).1 ?_
  simp only [wpOp, ho, hw, Bool.false_eq_true, if_false]
  exact next _ (E.put undef hf)

/-- one operation that yields a value -/
theorem step_run (E : Env a n l) (h : opAt ops n i l = some (.run d s)) {v : Value} {w' : World} (hr : s.run P w = .ok (.value v) w')
    (next : ∀ a', Env a' n (putl d v l) → From P ops Q (i + 1) a' w') : From P ops Q i a w := by
  obtain ⟨o, ho, hw, rfl, hs, hf, _⟩ := opAt_run E h
  refine from_cons (Array.getElem?_eq_some_iff.1 ho).1 ?_
  simp only [wpOp, ho, hw, if_true, Oper.wp, hs, hr, Oper.upon]
  exact .inl (next _ (E.put v hf))

theorem step_unit (E : Env a n l) (h : opAt ops n i l = some (.run d s)) {w' : World} (hr : s.run P w = .ok .skip w')
    (next : ∀ a', Env a' n (putl d undef l) → From P ops Q (i + 1) a' w') : From P ops Q i a w := by
  obtain ⟨o, ho, hw, rfl, hs, hf, _⟩ := opAt_run E h
  refine from_cons (Array.getElem?_eq_some_iff.1 ho).1 ?_
  simp only [wpOp, ho, hw, if_true, Oper.wp, hs, hr, Oper.upon]
  exact .inl (next _ (E.put undef hf))

/-- a call -/
theorem step_call (E : Env a n l) (h : opAt ops n i l = some (.run d s)) {f : FuncId} {args : Array Value} {w' : World} (hr : s.run P w = .ok (.enter f args) w')
    (hc : Calls P f args w' fun e w'' => ∃ v, e = .returned v ∧ ∀ a', Env a' n (putl d v l) → From P ops Q (i + 1) a' w'') : From P ops Q i a w := by
  obtain ⟨o, ho, hw, rfl, hs, hf, _⟩ := opAt_run E h
  refine from_cons (Array.getElem?_eq_some_iff.1 ho).1 ?_
  simp only [wpOp, ho, hw, if_true, Oper.wp, hs, hr, Oper.upon]
  refine .inl (hc.mono fun e w'' he => ?_)
  obtain ⟨v, rfl, hn⟩ := he
  exact hn _ (E.put v hf)

/-! ## several operations that look at no memory, at once -/

def runsTo (P : Program) (ops : Array Oper) (n : Nat) (w : World) : List (Nat × Value) → Nat → List Value → List (Option (Result Next))
  | _, _, [] => []
  | l, i, v :: r =>
    match opAt ops n i l with
    | some (.run d s) => some (s.run P w) :: runsTo P ops n w (putl d v l) (i + 1) r
    | some (.skip d) => some (.ok (.value undef) w) :: runsTo P ops n w (putl d undef l) (i + 1) r
    | none => [none]

def endsIn (ops : Array Oper) (n : Nat) : List (Nat × Value) → Nat → List Value → List (Nat × Value)
  | l, _, [] => l
  | l, i, v :: r =>
    match opAt ops n i l with
    | some (.run d _) => endsIn ops n (putl d v l) (i + 1) r
    | some (.skip d) => endsIn ops n (putl d undef l) (i + 1) r
    | none => l

theorem pures_go : ∀ (vs : List Value) (i : Nat) (l : List (Nat × Value)) (a : Act), Env a n l →
    runsTo P ops n w l i vs = vs.map (fun v => some (.ok (.value v) w)) →
    (∀ a', Env a' n (endsIn ops n l i vs) → From P ops Q (i + vs.length) a' w) → From P ops Q i a w
  | [], i, l, a, E, _, next => next a E
  | v :: r, i, l, a, E, h, next => by
    unfold runsTo at h
    unfold endsIn at next
    cases ho : opAt ops n i l with
    | none => simp [ho] at h
    | some x =>
      cases x with
      | run d s =>
        simp only [ho, List.map_cons, List.cons.injEq, Option.some.injEq] at h next
        refine step_run E ho h.1 fun a' E' => pures_go r (i + 1) _ a' E' h.2 fun a'' E'' => ?_
        have := next a'' E''
        rwa [List.length_cons, show i + (r.length + 1) = i + 1 + r.length by omega] at this
      | skip d =>
        simp only [ho, List.map_cons, List.cons.injEq, Option.some.injEq] at h next
        refine step_skip E ho fun a' E' => pures_go r (i + 1) _ a' E' h.2 fun a'' E'' => ?_
        have := next a'' E''
        rwa [List.length_cons, show i + (r.length + 1) = i + 1 + r.length by omega] at this

/-- the slots behind them are told anew -/
theorem d_pures (l' : List (Nat × Value)) (vs : List Value) (k : Nat) (E : Env a n l) (h : (fun w => runsTo P ops n w l i vs) = fun w => vs.map (fun v => some (.ok (.value v) w)))
    (hl : l'.map (fun p => look (endsIn ops n l i vs) p.1) = l'.map (fun p => some p.2)) (hk : i + vs.length = k)
    (next : ∀ a', Env a' n l' → From P ops Q k a' w) : From P ops Q i a w :=
  pures_go vs i l a E (congrFun h w) fun a' E' => by rw [hk]; exact next a' (E'.sub hl)

/-! ## a region whose order is drawn -/

theorem region_cut {c : Code} {F : Act → World → Prop} (h : c.wp P (fun e a w => e = .normal ∧ F a w) a w) (next : ∀ a' w', F a' w' → Q .normal a' w') : c.wp P Q a w :=
  wp_mono h fun e a w ⟨he, hf⟩ => by subst he; exact next a w hf

theorem draw_any {F : Act → World → Prop} {id : Nat} (hm : P.follows .mixedOrders = true) (m : Nat) (hs : ops.size = m)
    (h : wpAny P .any ops (fun e a w => e = .normal ∧ F a w) m (Array.replicate m false) a w.drew) :
    (Code.region id ops true).wp P (fun e a w => e = .normal ∧ F a w) a w := by
  subst hs
  exact wp_region_any hm h

theorem any_end {F : Act → World → Prop} {m : Nat} {listed : Array Bool} (hr : Region.ready .any ops listed = []) (h : F a w) : wpAny P .any ops (fun e a w => e = .normal ∧ F a w) m listed a w := by
  cases m with
  | zero => exact ⟨hr, rfl, h⟩
  | succ m => exact ⟨fun _ => ⟨rfl, h⟩, fun i hi => by rw [hr] at hi; cases hi⟩

/-- of the operations that may come next one looks at no memory: it may as well come first -/
theorem any_pure {F : Act → World → Prop} {m : Nat} {listed listed' : Array Bool} (E : Env a n l) {v : Value} (i : Nat)
    (hr : opAt ops n i l = some (.run d s)) (hv : (fun w => s.run P w) = fun w => .ok (.value v) w)
    (hc : (Region.noSelect ops && Region.free .any ops listed i && (Region.ready .any ops listed).contains i) = true) (hl : listed.setIfInBounds i true = listed')
    (next : ∀ a', Env a' n (putl d v l) → wpAny P .any ops (fun e a w => e = .normal ∧ F a w) m listed' a' w) :
    wpAny P .any ops (fun e a w => e = .normal ∧ F a w) (m + 1) listed a w := by
  obtain ⟨o, ho, hw, rfl, hs, hf, _⟩ := opAt_run E hr
  simp only [Bool.and_eq_true, List.contains_iff_mem] at hc
  subst hl
  exact wpAny_first ho (Region.noSelect_spec hc.1.1) (fun _ _ _ h => by cases h.1) m listed a w (Region.free_spec ho hc.1.2) hc.2
    (.inl ⟨hw, fun w => by rw [hs]; exact congrFun hv w⟩) (next _ (E.put v hf))

theorem any_skip {F : Act → World → Prop} {m : Nat} {listed listed' : Array Bool} (E : Env a n l) (i : Nat)
    (hr : opAt ops n i l = some (.skip d))
    (hc : (Region.noSelect ops && Region.free .any ops listed i && (Region.ready .any ops listed).contains i) = true) (hl : listed.setIfInBounds i true = listed')
    (next : ∀ a', Env a' n (putl d undef l) → wpAny P .any ops (fun e a w => e = .normal ∧ F a w) m listed' a' w) :
    wpAny P .any ops (fun e a w => e = .normal ∧ F a w) (m + 1) listed a w := by
  obtain ⟨o, ho, hw, rfl, hf⟩ := opAt_skip E hr
  simp only [Bool.and_eq_true, List.contains_iff_mem] at hc
  subst hl
  exact wpAny_first ho (Region.noSelect_spec hc.1.1) (fun _ _ _ h => by cases h.1) m listed a w (Region.free_spec ho hc.1.2) hc.2
    (.inr ⟨hw, rfl⟩) (next _ (E.put undef hf))

/-- those that may come next, one by one -/
theorem any_of {m : Nat} {listed : Array Bool} (is : List Nat) (hr : Region.ready .any ops listed = is) (hne : is.isEmpty = false)
    (h : ∀ i ∈ is, wpOp P ops Q i (wpAny P .any ops Q m (listed.setIfInBounds i true)) a w) : wpAny P .any ops Q (m + 1) listed a w := by
  subst hr
  exact ⟨fun h0 => (by rw [h0] at hne; cases hne), h⟩

theorem any_run {K : Act → World → Prop} (E : Env a n l) (h : opAt ops n i l = some (.run d s)) {v : Value} {w' : World} (hr : s.run P w = .ok (.value v) w')
    (next : ∀ a', Env a' n (putl d v l) → K a' w') : wpOp P ops Q i K a w := by
  obtain ⟨o, ho, hw, rfl, hs, hf, _⟩ := opAt_run E h
  simp only [wpOp, ho, hw, if_true, Oper.wp, hs, hr, Oper.upon]
  exact .inl (next _ (E.put v hf))

theorem any_unit {K : Act → World → Prop} (E : Env a n l) (h : opAt ops n i l = some (.run d s)) {w' : World} (hr : s.run P w = .ok .skip w')
    (next : ∀ a', Env a' n (putl d undef l) → K a' w') : wpOp P ops Q i K a w := by
  obtain ⟨o, ho, hw, rfl, hs, hf, _⟩ := opAt_run E h
  simp only [wpOp, ho, hw, if_true, Oper.wp, hs, hr, Oper.upon]
  exact .inl (next _ (E.put undef hf))

theorem any_call {K : Act → World → Prop} (E : Env a n l) (h : opAt ops n i l = some (.run d s)) {f : FuncId} {args : Array Value} {w' : World} (hr : s.run P w = .ok (.enter f args) w')
    (hc : Calls P f args w' fun e w'' => ∃ v, e = .returned v ∧ ∀ a', Env a' n (putl d v l) → K a' w'') : wpOp P ops Q i K a w := by
  obtain ⟨o, ho, hw, rfl, hs, hf, _⟩ := opAt_run E h
  simp only [wpOp, ho, hw, if_true, Oper.wp, hs, hr, Oper.upon]
  refine .inl (hc.mono fun e w'' he => ?_)
  obtain ⟨v, rfl, hn⟩ := he
  exact hn _ (E.put v hf)

end

/-! ## code -/
section
variable {P : Program} {Q : Exit → Act → World → Prop} {n : Nat} {l : List (Nat × Value)} {a : Act} {w : World}

theorem then_normal {next : Act → World → Prop} (h : next a w) : Exit.then next Q .normal a w := h
theorem then_exit {next : Act → World → Prop} {id : Nat} (h : Q (.exit id) a w) : Exit.then next Q (.exit id) a w := h
theorem then_ret {next : Act → World → Prop} (h : Q .ret a w) : Exit.then next Q .ret a w := h
theorem block_normal {id : Nat} (h : Q .normal a w) : Exit.inBlock id Q .normal a w := h
theorem block_exit {id : Nat} (h : Q .normal a w) : Exit.inBlock id Q (.exit id) a w := by simpa [Exit.inBlock] using h
theorem block_past {id k : Nat} (hk : Nat.beq k id = false) (h : Q (.exit k) a w) : Exit.inBlock id Q (.exit k) a w := by
  have : k ≠ id := fun e => by subst e; simp at hk
  simpa [Exit.inBlock, this] using h
theorem block_ret {id : Nat} (h : Q .ret a w) : Exit.inBlock id Q .ret a w := h

theorem cond_at {c : Nat} {x y : Code} {t : Bool} (E : Env a n l) (hc : look l c = some (.bool t)) (ht : t = true → x.wp P Q a w) (hf : t = false → y.wp P Q a w) : (Code.cond (.tmp c) x y).wp P Q a w :=
  wp_cond_split (E.getD hc) ht hf
theorem cond_true {c : Nat} {x y : Code} {t : Bool} (E : Env a n l) (hc : look l c = some (.bool t)) (ht : t = true) (h : x.wp P Q a w) : (Code.cond (.tmp c) x y).wp P Q a w :=
  cond_at E hc (fun _ => h) (fun e => by rw [ht] at e; cases e)
theorem cond_false {c : Nat} {x y : Code} {t : Bool} (E : Env a n l) (hc : look l c = some (.bool t)) (ht : t = false) (h : y.wp P Q a w) : (Code.cond (.tmp c) x y).wp P Q a w :=
  cond_at E hc (fun e => by rw [ht] at e; cases e) (fun _ => h)

theorem d_ret0 {fn : Func} {R : Ending → World → Prop} (E : Env a n l) (hr : fn.results = #[]) (h : R (.returned (.tuple #[])) w) : bodyPost P fn R .ret a w :=
  bodyPost_ret (results_none hr a.tmps P w) E.defers h
theorem d_end0 {fn : Func} {R : Ending → World → Prop} (E : Env a n l) (hr : fn.results = #[]) (h : R (.returned (.tuple #[])) w) : bodyPost P fn R .normal a w :=
  bodyPost_end (results_none hr a.tmps P w) E.defers h
theorem d_ret1 {fn : Func} {R : Ending → World → Prop} (E : Env a n l) {t : Nat} {v : Value} (hr : fn.results = #[.tmp t]) (hv : look l t = some v) (h : R (.returned v) w) : bodyPost P fn R .ret a w :=
  bodyPost_ret (by rw [results_tmp hr, E.getD hv]) E.defers h
theorem d_ret2 {fn : Func} {R : Ending → World → Prop} (E : Env a n l) {t u : Nat} {v x : Value} (hr : fn.results = #[.tmp t, .tmp u]) (hv : look l t = some v) (hx : look l u = some x) (h : R (.returned (.tuple #[v, x])) w) : bodyPost P fn R .ret a w :=
  bodyPost_ret (by rw [results_tmp2 hr, E.getD hv, E.getD hx]) E.defers h

theorem Env.getQ {a : Act} {n : Nat} {l : List (Nat × Value)} (E : Env a n l) {t : Nat} {v : Value} (h : look l t = some v) : a.tmps[t]?.getD undef = v := by
  have := E.getD h
  simpa using this
theorem d_ret3 {fn : Func} {R : Ending → World → Prop} (E : Env a n l) {t u s : Nat} {v x y : Value} (hr : fn.results = #[.tmp t, .tmp u, .tmp s]) (hv : look l t = some v) (hx : look l u = some x) (hy : look l s = some y) (h : R (.returned (.tuple #[v, x, y])) w) : bodyPost P fn R .ret a w := by
  refine bodyPost_ret (v := .tuple #[v, x, y]) ?_ E.defers h
  simp [results, hr, E.getQ hv, E.getQ hx, E.getQ hy]
/-- a result that stands in memory -/
theorem d_cell1 {fn : Func} {R : Ending → World → Prop} (E : Env a n l) {t : Nat} {T : TypeId} {ad : Addr} {v : Value} (hr : fn.results = #[.cell t T]) (ht : look l t = some (.pointer (some ad))) (hv : (loadVar T ad).run P w = .ok v w) (h : R (.returned v) w) : bodyPost P fn R .ret a w := by
  refine bodyPost_ret (v := v) ?_ E.defers h
  simp [results, hr, E.getQ ht, asAddr, hv]
theorem d_cell2 {fn : Func} {R : Ending → World → Prop} (E : Env a n l) {t u : Nat} {T U : TypeId} {ad bd : Addr} {v x : Value} (hr : fn.results = #[.cell t T, .cell u U]) (ht : look l t = some (.pointer (some ad))) (hv : (loadVar T ad).run P w = .ok v w) (hu : look l u = some (.pointer (some bd))) (hx : (loadVar U bd).run P w = .ok x w) (h : R (.returned (.tuple #[v, x])) w) : bodyPost P fn R .ret a w := by
  refine bodyPost_ret (v := .tuple #[v, x]) ?_ E.defers h
  simp [results, hr, E.getQ ht, E.getQ hu, asAddr, hv, hx]
theorem d_cell_tmp {fn : Func} {R : Ending → World → Prop} (E : Env a n l) {t u : Nat} {T : TypeId} {ad : Addr} {v x : Value} (hr : fn.results = #[.cell t T, .tmp u]) (ht : look l t = some (.pointer (some ad))) (hv : (loadVar T ad).run P w = .ok v w) (hx : look l u = some x) (h : R (.returned (.tuple #[v, x])) w) : bodyPost P fn R .ret a w := by
  refine bodyPost_ret (v := .tuple #[v, x]) ?_ E.defers h
  simp [results, hr, E.getQ ht, E.getQ hx, asAddr, hv]
theorem d_tmp_cell {fn : Func} {R : Ending → World → Prop} (E : Env a n l) {t u : Nat} {U : TypeId} {bd : Addr} {v x : Value} (hr : fn.results = #[.tmp t, .cell u U]) (hv : look l t = some v) (hu : look l u = some (.pointer (some bd))) (hx : (loadVar U bd).run P w = .ok x w) (h : R (.returned (.tuple #[v, x])) w) : bodyPost P fn R .ret a w := by
  refine bodyPost_ret (v := .tuple #[v, x]) ?_ E.defers h
  simp [results, hr, E.getQ hv, E.getQ hu, asAddr, hx]

theorem d_start {f : FuncId} {fn : Func} {c : Code} {args : Array Value} {R : Ending → World → Prop} (l : List (Nat × Value)) (n : Nat) (hf : P.funcs[f]? = some fn) (hn : fn.ntmps = n) (hb : fn.body = some c)
    (hs : Nat.ble args.size n = true) (hl : l.map (fun p => args[p.1]?) = l.map (fun p => some p.2))
    (h : ∀ a, Env a n l → c.wp P (bodyPost P fn R) a w) : Calls P f args w R :=
  calls_of_wp hf hb (by subst hn; exact h _ (Env.start (Nat.le_of_ble_eq_true hs) hl))
end

/-! ## the runs of single instructions -/
def nv (s : Sem Value) : Sem Next := do pure (.value (← s))
def nu (s : Sem Unit) : Sem Next := do s; pure .skip
theorem run_nv {P : Program} {s : Sem Value} {w w' : World} {v : Value} (h : s.run P w = .ok v w') : (nv s).run P w = .ok (.value v) w' := by
  simp [nv, h]
theorem run_nu {P : Program} {s : Sem Unit} {w w' : World} (h : s.run P w = .ok () w') : (nu s).run P w = .ok .skip w' := by
  simp [nu, h]

end Go.Dbr
