/- Maps whose keys are texts: owned. -/
import Derived.Test.YtfcfgbejpcmmkaaDoorMulti
import Derived.MapKept
import Derived.ChangeMaps5
import Derived.Laws.StructEq
namespace Go.Dbr
open Go Go.RowKit

theorem bstr_beq (l m : List UInt8) : (bstr l == bstr m) = (l == m) := by rw [beq_toListBytes, bstr_eq]

/-- keys and what stands at them -/
def kvs {α : Type} (f : α → Value) (l : List (List UInt8 × α)) : List (Value × Value) := l.map fun p => (.string (bstr p.1), f p.2)
def kvFind {α : Type} (k : List UInt8) : List (List UInt8 × α) → Nat → Option (Nat × α)
  | [], _ => none
  | p :: r, i => if k = p.1 then some (i, p.2) else kvFind k r (i + 1)
def kvAt {α : Type} (l : List (List UInt8 × α)) (k : List UInt8) : Option α := (kvFind k l 0).map (·.2)
def kvPut {α : Type} (k : List UInt8) (v : α) : List (List UInt8 × α) → List (List UInt8 × α)
  | [] => [(k, v)]
  | p :: r => if k = p.1 then (k, v) :: r else p :: kvPut k v r
def kvDel {α : Type} (k : List UInt8) (l : List (List UInt8 × α)) : List (List UInt8 × α) := l.filter fun p => p.1 != k

section
variable {P : Program} {ops : Array Oper} {Q : Exit → Act → World → Prop} {n i : Nat} {l : List (Nat × Value)} {a : Act} {w w0 : World} {d : Option Tmp} {L L0 : List Ent} {K : Act → World → Prop}

theorem findNow_kv {α : Type} {f : α → Value} {k : List UInt8} : ∀ {es : List MapEntry} {l : List (List UInt8 × α)} {i : Nat}, es.map (fun e => (e.key, e.val)) = kvs f l →
    Instr.findNow .string (.string (bstr k)) es i = some ((kvFind k l i).map fun p => (p.1, f p.2))
  | [], [], i, _ => rfl
  | [], p :: r, i, h => by simp [kvs] at h
  | e :: es, [], i, h => by simp [kvs] at h
  | e :: es, p :: r, i, h => by
    simp only [kvs, List.map_cons, List.cons.injEq, Prod.mk.injEq] at h
    obtain ⟨⟨h1, h2⟩, h3⟩ := h
    unfold Instr.findNow kvFind
    rw [h1]
    simp only [Instr.sameNow, bstr_beq]
    by_cases hk : k = p.1
    · rw [if_pos hk, beq_iff_eq.2 hk]
      simp only [Option.map_some, h2]
    · rw [if_neg hk, beq_eq_false_iff_ne.2 hk]
      exact findNow_kv (l := r) h3

theorem run_find {α : Type} {f : α → Value} {t : TypeId} {k : List UInt8} {es : List MapEntry} {m : List (List UInt8 × α)} (hk : P.underlying t = some .string) (h : es.map (fun e => (e.key, e.val)) = kvs f m) :
    (Instr.findKey t (.string (bstr k)) es).run P w = .ok ((kvFind k m 0).map fun p => (p.1, f p.2)) w := by
  simp [Instr.findKey, run_underlying hk, findNow_kv h]

theorem run_checkStr {t : TypeId} {e : Bool} {s : ByteArray} (hk : P.underlying t = some .string) : (Instr.checkKey e 10000 t (.string s)).run P w = .ok () w := by
  exact MapKept.run_checkKey (k := .string s) hk trivial e 9999

theorem run_lookup {α : Type} {f : α → Value} {t kt et : TypeId} {b : Nat} {k : List UInt8} {m : List (List UInt8 × α)} {z : Value} {ok : Bool} (h : Heap w L) {j : Nat} (hj : L[j]? = some (.map b (kvs f m)))
    (ht : P.underlying t = some (.map kt et)) (hk : P.underlying kt = some .string) (hz : (fun w => (zeroValue et).run P w) = fun w => .ok z w) :
    (Instr.lookup t (.map (some b)) (.string (bstr k)) ok).run P w = .ok (if ok then .tuple #[((kvAt m k).map f).getD z, .bool (kvAt m k).isSome] else ((kvAt m k).map f).getD z) w := by
  obtain ⟨es, clock, h1, h2, _⟩ := h.holds j _ hj
  have hz' : (zeroValue et).run P w = .ok z w := congrFun hz w
  have h3 := MapKept.run_getObj_map (P := P) h1
  simp only [Instr.lookup, Sem.run_bind, run_underlying ht, Result.andThen, h3, Sem.run_pure, run_checkStr hk, run_find hk h2]
  unfold kvAt
  cases kvFind k m 0 with
  | none => cases ok <;> simp [hz', Result.andThen]
  | some p => cases ok <;> simp

/-- what stands at a key -/
theorem op_lookup (E : Env a n l) {α : Type} {f : α → Value} {t kt et : TypeId} {b j : Nat} {k : List UInt8} {m : List (List UInt8 × α)} {z : Value} {ok : Bool} (h : opAt ops n i l = some (.run d (nv (Instr.lookup t (.map (some b)) (.string (bstr k)) ok))))
    (H : Ev w0 L0 w L) (hj : L[j]? = some (.map b (kvs f m))) (ht : P.underlying t = some (.map kt et)) (hk : P.underlying kt = some .string) (hz : (fun w => (zeroValue et).run P w) = fun w => .ok z w) {v : Value}
    (hv : (if ok then .tuple #[((kvAt m k).map f).getD z, .bool (kvAt m k).isSome] else ((kvAt m k).map f).getD z) = v)
    (next : ∀ a', Env a' n (putl d v l) → K a' w) : wpOp P ops Q i K a w := by
  subst hv
  exact op_val E h (run_lookup H.heap hj ht hk hz) next

theorem Heap.newMap (h : Heap w L) : Ev w L (w.alloc (.map #[] 0)) (L ++ [.map w.heap.size []]) :=
  Ev.add h (chg_alloc _ _ _) ⟨_, _, heap_alloc_new w _, rfl, MapKept.stamped_empty _⟩ (fun b hb => by simp only [Ent.own, Option.some.injEq] at hb; omega)

theorem op_makemap (E : Env a n l) {t : TypeId} (h : opAt ops n i l = some (.run d (nv (Instr.makeMap t none)))) (H : Ev w0 L0 w L)
    (next : ∀ a' w' b, Env a' n (putl d (.map (some b)) l) → Ev w0 L0 w' (L ++ [.map b []]) → K a' w') : wpOp P ops Q i K a w := by
  refine any_run E h (run_nv (w' := w.alloc (.map #[] 0)) (v := .map (some w.heap.size)) (by simp [Instr.makeMap])) fun a' E' => next a' _ _ E' (H.trans H.heap.newMap)

theorem Heap.setMap {j b : Nat} {kv : List (Value × Value)} {es es' : Array MapEntry} {c c' : Nat} (h : Heap w L) (hj : L[j]? = some (.map b kv)) (hb : w.heap[b]? = some (.map es c)) (hs : MapKept.Stamped es' c') :
    Ev w L (ChangeMaps.setBlock w b (.map es' c')) (L.set j (.map b (es'.toList.map fun e => (e.key, e.val)))) := by
  have _ := hb
  refine Ev.change h hj ⟨rfl, rfl, rfl, by simp [ChangeMaps.setBlock], fun k hk hn => ChangeMaps.heap_setBlock_other hb _ fun e => hn (by simp [Ent.own, e])⟩ ⟨es', c', ChangeMaps.heap_setBlock_same hb _, rfl, hs⟩ (fun c hc => .inl hc)

theorem kv_modify {α : Type} {f : α → Value} {k : List UInt8} {v : α} : ∀ {es : List MapEntry} {m : List (List UInt8 × α)} {i j : Nat} {u : α}, es.map (fun e => (e.key, e.val)) = kvs f m → kvFind k m i = some (i + j, u) →
    (es.modify j fun e => { e with key := .string (bstr k), val := f v }).map (fun e => (e.key, e.val)) = kvs f (kvPut k v m)
  | [], [], i, j, u, _, h => by simp [kvFind] at h
  | [], p :: r, i, j, u, h, _ => by simp [kvs] at h
  | e :: es, [], i, j, u, h, _ => by simp [kvs] at h
  | e :: es, p :: r, i, j, u, h, hf => by
    simp only [kvs, List.map_cons, List.cons.injEq, Prod.mk.injEq] at h
    obtain ⟨⟨h1, h2⟩, h3⟩ := h
    unfold kvFind at hf
    unfold kvPut
    by_cases hk : k = p.1
    · rw [if_pos hk] at hf ⊢
      simp only [Option.some.injEq, Prod.mk.injEq] at hf
      have : j = 0 := by omega
      subst this
      simp only [List.modify_zero_cons, List.map_cons, kvs]
      rw [h3]
    · rw [if_neg hk] at hf ⊢
      cases j with
      | zero =>
        exfalso
        have : ∀ (r : List (List UInt8 × α)) (i q : Nat) (u : α), kvFind k r i = some (q, u) → i ≤ q := by
          intro r
          induction r with
          | nil => intro i q u h; simp [kvFind] at h
          | cons p r ih =>
            intro i q u h
            unfold kvFind at h
            split at h
            · simp only [Option.some.injEq, Prod.mk.injEq] at h; omega
            · have := ih _ _ _ h; omega
        have := this _ _ _ _ hf
        omega
      | succ j =>
        have := kv_modify (v := v) (i := i + 1) (j := j) h3 (by rw [hf]; congr 2; omega)
        rw [List.modify_succ_cons, List.map_cons, this]
        simp [kvs, h1, h2]

theorem kv_push {α : Type} {f : α → Value} {k : List UInt8} {v : α} {i : Nat} : ∀ {m : List (List UInt8 × α)}, kvFind k m i = none → kvs f m ++ [(.string (bstr k), f v)] = kvs f (kvPut k v m) := by
  intro m
  induction m generalizing i with
  | nil => intro _; rfl
  | cons p r ih =>
    intro h
    unfold kvFind at h
    unfold kvPut
    by_cases hk : k = p.1
    · rw [if_pos hk] at h; cases h
    · rw [if_neg hk] at h ⊢
      have := ih h
      simp only [kvs, List.map_cons, List.cons_append] at this ⊢
      rw [this]

theorem kv_key {α : Type} {f : α → Value} {k : List UInt8} : ∀ {es : List MapEntry} {m : List (List UInt8 × α)} {i j : Nat} {u : α}, es.map (fun e => (e.key, e.val)) = kvs f m → kvFind k m i = some (i + j, u) → (es[j]?).map (·.key) = some (.string (bstr k))
  | [], [], i, j, u, _, h => by simp [kvFind] at h
  | [], p :: r, i, j, u, h, _ => by simp [kvs] at h
  | e :: es, [], i, j, u, h, _ => by simp [kvs] at h
  | e :: es, p :: r, i, j, u, h, hf => by
    simp only [kvs, List.map_cons, List.cons.injEq, Prod.mk.injEq] at h
    obtain ⟨⟨h1, h2⟩, h3⟩ := h
    unfold kvFind at hf
    by_cases hk : k = p.1
    · rw [if_pos hk] at hf
      simp only [Option.some.injEq, Prod.mk.injEq] at hf
      have : j = 0 := by omega
      subst this
      simp [h1, hk]
    · rw [if_neg hk] at hf
      cases j with
      | zero =>
        exfalso
        have : ∀ (r : List (List UInt8 × α)) (i q : Nat) (u : α), kvFind k r i = some (q, u) → i ≤ q := by
          intro r
          induction r with
          | nil => intro i q u h; simp [kvFind] at h
          | cons p r ih =>
            intro i q u h
            unfold kvFind at h
            split at h
            · simp only [Option.some.injEq, Prod.mk.injEq] at h; omega
            · have := ih _ _ _ h; omega
        have := this _ _ _ _ hf
        omega
      | succ j =>
        rw [List.getElem?_cons_succ]
        exact kv_key (i := i + 1) (j := j) (u := u) h3 (by rw [hf]; congr 2; omega)

theorem kv_nokey {α : Type} {f : α → Value} {k : List UInt8} : ∀ {es : List MapEntry} {m : List (List UInt8 × α)} {i : Nat}, es.map (fun e => (e.key, e.val)) = kvs f m → kvFind k m i = none → ∀ x ∈ es, x.key ≠ .string (bstr k)
  | [], _, _, _, _ => fun x hx => absurd hx List.not_mem_nil
  | e :: es, [], _, h, _ => by simp [kvs] at h
  | e :: es, p :: r, i, h, hf => by
    simp only [kvs, List.map_cons, List.cons.injEq, Prod.mk.injEq] at h
    obtain ⟨⟨h1, h2⟩, h3⟩ := h
    unfold kvFind at hf
    by_cases hk : k = p.1
    · rw [if_pos hk] at hf; cases hf
    · rw [if_neg hk] at hf
      intro x hx
      rcases List.mem_cons.1 hx with rfl | hx
      · rw [h1]
        intro g
        have := congrArg (fun v => match v with | .string s => s | _ => bstr []) g
        simp only at this
        have h9 := bstr_beq k p.1
        rw [this, bstr_beq k k, beq_self_eq_true] at h9
        exact hk (eq_of_beq h9.symm)
      · exact kv_nokey h3 hf x hx

theorem run_update {α : Type} {f : α → Value} {t kt et : TypeId} {b : Nat} {k : List UInt8} {v : α} {m : List (List UInt8 × α)} (h : Heap w L) {j : Nat} (hj : L[j]? = some (.map b (kvs f m)))
    (ht : P.underlying t = some (.map kt et)) (hk : P.underlying kt = some .string) :
    ∃ w', (Instr.mapUpdate t (.map (some b)) (.string (bstr k)) (f v)).run P w = .ok () w' ∧ Ev w L w' (L.set j (.map b (kvs f (kvPut k v m)))) := by
  obtain ⟨es, clock, h1, h2, hst0⟩ := h.holds j _ hj
  have h3 := MapKept.run_getObj_map (P := P) h1
  cases hf : kvFind k m 0 with
  | none =>
    refine ⟨ChangeMaps.setBlock w b (.map (es.push { key := .string (bstr k), val := f v, born := clock }) (clock + 1)), ?_, ?_⟩
    · simp only [Instr.mapUpdate, Sem.run_bind, run_underlying ht, Result.andThen, h3, run_checkStr hk, run_find hk h2, hf, Option.map_none]
      exact MapKept.run_setObj_map _ h1
    · have := h.setMap (es' := es.push { key := .string (bstr k), val := f v, born := clock }) (c' := clock + 1) hj h1 (MapKept.stamped_push hst0 (kv_nokey h2 hf))
      rw [Array.toList_push, List.map_append, h2] at this
      simp only [List.map_cons, List.map_nil] at this
      rw [kv_push hf] at this
      exact this
  | some p =>
    obtain ⟨q, u⟩ := p
    have hkey := kv_key (i := 0) (j := q) (u := u) h2 (by rw [hf]; congr 2; omega)
    refine ⟨ChangeMaps.setBlock w b (.map (es.modify q fun e => { e with key := .string (bstr k), val := f v }) clock), ?_, ?_⟩
    · have hk2 : ((es[q]?.map (·.key)).getD (.string (bstr k))) = .string (bstr k) := by
        rw [Array.getElem?_toList] at hkey
        rw [hkey]
        rfl
      have hst : (Instr.keyThatStays (.string (bstr k)) (.string (bstr k))).run P w = .ok (.string (bstr k)) w := by
        simp [Instr.keyThatStays, Instr.sameBits, bstr_beq]
      simp only [Instr.mapUpdate, Sem.run_bind, run_underlying ht, Result.andThen, h3, run_checkStr hk, run_find hk h2, hf, Option.map_some, hk2, hst]
      exact MapKept.run_setObj_map _ h1
    · have := h.setMap (es' := es.modify q fun e => { e with key := .string (bstr k), val := f v }) (c' := clock) hj h1 (MapKept.stamped_modify hst0 _ _ (fun _ _ => rfl) (fun e _ he => by rw [← Array.getElem?_toList] at he; rw [he] at hkey; exact (Option.some.inj hkey).symm))
      rw [Array.toList_modify, kv_modify (i := 0) (j := q) (u := u) h2 (by rw [hf]; congr 2; omega)] at this
      exact this

theorem op_update (E : Env a n l) {α : Type} {f : α → Value} {t kt et : TypeId} {b j : Nat} {k : List UInt8} {v : α} {m : List (List UInt8 × α)} {V : Value} (h : opAt ops n i l = some (.run d (nu (Instr.mapUpdate t (.map (some b)) (.string (bstr k)) V)))) (hV : V = f v)
    (H : Ev w0 L0 w L) (hj : L[j]? = some (.map b (kvs f m))) (ht : P.underlying t = some (.map kt et)) (hk : P.underlying kt = some .string)
    (next : ∀ a' w', Env a' n (putl d undef l) → Ev w0 L0 w' (L.set j (.map b (kvs f (kvPut k v m)))) → K a' w') : wpOp P ops Q i K a w := by
  subst hV
  obtain ⟨w', h1, h2⟩ := run_update (k := k) (v := v) H.heap hj ht hk
  exact any_unit E h (run_nu h1) fun a' E' => next a' w' E' (H.trans h2)
end

/-! ### sets of texts -/
def setKV (l : List (List UInt8)) : List (List UInt8 × Bool) := l.map fun k => (k, true)
def addKey (k : List UInt8) (l : List (List UInt8)) : List (List UInt8) := if k ∈ l then l else l ++ [k]
theorem mem_addKey {k x : List UInt8} {l : List (List UInt8)} : x ∈ addKey k l ↔ x = k ∨ x ∈ l := by
  unfold addKey
  split
  · rename_i h
    constructor
    · exact .inr
    · rintro (rfl | h')
      · exact h
      · exact h'
  · simp [or_comm]
theorem kvFind_set (k : List UInt8) : ∀ (l : List (List UInt8)) (i : Nat), (kvFind k (setKV l) i).map (·.2) = if k ∈ l then some true else none
  | [], i => rfl
  | x :: r, i => by
    simp only [setKV, List.map_cons, kvFind]
    by_cases h : k = x
    · simp [h]
    · rw [if_neg h]
      have := kvFind_set k r (i + 1)
      simp only [setKV] at this
      rw [this]
      simp [h]
theorem set_at (l : List (List UInt8)) (k : List UInt8) : (if false then Value.tuple #[((kvAt (setKV l) k).map Value.bool).getD (.bool false), .bool (kvAt (setKV l) k).isSome] else ((kvAt (setKV l) k).map Value.bool).getD (.bool false)) = .bool (decide (k ∈ l)) := by
  simp only [Bool.false_eq_true, if_false]
  unfold kvAt
  rw [kvFind_set]
  by_cases h : k ∈ l <;> simp [h]
theorem set_put (k : List UInt8) (l : List (List UInt8)) : kvPut k true (setKV l) = setKV (addKey k l) := by
  have key : ∀ l : List (List UInt8), kvPut k true (setKV l) = if k ∈ l then setKV l else setKV (l ++ [k]) := by
    intro l
    induction l with
    | nil => rfl
    | cons x r ih =>
      simp only [setKV, List.map_cons, kvPut]
      by_cases h : k = x
      · subst h; simp
      · rw [if_neg h]
        simp only [setKV] at ih
        rw [ih]
        by_cases hr : k ∈ r <;> simp [h, hr]
  rw [key]
  unfold addKey
  split <;> rfl
end Go.Dbr
