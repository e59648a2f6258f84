/- Ranges over texts: the iterator is a block of its own, which nobody else owns. -/
import Derived.Test.YtfcfgbejpcmmkaaDoorMap
import Derived.Laws.RangeString
namespace Go.Dbr
open Go Go.RowKit

/-- what stands at a place of a text: the rune, how many bytes it has -/
def dcd (l : List UInt8) (p : Nat) : Nat × Nat := Utf8.decode (bstr l) p

section
variable {P : Program} {ops : Array Oper} {Q : Exit → Act → World → Prop} {n i : Nat} {l : List (Nat × Value)} {a : Act} {w w0 : World} {d : Option Tmp} {L L0 : List Ent} {K : Act → World → Prop}

theorem op_range (E : Env a n l) {t : TypeId} {s : List UInt8} (h : opAt ops n i l = some (.run d (nv (Instr.range t (.string (bstr s)))))) (ht : P.underlying t = some .string) (H : Ev w0 [] w [])
    (next : ∀ a' w' b, Env a' n (putl d (.pointer (some ⟨b, 0, none⟩)) l) → Ev w0 [] w' [] → w'.heap[b]? = some (.stringIter (bstr s) 0) → w0.heap.size ≤ b → K a' w') : wpOp P ops Q i K a w := by
  refine any_run E h (run_nv (run_range_string w t _ ht)) fun a' E' => next a' _ _ E' ?_ (World.iter_heap w _ 0) H.chg.size
  refine ⟨Heap.nil _, ⟨H.chg.os, H.chg.tape, H.chg.output, ?_, fun k hk hn => ?_⟩, fun b hb => absurd hb Owns.nil⟩
  · have := H.chg.size
    simp only [World.iter, World.alloc, Array.size_push]
    omega
  · rw [← H.chg.block k hk hn]
    have := H.chg.size
    simp only [World.iter, World.alloc]
    rw [Array.getElem?_push, if_neg (by omega)]


theorem op_next_no (E : Env a n l) {t : TypeId} {s : List UInt8} {b p : Nat} (h : opAt ops n i l = some (.run d (nv (Instr.next (.pointer (some ⟨b, 0, none⟩)) true t))))
    (hi : w.heap[b]? = some (.stringIter (bstr s) p)) (hp : ¬ p < s.length)
    (next : ∀ a', Env a' n (putl d (.tuple #[.bool false]) l) → K a' w) : wpOp P ops Q i K a w := by
  refine any_run E h (run_nv (w' := w) ?_) next
  rw [← bstr_size s] at hp
  simp [Instr.next, getObj, Sem.run, hi, hp]

theorem op_next_yes (E : Env a n l) {t : TypeId} {s : List UInt8} {b p : Nat} (h : opAt ops n i l = some (.run d (nv (Instr.next (.pointer (some ⟨b, 0, none⟩)) true t))))
    (H : Ev w0 [] w []) (hi : w.heap[b]? = some (.stringIter (bstr s) p)) (hb : w0.heap.size ≤ b) (hp : p < s.length)
    (next : ∀ a' w', Env a' n (putl d (.tuple #[.bool true, .int .i64 ((p : Nat) : Int), .int .i32 (((dcd s p).1 : Nat) : Int)]) l) → Ev w0 [] w' [] → w'.heap[b]? = some (.stringIter (bstr s) (p + (dcd s p).2)) → K a' w') : wpOp P ops Q i K a w := by
  have hp' := hp
  rw [← bstr_size s] at hp'
  refine any_run E h (run_nv (w' := { w with heap := w.heap.setIfInBounds b (.stringIter (bstr s) (p + (dcd s p).2)) }) (v := .tuple #[.bool true, .int .i64 ((p : Nat) : Int), .int .i32 (((dcd s p).1 : Nat) : Int)]) ?_) fun a' E' => next a' _ E' ?_ ?_
  · simp [Instr.next, getObj, setObj, Sem.run, hi, hp', dcd, goInt]
  · refine ⟨Heap.nil _, ⟨H.chg.os, H.chg.tape, H.chg.output, ?_, fun k hk hn => ?_⟩, fun b hb => absurd hb Owns.nil⟩
    · simp only [Array.size_setIfInBounds]; exact H.chg.size
    · rw [← H.chg.block k hk hn]
      simp only [Array.getElem?_setIfInBounds]
      rw [if_neg (by omega)]
  · have hlt := (Array.getElem?_eq_some_iff.1 hi).1
    simp [hlt]
end

/-- a byte of a text -/
theorem run_indexstr {P : Program} {t : TypeId} {s : List UInt8} {j : Nat} {k : IntKind} {ix : Int} (hu : P.underlying t = some .string) (hj : ix = (j : Int)) (h1 : j < s.length) (w : World) :
    (Instr.index t (.string (bstr s)) (.int k ix)).run P w = .ok (bv (s.getD j 0)) w := by
  subst hj
  have h' : j < (bstr s).size := by rw [bstr_size]; exact h1
  rw [run_index_string w t (bstr s) k _ hu, dif_pos ⟨by omega, by omega⟩]
  have e : (bstr s)[(j : Int).toNat]'(by omega) = s.getD j 0 := by
    rw [List.getD_eq_getElem?_getD, List.getElem?_eq_getElem h1]
    simp [bstr, ByteArray.getElem_eq_getElem_data]
  rw [e, bv]

/-- how many keys a map has -/
theorem run_lenmap {P : Program} {w : World} {L : List Ent} {b j : Nat} {kv : List (Value × Value)} {t ty kt et : TypeId} {n : Nat} (h : Heap w L) (hj : L[j]? = some (.map b kv)) (ht : P.underlying t = some (.map kt et)) (hn : kv.length = n) :
    (Builtin.len_ #[t] ty #[.map (some b)]).run P w = .ok (.int .i64 ((n : Nat) : Int)) w := by
  obtain ⟨es, clock, h1, h2, _⟩ := h.holds j _ hj
  have h3 := MapKept.run_getObj_map (P := P) h1
  have h4 : es.size = n := by rw [← hn, ← h2]; simp
  simp [Builtin.len_, run_underlying ht, h3, h4, goInt]

theorem kvAt_self {α : Type} {k : List UInt8} {v : α} : ∀ {m : List (List UInt8 × α)}, kvAt (kvPut k v m) k = some v := by
  have key : ∀ (m : List (List UInt8 × α)) (i : Nat), (kvFind k (kvPut k v m) i).map (·.2) = some v := by
    intro m
    induction m with
    | nil => intro i; simp [kvPut, kvFind]
    | cons p r ih =>
      intro i
      unfold kvPut
      by_cases h : k = p.1
      · rw [if_pos h]; simp [kvFind]
      · rw [if_neg h, kvFind, if_neg h]; exact ih _
  intro m
  exact key m 0
theorem kvAt_other {α : Type} {k q : List UInt8} {v : α} (hn : ¬ q = k) : ∀ {m : List (List UInt8 × α)}, kvAt (kvPut k v m) q = kvAt m q := by
  have key : ∀ (m : List (List UInt8 × α)) (i : Nat), (kvFind q (kvPut k v m) i).map (·.2) = (kvFind q m i).map (·.2) := by
    intro m
    induction m with
    | nil => intro i; simp [kvPut, kvFind, hn]
    | cons p r ih =>
      intro i
      unfold kvPut
      by_cases h : k = p.1
      · rw [if_pos h, kvFind, kvFind, if_neg hn, if_neg (fun e => hn (e.trans h.symm))]
      · rw [if_neg h, kvFind, kvFind]
        by_cases g : q = p.1
        · rw [if_pos g, if_pos g]
        · rw [if_neg g, if_neg g]; exact ih _
  intro m
  exact key m 0
theorem kvPut_len {α : Type} (k : List UInt8) (v : α) : ∀ (m : List (List UInt8 × α)), (kvPut k v m).length ≤ m.length + 1
  | [] => by simp [kvPut]
  | p :: r => by
    unfold kvPut
    by_cases h : k = p.1
    · rw [if_pos h]; simp
    · rw [if_neg h]; simpa using kvPut_len k v r

/-! ### what a rune tells of bytes -/
theorem get_bstr {l : List UInt8} {k : Nat} (h : k < l.length) : (bstr l).get! k = l.getD k 0 := by
  have h' : k < (bstr l).size := by rw [bstr_size]; exact h
  have e : (bstr l).get! k = (bstr l)[k]'h' := by
    simp [ByteArray.get!, getElem!_pos, h']
    rfl
  rw [e, List.getD_eq_getElem?_getD, List.getElem?_eq_getElem h]
  simp [bstr, ByteArray.getElem_eq_getElem_data]
theorem dcd_low {l : List UInt8} {p : Nat} (h : p < l.length) (hb : (l.getD p 0).toNat < 128) : dcd l p = ((l.getD p 0).toNat, 1) := by
  have e : (bstr l).get! (p + 0) = l.getD p 0 := get_bstr h
  simp only [dcd, Utf8.decode, e, hb, if_true]
theorem dcd_high {l : List UInt8} {p : Nat} (h : p < l.length) (hb : ¬ (l.getD p 0).toNat < 128) : 128 ≤ (dcd l p).1 := by
  have e : (bstr l).get! (p + 0) = l.getD p 0 := get_bstr h
  simp only [dcd, Utf8.decode, e, hb, if_false]
  repeat' split
  all_goals (simp only [Utf8.runeError, Bool.and_eq_true, decide_eq_true_eq, ge_iff_le] at *; omega)
theorem dcd_step (l : List UInt8) (p : Nat) : 1 ≤ (dcd l p).2 := by
  simp only [dcd, Utf8.decode]
  repeat' split
  all_goals (simp only []; omega)
end Go.Dbr
