/- The keys of a map, sorted: what the library's contracts say, in terms of what is owned. -/
import Derived.Test.YtfcfgbejpcmmkaaDoorMap
import Derived.Sort.KeysCollected
import Derived.Sort.EncStr
import Derived.Below
namespace Go.Dbr
open Go Go.RowKit Go.Sort Go.Maps
open Go.WideElems (Fit rd rg rg_of)

theorem chg_below {w w' : World} (hb : Below w.heap.size w w') : Chg (fun _ => False) w w' := ⟨hb.os, hb.tape, hb.output, hb.size, fun k hk _ => hb.block k hk⟩

theorem Heap.ofRow {w w' : World} {L : List Ent} {base e n : Nat} {v : Value} {xs : List Value} (h : Heap w L) (hb : Below w.heap.size w w') (hr : w'.ownsRow base e 1 v n xs) (hbase : w.heap.size ≤ base) :
    ∃ ao co, v = .slice ao n co ∧ Ev w L w' (L ++ [.vec ao co 1 xs e]) := by
  obtain ⟨hl, ⟨rfl, rfl⟩ | ⟨g, cap, cur, rfl, hg, hc, hn, hm, hs, ht⟩⟩ := hr
  · refine ⟨none, 0, rfl, Ev.add h (chg_below hb) ⟨rfl, List.eq_nil_of_length_eq_zero (by omega)⟩ fun b hb => ?_⟩
    simp [Ent.own] at hb
  · refine ⟨some ⟨g, 0, none⟩, cap, rfl, Ev.add h (chg_below hb) ⟨rfl, hm, by omega, cur, (0, 0), hc, .inl rfl, by show 0 + cap * 1 ≤ cur.size; omega, fun j hj => ?_⟩ fun b hb => ?_⟩
    · show cur[0 + j]? = xs[j]?
      rw [← ht, Nat.zero_add, List.getElem?_take_of_lt (by omega)]
      exact (Array.getElem?_toList).symm
    · simp only [Ent.own, Option.map_some, Option.some.injEq] at hb
      omega

section
variable {H : Type} {P : Program} {kt : TypeId}
def RQ (_ : Value) : Option (DataW H × List MemPlace) := some (.nil, [])
theorem rd_str (hk : P.underlying kt = some .string) {x : MapEntry} {k : List UInt8} (hx : x.key = .string (bstr k)) (hl : k.length ≤ maxLen) : rd P kt (RQ (H := H)) x = some (.string k, .nil) := by
  have e : keyOf P kt x.key = some (.string k) := by
    rw [hx]
    have h2 : (bstr k).size ≤ maxLen := by rw [bstr_size]; exact hl
    simp [keyOf, hk, mapKey, bstr]
    exact h2
  simp [rd, e, RQ]
theorem rd_all {α : Type} {f : α → Value} (hk : P.underlying kt = some .string) : ∀ {es : List MapEntry} {m : List (List UInt8 × α)}, es.map (fun e => (e.key, e.val)) = kvs f m → (∀ p ∈ m, p.1.length ≤ maxLen) →
    (∀ x ∈ es, ∃ y, rd P kt (RQ (H := H)) x = some y) ∧ (es.map (rg P kt (RQ (H := H)))).map (fun p => strOf p.1) = m.map (·.1)
  | [], [], _, _ => ⟨fun x hx => absurd hx List.not_mem_nil, rfl⟩
  | [], p :: r, h, _ => by simp [kvs] at h
  | e :: es, [], h, _ => by simp [kvs] at h
  | e :: es, p :: r, h, hl => by
    simp only [kvs, List.map_cons, List.cons.injEq, Prod.mk.injEq] at h
    obtain ⟨⟨h1, _⟩, h3⟩ := h
    have h4 := rd_str (H := H) hk h1 (hl p List.mem_cons_self)
    obtain ⟨i1, i2⟩ := rd_all hk (m := r) h3 (fun q hq => hl q (List.mem_cons_of_mem _ hq))
    refine ⟨fun x hx => ?_, ?_⟩
    · rcases List.mem_cons.1 hx with rfl | hx
      · exact ⟨_, h4⟩
      · exact i1 x hx
    · rw [List.map_cons, List.map_cons, List.map_cons, i2, rg_of h4]
      rfl
/-- a map that is owned, as the library's contracts see it -/
theorem kv_owns {α : Type} {f : α → Value} {m : List (List UInt8 × α)} {w : World} {L : List Ent} {j b : Nat} (hk : P.underlying kt = some .string) (h : Heap w L) (hj : L[j]? = some (.map b (kvs f m))) (hl : ∀ p ∈ m, p.1.length ≤ maxLen) (hm : m.length ≤ maxLen) :
    ∃ D : DataW H, w.ownsMap P kt RQ b m.length D ∧ (strKeys D).Perm (m.map (·.1)) ∧ Maps.size D = m.length := by
  obtain ⟨es, clock, h1, h2, h3⟩ := h.holds j _ hj
  obtain ⟨i1, i2⟩ := rd_all (H := H) hk h2 hl
  have hs : es.size = m.length := by
    have := congrArg List.length h2
    simpa [kvs] using this
  refine ⟨.map ((es.toList.map (rg P kt RQ)).foldr DataW.insert []), ⟨es, clock, h1, ⟨by omega, h3, i1⟩, by omega, rfl⟩, ?_, ?_⟩
  · rw [← i2]
    exact (WideShapes.sorted_perm _).map _
  · have := (WideShapes.sorted_perm (es.toList.map (rg P kt (RQ (H := H))))).length_eq
    show List.length _ = _
    rw [this]
    simpa using hs
end
theorem encStr_flat (l : List (List UInt8)) : l.map Go.Proofs.encStr = l.flatMap (fun l : List UInt8 => [.string (bstr l)]) := by
  induction l with
  | nil => rfl
  | cons x r ih => rw [List.map_cons, List.flatMap_cons, ih]; rfl
/-- the names, sorted -/
def sortK {α : Type} (m : List (List UInt8 × α)) : List (List UInt8) := (m.map (·.1)).mergeSort leB
theorem sortK_len {α : Type} (m : List (List UInt8 × α)) : (sortK m).length = m.length := by rw [sortK, List.length_mergeSort, List.length_map]
end Go.Dbr
